/-
 The machine computes these plain functions (written by a program of ours).
-/
import Derived.Test.YtkjlhdminmpmkacGreatDoorFacts
import Derived.Test.YtkjlhdminmpmkacGreatDoorDefs
import Derived.Test.YtkjlhdminmpmkacGreatDoorPf4
open Go Go.Eng Go.Proofs
namespace Go.Proofs.YtkjlhdminmpmkacGreatDoor.Law
set_option maxRecDepth 100000
set_option linter.unusedVariables false
set_option maxHeartbeats 1000000
theorem kY {x_1:(List Run)} {r:(List Run)} (hF:bX x_1=some r) :
  FnM Tryz.prog 104 [(dV (av 0) 2 x_1),(.fn 105 [])] (([]:List Box)++gI 2 Run.enc x_1) (.tup []) (([]:List Box).map some++gT x_1 (gB 2 Run.enc r)):=by
 refine FnM.of_wHv ⟨Tryz.prog,14,[],[]⟩ rfl Tryz.func104 rfl rfl (lb_ rfl) (by kernel_rfl) ?_
 unfold bX at hF
 refine ai (aa (dV (av 0) 2 x_1) (Co zk rfl wz (aa (vI (x_1.length:Int)) (af (au (aa (dV (av 0) 2 x_1) (aa (vI (x_1.length:Int)) (aa (vI (x_1.length:Int)) (zH un3 Kg rfl wz ?_)))))))))
 obtain ⟨r_3,hr_4,hF⟩:=bind_some hF
 refine aF (Cj hr_4) rfl hb103 rfl rfl rfl rfl wz (aa (.fn 105 []) ?_)
 obtain ⟨r_5,hr_6,hF⟩:=bind_some hF
 obtain ⟨_,hs_7,hF⟩:=bind_some hF
 replace hs_7:=mR hs_7
 refine sG 0 [] 0 0 il ft (mH hr_6) rfl hb127 rfl rfl rfl (by kernel_rfl) rfl (.inr (.inl rfl)) rfl (by kernel_rfl) (by kernel_rfl) (by kernel_rfl) (by kernel_rfl) rfl (by decide) (by kernel_rfl) uf (CU hs_7) wz ([((av 0),gB 2 Run.enc r_5)]:Hp) (by kernel_rfl) (gG (v':=(dV (av 0) 2 r_5)) 0 rfl (j4 hs_7.symm) (gG (v':=(dV (av 0) 2 r_5)) 5 rfl (j4 hs_7.symm) (gG (v':=(dV (av 0) 2 r_5)) 7 rfl (j4 hs_7.symm) (af ?_))))
 show tX _ _ _ _ _ _ _ _
 obtain rfl:=ae hF
 exact FK (bs:=([]:List Box)) (os:=([]:List Box)) (xs:=x_1) (o:=gB 2 Run.enc r_5) (.inl rfl) [] trivial rfl rfl rfl rfl rfl (by kernel_rfl) uf rfl
theorem xU {l_1:(List Rect)} {y_2:Int} {r:(List Run)} (hF:oU l_1 y_2=some r) :
  FnM Tryz.prog 85 [(vL Rect.enc l_1),(vI y_2)] [] (vL Run.enc r) []:=by
 refine FnM.of_wH ⟨Tryz.prog,84,[],[]⟩ rfl Tryz.func85 rfl rfl (lb_ rfl) (by kernel_rfl) ?_
 unfold oU at hF
 refine ai (aa .nil (af (ai (aa .nil (af (ak (ai (aa (vL Rect.enc l_1) (bH Ca rfl wz (aa (vI 0) (af (jv (λn_9 => ?_)))))))))))))
 obtain ⟨o_14,hj_15,hF⟩:=bind_some hF
 obtain ⟨hn_7,hj_15⟩:=aY hj_15
 refine fT (σ:=(List Run)) (N:=Nm) (λp=>(λ(s_8:List Run) (n_11:Nm)=>([(5,(gV n_11 2 s_8))]:SL_)) p.1 p.2) (λp=>(λ(s_8:List Run) (n_11:Nm)=>([(n_11,gB 2 Run.enc s_8)]:Hp)) p.1 p.2) (λ(k_3:Nat)=>(λp=>(λ(s_8:List Run) (n_11:Nm)=>([(1,(vI y_2)),(5,(gV n_11 2 s_8)),(12,(vL Rect.enc l_1)),(13,(vI (l_1.length:Int))),(14,(vI (k_3:Int)))]:SL_)) p.1 p.2)) (λk x s=>pY y_2 k x s) o_14 l_1 (([]:List Run),n_9) hj_15 rfl (aK rfl) ?_ ?_
 ·rintro ⟨k_3,l_4,s_8,n_11⟩ ⟨hL_13,hD_6⟩
  dsimp only at hL_13 hD_6
  cases l_4 with
  | nil =>
   obtain rfl:=ae hL_13
   refine ai (aa (vB (decide ((k_3:Int)<(l_1.length:Int)))) (af ?_))
   refine ak (ay rfl (drop_nil hD_6) (aW ?_))
   exact aU (s_8,n_11) rfl rfl (aK rfl)
  | cons x_5 l_4 =>
   obtain ⟨c_,hc_12,hL_13⟩:=bind_some hL_13
   refine ai (aa (vB (decide ((k_3:Int)<(l_1.length:Int)))) (af ?_))
   refine ak (aB rfl (bu hD_6) (ax ?_))
   unfold pY at hc_12
   refine ak (aM (ai (dC I8 rfl rfl (bD hD_6) rfl wz (bK x9 JL rfl (.d (.agg (Rect.enc x_5))) rfl wz (cz 0 (.inl rfl) z92 rfl wz (λn_16=>eB 0 il ft 1 x9 rfl rfl (Rect.v x_5) rfl wz (af (ak ?_))))))))
   obtain ⟨v_17,h_18,hc_12⟩:=bind_some hc_12
   refine aS [(1,(vI y_2)),(5,(gV n_11 2 s_8)),(7,(.ref n_16 0 0)),(12,(vL Rect.enc l_1)),(13,(vI (l_1.length:Int))),(14,(vI (k_3:Int))),(30,(vB v_17))] [(n_11,gB 2 Run.enc s_8),(n_16,some (.cells 4 (Rect.v x_5)))] ?_ ?_
   ·refine au (aG yn rfl 1 rfl wz (aC 0 1 il ft sz3 ag3 rfl rfl (vI x_5.Y) rfl wz (aa (vI y_2) (aa (vB (decide (x_5.Y<=y_2))) ?_))))
    rcases aj h_18 with⟨hc_19,h_18⟩|⟨hc_19,h_18⟩
    ·refine aD rfl hc_19 wz (aJ (vI y_2) wa rfl (aG yn rfl 1 rfl wa (aC 0 1 il ft sz3 ag3 rfl rfl (vI x_5.Y) rfl wa (aG EL rfl 3 rfl wa (aC 0 1 il ft sz3 ag3 rfl rfl (vI x_5.H) rfl wa (aJ (vI (w64 (x_5.Y+x_5.H))) wa rfl (aJ (vB (decide (y_2<(w64 (x_5.Y+x_5.H))))) wa rfl (aa (vB (decide (y_2<(w64 (x_5.Y+x_5.H))))) (af ?_)))))))))
     obtain rfl:=ae h_18
     exact cu
    ·refine aD rfl hc_19 wz (ah (ah (ah (ah (ah (ah (ah (aa (vB false) (af ?_)))))))))
     obtain rfl:=ae h_18
     exact cu
   ·rintro ⟨⟩ _ sl_ H_ hp_ hq_
    refine aO _ hp_ hq_ ?_
    obtain ⟨v_20,h_21,hc_12⟩:=bind_some hc_12
    refine ko (β:=Nm) (λ(n_22:Nm)=>([(1,(vI y_2)),(5,(gV n_22 2 v_20)),(12,(vL Rect.enc l_1)),(13,(vI (l_1.length:Int))),(14,(vI (k_3:Int)))]:SL_)) (λ(n_22:Nm)=>([(n_22,gB 2 Run.enc v_20),(n_16,some (.cells 4 (Rect.v x_5)))]:Hp)) (λ_=>True) ?_ ?_
    ·rcases aj h_21 with⟨hc_23,h_21⟩|⟨hc_23,h_21⟩
     ·refine aB rfl hc_23 (au (aa (gV n_11 2 s_8) (aG Cs rfl 0 rfl wz (aC 0 1 il ft sz3 ag3 rfl rfl (vI x_5.X) rfl wz (aG Cs rfl 0 rfl wz (aC 0 1 il ft sz3 ag3 rfl rfl (vI x_5.X) rfl wz (aG HV rfl 2 rfl wz (aC 0 1 il ft sz3 ag3 rfl rfl (vI x_5.W) rfl wz (aa (vI (w64 (x_5.X+x_5.W))) (aJ (.d (.agg (Run.enc (⟨x_5.X,(w64 (x_5.X+x_5.W))⟩:Run)))) wz (by kernel_rfl) (dU (([(⟨x_5.X,(w64 (x_5.X+x_5.W))⟩:Run)]:List Run).map Run.enc) mK Nh rfl rfl rfl rfl rfl wz ?_)))))))))))
      obtain ⟨a_24,hz_25,h_21⟩:=bind_some h_21
      refine kT 0 il ft (i:=0) CQ CQ oP Mh rfl (by decide) Mq (by decide) (λ_=>rfl) rfl rfl rfl hz_25 wz (λn_26=>aa (gV n_26 2 a_24) (af ?_))
      obtain rfl:=ae h_21
      exact aU n_26 trivial rfl (aK rfl)
     ·refine ay rfl hc_23 (ax ?_)
      obtain rfl:=ae h_21
      exact aU n_11 trivial rfl (aK rfl)
    ·rintro n_22 _ sl_ H_ hp_ hq_
     refine aO _ hp_ hq_ (au (dB (bv hD_6 hn_7) wz rfl (aa (vI ((k_3+1:Nat):Int)) (af ?_))))
     obtain rfl:=ae hc_12
     exact aV (k_3+1,l_4,v_20,n_22) ⟨hL_13,aR hD_6⟩ (ls_ _) rfl (aK rfl)
 ·rintro ⟨s_8,n_11⟩ ho_ sl_ H_ hp_ hq_
  subst ho_
  refine aO _ hp_ hq_ (ai (aa (gV n_11 2 s_8) ?_))
  obtain ⟨r_27,hr_28,hF⟩:=bind_some hF
  obtain ⟨_,hs_29,hF⟩:=bind_some hF
  replace hs_29:=mR hs_29
  refine sG 0 [] 0 0 il ft (kY hr_28) rfl hb104 rfl rfl rfl (by kernel_rfl) rfl (.inl rfl) rfl (by kernel_rfl) (by kernel_rfl) (by kernel_rfl) (by kernel_rfl) rfl (by decide) (by kernel_rfl) uf (CU hs_29) wz ([(n_11,gB 2 Run.enc r_27)]:Hp) (by kernel_rfl) (gG (v':=(gV n_11 2 r_27)) 43 rfl (jE hs_29.symm) (gG (v':=(gV n_11 2 r_27)) 5 rfl (jE hs_29.symm) (af (ai (aa .nil (af (ak (ai (aa (gV n_11 2 r_27) (IB zk rfl wz (aa (vI 0) (af (iQ 0 rfl (fF 5 0 rfl rfl (fF 43 0 rfl rfl (fF 45 0 rfl rfl (jv (λn_36 => ?_))))))))))))))))))
  obtain ⟨o_41,hj_42,hF⟩:=bind_some hF
  obtain ⟨hn_34,hj_42⟩:=aY hj_42
  refine fT (σ:=(List Run)) (N:=Nm) (λp=>(λ(s_35:List Run) (n_38:Nm)=>([(8,(gV n_38 2 s_35))]:SL_)) p.1 p.2) (λp=>(λ(s_35:List Run) (n_38:Nm)=>([(n_11,gF 2 Run.enc r_27),(n_38,gB 2 Run.enc s_35)]:Hp)) p.1 p.2) (λ(k_30:Nat)=>(λp=>(λ(s_35:List Run) (n_38:Nm)=>([(8,(gV n_38 2 s_35)),(45,(vL Run.enc r_27)),(46,(vI (r_27.length:Int))),(47,(vI (k_30:Int)))]:SL_)) p.1 p.2)) (λk x s=>pW k x s) o_41 r_27 (([]:List Run),n_36) hj_42 rfl (aK rfl) ?_ ?_
  ·rintro ⟨k_30,l_31,s_35,n_38⟩ ⟨hL_40,hD_33⟩
   dsimp only at hL_40 hD_33
   cases l_31 with
   | nil =>
    obtain rfl:=ae hL_40
    refine ai (aa (vB (decide ((k_30:Int)<(r_27.length:Int)))) (af ?_))
    refine ak (ay rfl (drop_nil hD_33) (aW ?_))
    exact aU (s_35,n_38) rfl rfl (aK rfl)
   | cons x_32 l_31 =>
    obtain ⟨c_,hc_39,hL_40⟩:=bind_some hL_40
    refine ai (aa (vB (decide ((k_30:Int)<(r_27.length:Int)))) (af ?_))
    refine ak (aB rfl (bu hD_33) (ax ?_))
    unfold pW at hc_39
    refine ak (aM (ai (dC mK rfl rfl (bD hD_33) rfl wz (bK oP yx rfl (.d (.agg (Run.enc x_32))) rfl wz (cz 0 (.inl rfl) Mh rfl wz (λn_43=>eB 0 il ft 2 oP rfl rfl [(vI x_32.f_from),(vI x_32.f_to)] rfl wz (af (ai (aa (gV n_38 2 s_35) (IB zk rfl wz (aa (vI (w64 ((s_35.length:Int)-1))) (aa (vI (w64 ((s_35.length:Int)-1))) (af (ak ?_))))))))))))))
    obtain ⟨v_44,h_45,hc_39⟩:=bind_some hc_39
    refine aS [(8,(gV n_38 2 s_35)),(10,(.ref n_43 0 0)),(11,(vI (w64 ((s_35.length:Int)-1)))),(45,(vL Run.enc r_27)),(46,(vI (r_27.length:Int))),(47,(vI (k_30:Int))),(65,(vB v_44))] [(n_11,gF 2 Run.enc r_27),(n_38,gB 2 Run.enc s_35),(n_43,some (.cells 2 [(vI x_32.f_from),(vI x_32.f_to)]))] ?_ ?_
    ·refine bE (aa (vI (w64 ((s_35.length:Int)-1))) (aa (vB (decide ((w64 ((s_35.length:Int)-1))>=0))) ?_))
     rcases aj h_45 with⟨hc_46,h_45⟩|⟨hc_46,h_45⟩
     ·refine aD rfl hc_46 wz (aG lY rfl 0 rfl wa (aC 4 2 (.inr (by kernel_rfl)) (λ_ _ ag=>trivial) sz3 ag3 rfl rfl (vI x_32.f_from) rfl wa (aJ (gV n_38 2 s_35) wa rfl (aJ (vI (w64 ((s_35.length:Int)-1))) wa rfl ?_))))
      obtain ⟨_,hi_47,h_45⟩:=bind_some h_45
      refine jG mK rfl rfl (gp hi_47) (dK hi_47) wa (aG su rfl 1 rfl wa ?_)
      obtain ⟨e_48,hy_49,h_45⟩:=bind_some h_45
      refine uh 9 1 (.inr (by kernel_rfl)) (λ_ _ ag=>⟨.inl ⟨rfl,rfl⟩,trivial⟩) sz3 ag3 rfl rfl hy_49 (vI e_48.f_to) rfl wa (aJ (vB (decide (x_32.f_from<=e_48.f_to))) wa rfl (aa (vB (decide (x_32.f_from<=e_48.f_to))) (af ?_)))
      obtain rfl:=ae h_45
      exact cu
     ·refine aD rfl hc_46 wz (ah (ah (ah (ah (ah (ah (ah (ah (aa (vB false) (af ?_))))))))))
      obtain rfl:=ae h_45
      exact cu
    ·rintro ⟨⟩ _ sl_ H_ hp_ hq_
     refine aO _ hp_ hq_ ?_
     obtain ⟨v_50,h_51,hc_39⟩:=bind_some hc_39
     refine ko (β:=Nm) (λ(n_52:Nm)=>([(8,(gV n_52 2 v_50)),(45,(vL Run.enc r_27)),(46,(vI (r_27.length:Int))),(47,(vI (k_30:Int)))]:SL_)) (λ(n_52:Nm)=>([(n_11,gF 2 Run.enc r_27),(n_52,gB 2 Run.enc v_50),(n_43,some (.cells 2 [(vI x_32.f_from),(vI x_32.f_to)]))]:Hp)) (λ_=>True) ?_ ?_
     ·rcases aj h_51 with⟨hc_53,h_51⟩|⟨hc_53,h_51⟩
      ·refine aB rfl hc_53 (bE (aa (gV n_38 2 s_35) (aa (vI (w64 ((s_35.length:Int)-1))) (aa (gV n_38 2 s_35) (aa (vI (w64 ((s_35.length:Int)-1))) ?_)))))
       obtain ⟨_,hi_54,h_51⟩:=bind_some h_51
       refine jG mK rfl rfl (gp hi_54) (dK hi_54) wz (aG su rfl 1 rfl wz ?_)
       obtain ⟨e_55,hy_56,h_51⟩:=bind_some h_51
       refine uh 6 1 (.inr (by kernel_rfl)) (λ_ _ ag=>trivial) sz3 ag3 rfl rfl hy_56 (vI e_55.f_to) rfl wz (aG su rfl 1 rfl wz (aC 8 2 (.inr (by kernel_rfl)) (λ_ _ ag=>⟨.inl ⟨rfl,rfl⟩,trivial⟩) sz3 ag3 rfl rfl (vI x_32.f_to) rfl wz (tF (vI (vE e_55.f_to x_32.f_to)) rfl (.inr rfl) wz ?_)))
       obtain ⟨_,hi_57,h_51⟩:=bind_some h_51
       refine jG mK rfl rfl (gp hi_57) (dK hi_57) wz (aG su rfl 1 rfl wz ?_)
       obtain ⟨e_58,hy_59,h_51⟩:=bind_some h_51
       refine wI 12 (.inr (by kernel_rfl)) (λ_ _ ag=>⟨.inr (.inr (by kernel_rfl)),⟨.inr (.inr (by kernel_rfl)),trivial⟩⟩) 1 sz3 rfl rfl hy_59 (⟨e_58.f_from,(vE e_55.f_to x_32.f_to)⟩:Run) rfl wz (gG (v':=(gV n_38 2 (s_35.set (0+((w64 ((s_35.length:Int)-1))).toNat) (⟨e_58.f_from,(vE e_55.f_to x_32.f_to)⟩:Run)))) 8 rfl (jE (by simp)) (gG (v':=(gV n_38 2 (s_35.set (0+((w64 ((s_35.length:Int)-1))).toNat) (⟨e_58.f_from,(vE e_55.f_to x_32.f_to)⟩:Run)))) 66 rfl (jE (by simp)) (gG (v':=(gV n_38 2 (s_35.set (0+((w64 ((s_35.length:Int)-1))).toNat) (⟨e_58.f_from,(vE e_55.f_to x_32.f_to)⟩:Run)))) 68 rfl (jE (by simp)) (af ?_))))
       obtain rfl:=ae h_51
       exact aU n_38 trivial rfl (aK rfl)
      ·refine ay rfl hc_53 (au (aa (gV n_38 2 s_35) (aC 0 2 il ft oP yx rfl rfl (.d (.agg (Run.enc x_32))) rfl wz (dU (([x_32]:List Run).map Run.enc) mK Nh rfl rfl rfl rfl rfl wz ?_))))
       obtain ⟨a_60,hz_61,h_51⟩:=bind_some h_51
       refine kT 0 il ft (i:=1) CQ CQ oP Mh rfl (by decide) Mq (by decide) (λ_=>rfl) rfl rfl rfl hz_61 wz (λn_62=>aa (gV n_62 2 a_60) (af ?_))
       obtain rfl:=ae h_51
       exact aU n_62 trivial rfl (aK rfl)
     ·rintro n_52 _ sl_ H_ hp_ hq_
      refine aO _ hp_ hq_ (au (dB (bv hD_33 hn_34) wz rfl (aa (vI ((k_30+1:Nat):Int)) (af ?_))))
      obtain rfl:=ae hc_39
      exact aV (k_30+1,l_31,v_50,n_52) ⟨hL_40,aR hD_33⟩ (ls_ _) rfl (aK rfl)
  ·rintro ⟨s_35,n_38⟩ ho_ sl_ H_ hp_ hq_
   subst ho_
   refine aO _ hp_ hq_ (ai (aa (gV n_38 2 s_35) (aa (gV n_38 2 s_35) (af (iQ 1 rfl (fF 4 1 rfl rfl (fF 8 1 rfl rfl (fF 83 1 rfl rfl ?_))))))))
   obtain rfl:=ae hF
   exact aA (aL [(vL Run.enc s_35)] ⟨rfl,trivial⟩)
theorem EM {l_1:(List Run)} {m_2:(List Run)} {r:(List Run)} (hF:qH l_1 m_2=some r) :
  FnM Tryz.prog 84 [(vL Run.enc l_1),(vL Run.enc m_2)] [] (vL Run.enc r) []:=by
 refine FnM.of_wH ⟨Tryz.prog,88,[],[]⟩ rfl Tryz.func84 rfl rfl (lb_ rfl) (by kernel_rfl) ?_
 unfold qH at hF
 refine ai (aa .nil (af (ai (aa .nil (af (ai (aa (vI 0) (af (ak (ai (aa (vL Run.enc l_1) (bH zk rfl wz (aa (vI 0) (af (jv (λn_9 => ?_))))))))))))))))
 obtain ⟨o_14,hj_15,hF⟩:=bind_some hF
 obtain ⟨hn_7,hj_15⟩:=aY hj_15
 refine fT (σ:=(List Run)×Int) (N:=Nm) (λp=>(λ(s_8:(List Run)×Int) (n_11:Nm)=>([(5,(gV n_11 2 s_8.1))]:SL_)) p.1 p.2) (λp=>(λ(s_8:(List Run)×Int) (n_11:Nm)=>([(n_11,gB 2 Run.enc s_8.1)]:Hp)) p.1 p.2) (λ(k_3:Nat)=>(λp=>(λ(s_8:(List Run)×Int) (n_11:Nm)=>([(1,(vL Run.enc m_2)),(5,(gV n_11 2 s_8.1)),(6,(vI s_8.2)),(10,(vL Run.enc l_1)),(11,(vI (l_1.length:Int))),(12,(vI (k_3:Int)))]:SL_)) p.1 p.2)) (λk x s=>mW m_2 k x s) o_14 l_1 ((([]:List Run),0),n_9) hj_15 rfl (aK rfl) ?_ ?_
 ·rintro ⟨k_3,l_4,s_8,n_11⟩ ⟨hL_13,hD_6⟩
  dsimp only at hL_13 hD_6
  cases l_4 with
  | nil =>
   obtain rfl:=ae hL_13
   refine ai (aa (vB (decide ((k_3:Int)<(l_1.length:Int)))) (af ?_))
   refine ak (ay rfl (drop_nil hD_6) (aW ?_))
   exact aU (s_8,n_11) rfl rfl (aK rfl)
  | cons x_5 l_4 =>
   obtain ⟨c_,hc_12,hL_13⟩:=bind_some hL_13
   refine ai (aa (vB (decide ((k_3:Int)<(l_1.length:Int)))) (af ?_))
   refine ak (aB rfl (bu hD_6) (ax ?_))
   unfold mW at hc_12
   refine ak (aM (ai (dC mK rfl rfl (bD hD_6) rfl wz (bK oP yx rfl (.d (.agg (Run.enc x_5))) rfl wz (cz 0 (.inl rfl) Mh rfl wz (λn_16=>eB 0 il ft 1 oP rfl rfl [(vI x_5.f_from),(vI x_5.f_to)] rfl wz (af (ak ?_))))))))
   obtain ⟨o_25,hj_26,hc_12⟩:=bind_some hc_12
   obtain ⟨nq_72,hj_26⟩:=dR hj_26
   refine gD (λ(s_22:Int)=>[(1,(vL Run.enc m_2)),(5,(gV n_11 2 s_8.1)),(6,(vI s_22)),(8,(.ref n_16 0 0)),(10,(vL Run.enc l_1)),(11,(vI (l_1.length:Int))),(12,(vI (k_3:Int)))]) (λ(s_22:Int)=>[(n_11,gB 2 Run.enc s_8.1),(n_16,some (.cells 2 [(vI x_5.f_from),(vI x_5.f_to)]))]) (λ(k_17:Nat)=>(λ(s_22:Int)=>[(1,(vL Run.enc m_2)),(5,(gV n_11 2 s_8.1)),(6,(vI s_22)),(8,(.ref n_16 0 0)),(10,(vL Run.enc l_1)),(11,(vI (l_1.length:Int))),(12,(vI (k_3:Int)))])) (λs=>pX m_2 x_5 s) o_25 nq_72 s_8.2 hj_26 rfl (aK rfl) ?_ ?_
   ·rintro ⟨k_17,s_22⟩ hL_24
    dsimp only at hL_24
    cases k_17 with
    | zero=>cases hL_24
    | succ k_17 =>
     obtain ⟨c_,hc_23,hL_24⟩:=bind_some hL_24
     unfold pX at hc_23
     refine ak (ak ?_)
     obtain ⟨v_27,h_28,hc_23⟩:=bind_some hc_23
     refine aS [(1,(vL Run.enc m_2)),(5,(gV n_11 2 s_8.1)),(6,(vI s_22)),(8,(.ref n_16 0 0)),(10,(vL Run.enc l_1)),(11,(vI (l_1.length:Int))),(12,(vI (k_3:Int))),(29,(vB v_27))] [(n_11,gB 2 Run.enc s_8.1),(n_16,some (.cells 2 [(vI x_5.f_from),(vI x_5.f_to)]))] ?_ ?_
     ·refine bE (aa (vI s_22) (aa (vL Run.enc m_2) (bH zk rfl wz (aa (vB (decide (s_22<(m_2.length:Int)))) ?_))))
      rcases aj h_28 with⟨hc_29,h_28⟩|⟨hc_29,h_28⟩
      ·refine aD rfl hc_29 wz (aJ (vL Run.enc m_2) wa rfl (aJ (vI s_22) wa rfl ?_))
       obtain ⟨y_30,hy_31,h_28⟩:=bind_some h_28
       refine dC mK rfl rfl hy_31 rfl wa (rQ su rfl [.int .i64 y_30.f_to] rfl rfl wa (bK sz3 ag3 rfl (vI y_30.f_to) rfl wa (aG lY rfl 0 rfl wa (aC 11 1 (.inr (by kernel_rfl)) (λ_ _ ag=>trivial) sz3 ag3 rfl rfl (vI x_5.f_from) rfl wa (aJ (vB (decide (y_30.f_to<=x_5.f_from))) wa rfl (aa (vB (decide (y_30.f_to<=x_5.f_from))) (af ?_)))))))
       obtain rfl:=ae h_28
       exact cu
      ·refine aD rfl hc_29 wz (ah (ah (ah (ah (ah (ah (ah (ah (aa (vB false) (af ?_))))))))))
       obtain rfl:=ae h_28
       exact cu
     ·rintro ⟨⟩ _ sl_ H_ hp_ hq_
      refine aO _ hp_ hq_ ?_
      rcases aj hc_23 with⟨hc_32,hc_23⟩|⟨hc_32,hc_23⟩
      ·refine aB rfl hc_32 (ax (aM (au (aa (vI s_22) (aa (vI (w64 (s_22+1))) (aa (vI (w64 (s_22+1))) (af ?_)))))))
       obtain rfl:=ae hc_23
       exact aV (k_17,(w64 (s_22+1))) hL_24 (ls_ _) rfl (aK rfl)
      ·refine ay rfl hc_32 (aW ?_)
       obtain rfl:=ae hc_23
       obtain rfl:=ae hL_24
       exact aU (s_22) rfl rfl (aK rfl)
   ·rintro s_22 ho_ sl_ H_ hp_ hq_
    subst ho_
    refine aO _ hp_ hq_ (ak (ai (aa (vI s_22) (aa (vI s_22) (af ?_)))))
    obtain ⟨o_43,hj_44,hc_12⟩:=bind_some hc_12
    obtain ⟨nq_71,hj_44⟩:=dR hj_44
    refine D8 (σ:=(List Run)×Int×Int) (N:=Nm) (λp=>(λ(s_38:(List Run)×Int×Int) (n_40:Nm)=>([(1,(vL Run.enc m_2)),(5,(gV n_40 2 s_38.1)),(6,(vI s_22)),(8,(.ref n_16 0 0)),(10,(vL Run.enc l_1)),(11,(vI (l_1.length:Int))),(12,(vI (k_3:Int)))]:SL_)) p.1 p.2) (λp=>(λ(s_38:(List Run)×Int×Int) (n_40:Nm)=>([(n_40,gB 2 Run.enc s_38.1),(n_16,some (.cells 2 [(vI s_38.2.2),(vI x_5.f_to)]))]:Hp)) p.1 p.2) (λ(k_33:Nat)=>(λp=>(λ(s_38:(List Run)×Int×Int) (n_40:Nm)=>([(1,(vL Run.enc m_2)),(5,(gV n_40 2 s_38.1)),(6,(vI s_22)),(8,(.ref n_16 0 0)),(9,(vI s_38.2.1)),(10,(vL Run.enc l_1)),(11,(vI (l_1.length:Int))),(12,(vI (k_3:Int)))]:SL_)) p.1 p.2)) (λs=>pR m_2 x_5 s) o_43 nq_71 ((s_8.1,s_22,x_5.f_from),n_11) hj_44 rfl (aK rfl) ?_ ?_
    ·rintro ⟨k_33,s_38,n_40⟩ hL_42
     dsimp only at hL_42
     cases k_33 with
     | zero=>cases hL_42
     | succ k_33 =>
      obtain ⟨c_,hc_41,hL_42⟩:=bind_some hL_42
      unfold pR at hc_41
      refine ak (ak ?_)
      obtain ⟨v_45,h_46,hc_41⟩:=bind_some hc_41
      refine aS [(1,(vL Run.enc m_2)),(5,(gV n_40 2 s_38.1)),(6,(vI s_22)),(8,(.ref n_16 0 0)),(9,(vI s_38.2.1)),(10,(vL Run.enc l_1)),(11,(vI (l_1.length:Int))),(12,(vI (k_3:Int))),(46,(vB v_45))] [(n_40,gB 2 Run.enc s_38.1),(n_16,some (.cells 2 [(vI s_38.2.2),(vI x_5.f_to)]))] ?_ ?_
      ·refine bE (aa (vI s_38.2.1) (aa (vL Run.enc m_2) (bH zk rfl wz (aa (vB (decide (s_38.2.1<(m_2.length:Int)))) ?_))))
       rcases aj h_46 with⟨hc_47,h_46⟩|⟨hc_47,h_46⟩
       ·refine aD rfl hc_47 wz (aJ (vL Run.enc m_2) wa rfl (aJ (vI s_38.2.1) wa rfl ?_))
        obtain ⟨y_48,hy_49,h_46⟩:=bind_some h_46
        refine dC mK rfl rfl hy_49 rfl wa (rQ lY rfl [.int .i64 y_48.f_from,.int .i64 y_48.f_to] rfl rfl wa (bK sz3 ag3 rfl (vI y_48.f_from) rfl wa (aG su rfl 1 rfl wa (aC 11 1 (.inr (by kernel_rfl)) (λ_ _ ag=>trivial) sz3 ag3 rfl rfl (vI x_5.f_to) rfl wa (aJ (vB (decide (y_48.f_from<x_5.f_to))) wa rfl (aa (vB (decide (y_48.f_from<x_5.f_to))) (af ?_)))))))
        obtain rfl:=ae h_46
        exact cu
       ·refine aD rfl hc_47 wz (ah (ah (ah (ah (ah (ah (ah (ah (aa (vB false) (af ?_))))))))))
        obtain rfl:=ae h_46
        exact cu
      ·rintro ⟨⟩ _ sl_ H_ hp_ hq_
       refine aO _ hp_ hq_ ?_
       rcases aj hc_41 with⟨hc_50,hc_41⟩|⟨hc_50,hc_41⟩
       ·refine aB rfl hc_50 (ax (ak (aM (ak (ak (bE (aa (vL Run.enc m_2) (aa (vI s_38.2.1) ?_))))))))
        obtain ⟨y_51,hy_52,hc_41⟩:=bind_some hc_41
        refine dC mK rfl rfl hy_52 rfl wz (rQ lY rfl [.int .i64 y_51.f_from,.int .i64 y_51.f_to] rfl rfl wz (bK sz3 ag3 rfl (vI y_51.f_from) rfl wz (aG lY rfl 0 rfl wz (aC 6 1 (.inr (by kernel_rfl)) (λ_ _ ag=>trivial) sz3 ag3 rfl rfl (vI s_38.2.2) rfl wz (aa (vB (decide (y_51.f_from>s_38.2.2))) (af ?_))))))
        obtain ⟨v_53,h_54,hc_41⟩:=bind_some hc_41
        refine ko (β:=Nm) (λ(n_55:Nm)=>([(1,(vL Run.enc m_2)),(5,(gV n_55 2 v_53)),(6,(vI s_22)),(8,(.ref n_16 0 0)),(9,(vI s_38.2.1)),(10,(vL Run.enc l_1)),(11,(vI (l_1.length:Int))),(12,(vI (k_3:Int)))]:SL_)) (λ(n_55:Nm)=>([(n_55,gB 2 Run.enc v_53),(n_16,some (.cells 2 [(vI s_38.2.2),(vI x_5.f_to)]))]:Hp)) (λ_=>True) ?_ ?_
        ·rcases aj h_54 with⟨hc_56,h_54⟩|⟨hc_56,h_54⟩
         ·refine aB rfl hc_56 (bE (aa (gV n_40 2 s_38.1) (aG lY rfl 0 rfl wz (aC 2 1 (.inr (by kernel_rfl)) (λ_ _ ag=>trivial) sz3 ag3 rfl rfl (vI s_38.2.2) rfl wz (aa (vL Run.enc m_2) (aa (vI s_38.2.1) ?_))))))
          obtain ⟨y_57,hy_58,h_54⟩:=bind_some h_54
          refine dC mK rfl rfl hy_58 rfl wz (rQ lY rfl [.int .i64 y_57.f_from,.int .i64 y_57.f_to] rfl rfl wz (bK sz3 ag3 rfl (vI y_57.f_from) rfl wz (aJ (.d (.agg (Run.enc (⟨s_38.2.2,y_57.f_from⟩:Run)))) wz (by kernel_rfl) (dU (([(⟨s_38.2.2,y_57.f_from⟩:Run)]:List Run).map Run.enc) mK Nh rfl rfl rfl rfl rfl wz ?_))))
          obtain ⟨a_59,hz_60,h_54⟩:=bind_some h_54
          refine kT 10 (.inr (by kernel_rfl)) (λ_ _ ag=>⟨.inr (.inr (by kernel_rfl)),trivial⟩) (i:=0) CQ CQ oP Mh rfl (by decide) Mq (by decide) (λ_=>rfl) rfl rfl rfl hz_60 wz (λn_61=>aa (gV n_61 2 a_59) (af ?_))
          obtain rfl:=ae h_54
          exact aU n_61 trivial rfl (aK rfl)
         ·refine ay rfl hc_56 (ax ?_)
          obtain rfl:=ae h_54
          exact aU n_40 trivial rfl (aK rfl)
        ·rintro n_55 _ sl_ H_ hp_ hq_
         refine aO _ hp_ hq_ (bE (aG lY rfl 0 rfl wz (aC 1 1 (.inr (by kernel_rfl)) (λ_ _ ag=>trivial) sz3 ag3 rfl rfl (vI s_38.2.2) rfl wz (aa (vL Run.enc m_2) (aa (vI s_38.2.1) ?_)))))
         obtain ⟨y_62,hy_63,hc_41⟩:=bind_some hc_41
         refine dC mK rfl rfl hy_63 rfl wz (rQ su rfl [.int .i64 y_62.f_to] rfl rfl wz (bK sz3 ag3 rfl (vI y_62.f_to) rfl wz (tF (vI (vE s_38.2.2 y_62.f_to)) rfl (.inr rfl) wz (aG lY rfl 0 rfl wz (eB 9 (.inr (by kernel_rfl)) (λ_ _ ag=>⟨.inr (.inr (by kernel_rfl)),trivial⟩) 1 sz3 rfl rfl [(vI (vE s_38.2.2 y_62.f_to)),(vI x_5.f_to)] rfl wz (af (au (aa (vI s_38.2.1) (aa (vI (w64 (s_38.2.1+1))) (aa (vI (w64 (s_38.2.1+1))) (af ?_)))))))))))
         obtain rfl:=ae hc_41
         exact aV (k_33,(v_53,(w64 (s_38.2.1+1)),(vE s_38.2.2 y_62.f_to)),n_55) hL_42 (ls_ _) rfl (aK rfl)
       ·refine ay rfl hc_50 (aW ?_)
        obtain rfl:=ae hc_41
        obtain rfl:=ae hL_42
        exact aU ((s_38.1,s_38.2.1,s_38.2.2),n_40) rfl rfl (aK rfl)
    ·rintro ⟨s_38,n_40⟩ ho_ sl_ H_ hp_ hq_
     subst ho_
     refine aO _ hp_ hq_ (ai (aG lY rfl 0 rfl wz (aC 0 1 il ft sz3 ag3 rfl rfl (vI s_38.2.2) rfl wz (aG su rfl 1 rfl wz (aC 0 1 il ft sz3 ag3 rfl rfl (vI x_5.f_to) rfl wz (aa (vB (decide (s_38.2.2<x_5.f_to))) (af ?_)))))))
     obtain ⟨v_64,h_65,hc_12⟩:=bind_some hc_12
     refine ko (β:=Nm) (λ(n_66:Nm)=>([(1,(vL Run.enc m_2)),(5,(gV n_66 2 v_64)),(6,(vI s_22)),(10,(vL Run.enc l_1)),(11,(vI (l_1.length:Int))),(12,(vI (k_3:Int)))]:SL_)) (λ(n_66:Nm)=>([(n_66,gB 2 Run.enc v_64),(n_16,some (.cells 2 [(vI s_38.2.2),(vI x_5.f_to)]))]:Hp)) (λ_=>True) ?_ ?_
     ·rcases aj h_65 with⟨hc_67,h_65⟩|⟨hc_67,h_65⟩
      ·refine aB rfl hc_67 (au (aa (gV n_40 2 s_38.1) (aC 0 1 il ft oP yx rfl rfl (.d (.agg (Run.enc (⟨s_38.2.2,x_5.f_to⟩:Run)))) rfl wz (dU (([(⟨s_38.2.2,x_5.f_to⟩:Run)]:List Run).map Run.enc) mK Nh rfl rfl rfl rfl rfl wz ?_))))
       obtain ⟨a_68,hz_69,h_65⟩:=bind_some h_65
       refine kT 0 il ft (i:=0) CQ CQ oP Mh rfl (by decide) Mq (by decide) (λ_=>rfl) rfl rfl rfl hz_69 wz (λn_70=>aa (gV n_70 2 a_68) (af ?_))
       obtain rfl:=ae h_65
       exact aU n_70 trivial rfl (aK rfl)
      ·refine ay rfl hc_67 (ax ?_)
       obtain rfl:=ae h_65
       exact aU n_40 trivial rfl (aK rfl)
     ·rintro n_66 _ sl_ H_ hp_ hq_
      refine aO _ hp_ hq_ (au (dB (bv hD_6 hn_7) wz rfl (aa (vI ((k_3+1:Nat):Int)) (af ?_))))
      obtain rfl:=ae hc_12
      exact aV (k_3+1,l_4,(v_64,s_22),n_66) ⟨hL_13,aR hD_6⟩ (ls_ _) rfl (aK rfl)
 ·rintro ⟨s_8,n_11⟩ ho_ sl_ H_ hp_ hq_
  subst ho_
  refine aO _ hp_ hq_ (ai (aa (gV n_11 2 s_8.1) (aa (gV n_11 2 s_8.1) (af (iQ 0 rfl (fF 4 0 rfl rfl (fF 5 0 rfl rfl (fF 87 0 rfl rfl ?_))))))))
  obtain rfl:=ae hF
  exact aA (aL [(vL Run.enc s_8.1)] ⟨rfl,trivial⟩)
theorem nG {s1_1:(List Run)} {s2_2:(List Run)} {r:Bool} (hF:dQ s1_1 s2_2=some r) :
  FnM Tryz.prog 86 [(vL Run.enc s1_1),(vL Run.enc s2_2)] [] (vB r) []:=by
 refine FnM.of_wH ⟨Tryz.prog,26,[],[]⟩ rfl Tryz.func86 rfl rfl (lb_ rfl) (by kernel_rfl) ?_
 unfold dQ at hF
 refine ai (aa (vB false) (af (ak (ai (aa (vL Run.enc s1_1) (bH zk rfl wz (aa (vL Run.enc s2_2) (bH zk rfl wz (aa (vB ((s1_1.length:Int) != (s2_2.length:Int))) (af ?_))))))))))
 rcases aj hF with⟨hc_3,hF⟩|⟨hc_3,hF⟩
 ·refine aB rfl hc_3 (ai (aa (vB false) (af ?_)))
  obtain rfl:=ae hF
  exact aA (aL [(vB false)] ⟨rfl,trivial⟩)
 ·refine ay rfl hc_3 (ax (ak (ai (aa (vL Run.enc s1_1) (bH zk rfl wz (aa (vI 0) (af ?_)))))))
  obtain ⟨o_12,hj_13,hF⟩:=bind_some hF
  obtain ⟨hn_8,hj_13⟩:=aY hj_13
  refine bN (λ(s_9:Unit)=>[]) (λ(s_9:Unit)=>[]) (λ(k_4:Nat)=>(λ(s_9:Unit)=>[(0,(vL Run.enc s1_1)),(1,(vL Run.enc s2_2)),(12,(vI (s1_1.length:Int))),(13,(vI (k_4:Int)))])) (λk x s=>fq s2_2 k x s) o_12 s1_1 () hj_13 rfl (aK rfl) ?_ ?_
  ·rintro ⟨k_4,l_5,s_9⟩ ⟨hL_11,hD_7⟩
   dsimp only at hL_11 hD_7
   cases l_5 with
   | nil =>
    obtain rfl:=ae hL_11
    refine ai (aa (vB (decide ((k_4:Int)<(s1_1.length:Int)))) (af ?_))
    refine ak (ay rfl (drop_nil hD_7) (aW ?_))
    exact aU (s_9) rfl rfl (aK rfl)
   | cons x_6 l_5 =>
    obtain ⟨c_,hc_10,hL_11⟩:=bind_some hL_11
    refine ai (aa (vB (decide ((k_4:Int)<(s1_1.length:Int)))) (af ?_))
    refine ak (aB rfl (bu hD_7) (ax ?_))
    unfold fq at hc_10
    refine ak (aM (ai (aa (vI (k_4:Int)) (aa (vI (k_4:Int)) (af (ak (bE (aa (vL Run.enc s1_1) (aa (vI (k_4:Int)) (dC mK rfl rfl (bD hD_7) rfl wz (bK oP yx rfl (.d (.agg (Run.enc x_6))) rfl wz (aa (vL Run.enc s2_2) (aa (vI (k_4:Int)) ?_)))))))))))))
    obtain ⟨y_14,hy_15,hc_10⟩:=bind_some hc_10
    refine dC mK rfl rfl hy_15 rfl wz (bK oP yx rfl (.d (.agg (Run.enc y_14))) rfl wz (aJ (vB (!((x_6.f_from==y_14.f_from)&&((x_6.f_to==y_14.f_to)&&true)))) wz (by kernel_rfl) (af ?_)))
    rcases aj hc_10 with⟨hc_16,hc_10⟩|⟨hc_16,hc_10⟩
    ·refine aB rfl hc_16 (ai (aa (vB false) (af ?_)))
     obtain rfl:=ae hc_10
     obtain rfl:=ae hL_11
     obtain rfl:=ae hF
     exact aA (aL [(vB false)] ⟨rfl,trivial⟩)
    ·refine ay rfl hc_16 (ax (au (dB (bv hD_7 hn_8) wz rfl (aa (vI ((k_4+1:Nat):Int)) (af ?_)))))
     obtain rfl:=ae hc_10
     exact aV (k_4+1,l_5,()) ⟨hL_11,aR hD_7⟩ (ls_ _) rfl (aK rfl)
  ·rintro s_9 ho_ sl_ H_ hp_ hq_
   subst ho_
   refine aO _ hp_ hq_ (ai (aa (vB true) (af ?_)))
   obtain rfl:=ae hF
   exact aA (aL [(vB true)] ⟨rfl,trivial⟩)
theorem Cg {l_1:(List Rect)} {m_2:(List Rect)} {r:(List Rect)} (hF:ol l_1 m_2=some r) :
  FnM Tryz.prog 64 [(vL Rect.enc l_1),(vL Rect.enc m_2)] [] (vL Rect.enc r) []:=by
 refine FnM.of_wH ⟨Tryz.prog,88,[],[]⟩ rfl Tryz.func64 rfl rfl (lb_ rfl) (by kernel_rfl) ?_
 unfold ol at hF
 refine ai (aa .nil (af (ai (aa .nil (af (ak (ai (aa (vL Rect.enc l_1) (aa (vL Rect.enc m_2) (dU (([l_1,m_2]:List (List Rect)).map (eL Rect.enc)) OW ez174 rfl rfl rfl rfl rfl wz ?_))))))))))
 obtain ⟨r_3,hr_4,hF⟩:=bind_some hF
 refine aF (oN hr_4) rfl hb81 rfl rfl rfl rfl wz (bH Ca rfl wz (aa (vI 0) (af (jv (λn_11 => ?_)))))
 obtain ⟨o_16,hj_17,hF⟩:=bind_some hF
 obtain ⟨hn_9,hj_17⟩:=aY hj_17
 refine fT (σ:=(List Int)) (N:=Nm) (λp=>(λ(s_10:List Int) (n_13:Nm)=>([(0,(vL Rect.enc l_1)),(1,(vL Rect.enc m_2)),(5,(gV n_13 1 s_10))]:SL_)) p.1 p.2) (λp=>(λ(s_10:List Int) (n_13:Nm)=>([(n_13,gB 1 eI s_10)]:Hp)) p.1 p.2) (λ(k_5:Nat)=>(λp=>(λ(s_10:List Int) (n_13:Nm)=>([(0,(vL Rect.enc l_1)),(1,(vL Rect.enc m_2)),(5,(gV n_13 1 s_10)),(19,(vL Rect.enc r_3)),(20,(vI (r_3.length:Int))),(21,(vI (k_5:Int)))]:SL_)) p.1 p.2)) (λk x s=>nJ k x s) o_16 r_3 (([]:List Int),n_11) hj_17 rfl (aK rfl) ?_ ?_
 ·rintro ⟨k_5,l_6,s_10,n_13⟩ ⟨hL_15,hD_8⟩
  dsimp only at hL_15 hD_8
  cases l_6 with
  | nil =>
   obtain rfl:=ae hL_15
   refine ai (aa (vB (decide ((k_5:Int)<(r_3.length:Int)))) (af ?_))
   refine ak (ay rfl (drop_nil hD_8) (aW ?_))
   exact aU (s_10,n_13) rfl rfl (aK rfl)
  | cons x_7 l_6 =>
   obtain ⟨c_,hc_14,hL_15⟩:=bind_some hL_15
   refine ai (aa (vB (decide ((k_5:Int)<(r_3.length:Int)))) (af ?_))
   refine ak (aB rfl (bu hD_8) (ax ?_))
   unfold nJ at hc_14
   refine ak (aM (ai (dC I8 rfl rfl (bD hD_8) rfl wz (bK x9 JL rfl (.d (.agg (Rect.enc x_7))) rfl wz (cz 0 (.inl rfl) z92 rfl wz (λn_18=>eB 0 il ft 1 x9 rfl rfl (Rect.v x_7) rfl wz (af (au (aa (gV n_13 1 s_10) (aG yn rfl 1 rfl wz (aC 0 1 il ft sz3 ag3 rfl rfl (vI x_7.Y) rfl wz (aG yn rfl 1 rfl wz (aC 0 1 il ft sz3 ag3 rfl rfl (vI x_7.Y) rfl wz (aG EL rfl 3 rfl wz (aC 0 1 il ft sz3 ag3 rfl rfl (vI x_7.H) rfl wz (aa (vI (w64 (x_7.Y+x_7.H))) (dU (([x_7.Y,(w64 (x_7.Y+x_7.H))]:List Int).map eI) gq zJ rfl rfl rfl rfl rfl wz ?_)))))))))))))))))
   obtain ⟨a_19,hz_20,hc_14⟩:=bind_some hc_14
   refine kT 0 il ft (i:=0) Lh Lh sz3 z3 rfl (by decide) by3 (by decide) (λ_=>rfl) rfl rfl rfl hz_20 wz (λn_21=>aa (gV n_21 1 a_19) (af (au (dB (bv hD_8 hn_9) wz rfl (aa (vI ((k_5+1:Nat):Int)) (af ?_))))))
   obtain rfl:=ae hc_14
   exact aV (k_5+1,l_6,a_19,n_21) ⟨hL_15,aR hD_8⟩ (ls_ _) rfl (aK rfl)
 ·rintro ⟨s_10,n_13⟩ ho_ sl_ H_ hp_ hq_
  subst ho_
  refine aO _ hp_ hq_ (ai (aa (gV n_13 1 s_10) ?_))
  obtain ⟨r_22,hr_23,hF⟩:=bind_some hF
  obtain ⟨_,hs_24,hF⟩:=bind_some hF
  replace hs_24:=mR hs_24
  refine sG 0 [] 0 0 il ft (uo hr_23) rfl hb82 rfl rfl rfl (by kernel_rfl) rfl (.inl rfl) rfl (by kernel_rfl) (by kernel_rfl) (by kernel_rfl) (by kernel_rfl) rfl (by decide) (by kernel_rfl) uf (CU hs_24) wz ([(n_13,gB 1 eI r_22)]:Hp) (by kernel_rfl) (gG (v':=(gV n_13 1 r_22)) 36 rfl (jE hs_24.symm) (gG (v':=(gV n_13 1 r_22)) 5 rfl (jE hs_24.symm) (af (ai (aa (gV n_13 1 r_22) ?_)))))
  obtain ⟨r_25,hr_26,hF⟩:=bind_some hF
  refine sG 0 [] 0 0 il ft (q9 hr_26) rfl hb83 rfl rfl rfl (by kernel_rfl) rfl (.inl rfl) rfl (by kernel_rfl) (by kernel_rfl) (by kernel_rfl) (by kernel_rfl) rfl (by decide) (by kernel_rfl) Dw (λ_=>rfl) wz ([(n_13,none)]:Hp) (by kernel_rfl) (aa (vL eI r_25) (af (ai (aa .nil (af (ai (aa .nil (af (ai (aa (vI 0) (af (ak (ai (aa (vL eI r_25) (bH uT rfl wz (aa (vI 0) (af (MK Run.enc 9 rfl (jv (λn_33 => ?_))))))))))))))))))))
  obtain ⟨o_38,hj_39,hF⟩:=bind_some hF
  obtain ⟨hn_31,hj_39⟩:=aY hj_39
  refine fT (σ:=(List Rect)×(List Run)×Int) (N:=Nm) (λp=>(λ(s_32:(List Rect)×(List Run)×Int) (n_35:Nm)=>([(8,(gV n_35 4 s_32.1))]:SL_)) p.1 p.2) (λp=>(λ(s_32:(List Rect)×(List Run)×Int) (n_35:Nm)=>([(n_13,none),(n_35,gB 4 Rect.enc s_32.1)]:Hp)) p.1 p.2) (λ(k_27:Nat)=>(λp=>(λ(s_32:(List Rect)×(List Run)×Int) (n_35:Nm)=>([(0,(vL Rect.enc l_1)),(1,(vL Rect.enc m_2)),(5,(vL eI r_25)),(8,(gV n_35 4 s_32.1)),(9,(vL Run.enc s_32.2.1)),(10,(vI s_32.2.2)),(40,(vL eI r_25)),(41,(vI (r_25.length:Int))),(42,(vI (k_27:Int)))]:SL_)) p.1 p.2)) (λk x s=>kR r_25 l_1 m_2 k x s) o_38 r_25 ((([]:List Rect),([]:List Run),0),n_33) hj_39 rfl (aK rfl) ?_ ?_
  ·rintro ⟨k_27,l_28,s_32,n_35⟩ ⟨hL_37,hD_30⟩
   dsimp only at hL_37 hD_30
   cases l_28 with
   | nil =>
    obtain rfl:=ae hL_37
    refine ai (aa (vB (decide ((k_27:Int)<(r_25.length:Int)))) (af ?_))
    refine ak (ay rfl (drop_nil hD_30) (aW ?_))
    exact aU (s_32,n_35) rfl rfl (aK rfl)
   | cons x_29 l_28 =>
    obtain ⟨c_,hc_36,hL_37⟩:=bind_some hL_37
    refine ai (aa (vB (decide ((k_27:Int)<(r_25.length:Int)))) (af ?_))
    refine ak (aB rfl (bu hD_30) (ax ?_))
    unfold kR at hc_36
    refine ak (aM (ai (aa (vI (k_27:Int)) (dC gq rfl rfl (bD hD_30) rfl wz (bK sz3 ag3 rfl (vI x_29) rfl wz (aa (vI (k_27:Int)) (aa (vI x_29) (af (ai (aa .nil (af (ak (ai (aa (vI (k_27:Int)) (aa (vI (w64 ((k_27:Int)+1))) (aa (vL eI r_25) (bH uT rfl wz (aa (vB (decide ((w64 ((k_27:Int)+1))<(r_25.length:Int)))) (af (MK Run.enc 13 rfl ?_))))))))))))))))))))
    obtain ⟨v_42,h_43,hc_36⟩:=bind_some hc_36
    refine aS [(0,(vL Rect.enc l_1)),(1,(vL Rect.enc m_2)),(5,(vL eI r_25)),(8,(gV n_35 4 s_32.1)),(9,(vL Run.enc s_32.2.1)),(10,(vI s_32.2.2)),(12,(vI x_29)),(13,(vL Run.enc v_42)),(40,(vL eI r_25)),(41,(vI (r_25.length:Int))),(42,(vI (k_27:Int)))] [(n_13,none),(n_35,gB 4 Rect.enc s_32.1)] ?_ ?_
    ·rcases aj h_43 with⟨hc_44,h_43⟩|⟨hc_44,h_43⟩
     ·refine aB rfl hc_44 (au (aa (vL Rect.enc l_1) (aa (vI x_29) ?_)))
      obtain ⟨r_45,hr_46,h_43⟩:=bind_some h_43
      refine aF (xU hr_46) rfl hb85 rfl rfl rfl rfl wz (aa (vL Rect.enc m_2) (aa (vI x_29) ?_))
      obtain ⟨r_47,hr_48,h_43⟩:=bind_some h_43
      refine aF (xU hr_48) rfl hb85 rfl rfl rfl rfl wz ?_
      obtain ⟨r_49,hr_50,h_43⟩:=bind_some h_43
      refine aF (EM hr_50) rfl hb84 rfl rfl rfl rfl wz (aa (vL Run.enc r_49) (af ?_))
      obtain rfl:=ae h_43
      exact cu
     ·refine ay rfl hc_44 (ax ?_)
      obtain rfl:=ae h_43
      exact cu
    ·rintro ⟨⟩ _ sl_ H_ hp_ hq_
     refine aO _ hp_ hq_ (ak (ai (aa (vL Run.enc s_32.2.1) (aa (vL Run.enc v_42) ?_))))
     obtain ⟨r_51,hr_52,hc_36⟩:=bind_some hc_36
     refine aF (nG hr_52) rfl hb86 rfl rfl rfl rfl wz (af ?_)
     rcases aj hc_36 with⟨hc_53,hc_36⟩|⟨hc_53,hc_36⟩
     ·refine aB rfl hc_53 (aW (au (dB (bv hD_30 hn_31) wz rfl (aa (vI ((k_27+1:Nat):Int)) (af ?_)))))
      obtain rfl:=ae hc_36
      exact aV (k_27+1,l_28,(s_32.1,s_32.2.1,s_32.2.2),n_35) ⟨hL_37,aR hD_30⟩ (ls_ _) rfl (aK rfl)
     ·refine ay rfl hc_53 (ax (ak (ai (aa (vL Run.enc s_32.2.1) (bH zk rfl wz (aa (vI 0) (af ?_)))))))
      obtain ⟨o_64,hj_65,hc_36⟩:=bind_some hc_36
      obtain ⟨hn_58,hj_65⟩:=aY hj_65
      refine fT (σ:=(List Rect)) (N:=Nm) (λp=>(λ(s_59:List Rect) (n_61:Nm)=>([(0,(vL Rect.enc l_1)),(1,(vL Rect.enc m_2)),(5,(vL eI r_25)),(8,(gV n_61 4 s_59)),(12,(vI x_29)),(13,(vL Run.enc v_42)),(40,(vL eI r_25)),(41,(vI (r_25.length:Int))),(42,(vI (k_27:Int)))]:SL_)) p.1 p.2) (λp=>(λ(s_59:List Rect) (n_61:Nm)=>([(n_13,none),(n_61,gB 4 Rect.enc s_59)]:Hp)) p.1 p.2) (λ(k_54:Nat)=>(λp=>(λ(s_59:List Rect) (n_61:Nm)=>([(0,(vL Rect.enc l_1)),(1,(vL Rect.enc m_2)),(5,(vL eI r_25)),(8,(gV n_61 4 s_59)),(10,(vI s_32.2.2)),(12,(vI x_29)),(13,(vL Run.enc v_42)),(40,(vL eI r_25)),(41,(vI (r_25.length:Int))),(42,(vI (k_27:Int))),(62,(vL Run.enc s_32.2.1)),(63,(vI (s_32.2.1.length:Int))),(64,(vI (k_54:Int)))]:SL_)) p.1 p.2)) (λk x s=>nI s_32 x_29 k x s) o_64 s_32.2.1 (s_32.1,n_35) hj_65 rfl (aK rfl) ?_ ?_
      ·rintro ⟨k_54,l_55,s_59,n_61⟩ ⟨hL_63,hD_57⟩
       dsimp only at hL_63 hD_57
       cases l_55 with
       | nil =>
        obtain rfl:=ae hL_63
        refine ai (aa (vB (decide ((k_54:Int)<(s_32.2.1.length:Int)))) (af ?_))
        refine ak (ay rfl (drop_nil hD_57) (aW ?_))
        exact aU (s_59,n_61) rfl rfl (aK rfl)
       | cons x_56 l_55 =>
        obtain ⟨c_,hc_62,hL_63⟩:=bind_some hL_63
        refine ai (aa (vB (decide ((k_54:Int)<(s_32.2.1.length:Int)))) (af ?_))
        refine ak (aB rfl (bu hD_57) (ax ?_))
        unfold nI at hc_62
        refine ak (aM (ai (dC mK rfl rfl (bD hD_57) rfl wz (bK oP yx rfl (.d (.agg (Run.enc x_56))) rfl wz (cz 0 (.inl rfl) Mh rfl wz (λn_66=>eB 0 il ft 2 oP rfl rfl [(vI x_56.f_from),(vI x_56.f_to)] rfl wz (af (au (aa (gV n_61 4 s_59) (aG lY rfl 0 rfl wz (aC 0 2 il ft sz3 ag3 rfl rfl (vI x_56.f_from) rfl wz (aa (vI s_32.2.2) (aG su rfl 1 rfl wz (aC 0 2 il ft sz3 ag3 rfl rfl (vI x_56.f_to) rfl wz (aG lY rfl 0 rfl wz (aC 0 2 il ft sz3 ag3 rfl rfl (vI x_56.f_from) rfl wz (aa (vI (w64 (x_56.f_to-x_56.f_from))) (aa (vI x_29) (aa (vI s_32.2.2) (aa (vI (w64 (x_29-s_32.2.2))) (aJ (.d (.agg (Rect.enc (⟨x_56.f_from,s_32.2.2,(w64 (x_56.f_to-x_56.f_from)),(w64 (x_29-s_32.2.2))⟩:Rect)))) wz (by kernel_rfl) (dU (([(⟨x_56.f_from,s_32.2.2,(w64 (x_56.f_to-x_56.f_from)),(w64 (x_29-s_32.2.2))⟩:Rect)]:List Rect).map Rect.enc) I8 ez93 rfl rfl rfl rfl rfl wz ?_))))))))))))))))))))))
        obtain ⟨a_67,hz_68,hc_62⟩:=bind_some hc_62
        refine kT 0 il ft (i:=1) Md Md x9 z92 rfl (by decide) by92 (by decide) (λ_=>rfl) rfl rfl rfl hz_68 wz (λn_69=>aa (gV n_69 4 a_67) (af (au (dB (bv hD_57 hn_58) wz rfl (aa (vI ((k_54+1:Nat):Int)) (af ?_))))))
        obtain rfl:=ae hc_62
        exact aV (k_54+1,l_55,a_67,n_69) ⟨hL_63,aR hD_57⟩ (ls_ _) rfl (aK rfl)
      ·rintro ⟨s_59,n_61⟩ ho_ sl_ H_ hp_ hq_
       subst ho_
       refine aO _ hp_ hq_ (au (aa (vL Run.enc v_42) (aa (vI x_29) (aa (vL Run.enc v_42) (aa (vI x_29) (af (au (dB (bv hD_30 hn_31) wz rfl (aa (vI ((k_27+1:Nat):Int)) (af ?_))))))))))
       obtain rfl:=ae hc_36
       exact aV (k_27+1,l_28,(s_59,v_42,x_29),n_61) ⟨hL_37,aR hD_30⟩ (ls_ _) rfl (aK rfl)
  ·rintro ⟨s_32,n_35⟩ ho_ sl_ H_ hp_ hq_
   subst ho_
   refine aO _ hp_ hq_ (ai (aa (gV n_35 4 s_32.1) (aa (gV n_35 4 s_32.1) (af (iQ 1 rfl (fF 4 1 rfl rfl (fF 8 1 rfl rfl (fF 87 1 rfl rfl ?_))))))))
   obtain rfl:=ae hF
   exact aA (aL [(vL Rect.enc s_32.1)] ⟨rfl,trivial⟩)
theorem EW {l_1:(List Rect)} {r:Int} (hF:uG l_1=some r) :
  FnM Tryz.prog 63 [(vL Rect.enc l_1)] [] (vI r) []:=by
 refine FnM.of_wH ⟨Tryz.prog,21,[],[]⟩ rfl Tryz.func63 rfl rfl (lb_ rfl) (by kernel_rfl) ?_
 unfold uG at hF
 refine ai (aa (vI 0) (af (ai (aa (vI 0) (af (ak (ai (aa (vL Rect.enc l_1) (bH Ca rfl wz (aa (vI 0) (af ?_)))))))))))
 obtain ⟨o_10,hj_11,hF⟩:=bind_some hF
 obtain ⟨hn_6,hj_11⟩:=aY hj_11
 refine bN (λ(s_7:Int)=>[(3,(vI s_7))]) (λ(s_7:Int)=>[]) (λ(k_2:Nat)=>(λ(s_7:Int)=>[(3,(vI s_7)),(6,(vL Rect.enc l_1)),(7,(vI (l_1.length:Int))),(8,(vI (k_2:Int)))])) (λk x s=>uj k x s) o_10 l_1 0 hj_11 rfl (aK rfl) ?_ ?_
 ·rintro ⟨k_2,l_3,s_7⟩ ⟨hL_9,hD_5⟩
  dsimp only at hL_9 hD_5
  cases l_3 with
  | nil =>
   obtain rfl:=ae hL_9
   refine ai (aa (vB (decide ((k_2:Int)<(l_1.length:Int)))) (af ?_))
   refine ak (ay rfl (drop_nil hD_5) (aW ?_))
   exact aU (s_7) rfl rfl (aK rfl)
  | cons x_4 l_3 =>
   obtain ⟨c_,hc_8,hL_9⟩:=bind_some hL_9
   refine ai (aa (vB (decide ((k_2:Int)<(l_1.length:Int)))) (af ?_))
   refine ak (aB rfl (bu hD_5) (ax ?_))
   unfold uj at hc_8
   refine ak (aM (ai (dC I8 rfl rfl (bD hD_5) rfl wz (bK x9 JL rfl (.d (.agg (Rect.enc x_4))) rfl wz (cz 0 (.inl rfl) z92 rfl wz (λn_12=>eB 0 il ft 0 x9 rfl rfl (Rect.v x_4) rfl wz (af (au (aa (vI s_7) (aG HV rfl 2 rfl wz (aC 0 0 il ft sz3 ag3 rfl rfl (vI x_4.W) rfl wz (aG EL rfl 3 rfl wz (aC 0 0 il ft sz3 ag3 rfl rfl (vI x_4.H) rfl wz (aa (vI (w64 (x_4.W*x_4.H))) (aa (vI (w64 (s_7+(w64 (x_4.W*x_4.H))))) (aa (vI (w64 (s_7+(w64 (x_4.W*x_4.H))))) (af (au (dB (bv hD_5 hn_6) wz rfl (aa (vI ((k_2+1:Nat):Int)) (af ?_)))))))))))))))))))))
   obtain rfl:=ae hc_8
   exact aV (k_2+1,l_3,(w64 (s_7+(w64 (x_4.W*x_4.H))))) ⟨hL_9,aR hD_5⟩ (ls_ _) rfl (aK rfl)
 ·rintro s_7 ho_ sl_ H_ hp_ hq_
  subst ho_
  refine aO _ hp_ hq_ (ai (aa (vI s_7) (aa (vI s_7) (af ?_))))
  obtain rfl:=ae hF
  exact aA (aL [(vI s_7)] ⟨rfl,trivial⟩)
theorem EY {l_1:(List Rect)} {r:Int×Int} (hF:qR l_1=some r) :
  FnM Tryz.prog 42 [(vL Rect.enc l_1)] [] (.tup [(vI r.1),(vI r.2)]) []:=by
 refine FnM.of_wH ⟨Tryz.prog,13,[],[]⟩ rfl Tryz.func42 rfl rfl (lb_ rfl) (by kernel_rfl) ?_
 unfold qR at hF
 refine ai (aa (vI 0) (aa (vI 0) (af (ak (ai (aa (vL Rect.enc l_1) ?_))))))
 obtain ⟨r_2,hr_3,hF⟩:=bind_some hF
 refine aF (yz hr_3) rfl hb62 rfl rfl rfl rfl wz (aa (vI r_2) (af (ai (aa (vI r_2) (aa (vB (r_2 != 0)) (af ?_))))))
 rcases aj hF with⟨hc_4,hF⟩|⟨hc_4,hF⟩
 ·refine aB rfl hc_4 (ai (aa (vI r_2) (aa (vI 0) (aa (vI r_2) (af ?_)))))
  obtain rfl:=ae hF
  exact aA (aL [(vI 0),(vI r_2)] ⟨rfl,⟨rfl,trivial⟩⟩)
 ·refine ay rfl hc_4 (ax (ai (aa (vL Rect.enc l_1) ?_)))
  obtain ⟨r_5,hr_6,hF⟩:=bind_some hF
  refine aF (Cg hr_6) rfl hb64 rfl rfl rfl rfl wz ?_
  obtain ⟨r_7,hr_8,hF⟩:=bind_some hF
  refine aF (EW hr_8) rfl hb63 rfl rfl rfl rfl wz (aa (vI r_7) (aa (vI 0) (af ?_)))
  obtain rfl:=ae hF
  exact aA (aL [(vI r_7),(vI 0)] ⟨rfl,⟨rfl,trivial⟩⟩)
theorem IV {n_1:Int} {r:Bool} (hF:BZ n_1=some r) :
  FnM Tryz.prog 128 [(vI n_1)] [] (vB r) []:=by
 refine FnM.of_wH ⟨Tryz.prog,9,[],[]⟩ rfl Tryz.func128 rfl rfl (lb_ rfl) (by kernel_rfl) ?_
 unfold BZ at hF
 refine ai (aa (vB false) (af (ak ?_)))
 obtain ⟨v_2,h_3,hF⟩:=bind_some hF
 refine aS [(2,(vB v_2))] [] ?_ ?_
 ·refine au (aa (vI n_1) (aa (vB (decide (n_1>=0))) ?_))
  rcases aj h_3 with⟨hc_4,h_3⟩|⟨hc_4,h_3⟩
  ·refine aD rfl hc_4 wz (aJ (vI n_1) wa rfl (aJ (vB (decide (n_1<=4000))) wa rfl (aa (vB (decide (n_1<=4000))) (aa (vB (decide (n_1<=4000))) (af ?_)))))
   obtain rfl:=ae h_3
   exact cu
  ·refine aD rfl hc_4 wz (ah (ah (aa (vB false) (aa (vB false) (af ?_)))))
   obtain rfl:=ae h_3
   exact cu
 ·rintro ⟨⟩ _ sl_ H_ hp_ hq_
  refine aO _ hp_ hq_ ?_
  obtain rfl:=ae hF
  exact aA (aL [(vB v_2)] ⟨rfl,trivial⟩)
theorem vJ {l_1:(List Int)} {r:Int} (hF:jU l_1=some r) :
  FnM Tryz.prog 106 [(vL eI l_1)] [] (vI r) []:=by
 refine FnM.of_wH ⟨Tryz.prog,30,[],[]⟩ rfl Tryz.func106 rfl rfl (lb_ rfl) (by kernel_rfl) ?_
 unfold jU at hF
 refine ai (aa (vI 0) (af (ak (ai (aa (vL eI l_1) (bH uT rfl wz (aa (vB (decide ((l_1.length:Int)>100))) (af ?_))))))))
 rcases aj hF with⟨hc_2,hF⟩|⟨hc_2,hF⟩
 ·refine aB rfl hc_2 (ai (aa (vI 2) (af ?_)))
  obtain rfl:=ae hF
  exact aA (aL [(vI 2)] ⟨rfl,trivial⟩)
 ·refine ay rfl hc_2 (ax (ak (ai (aa (vL eI l_1) (bH uT rfl wz (aa (vI 0) (af ?_)))))))
  obtain ⟨o_11,hj_12,hF⟩:=bind_some hF
  obtain ⟨hn_7,hj_12⟩:=aY hj_12
  refine bN (λ(s_8:Unit)=>[]) (λ(s_8:Unit)=>[]) (λ(k_3:Nat)=>(λ(s_8:Unit)=>[(0,(vL eI l_1)),(8,(vL eI l_1)),(9,(vI (l_1.length:Int))),(10,(vI (k_3:Int)))])) (λk x s=>kH l_1 k x s) o_11 l_1 () hj_12 rfl (aK rfl) ?_ ?_
  ·rintro ⟨k_3,l_4,s_8⟩ ⟨hL_10,hD_6⟩
   dsimp only at hL_10 hD_6
   cases l_4 with
   | nil =>
    obtain rfl:=ae hL_10
    refine ai (aa (vB (decide ((k_3:Int)<(l_1.length:Int)))) (af ?_))
    refine ak (ay rfl (drop_nil hD_6) (aW ?_))
    exact aU (s_8) rfl rfl (aK rfl)
   | cons x_5 l_4 =>
    obtain ⟨c_,hc_9,hL_10⟩:=bind_some hL_10
    refine ai (aa (vB (decide ((k_3:Int)<(l_1.length:Int)))) (af ?_))
    refine ak (aB rfl (bu hD_6) (ax ?_))
    unfold kH at hc_9
    refine ak (aM (ai (aa (vI (k_3:Int)) (dC gq rfl rfl (bD hD_6) rfl wz (bK sz3 ag3 rfl (vI x_5) rfl wz (aa (vI (k_3:Int)) (aa (vI x_5) (af (ak (ai (aa (vI x_5) ?_)))))))))))
    obtain ⟨r_13,hr_14,hc_9⟩:=bind_some hc_9
    refine aF (IV hr_14) rfl hb128 rfl rfl rfl rfl wz (aa (vB (!r_13)) (af ?_))
    rcases aj hc_9 with⟨hc_15,hc_9⟩|⟨hc_15,hc_9⟩
    ·refine aB rfl hc_15 (ai (aa (vI 1) (af ?_)))
     obtain rfl:=ae hc_9
     obtain rfl:=ae hL_10
     obtain rfl:=ae hF
     exact aA (aL [(vI 1)] ⟨rfl,trivial⟩)
    ·refine ay rfl hc_15 (ax (ak ?_))
     obtain ⟨v_16,h_17,hc_9⟩:=bind_some hc_9
     refine aS [(0,(vL eI l_1)),(8,(vL eI l_1)),(9,(vI (l_1.length:Int))),(10,(vI (k_3:Int))),(28,(vB v_16))] [] ?_ ?_
     ·refine au (aa (vI (k_3:Int)) (aa (vB (decide ((k_3:Int)>0))) ?_))
      rcases aj h_17 with⟨hc_18,h_17⟩|⟨hc_18,h_17⟩
      ·refine aD rfl hc_18 wz (aJ (vI x_5) wa rfl (aJ (vL eI l_1) wa rfl (aJ (vI (k_3:Int)) wa rfl (aJ (vI (w64 ((k_3:Int)-1))) wa rfl ?_))))
       obtain ⟨y_19,hy_20,h_17⟩:=bind_some h_17
       refine dC gq rfl rfl hy_20 rfl wa (bK sz3 ag3 rfl (vI y_19) rfl wa (aJ (vB (decide (x_5<=y_19))) wa rfl (aa (vB (decide (x_5<=y_19))) (af ?_))))
       obtain rfl:=ae h_17
       exact cu
      ·refine aD rfl hc_18 wz (ah (ah (ah (ah (ah (ah (ah (aa (vB false) (af ?_)))))))))
       obtain rfl:=ae h_17
       exact cu
     ·rintro ⟨⟩ _ sl_ H_ hp_ hq_
      refine aO _ hp_ hq_ ?_
      rcases aj hc_9 with⟨hc_21,hc_9⟩|⟨hc_21,hc_9⟩
      ·refine aB rfl hc_21 (ai (aa (vI 7) (af ?_)))
       obtain rfl:=ae hc_9
       obtain rfl:=ae hL_10
       obtain rfl:=ae hF
       exact aA (aL [(vI 7)] ⟨rfl,trivial⟩)
      ·refine ay rfl hc_21 (ax (au (dB (bv hD_6 hn_7) wz rfl (aa (vI ((k_3+1:Nat):Int)) (af ?_)))))
       obtain rfl:=ae hc_9
       exact aV (k_3+1,l_4,()) ⟨hL_10,aR hD_6⟩ (ls_ _) rfl (aK rfl)
  ·rintro s_8 ho_ sl_ H_ hp_ hq_
   subst ho_
   refine aO _ hp_ hq_ (ai (aa (vI 0) (af ?_)))
   obtain rfl:=ae hF
   exact aA (aL [(vI 0)] ⟨rfl,trivial⟩)
theorem xJ {l_1:(List ByteArray)} {r:Int} (hF:jo l_1=some r) :
  FnM Tryz.prog 107 [(vL eS l_1)] [] (vI r) []:=by
 refine FnM.of_wH ⟨Tryz.prog,8,[],[]⟩ rfl Tryz.func107 rfl rfl (lb_ rfl) (by kernel_rfl) ?_
 unfold jo at hF
 refine ai (aa (vI 0) (af (ak (ai (aa (vL eS l_1) (bH xq rfl wz (aa (vB (decide ((l_1.length:Int)>20))) (af ?_))))))))
 rcases aj hF with⟨hc_2,hF⟩|⟨hc_2,hF⟩
 ·refine aB rfl hc_2 (ai (aa (vI 2) (af ?_)))
  obtain rfl:=ae hF
  exact aA (aL [(vI 2)] ⟨rfl,trivial⟩)
 ·refine ay rfl hc_2 (ax (ai (aa (vL eS l_1) ?_)))
  obtain ⟨r_3,hr_4,hF⟩:=bind_some hF
  refine aF (tO hr_4) rfl hb75 rfl rfl rfl rfl wz (aa (vI r_3) (af ?_))
  obtain rfl:=ae hF
  exact aA (aL [(vI r_3)] ⟨rfl,trivial⟩)
theorem wS {e_1:Entry} {r:Int} (hF:iT e_1=some r) :
  FnM Tryz.prog 87 [(.d (.agg (Entry.enc e_1)))] [] (vI r) []:=by
 refine FnM.of_wH ⟨Tryz.prog,61,[],[]⟩ rfl Tryz.func87 rfl rfl (lb_ rfl) (by kernel_rfl) ?_
 unfold iT at hF
 refine ai (gz 0 (.inl rfl) (Entry.v e_1) rfl rfl wz (λn_2=>aa (vI 0) (af (ak (ak ?_)))))
 obtain ⟨v_3,h_4,hF⟩:=bind_some hF
 refine aS [(1,(.ref n_2 0 0)),(13,(vB v_3))] [(n_2,some (.cells 13 (Entry.v e_1)))] ?_ ?_
 ·refine au (aG L6 rfl 0 rfl wz (aC 0 0 il ft sz9 ag9 rfl rfl (vS e_1.Key) rfl wz ?_))
  obtain ⟨r_5,hr_6,h_4⟩:=bind_some h_4
  refine aF (d9 hr_6) rfl AQ rfl rfl rfl rfl wz (aa (vB (!r_5)) ?_)
  rcases aj h_4 with⟨hc_7,h_4⟩|⟨hc_7,h_4⟩
  ·refine aD rfl hc_7 wz (ah (ah (ah (ah (aa (vB true) (af ?_))))))
   obtain rfl:=ae h_4
   exact cu
  ·refine aD rfl hc_7 wz (aG pl98_1 rfl 1 rfl wa (aC 0 0 il ft sz9 ag9 rfl rfl (vS e_1.Item) rfl wa ?_))
   obtain ⟨r_8,hr_9,h_4⟩:=bind_some h_4
   refine aF (d9 hr_9) rfl AQ rfl rfl rfl rfl wa (aJ (vB (!r_8)) wa rfl (aa (vB (!r_8)) (af ?_)))
   obtain rfl:=ae h_4
   exact cu
 ·rintro ⟨⟩ _ sl_ H_ hp_ hq_
  refine aO _ hp_ hq_ ?_
  rcases aj hF with⟨hc_10,hF⟩|⟨hc_10,hF⟩
  ·refine aB rfl hc_10 (ai (aa (vI 5) (af ?_)))
   obtain rfl:=ae hF
   exact aA (aL [(vI 5)] ⟨rfl,trivial⟩)
  ·refine ay rfl hc_10 (ax (ak (ak ?_)))
   obtain ⟨v_11,h_12,hF⟩:=bind_some hF
   refine aS [(1,(.ref n_2 0 0)),(38,(vB v_11))] [(n_2,some (.cells 13 (Entry.v e_1)))] ?_ ?_
   ·refine au (aG pl98_2 rfl 2 rfl wz (aC 0 0 il ft sz3 ag3 rfl rfl (vI e_1.Version) rfl wz ?_))
    obtain ⟨r_13,hr_14,h_12⟩:=bind_some h_12
    refine aF (bA hr_14) rfl rC rfl rfl rfl rfl wz ?_
    rcases aj h_12 with⟨hc_15,h_12⟩|⟨hc_15,h_12⟩
    ·refine aD rfl hc_15 wz (ah (ah (ah (ah (ah (aa (vB true) (aa (vB true) (ah (ah (ah (aa (vB true) (aa (vB true) (ah (ah (ah (aa (vB true) (aa (vB true) (ah (ah (ah (aa (vB true) (af ?_))))))))))))))))))))))
     obtain rfl:=ae h_12
     exact cu
    ·refine aD rfl hc_15 wz (aG Ik rfl 3 rfl wa (aC 0 0 il ft sz3 ag3 rfl rfl (vI e_1.First) rfl wa (aG IL rfl 4 rfl wa (aC 0 0 il ft sz3 ag3 rfl rfl (vI e_1.Last) rfl wa ?_))))
     obtain ⟨r_16,hr_17,h_12⟩:=bind_some h_12
     refine aF (bA hr_17) rfl rC rfl rfl rfl rfl wa (aa (vB r_16) ?_)
     rcases aj h_12 with⟨hc_18,h_12⟩|⟨hc_18,h_12⟩
     ·refine aD rfl hc_18 wz (ah (ah (ah (aa (vB true) (aa (vB true) (ah (ah (ah (aa (vB true) (aa (vB true) (ah (ah (ah (aa (vB true) (af ?_)))))))))))))))
      obtain rfl:=ae h_12
      exact cu
     ·refine aD rfl hc_18 wz (aG IL rfl 4 rfl wa (aC 0 0 il ft sz3 ag3 rfl rfl (vI e_1.Last) rfl wa (aJ (vB (decide (e_1.Last>4000))) wa rfl (aa (vB (decide (e_1.Last>4000))) ?_))))
      rcases aj h_12 with⟨hc_19,h_12⟩|⟨hc_19,h_12⟩
      ·refine aD rfl hc_19 wz (ah (ah (ah (aa (vB true) (aa (vB true) (ah (ah (ah (aa (vB true) (af ?_))))))))))
       obtain rfl:=ae h_12
       exact cu
      ·refine aD rfl hc_19 wz (aG Pb rfl 5 rfl wa (aC 0 0 il ft sz3 ag3 rfl rfl (vI e_1.Every) rfl wa ?_))
       obtain ⟨r_20,hr_21,h_12⟩:=bind_some h_12
       refine aF (bA hr_21) rfl rC rfl rfl rfl rfl wa (aa (vB r_20) ?_)
       rcases aj h_12 with⟨hc_22,h_12⟩|⟨hc_22,h_12⟩
       ·refine aD rfl hc_22 wz (ah (ah (ah (aa (vB true) (af ?_)))))
        obtain rfl:=ae h_12
        exact cu
       ·refine aD rfl hc_22 wz (aG Qo rfl 6 rfl wa (aC 0 0 il ft sz3 ag3 rfl rfl (vI e_1.Days) rfl wa ?_))
        obtain ⟨r_23,hr_24,h_12⟩:=bind_some h_12
        refine aF (bA hr_24) rfl rC rfl rfl rfl rfl wa (aa (vB r_23) (af ?_))
        obtain rfl:=ae h_12
        exact cu
   ·rintro ⟨⟩ _ sl_ H_ hp_ hq_
    refine aO _ hp_ hq_ ?_
    rcases aj hF with⟨hc_25,hF⟩|⟨hc_25,hF⟩
    ·refine aB rfl hc_25 (ai (aa (vI 1) (af ?_)))
     obtain rfl:=ae hF
     exact aA (aL [(vI 1)] ⟨rfl,trivial⟩)
    ·refine ay rfl hc_25 (ax (ak (ai (aG O9 rfl 7 rfl wz (aC 0 0 il ft uS xu rfl rfl (vL eI e_1.Except) rfl wz ?_)))))
     obtain ⟨r_26,hr_27,hF⟩:=bind_some hF
     refine aF (vJ hr_27) rfl hb106 rfl rfl rfl rfl wz (aa (vI r_26) (af (ai (aa (vI r_26) (aa (vB (r_26 != 0)) (af ?_))))))
     rcases aj hF with⟨hc_28,hF⟩|⟨hc_28,hF⟩
     ·refine aB rfl hc_28 (ai (aa (vI r_26) (aa (vI r_26) (af ?_))))
      obtain rfl:=ae hF
      exact aA (aL [(vI r_26)] ⟨rfl,trivial⟩)
     ·refine ay rfl hc_28 (ax (ak (ak ?_)))
      obtain ⟨v_29,h_30,hF⟩:=bind_some hF
      refine aS [(1,(.ref n_2 0 0)),(57,(vB v_29))] [(n_2,some (.cells 13 (Entry.v e_1)))] ?_ ?_
      ·refine au (aG Lr rfl 8 rfl wz (aC 0 0 il ft sz3 ag3 rfl rfl (vI e_1.From) rfl wz ?_))
       obtain ⟨r_31,hr_32,h_30⟩:=bind_some h_30
       refine aF (bA hr_32) rfl rC rfl rfl rfl rfl wz ?_
       rcases aj h_30 with⟨hc_33,h_30⟩|⟨hc_33,h_30⟩
       ·refine aD rfl hc_33 wz (ah (ah (ah (aa (vB true) (aa (vB true) (ah (ah (ah (aa (vB true) (af ?_))))))))))
        obtain rfl:=ae h_30
        exact cu
       ·refine aD rfl hc_33 wz (aG Qb rfl 9 rfl wa (aC 0 0 il ft sz3 ag3 rfl rfl (vI e_1.To) rfl wa ?_))
        obtain ⟨r_34,hr_35,h_30⟩:=bind_some h_30
        refine aF (bA hr_35) rfl rC rfl rfl rfl rfl wa (aa (vB r_34) ?_)
        rcases aj h_30 with⟨hc_36,h_30⟩|⟨hc_36,h_30⟩
        ·refine aD rfl hc_36 wz (ah (ah (ah (aa (vB true) (af ?_)))))
         obtain rfl:=ae h_30
         exact cu
        ·refine aD rfl hc_36 wz (aG pl98_10 rfl 10 rfl wa (aC 0 0 il ft sz3 ag3 rfl rfl (vI e_1.Prio) rfl wa ?_))
         obtain ⟨r_37,hr_38,h_30⟩:=bind_some h_30
         refine aF (bA hr_38) rfl rC rfl rfl rfl rfl wa (aa (vB r_37) (af ?_))
         obtain rfl:=ae h_30
         exact cu
      ·rintro ⟨⟩ _ sl_ H_ hp_ hq_
       refine aO _ hp_ hq_ ?_
       rcases aj hF with⟨hc_39,hF⟩|⟨hc_39,hF⟩
       ·refine aB rfl hc_39 (ai (aa (vI 1) (af ?_)))
        obtain rfl:=ae hF
        exact aA (aL [(vI 1)] ⟨rfl,trivial⟩)
       ·refine ay rfl hc_39 (ax (ai (aG pl98_11 rfl 11 rfl wz (aC 0 0 il ft zf AR rfl rfl (vL eS e_1.Tags) rfl wz ?_))))
        obtain ⟨r_40,hr_41,hF⟩:=bind_some hF
        refine aF (xJ hr_41) rfl hb107 rfl rfl rfl rfl wz (aa (vI r_40) (af ?_))
        obtain rfl:=ae hF
        exact aA (aL [(vI r_40)] ⟨rfl,trivial⟩)
theorem u7 {l_1:(List Entry)} {r:Int} (hF:gN l_1=some r) :
  FnM Tryz.prog 65 [(vL Entry.enc l_1)] [] (vI r) []:=by
 refine FnM.of_wH ⟨Tryz.prog,35,[],[]⟩ rfl Tryz.func65 rfl rfl (lb_ rfl) (by kernel_rfl) ?_
 unfold gN at hF
 refine ai (aa (vI 0) (af (ak (ai (aa (vL Entry.enc l_1) (bH un129 rfl wz (aa (vB (decide ((l_1.length:Int)>200))) (af ?_))))))))
 rcases aj hF with⟨hc_2,hF⟩|⟨hc_2,hF⟩
 ·refine aB rfl hc_2 (ai (aa (vI 2) (af ?_)))
  obtain rfl:=ae hF
  exact aA (aL [(vI 2)] ⟨rfl,trivial⟩)
 ·refine ay rfl hc_2 (ax (ak (ai (aa (vL Entry.enc l_1) (bH un129 rfl wz (aa (vI 0) (af ?_)))))))
  obtain ⟨o_11,hj_12,hF⟩:=bind_some hF
  obtain ⟨hn_7,hj_12⟩:=aY hj_12
  refine bN (λ(s_8:Unit)=>[]) (λ(s_8:Unit)=>[]) (λ(k_3:Nat)=>(λ(s_8:Unit)=>[(0,(vL Entry.enc l_1)),(9,(vL Entry.enc l_1)),(10,(vI (l_1.length:Int))),(11,(vI (k_3:Int)))])) (λk x s=>fH l_1 k x s) o_11 l_1 () hj_12 rfl (aK rfl) ?_ ?_
  ·rintro ⟨k_3,l_4,s_8⟩ ⟨hL_10,hD_6⟩
   dsimp only at hL_10 hD_6
   cases l_4 with
   | nil =>
    obtain rfl:=ae hL_10
    refine ai (aa (vB (decide ((k_3:Int)<(l_1.length:Int)))) (af ?_))
    refine ak (ay rfl (drop_nil hD_6) (aW ?_))
    exact aU (s_8) rfl rfl (aK rfl)
   | cons x_5 l_4 =>
    obtain ⟨c_,hc_9,hL_10⟩:=bind_some hL_10
    refine ai (aa (vB (decide ((k_3:Int)<(l_1.length:Int)))) (af ?_))
    refine ak (aB rfl (bu hD_6) (ax ?_))
    unfold fH at hc_9
    refine ak (aM (ai (aa (vI (k_3:Int)) (dC Pz rfl rfl (bD hD_6) rfl wz (bK KY Ov rfl (.d (.agg (Entry.enc x_5))) rfl wz (cz 0 (.inl rfl) z98 rfl wz (λn_13=>aa (vI (k_3:Int)) (eB 0 il ft 0 KY rfl rfl (Entry.v x_5) rfl wz (af (ak (ai (aC 0 0 il ft KY Ov rfl rfl (.d (.agg (Entry.enc x_5))) rfl wz ?_))))))))))))
    obtain ⟨r_14,hr_15,hc_9⟩:=bind_some hc_9
    refine aF (wS hr_15) rfl hb87 rfl rfl rfl rfl wz (aa (vI r_14) (af (ai (aa (vI r_14) (aa (vB (r_14 != 0)) (af ?_))))))
    rcases aj hc_9 with⟨hc_16,hc_9⟩|⟨hc_16,hc_9⟩
    ·refine aB rfl hc_16 (ai (aa (vI r_14) (aa (vI r_14) (af ?_))))
     obtain rfl:=ae hc_9
     obtain rfl:=ae hL_10
     obtain rfl:=ae hF
     exact aA (aL [(vI r_14)] ⟨rfl,trivial⟩)
    ·refine ay rfl hc_16 (ax (ak ?_))
     obtain ⟨v_17,h_18,hc_9⟩:=bind_some hc_9
     refine aS [(0,(vL Entry.enc l_1)),(9,(vL Entry.enc l_1)),(10,(vI (l_1.length:Int))),(11,(vI (k_3:Int))),(33,(vB v_17))] [(n_13,some (.cells 13 (Entry.v x_5)))] ?_ ?_
     ·refine bE (aa (vI (k_3:Int)) (aa (vB (decide ((k_3:Int)>0))) ?_))
      rcases aj h_18 with⟨hc_19,h_18⟩|⟨hc_19,h_18⟩
      ·refine aD rfl hc_19 wz (aG L6 rfl 0 rfl wa (aC 4 0 (.inr (by kernel_rfl)) (λ_ _ ag=>trivial) sz9 ag9 rfl rfl (vS x_5.Key) rfl wa (aJ (vL Entry.enc l_1) wa rfl (aJ (vI (k_3:Int)) wa rfl (aJ (vI (w64 ((k_3:Int)-1))) wa rfl ?_)))))
       obtain ⟨y_20,hy_21,h_18⟩:=bind_some h_18
       refine dC Pz rfl rfl hy_21 rfl wa (rQ L6 rfl (Entry.enc y_20) rfl rfl wa (bK sz9 ag9 rfl (vS y_20.Key) rfl wa (aJ (vB (sLe x_5.Key y_20.Key)) wa rfl (aa (vB (sLe x_5.Key y_20.Key)) (af ?_)))))
       obtain rfl:=ae h_18
       exact cu
      ·refine aD rfl hc_19 wz (ah (ah (ah (ah (ah (ah (ah (ah (ah (aa (vB false) (af ?_)))))))))))
       obtain rfl:=ae h_18
       exact cu
     ·rintro ⟨⟩ _ sl_ H_ hp_ hq_
      refine aO _ hp_ hq_ ?_
      rcases aj hc_9 with⟨hc_22,hc_9⟩|⟨hc_22,hc_9⟩
      ·refine aB rfl hc_22 (ai (aa (vI 7) (af ?_)))
       obtain rfl:=ae hc_9
       obtain rfl:=ae hL_10
       obtain rfl:=ae hF
       exact aA (aL [(vI 7)] ⟨rfl,trivial⟩)
      ·refine ay rfl hc_22 (ax (au (dB (bv hD_6 hn_7) wz rfl (aa (vI ((k_3+1:Nat):Int)) (af ?_)))))
       obtain rfl:=ae hc_9
       exact aV (k_3+1,l_4,()) ⟨hL_10,aR hD_6⟩ (ls_ _) rfl (aK rfl)
  ·rintro s_8 ho_ sl_ H_ hp_ hq_
   subst ho_
   refine aO _ hp_ hq_ (ai (aa (vI 0) (af ?_)))
   obtain rfl:=ae hF
   exact aA (aL [(vI 0)] ⟨rfl,trivial⟩)
theorem vT {wv_1:Window} {r:Int} (hF:jV wv_1=some r) :
  FnM Tryz.prog 66 [(.d (.agg (Window.enc wv_1)))] [] (vI r) []:=by
 refine FnM.of_wH ⟨Tryz.prog,19,[],[]⟩ rfl Tryz.func66 rfl rfl (lb_ rfl) (by kernel_rfl) ?_
 unfold jV at hF
 refine ai (gz 0 (.inl rfl) [(vI wv_1.From),(vI wv_1.To)] rfl rfl wz (λn_2=>aa (vI 0) (af (ak (ak ?_)))))
 obtain ⟨v_3,h_4,hF⟩:=bind_some hF
 refine aS [(1,(.ref n_2 0 0)),(12,(vB v_3))] [(n_2,some (.cells 2 [(vI wv_1.From),(vI wv_1.To)]))] ?_ ?_
 ·refine au (aG mF rfl 0 rfl wz (aC 0 0 il ft sz3 ag3 rfl rfl (vI wv_1.From) rfl wz (aG mq rfl 1 rfl wz (aC 0 0 il ft sz3 ag3 rfl rfl (vI wv_1.To) rfl wz ?_))))
  obtain ⟨r_5,hr_6,h_4⟩:=bind_some h_4
  refine aF (bA hr_6) rfl rC rfl rfl rfl rfl wz ?_
  rcases aj h_4 with⟨hc_7,h_4⟩|⟨hc_7,h_4⟩
  ·refine aD rfl hc_7 wz (ah (ah (ah (aa (vB true) (af ?_)))))
   obtain rfl:=ae h_4
   exact cu
  ·refine aD rfl hc_7 wz (aG mq rfl 1 rfl wa (aC 0 0 il ft sz3 ag3 rfl rfl (vI wv_1.To) rfl wa (aJ (vB (decide (wv_1.To>345686400000))) wa rfl (aa (vB (decide (wv_1.To>345686400000))) (af ?_)))))
   obtain rfl:=ae h_4
   exact cu
 ·rintro ⟨⟩ _ sl_ H_ hp_ hq_
  refine aO _ hp_ hq_ ?_
  rcases aj hF with⟨hc_8,hF⟩|⟨hc_8,hF⟩
  ·refine aB rfl hc_8 (ai (aa (vI 1) (af ?_)))
   obtain rfl:=ae hF
   exact aA (aL [(vI 1)] ⟨rfl,trivial⟩)
  ·refine ay rfl hc_8 (ax (ak (ai (aG mq rfl 1 rfl wz (aC 0 0 il ft sz3 ag3 rfl rfl (vI wv_1.To) rfl wz (aG mF rfl 0 rfl wz (aC 0 0 il ft sz3 ag3 rfl rfl (vI wv_1.From) rfl wz (aa (vI (w64 (wv_1.To-wv_1.From))) (aa (vB (decide ((w64 (wv_1.To-wv_1.From))>34560000000))) (af ?_))))))))))
   rcases aj hF with⟨hc_9,hF⟩|⟨hc_9,hF⟩
   ·refine aB rfl hc_9 (ai (aa (vI 2) (af ?_)))
    obtain rfl:=ae hF
    exact aA (aL [(vI 2)] ⟨rfl,trivial⟩)
   ·refine ay rfl hc_9 (ax (ai (aa (vI 0) (af ?_))))
    obtain rfl:=ae hF
    exact aA (aL [(vI 0)] ⟨rfl,trivial⟩)
theorem nz {x_1:Int} {r:Bool} (hF:cmp_isNaN_int x_1=some r) :
  FnM Tryz.prog 144 [(vI x_1)] [] (vB r) []:=by
 refine FnM.of_wH ⟨Tryz.prog,6,[],[]⟩ rfl Tryz.func144 rfl rfl (lb_ rfl) (by kernel_rfl) ?_
 unfold cmp_isNaN_int at hF
 refine ai (aa (vB false) (af (ai (aa (vI x_1) (aa (vI x_1) (aa (vB (x_1 != x_1)) (aa (vB (x_1 != x_1)) (af ?_))))))))
 obtain rfl:=ae hF
 exact aA (aL [(vB (x_1 != x_1))] ⟨rfl,trivial⟩)
theorem Dl {x_1:Int} {y_2:Int} {r:Bool} (hF:cmp_Less_int x_1 y_2=some r) :
  FnM Tryz.prog 122 [(vI x_1),(vI y_2)] [] (vB r) []:=by
 refine FnM.of_wH ⟨Tryz.prog,17,[],[]⟩ rfl Tryz.func122 rfl rfl (lb_ rfl) (by kernel_rfl) ?_
 unfold cmp_Less_int at hF
 refine ai (aa (vB false) (af (ak ?_)))
 obtain ⟨v_3,h_4,hF⟩:=bind_some hF
 refine aS [(4,(vB v_3))] [] ?_ ?_
 ·refine au (aa (vI x_1) ?_)
  obtain ⟨r_5,hr_6,h_4⟩:=bind_some h_4
  refine aF (nz hr_6) rfl Na rfl rfl rfl rfl wz ?_
  rcases aj h_4 with⟨hc_7,h_4⟩|⟨hc_7,h_4⟩
  ·refine aD rfl hc_7 wz (aJ (vI y_2) wa rfl ?_)
   obtain ⟨r_8,hr_9,h_4⟩:=bind_some h_4
   refine aF (nz hr_9) rfl Na rfl rfl rfl rfl wa (aJ (vB (!r_8)) wa rfl (aa (vB (!r_8)) ?_))
   rcases aj h_4 with⟨hc_10,h_4⟩|⟨hc_10,h_4⟩
   ·refine aD rfl hc_10 wz (ah (ah (ah (aa (vB true) (aa (vB true) (af ?_))))))
    obtain rfl:=ae h_4
    exact cu
   ·refine aD rfl hc_10 wz (aJ (vI x_1) wa rfl (aJ (vI y_2) wa rfl (aJ (vB (decide (x_1<y_2))) wa rfl (aa (vB (decide (x_1<y_2))) (aa (vB (decide (x_1<y_2))) (af ?_))))))
    obtain rfl:=ae h_4
    exact cu
  ·refine aD rfl hc_7 wz (ah (ah (ah (aa (vB false) (aa (vB false) (aJ (vI x_1) wa rfl (aJ (vI y_2) wa rfl (aJ (vB (decide (x_1<y_2))) wa rfl (aa (vB (decide (x_1<y_2))) (aa (vB (decide (x_1<y_2))) (af ?_)))))))))))
   obtain rfl:=ae h_4
   exact cu
 ·rintro ⟨⟩ _ sl_ H_ hp_ hq_
  refine aO _ hp_ hq_ ?_
  obtain rfl:=ae hF
  exact aA (aL [(vB v_3)] ⟨rfl,trivial⟩)
theorem rR {x_1:Int} {r:Bool} (hF:jf x_1=some r) :
  FnM Tryz.prog 129 [(vI x_1)] [] (vB r) []:=by
 refine FnM.of_wH ⟨Tryz.prog,6,[],[]⟩ rfl Tryz.func129 rfl rfl (lb_ rfl) (by kernel_rfl) ?_
 unfold jf at hF
 refine ai (aa (vB false) (af (ai (aa (vI x_1) (aa (vI x_1) (aa (vB (x_1 != x_1)) (aa (vB (x_1 != x_1)) (af ?_))))))))
 obtain rfl:=ae hF
 exact aA (aL [(vB (x_1 != x_1))] ⟨rfl,trivial⟩)
theorem qa {x_1:(List Int)} {target_2:Int} {r:Int×Bool} (hF:eu x_1 target_2=some r) :
  FnM Tryz.prog 108 [(vL eI x_1),(vI target_2)] [] (.tup [(vI r.1),(vB r.2)]) []:=by
 refine FnM.of_wH ⟨Tryz.prog,54,[],[]⟩ rfl Tryz.func108 rfl rfl (lb_ rfl) (by kernel_rfl) ?_
 unfold eu at hF
 refine ai (aa (vI 0) (aa (vB false) (af (ai (aa (vL eI x_1) (bH uT rfl wz (aa (vI (x_1.length:Int)) (af (ai (aa (vI (x_1.length:Int)) (aa (vI 0) (aa (vI (x_1.length:Int)) (af (ak ?_))))))))))))))
 obtain ⟨o_11,hj_12,hF⟩:=bind_some hF
 obtain ⟨nq_34,hj_12⟩:=dR hj_12
 refine gD (λ(s_8:Int×Int)=>[(0,(vL eI x_1)),(1,(vI target_2)),(6,(vI (x_1.length:Int))),(7,(vI s_8.1))]) (λ(s_8:Int×Int)=>[]) (λ(k_3:Nat)=>(λ(s_8:Int×Int)=>[(0,(vL eI x_1)),(1,(vI target_2)),(6,(vI (x_1.length:Int))),(7,(vI s_8.1)),(8,(vI s_8.2))])) (λs=>fo x_1 target_2 s) o_11 nq_34 (0,(x_1.length:Int)) hj_12 rfl (aK rfl) ?_ ?_
 ·rintro ⟨k_3,s_8⟩ hL_10
  dsimp only at hL_10
  cases k_3 with
  | zero=>cases hL_10
  | succ k_3 =>
   obtain ⟨c_,hc_9,hL_10⟩:=bind_some hL_10
   unfold fo at hc_9
   refine ak (ai (aa (vI s_8.1) (aa (vI s_8.2) (aa (vB (decide (s_8.1<s_8.2))) (af ?_)))))
   rcases aj hc_9 with⟨hc_13,hc_9⟩|⟨hc_13,hc_9⟩
   ·refine aB rfl hc_13 (ax (aM (ai (aa (vI s_8.1) (aa (vI s_8.2) (aa (vI (w64 (s_8.1+s_8.2))) (zH un3 Kg rfl wz ?_)))))))
    obtain ⟨q_14,hz_15,hc_9⟩:=bind_some hc_9
    refine JN rfl rfl hz_15 wz (zH Kg un3 rfl wz (aa (vI (w64 q_14)) (af (ai (aa (vL eI x_1) (aa (vI (w64 q_14)) ?_))))))
    obtain ⟨y_16,hy_17,hc_9⟩:=bind_some hc_9
    refine dC gq rfl rfl hy_17 rfl wz (bK sz3 ag3 rfl (vI y_16) rfl wz (aa (vI target_2) ?_))
    obtain ⟨r_18,hr_19,hc_9⟩:=bind_some hc_9
    refine aF (Dl hr_19) rfl hb122 rfl rfl rfl rfl wz (af ?_)
    rcases aj hc_9 with⟨hc_20,hc_9⟩|⟨hc_20,hc_9⟩
    ·refine aB rfl hc_20 (au (aa (vI (w64 q_14)) (aa (vI (w64 ((w64 q_14)+1))) (aa (vI (w64 ((w64 q_14)+1))) (af ?_)))))
     obtain rfl:=ae hc_9
     exact aV (k_3,((w64 ((w64 q_14)+1)),s_8.2)) hL_10 (ls_ _) rfl (aK rfl)
    ·refine ay rfl hc_20 (au (aa (vI (w64 q_14)) (aa (vI (w64 q_14)) (af ?_))))
     obtain rfl:=ae hc_9
     exact aV (k_3,(s_8.1,(w64 q_14))) hL_10 (ls_ _) rfl (aK rfl)
   ·refine ay rfl hc_13 (aW ?_)
    obtain rfl:=ae hc_9
    obtain rfl:=ae hL_10
    exact aU ((s_8.1,s_8.2)) rfl rfl (aK rfl)
 ·rintro s_8 ho_ sl_ H_ hp_ hq_
  subst ho_
  refine aO _ hp_ hq_ (ak ?_)
  obtain ⟨v_21,h_22,hF⟩:=bind_some hF
  refine aS [(4,(vI s_8.1)),(5,(vB v_21))] [] ?_ ?_
  ·refine au (aa (vI s_8.1) (aa (vI s_8.1) (aa (vI (x_1.length:Int)) (aa (vB (decide (s_8.1<(x_1.length:Int)))) ?_))))
   rcases aj h_22 with⟨hc_23,h_22⟩|⟨hc_23,h_22⟩
   ·refine aD rfl hc_23 wz (aJ (vL eI x_1) wa rfl (aJ (vI s_8.1) wa rfl ?_))
    obtain ⟨y_24,hy_25,h_22⟩:=bind_some h_22
    refine dC gq rfl rfl hy_25 rfl wa (bK sz3 ag3 rfl (vI y_24) rfl wa (aJ (vI target_2) wa rfl (aJ (vB (y_24==target_2)) wa rfl ?_)))
    rcases aj h_22 with⟨hc_26,h_22⟩|⟨hc_26,h_22⟩
    ·refine aD rfl hc_26 wa (ah (ah (ah (ah (ah (ah (bZ (wn rfl rfl) (bZ (wn rfl rfl) (ah (aJ (vB true) wa rfl (aa (vB true) (aa (vI s_8.1) (aa (vB true) (af ?_))))))))))))))
     obtain rfl:=ae h_22
     exact cu
    ·refine aD rfl hc_26 wa (aJ (vL eI x_1) wa rfl (aJ (vI s_8.1) wa rfl ?_))
     obtain ⟨y_27,hy_28,h_22⟩:=bind_some h_22
     refine dC gq rfl rfl hy_28 rfl wa (bK sz3 ag3 rfl (vI y_27) rfl wa ?_)
     obtain ⟨r_29,hr_30,h_22⟩:=bind_some h_22
     refine aF (rR hr_30) rfl hb129 rfl rfl rfl rfl wa ?_
     rcases aj h_22 with⟨hc_31,h_22⟩|⟨hc_31,h_22⟩
     ·refine aD rfl hc_31 wa (aJ (vI target_2) wa rfl ?_)
      obtain ⟨r_32,hr_33,h_22⟩:=bind_some h_22
      refine aF (rR hr_33) rfl hb129 rfl rfl rfl rfl wa (aJ (vB r_32) wa rfl (aJ (vB r_32) wa rfl (aa (vB r_32) (aa (vI s_8.1) (aa (vB r_32) (af ?_))))))
      obtain rfl:=ae h_22
      exact cu
     ·refine aD rfl hc_31 wa (ah (ah (aJ (vB false) wa rfl (aJ (vB false) wa rfl (aa (vB false) (aa (vI s_8.1) (aa (vB false) (af ?_))))))))
      obtain rfl:=ae h_22
      exact cu
   ·refine aD rfl hc_23 wz (ah (ah (ah (ah (ah (ah (ah (bZ (wn rfl rfl) (bZ (wn rfl rfl) (bZ (wn rfl rfl) (bZ (wn rfl rfl) (bZ (wn rfl rfl) (bZ (wn rfl rfl) (bZ (wn rfl rfl) (bZ (wn rfl rfl) (bZ (wn rfl rfl) (ah (aa (vB false) (aa (vI s_8.1) (aa (vB false) (af ?_)))))))))))))))))))))
    obtain rfl:=ae h_22
    exact cu
  ·rintro ⟨⟩ _ sl_ H_ hp_ hq_
   refine aO _ hp_ hq_ ?_
   obtain rfl:=ae hF
   exact aA (aL [(vI s_8.1),(vB v_21)] ⟨rfl,⟨rfl,trivial⟩⟩)
theorem Bp {e_1:Entry} {d_2:Int} {r:Bool} (hF:mg e_1 d_2=some r) :
  FnM Tryz.prog 88 [(.d (.agg (Entry.enc e_1))),(vI d_2)] [] (vB r) []:=by
 refine FnM.of_wH ⟨Tryz.prog,41,[],[]⟩ rfl Tryz.func88 rfl rfl (lb_ rfl) (by kernel_rfl) ?_
 unfold mg at hF
 refine ai (gz 0 (.inl rfl) (Entry.v e_1) rfl rfl wz (λn_3=>aa (vB false) (af (ak (ak ?_)))))
 obtain ⟨v_4,h_5,hF⟩:=bind_some hF
 refine aS [(1,(vI d_2)),(2,(.ref n_3 0 0)),(31,(vB v_4))] [(n_3,some (.cells 13 (Entry.v e_1)))] ?_ ?_
 ·refine bE (aa (vI d_2) (aG Ik rfl 3 rfl wz (aC 2 0 (.inr (by kernel_rfl)) (λ_ _ ag=>trivial) sz3 ag3 rfl rfl (vI e_1.First) rfl wz (aG IL rfl 4 rfl wz (aC 4 0 (.inr (by kernel_rfl)) (λ_ _ ag=>⟨.inl ⟨rfl,rfl⟩,trivial⟩) sz3 ag3 rfl rfl (vI e_1.Last) rfl wz ?_)))))
  obtain ⟨r_6,hr_7,h_5⟩:=bind_some h_5
  refine aF (bA hr_7) rfl rC rfl rfl rfl rfl wz ?_
  rcases aj h_5 with⟨hc_8,h_5⟩|⟨hc_8,h_5⟩
  ·refine aD rfl hc_8 wz (ah (ah (ah (ah (ah (ah (ah (ah (aa (vB true) (aa (vB true) (ah (ah (ah (ah (ah (ah (ah (aa (vB true) (af ?_)))))))))))))))))))
   obtain rfl:=ae h_5
   exact cu
  ·refine aD rfl hc_8 wz (aJ (vI d_2) wa rfl (aG Ik rfl 3 rfl wa (aC 9 0 (.inr (by kernel_rfl)) (λ_ _ ag=>⟨.inl ⟨rfl,rfl⟩,⟨.inl ⟨rfl,rfl⟩,trivial⟩⟩) sz3 ag3 rfl rfl (vI e_1.First) rfl wa (aJ (vI (w64 (d_2-e_1.First))) wa rfl (aG Pb rfl 5 rfl wa (aC 12 0 (.inr (by kernel_rfl)) (λ_ _ ag=>⟨.inl ⟨rfl,rfl⟩,⟨.inl ⟨rfl,rfl⟩,⟨.inl ⟨rfl,rfl⟩,trivial⟩⟩⟩) sz3 ag3 rfl rfl (vI e_1.Every) rfl wa ?_))))))
   obtain ⟨q_9,hz_10,h_5⟩:=bind_some h_5
   refine QD rfl rfl hz_10 wa (aJ (vB (q_9 != 0)) wa rfl (aa (vB (q_9 != 0)) ?_))
   rcases aj h_5 with⟨hc_11,h_5⟩|⟨hc_11,h_5⟩
   ·refine aD rfl hc_11 wz (ah (ah (ah (ah (ah (ah (ah (aa (vB true) (af ?_)))))))))
    obtain rfl:=ae h_5
    exact cu
   ·refine aD rfl hc_11 wz (aG Qo rfl 6 rfl wa (aC 18 0 (.inr (by kernel_rfl)) (λ_ _ ag=>⟨.inl ⟨rfl,rfl⟩,⟨.inl ⟨rfl,rfl⟩,⟨.inl ⟨rfl,rfl⟩,⟨.inl ⟨rfl,rfl⟩,trivial⟩⟩⟩⟩) sz3 ag3 rfl rfl (vI e_1.Days) rfl wa (aJ (vI d_2) wa rfl (aJ (vI (d_2.tmod 7)) wa rfl ?_))))
    obtain ⟨q_12,hz_13,h_5⟩:=bind_some h_5
    refine h_shl rfl rfl hz_13 wa (aJ (vI (Qt .i64 e_1.Days q_12)) wa rfl (aJ (vB ((Qt .i64 e_1.Days q_12)==0)) wa rfl (aa (vB ((Qt .i64 e_1.Days q_12)==0)) (af ?_))))
    obtain rfl:=ae h_5
    exact cu
 ·rintro ⟨⟩ _ sl_ H_ hp_ hq_
  refine aO _ hp_ hq_ ?_
  rcases aj hF with⟨hc_14,hF⟩|⟨hc_14,hF⟩
  ·refine aB rfl hc_14 (ai (aa (vB false) (af ?_)))
   obtain rfl:=ae hF
   exact aA (aL [(vB false)] ⟨rfl,trivial⟩)
  ·refine ay rfl hc_14 (ax (ai (aG O9 rfl 7 rfl wz (aC 0 0 il ft uS xu rfl rfl (vL eI e_1.Except) rfl wz (aa (vI d_2) ?_)))))
   obtain ⟨r_15,hr_16,hF⟩:=bind_some hF
   refine aF (qa hr_16) rfl hb108 rfl rfl rfl rfl wz (aa (.tup [(vI r_15.1),(vB r_15.2)]) (aa (vI r_15.1) (aa (vB r_15.2) (aa (vI r_15.1) (aa (vB r_15.2) (af (ai (aa (vB r_15.2) (aa (vB (!r_15.2)) (aa (vB (!r_15.2)) (af ?_)))))))))))
   obtain rfl:=ae hF
   exact aA (aL [(vB (!r_15.2))] ⟨rfl,trivial⟩)
theorem zQ {e_1:Entry} {zone_2:Int} {d_3:Int} {r:Window} (hF:ou e_1 zone_2 d_3=some r) :
  FnM Tryz.prog 89 [(.d (.agg (Entry.enc e_1))),(vI zone_2),(vI d_3)] [] (.d (.agg (Window.enc r))) []:=by
 refine FnM.of_wH ⟨Tryz.prog,32,[],[]⟩ rfl Tryz.func89 rfl rfl (lb_ rfl) (by kernel_rfl) ?_
 unfold ou at hF
 refine ai (gz 0 (.inl rfl) (Entry.v e_1) rfl rfl wz (λn_4=>cz 0 (.inl rfl) z46 rfl wz (λn_5=>af (ai (aG Qb rfl 9 rfl wz (aC 0 0 il ft sz3 ag3 rfl rfl (vI e_1.To) rfl wz (aG Lr rfl 8 rfl wz (aC 0 0 il ft sz3 ag3 rfl rfl (vI e_1.From) rfl wz (aa (vI (w64 (e_1.To-e_1.From))) (aa (vI (w64 (e_1.To-e_1.From))) (af (ak (ai (aa (vI (w64 (e_1.To-e_1.From))) (aa (vB (decide ((w64 (e_1.To-e_1.From))<=0))) (af ?_))))))))))))))))
 obtain ⟨v_6,h_7,hF⟩:=bind_some hF
 refine aS [(1,(vI zone_2)),(2,(vI d_3)),(3,(.ref n_4 0 0)),(6,(.ref n_5 0 0)),(7,(vI v_6))] [(n_4,some (.cells 13 (Entry.v e_1))),(n_5,some (.cells 2 [(vI 0),(vI 0)]))] ?_ ?_
 ·rcases aj h_7 with⟨hc_8,h_7⟩|⟨hc_8,h_7⟩
  ·refine aB rfl hc_8 (au (aa (vI (w64 (e_1.To-e_1.From))) (aa (vI (w64 ((w64 (e_1.To-e_1.From))+1440))) (aa (vI (w64 ((w64 (e_1.To-e_1.From))+1440))) (af ?_)))))
   obtain rfl:=ae h_7
   exact cu
  ·refine ay rfl hc_8 (ax ?_)
   obtain rfl:=ae h_7
   exact cu
 ·rintro ⟨⟩ _ sl_ H_ hp_ hq_
  refine aO _ hp_ hq_ (ai (aa (vI d_3) (aa (vI (w64 (d_3*1440))) (aG Lr rfl 8 rfl wz (aC 0 0 il ft sz3 ag3 rfl rfl (vI e_1.From) rfl wz (aa (vI (w64 ((w64 (d_3*1440))+e_1.From))) (aa (vI zone_2) (aa (vI (w64 ((w64 ((w64 (d_3*1440))+e_1.From))-zone_2))) (aa (vI (w64 ((w64 ((w64 ((w64 (d_3*1440))+e_1.From))-zone_2))*60000))) (aa (vI (w64 ((w64 ((w64 ((w64 (d_3*1440))+e_1.From))-zone_2))*60000))) (af (ai (aa (vI (w64 ((w64 ((w64 ((w64 (d_3*1440))+e_1.From))-zone_2))*60000))) (aa (vI (w64 ((w64 ((w64 ((w64 (d_3*1440))+e_1.From))-zone_2))*60000))) (aa (vI v_6) (aa (vI (w64 (v_6*60000))) (aa (vI (w64 ((w64 ((w64 ((w64 ((w64 (d_3*1440))+e_1.From))-zone_2))*60000))+(w64 (v_6*60000))))) (aJ (.d (.agg (Window.enc (⟨(w64 ((w64 ((w64 ((w64 (d_3*1440))+e_1.From))-zone_2))*60000)),(w64 ((w64 ((w64 ((w64 ((w64 (d_3*1440))+e_1.From))-zone_2))*60000))+(w64 (v_6*60000))))⟩:Window)))) wz (by kernel_rfl) (eB 0 il ft 1 xC rfl rfl [(vI (w64 ((w64 ((w64 ((w64 (d_3*1440))+e_1.From))-zone_2))*60000))),(vI (w64 ((w64 ((w64 ((w64 ((w64 (d_3*1440))+e_1.From))-zone_2))*60000))+(w64 (v_6*60000)))))] rfl wz (af ?_))))))))))))))))))))
  obtain rfl:=ae hF
  exact aA (aL [(.d (.agg (Window.enc (⟨(w64 ((w64 ((w64 ((w64 (d_3*1440))+e_1.From))-zone_2))*60000)),(w64 ((w64 ((w64 ((w64 ((w64 (d_3*1440))+e_1.From))-zone_2))*60000))+(w64 (v_6*60000))))⟩:Window))))] ⟨⟨1,_,_,_,_,_,_,_,rfl,rfl,xC,Dj,rfl⟩,trivial⟩)
end Go.Proofs.YtkjlhdminmpmkacGreatDoor.Law

