/-
 The machine computes these plain functions (written by a program of ours).
-/
import Derived.Test.YtkjlhdminmpmkacGreatDoorFacts
import Derived.Test.YtkjlhdminmpmkacGreatDoorDefs
import Derived.Test.YtkjlhdminmpmkacGreatDoorPf3
import Derived.Test.YtkjlhdminmpmkacGreatDoorShelf
open Go Go.Eng Go.Proofs
namespace Go.Proofs.YtkjlhdminmpmkacGreatDoor.Law
set_option maxRecDepth 100000
set_option linter.unusedVariables false
set_option maxHeartbeats 1000000
theorem xV {c_1:Campaign} {atv_2:Int} {r:Int} (hF:mE c_1 atv_2=some r) :
  FnM Tryz.prog 58 [(.d (.agg (Campaign.enc c_1))),(vI atv_2)] [] (vI r) []:=by
 refine FnM.of_wH ⟨Tryz.prog,35,[],[]⟩ rfl Tryz.func58 rfl rfl (lb_ rfl) (by kernel_rfl) ?_
 unfold mE at hF
 refine ai (gz 0 (.inl rfl) (Campaign.v c_1) rfl rfl wz (λn_3=>aa (vI 0) (af (ak (aM (ai (aa (vI atv_2) (aG qZ rfl 2 rfl wz (aG mF rfl 2 rfl wz (aC 0 0 il ft sz3 ag3 rfl rfl (vI c_1.Time.From) rfl wz (aa (vB (decide (atv_2<c_1.Time.From))) (aa (vB (decide (atv_2<c_1.Time.From))) (af ?_)))))))))))))
 rcases aj hF with⟨hc_4,hF⟩|⟨hc_4,hF⟩
 ·refine aB rfl hc_4 (ai (aa (vI 0) (af ?_)))
  obtain rfl:=ae hF
  exact aA (aL [(vI 0)] ⟨rfl,trivial⟩)
 ·refine ay rfl hc_4 (ai (aa (vI atv_2) (aG qZ rfl 2 rfl wz (aG mq rfl 3 rfl wz (aC 0 0 il ft sz3 ag3 rfl rfl (vI c_1.Time.To) rfl wz (aa (vB (decide (atv_2>=c_1.Time.To))) (aa (vB (decide (atv_2>=c_1.Time.To))) (af ?_))))))))
  rcases aj hF with⟨hc_5,hF⟩|⟨hc_5,hF⟩
  ·refine aB rfl hc_5 (ai (aG zT rfl 5 rfl wz (aC 0 0 il ft sz3 ag3 rfl rfl (vI c_1.Goal) rfl wz (aa (vI c_1.Goal) (af ?_)))))
   obtain rfl:=ae hF
   exact aA (aL [(vI c_1.Goal)] ⟨rfl,trivial⟩)
  ·refine ay rfl hc_5 (ax (ai (aG zT rfl 5 rfl wz (aC 0 0 il ft sz3 ag3 rfl rfl (vI c_1.Goal) rfl wz (aa (vI atv_2) (aG qZ rfl 2 rfl wz (aG mF rfl 2 rfl wz (aC 0 0 il ft sz3 ag3 rfl rfl (vI c_1.Time.From) rfl wz (aa (vI (w64 (atv_2-c_1.Time.From))) (aa (vI (w64 (c_1.Goal*(w64 (atv_2-c_1.Time.From))))) (aG qZ rfl 2 rfl wz (aG mq rfl 3 rfl wz (aC 0 0 il ft sz3 ag3 rfl rfl (vI c_1.Time.To) rfl wz (aG qZ rfl 2 rfl wz (aG mF rfl 2 rfl wz (aC 0 0 il ft sz3 ag3 rfl rfl (vI c_1.Time.From) rfl wz (aa (vI (w64 (c_1.Time.To-c_1.Time.From))) ?_)))))))))))))))))
   obtain ⟨q_6,hz_7,hF⟩:=bind_some hF
   refine Qx rfl rfl hz_7 wz (aa (vI q_6) (af (aO (H0:=([(n_3,some (.cells 8 (Campaign.v c_1)))]:Hp)) ([(4,(vI q_6))]:SL_) (by kernel_rfl) (wG (by kernel_rfl)) ?_)))
   obtain rfl:=ae hF
   exact aA (aL [(vI q_6)] ⟨rfl,trivial⟩)
theorem ut {l_1:(List Pace)} {r:(List Pace)} (hF:iW l_1=some r) :
  FnM Tryz.prog 13 [(dV (av 0) 3 l_1)] (([]:List Box)++gI 3 Pace.enc l_1) (.tup []) (([]:List Box).map some++gT l_1 (gB 3 Pace.enc r)):=by
 refine FnM.of_wHv ⟨Tryz.prog,14,[],[]⟩ rfl Tryz.func13 rfl rfl (lb_ rfl) (by kernel_rfl) ?_
 unfold iW at hF
 refine ai (cz 0 (.inl rfl) z54 rfl wz (λn_2=>af (ai (aa (dV (av 0) 3 l_1) (Co un49 rfl wz (aa (vI 0) (af ?_)))))))
 obtain ⟨o_11,hj_12,hF⟩:=bind_some hF
 obtain ⟨hn_7,hj_12⟩:=aY hj_12
 refine bN (λ(s_8:List Pace)=>[]) (λ(s_8:List Pace)=>[((av 0),gB 3 Pace.enc s_8),(n_2,some (.cells 3 [(vS (⟨#[]⟩:ByteArray)),(vI 0),(vI 0)]))]) (λ(k_3:Nat)=>(λ(s_8:List Pace)=>[(0,(dV (av 0) 3 s_8)),(2,(.ref n_2 0 0)),(5,(vI (l_1.length:Int))),(6,(vI (k_3:Int)))])) (λk x s=>gM k x s) o_11 (List.range ((l_1.length:Int)).toNat) l_1 hj_12 rfl (aK rfl) ?_ ?_
 ·rintro ⟨k_3,l_4,s_8⟩ ⟨hL_10,hD_6⟩
  dsimp only at hL_10 hD_6
  cases l_4 with
  | nil =>
   obtain rfl:=ae hL_10
   refine ai (aa (vB (decide ((k_3:Int)<(l_1.length:Int)))) (af ?_))
   refine ak (ay rfl (oV hD_6) (aW ?_))
   exact aU (s_8) rfl rfl (aK rfl)
  | cons x_5 l_4 =>
   obtain ⟨c_,hc_9,hL_10⟩:=bind_some hL_10
   refine ai (aa (vB (decide ((k_3:Int)<(l_1.length:Int)))) (af ?_))
   refine ak (aB rfl (mP hD_6) (ax ?_))
   unfold gM at hc_9
   refine ak (aM (ai (aa (vI (k_3:Int)) (aa (vI (k_3:Int)) (af (au (aa (dV (av 0) 3 s_8) (aa (vI (k_3:Int)) (aC 0 1 il ft Pj ag54 rfl rfl (.d (.agg (Pace.enc (⟨(⟨#[]⟩:ByteArray),0,0⟩:Pace)))) rfl wz ?_)))))))))
   obtain ⟨_,hi_13,hc_9⟩:=bind_some hc_9
   refine tT es49 rfl rfl (gp hi_13) (dK hi_13) wz ?_
   obtain ⟨e_14,hy_15,hc_9⟩:=bind_some hc_9
   refine wI 0 il ft 0 Pj rfl rfl hy_15 (⟨(⟨#[]⟩:ByteArray),0,0⟩:Pace) rfl wz (gG (v':=(dV (av 0) 3 (s_8.set (0+((k_3:Int)).toNat) (⟨(⟨#[]⟩:ByteArray),0,0⟩:Pace)))) 0 rfl (j4 (by simp)) (gG (v':=(dV (av 0) 3 (s_8.set (0+((k_3:Int)).toNat) (⟨(⟨#[]⟩:ByteArray),0,0⟩:Pace)))) 9 rfl (j4 (by simp)) (af (au (dB (oO hD_6 hn_7) wz rfl (aa (vI ((k_3+1:Nat):Int)) (af ?_)))))))
   obtain rfl:=ae hc_9
   exact aV (k_3+1,l_4,(s_8.set (0+((k_3:Int)).toNat) (⟨(⟨#[]⟩:ByteArray),0,0⟩:Pace))) ⟨hL_10,aR hD_6⟩ (ls_ _) rfl (aK rfl)
 ·rintro s_8 ho_ sl_ H_ hp_ hq_
  subst ho_
  show tX _ _ _ _ _ _ _ _
  obtain rfl:=ae hF
  exact Ap (H0:=([((av 0),gB 3 Pace.enc s_8),(n_2,some (.cells 3 [(vS (⟨#[]⟩:ByteArray)),(vI 0),(vI 0)]))]:Hp)) (sl':=envS []) hq_ (FK (bs:=([]:List Box)) (os:=([]:List Box)) (xs:=l_1) (o:=gB 3 Pace.enc s_8) (.inl rfl) [] trivial rfl rfl rfl rfl rfl (by kernel_rfl) uf rfl)
theorem AC {l_1:(List Campaign)} {plays_2:(List Play)} {atv_3:Int} {r:(List Pace)} (hF:om l_1 plays_2 atv_3=some r) :
  FnM Tryz.prog 40 [(vL Campaign.enc l_1),(vL Play.enc plays_2),(vI atv_3)] [] (gV (av 0) 3 r) (([]:List Box).map some++gO 3 Pace.enc r):=by
 refine FnM.of_wH ⟨Tryz.prog,69,[],[]⟩ rfl Tryz.func40 rfl rfl (lb_ rfl) (by kernel_rfl) ?_
 unfold om at hF
 refine ai (aa .nil (af (ai (aa .nil (af (ak (ai (aa (vL Campaign.enc l_1) (bH BA rfl wz (aa (vI 0) (af (jv (λn_10 => ?_)))))))))))))
 obtain ⟨o_15,hj_16,hF⟩:=bind_some hF
 obtain ⟨hn_8,hj_16⟩:=aY hj_16
 refine fT (σ:=(List Pace)) (N:=Nm) (λp=>(λ(s_9:List Pace) (n_12:Nm)=>([(7,(gV n_12 3 s_9))]:SL_)) p.1 p.2) (λp=>(λ(s_9:List Pace) (n_12:Nm)=>([(n_12,gB 3 Pace.enc s_9)]:Hp)) p.1 p.2) (λ(k_4:Nat)=>(λp=>(λ(s_9:List Pace) (n_12:Nm)=>([(1,(vL Play.enc plays_2)),(2,(vI atv_3)),(7,(gV n_12 3 s_9)),(13,(vL Campaign.enc l_1)),(14,(vI (l_1.length:Int))),(15,(vI (k_4:Int)))]:SL_)) p.1 p.2)) (λk x s=>nk atv_3 plays_2 k x s) o_15 l_1 (([]:List Pace),n_10) hj_16 rfl (aK rfl) ?_ ?_
 ·rintro ⟨k_4,l_5,s_9,n_12⟩ ⟨hL_14,hD_7⟩
  dsimp only at hL_14 hD_7
  cases l_5 with
  | nil =>
   obtain rfl:=ae hL_14
   refine ai (aa (vB (decide ((k_4:Int)<(l_1.length:Int)))) (af ?_))
   refine ak (ay rfl (drop_nil hD_7) (aW ?_))
   exact aU (s_9,n_12) rfl rfl (aK rfl)
  | cons x_6 l_5 =>
   obtain ⟨c_,hc_13,hL_14⟩:=bind_some hL_14
   refine ai (aa (vB (decide ((k_4:Int)<(l_1.length:Int)))) (af ?_))
   refine ak (aB rfl (bu hD_7) (ax ?_))
   unfold nk at hc_13
   refine ak (aM (ai (dC Am rfl rfl (bD hD_7) rfl wz (bK oD vG rfl (.d (.agg (Campaign.enc x_6))) rfl wz (cz 0 (.inl rfl) z48 rfl wz (λn_17=>eB 0 il ft 1 oD rfl rfl (Campaign.v x_6) rfl wz (af (ak (bE (aG xe rfl 0 rfl wz (aC 1 1 (.inr (by kernel_rfl)) (λ_ _ ag=>trivial) sz9 ag9 rfl rfl (vS x_6.Key) rfl wz (aC 2 1 (.inr (by kernel_rfl)) (λ_ _ ag=>⟨.inl ⟨rfl,rfl⟩,trivial⟩) oD vG rfl rfl (.d (.agg (Campaign.enc x_6))) rfl wz (aa (vI atv_3) ?_)))))))))))))
   obtain ⟨r_18,hr_19,hc_13⟩:=bind_some hc_13
   refine aF (xV hr_19) rfl hb58 rfl rfl rfl rfl wz (aJ (.d (.agg (Pace.enc (⟨x_6.Key,r_18,0⟩:Pace)))) wz (by kernel_rfl) (cz 6 (.inr (by kernel_rfl)) z54 rfl wz (λn_20=>eB 7 (.inr (by kernel_rfl)) (λ_ _ ag=>⟨.inr (.inr (by kernel_rfl)),⟨.inr (.inr (by kernel_rfl)),⟨.inr (.inr (by kernel_rfl)),trivial⟩⟩⟩) 2 Pj rfl rfl [(vS x_6.Key),(vI r_18),(vI 0)] rfl wz (af (ak (ai (aa (vL Play.enc plays_2) (bH Oj rfl wz (aa (vI 0) (af ?_))))))))))
   obtain ⟨o_29,hj_30,hc_13⟩:=bind_some hc_13
   obtain ⟨hn_25,hj_30⟩:=aY hj_30
   refine bN (λ(s_26:Int)=>[(1,(vL Play.enc plays_2)),(2,(vI atv_3)),(7,(gV n_12 3 s_9)),(10,(.ref n_20 0 0)),(13,(vL Campaign.enc l_1)),(14,(vI (l_1.length:Int))),(15,(vI (k_4:Int)))]) (λ(s_26:Int)=>[(n_12,gB 3 Pace.enc s_9),(n_17,some (.cells 8 (Campaign.v x_6))),(n_20,some (.cells 3 [(vS x_6.Key),(vI r_18),(vI s_26)]))]) (λ(k_21:Nat)=>(λ(s_26:Int)=>[(1,(vL Play.enc plays_2)),(2,(vI atv_3)),(7,(gV n_12 3 s_9)),(9,(.ref n_17 0 0)),(10,(.ref n_20 0 0)),(13,(vL Campaign.enc l_1)),(14,(vI (l_1.length:Int))),(15,(vI (k_4:Int))),(25,(vL Play.enc plays_2)),(26,(vI (plays_2.length:Int))),(27,(vI (k_21:Int)))])) (λk x s=>kL x_6 atv_3 k x s) o_29 plays_2 0 hj_30 rfl (aK rfl) ?_ ?_
   ·rintro ⟨k_21,l_22,s_26⟩ ⟨hL_28,hD_24⟩
    dsimp only at hL_28 hD_24
    cases l_22 with
    | nil =>
     obtain rfl:=ae hL_28
     refine ai (aa (vB (decide ((k_21:Int)<(plays_2.length:Int)))) (af ?_))
     refine ak (ay rfl (drop_nil hD_24) (aW ?_))
     exact aU (s_26) rfl rfl (aK rfl)
    | cons x_23 l_22 =>
     obtain ⟨c_,hc_27,hL_28⟩:=bind_some hL_28
     refine ai (aa (vB (decide ((k_21:Int)<(plays_2.length:Int)))) (af ?_))
     refine ak (aB rfl (bu hD_24) (ax ?_))
     unfold kL at hc_27
     refine ak (aM (ai (dC PH rfl rfl (bD hD_24) rfl wz (bK FU Ql rfl (.d (.agg (Play.enc x_23))) rfl wz (cz 0 (.inl rfl) z64 rfl wz (λn_31=>eB 0 il ft 3 FU rfl rfl (Play.v x_23) rfl wz (af (ak ?_))))))))
     obtain ⟨v_32,h_33,hc_27⟩:=bind_some hc_27
     refine aS [(1,(vL Play.enc plays_2)),(2,(vI atv_3)),(7,(gV n_12 3 s_9)),(9,(.ref n_17 0 0)),(10,(.ref n_20 0 0)),(13,(vL Campaign.enc l_1)),(14,(vI (l_1.length:Int))),(15,(vI (k_4:Int))),(25,(vL Play.enc plays_2)),(26,(vI (plays_2.length:Int))),(27,(vI (k_21:Int))),(57,(vB v_32))] [(n_12,gB 3 Pace.enc s_9),(n_17,some (.cells 8 (Campaign.v x_6))),(n_20,some (.cells 3 [(vS x_6.Key),(vI r_18),(vI s_26)])),(n_31,some (.cells 4 (Play.v x_23)))] ?_ ?_
     ·refine au (aG PU rfl 1 rfl wz (aC 0 3 il ft sz9 ag9 rfl rfl (vS x_23.Item) rfl wz (aG xe rfl 0 rfl wz (aC 0 1 il ft sz9 ag9 rfl rfl (vS x_6.Key) rfl wz (aa (vB (sEq x_23.Item x_6.Key)) ?_)))))
      rcases aj h_33 with⟨hc_34,h_33⟩|⟨hc_34,h_33⟩
      ·refine aD rfl hc_34 wz (aG qZ rfl 2 rfl wa (aG mF rfl 2 rfl wa (aC 0 1 il ft sz3 ag3 rfl rfl (vI x_6.Time.From) rfl wa (aG Jd rfl 2 rfl wa (aC 0 3 il ft sz3 ag3 rfl rfl (vI x_23.At) rfl wa (aJ (vB (decide (x_6.Time.From<=x_23.At))) wa rfl (aa (vB (decide (x_6.Time.From<=x_23.At))) ?_)))))))
       rcases aj h_33 with⟨hc_35,h_33⟩|⟨hc_35,h_33⟩
       ·refine aD rfl hc_35 wz (aG Jd rfl 2 rfl wa (aC 0 3 il ft sz3 ag3 rfl rfl (vI x_23.At) rfl wa (aG qZ rfl 2 rfl wa (aG mq rfl 3 rfl wa (aC 0 1 il ft sz3 ag3 rfl rfl (vI x_6.Time.To) rfl wa (aJ (vB (decide (x_23.At<x_6.Time.To))) wa rfl (aa (vB (decide (x_23.At<x_6.Time.To))) ?_)))))))
        rcases aj h_33 with⟨hc_36,h_33⟩|⟨hc_36,h_33⟩
        ·refine aD rfl hc_36 wz (aG Jd rfl 2 rfl wa (aC 0 3 il ft sz3 ag3 rfl rfl (vI x_23.At) rfl wa (aJ (vI atv_3) wa rfl (aJ (vB (decide (x_23.At<atv_3))) wa rfl (aa (vB (decide (x_23.At<atv_3))) (af ?_))))))
         obtain rfl:=ae h_33
         exact cu
        ·refine aD rfl hc_36 wz (ah (ah (ah (ah (aa (vB false) (af ?_))))))
         obtain rfl:=ae h_33
         exact cu
       ·refine aD rfl hc_35 wz (ah (ah (ah (ah (ah (ah (aa (vB false) (aa (vB false) (ah (ah (ah (ah (aa (vB false) (af ?_))))))))))))))
        obtain rfl:=ae h_33
        exact cu
      ·refine aD rfl hc_34 wz (ah (ah (ah (ah (ah (ah (aa (vB false) (aa (vB false) (ah (ah (ah (ah (ah (ah (aa (vB false) (aa (vB false) (ah (ah (ah (ah (aa (vB false) (af ?_))))))))))))))))))))))
       obtain rfl:=ae h_33
       exact cu
     ·rintro ⟨⟩ _ sl_ H_ hp_ hq_
      refine aO _ hp_ hq_ ?_
      obtain ⟨v_37,h_38,hc_27⟩:=bind_some hc_27
      refine aS [(1,(vL Play.enc plays_2)),(2,(vI atv_3)),(7,(gV n_12 3 s_9)),(9,(.ref n_17 0 0)),(10,(.ref n_20 0 0)),(13,(vL Campaign.enc l_1)),(14,(vI (l_1.length:Int))),(15,(vI (k_4:Int))),(25,(vL Play.enc plays_2)),(26,(vI (plays_2.length:Int))),(27,(vI (k_21:Int)))] [(n_12,gB 3 Pace.enc s_9),(n_17,some (.cells 8 (Campaign.v x_6))),(n_20,some (.cells 3 [(vS x_6.Key),(vI r_18),(vI v_37)])),(n_31,some (.cells 4 (Play.v x_23)))] ?_ ?_
      ·rcases aj h_38 with⟨hc_39,h_38⟩|⟨hc_39,h_38⟩
       ·refine aB rfl hc_39 (au (aG PS rfl 2 rfl wz (aC 0 2 il ft sz3 ag3 rfl rfl (vI s_26) rfl wz (aa (vI (w64 (s_26+1))) (aG PS rfl 2 rfl wz (eB 0 il ft 2 sz3 rfl rfl [(vS x_6.Key),(vI r_18),(vI (w64 (s_26+1)))] rfl wz (af ?_)))))))
        obtain rfl:=ae h_38
        exact cu
       ·refine ay rfl hc_39 (ax ?_)
        obtain rfl:=ae h_38
        exact cu
      ·rintro ⟨⟩ _ sl_ H_ hp_ hq_
       refine aO _ hp_ hq_ (au (dB (bv hD_24 hn_25) wz rfl (aa (vI ((k_21+1:Nat):Int)) (af ?_))))
       obtain rfl:=ae hc_27
       exact aV (k_21+1,l_22,v_37) ⟨hL_28,aR hD_24⟩ (ls_ _) rfl (aK rfl)
   ·rintro s_26 ho_ sl_ H_ hp_ hq_
    subst ho_
    refine aO _ hp_ hq_ (au (aa (gV n_12 3 s_9) (aC 0 2 il ft Pj ag54 rfl rfl (.d (.agg (Pace.enc (⟨x_6.Key,r_18,s_26⟩:Pace)))) rfl wz (dU (([(⟨x_6.Key,r_18,s_26⟩:Pace)]:List Pace).map Pace.enc) es49 ez49 rfl rfl rfl rfl rfl wz ?_))))
    obtain ⟨a_40,hz_41,hc_13⟩:=bind_some hc_13
    refine kT 0 il ft (i:=0) el49 el49 Pj z54 rfl (by decide) by54 (by decide) (λ_=>rfl) rfl rfl rfl hz_41 wz (λn_42=>aa (gV n_42 3 a_40) (af (au (dB (bv hD_7 hn_8) wz rfl (aa (vI ((k_4+1:Nat):Int)) (af ?_))))))
    obtain rfl:=ae hc_13
    exact aV (k_4+1,l_5,a_40,n_42) ⟨hL_14,aR hD_7⟩ (ls_ _) rfl (aK rfl)
 ·rintro ⟨s_9,n_12⟩ ho_ sl_ H_ hp_ hq_
  subst ho_
  refine aO _ hp_ hq_ (ai (aa (gV n_12 3 s_9) (aa (gV n_12 3 s_9) (af ?_))))
  obtain rfl:=ae hF
  exact aA (Ma (outs:=([]:List Box)) (.inr rfl) 0 rfl rfl rfl (by kernel_rfl) (by kernel_rfl))
theorem Au {l_1:(List Campaign)} {plays_2:(List Play)} {atv_3:Int} {r:(List Pace)×Int} (hF:og l_1 plays_2 atv_3=some r) :
  FnM Tryz.prog 12 [(vL Campaign.enc l_1),(vL Play.enc plays_2),(vI atv_3)] [] (uK [.int .i64 r.2] (gV (av 0) 3 r.1)) (([]:List Box).map some++gO 3 Pace.enc r.1):=by
 refine FnM.of_wH ⟨Tryz.prog,20,[],[]⟩ rfl Tryz.func12 rfl rfl (lb_ rfl) (by kernel_rfl) ?_
 unfold og at hF
 refine ai (aa .nil (aa (vI 0) (af (ak (ai (aa (vL Campaign.enc l_1) (aa (vL Play.enc plays_2) (aa (vI atv_3) ?_))))))))
 obtain ⟨r_4,hr_5,hF⟩:=bind_some hF
 refine aF (xN hr_5) rfl hb39 rfl rfl rfl rfl wz (aa (vI r_4) (af (ai (aa (vI r_4) (aa (vB (r_4 != 0)) (af ?_))))))
 rcases aj hF with⟨hc_6,hF⟩|⟨hc_6,hF⟩
 ·refine aB rfl hc_6 (ai (aa (vI r_4) (aa .nil (aa (vI r_4) (af (jv (λn_7 => ?_)))))))
  obtain rfl:=ae hF
  exact aA (Fe (outs:=([]:List Box)) [.int .i64 r_4] (.inr rfl) 0 rfl ⟨rfl,trivial⟩ rfl rfl (by kernel_rfl) (by kernel_rfl))
 ·refine ay rfl hc_6 (ax (ai (aa (vL Campaign.enc l_1) (aa (vL Play.enc plays_2) (aa (vI atv_3) ?_)))))
  obtain ⟨r_8,hr_9,hF⟩:=bind_some hF
  refine Ip [] (AC hr_9) rfl hb40 rfl (by kernel_rfl) (by kernel_rfl) (by kernel_rfl) (by kernel_rfl) (by kernel_rfl) rfl (by decide) (by kernel_rfl) wz ([]:Hp) (λ_=>by kernel_rfl) (λn_11=>aa (gV n_11 3 r_8) (aa (vI 0) (af ?_)))
  obtain rfl:=ae hF
  exact aA (Fe (outs:=([]:List Box)) [.int .i64 0] (.inr rfl) 0 rfl ⟨rfl,trivial⟩ rfl rfl (by kernel_rfl) (by kernel_rfl))
theorem qE {s1_1:(List ByteArray)} {s2_2:(List ByteArray)} {r:Bool} (hF:eU s1_1 s2_2=some r) :
  FnM Tryz.prog 16 [(vL eS s1_1),(vL eS s2_2)] [] (vB r) []:=by
 refine FnM.of_wH ⟨Tryz.prog,26,[],[]⟩ rfl Tryz.func16 rfl rfl (lb_ rfl) (by kernel_rfl) ?_
 unfold eU at hF
 refine ai (aa (vB false) (af (ak (ai (aa (vL eS s1_1) (bH xq rfl wz (aa (vL eS s2_2) (bH xq rfl wz (aa (vB ((s1_1.length:Int) != (s2_2.length:Int))) (af ?_))))))))))
 rcases aj hF with⟨hc_3,hF⟩|⟨hc_3,hF⟩
 ·refine aB rfl hc_3 (ai (aa (vB false) (af ?_)))
  obtain rfl:=ae hF
  exact aA (aL [(vB false)] ⟨rfl,trivial⟩)
 ·refine ay rfl hc_3 (ax (ak (ai (aa (vL eS s1_1) (bH xq rfl wz (aa (vI 0) (af ?_)))))))
  obtain ⟨o_12,hj_13,hF⟩:=bind_some hF
  obtain ⟨hn_8,hj_13⟩:=aY hj_13
  refine bN (λ(s_9:Unit)=>[]) (λ(s_9:Unit)=>[]) (λ(k_4:Nat)=>(λ(s_9:Unit)=>[(0,(vL eS s1_1)),(1,(vL eS s2_2)),(12,(vI (s1_1.length:Int))),(13,(vI (k_4:Int)))])) (λk x s=>dM s2_2 k x s) o_12 s1_1 () hj_13 rfl (aK rfl) ?_ ?_
  ·rintro ⟨k_4,l_5,s_9⟩ ⟨hL_11,hD_7⟩
   dsimp only at hL_11 hD_7
   cases l_5 with
   | nil =>
    obtain rfl:=ae hL_11
    refine ai (aa (vB (decide ((k_4:Int)<(s1_1.length:Int)))) (af ?_))
    refine ak (ay rfl (drop_nil hD_7) (aW ?_))
    exact aU (s_9) rfl rfl (aK rfl)
   | cons x_6 l_5 =>
    obtain ⟨c_,hc_10,hL_11⟩:=bind_some hL_11
    refine ai (aa (vB (decide ((k_4:Int)<(s1_1.length:Int)))) (af ?_))
    refine ak (aB rfl (bu hD_7) (ax ?_))
    unfold dM at hc_10
    refine ak (aM (ai (aa (vI (k_4:Int)) (aa (vI (k_4:Int)) (af (ak (bE (aa (vL eS s1_1) (aa (vI (k_4:Int)) (dC pz rfl rfl (bD hD_7) rfl wz (bK sz9 ag9 rfl (vS x_6) rfl wz (aa (vL eS s2_2) (aa (vI (k_4:Int)) ?_)))))))))))))
    obtain ⟨y_14,hy_15,hc_10⟩:=bind_some hc_10
    refine dC pz rfl rfl hy_15 rfl wz (bK sz9 ag9 rfl (vS y_14) rfl wz (aa (vB (sNe x_6 y_14)) (af ?_)))
    rcases aj hc_10 with⟨hc_16,hc_10⟩|⟨hc_16,hc_10⟩
    ·refine aB rfl hc_16 (ai (aa (vB false) (af ?_)))
     obtain rfl:=ae hc_10
     obtain rfl:=ae hL_11
     obtain rfl:=ae hF
     exact aA (aL [(vB false)] ⟨rfl,trivial⟩)
    ·refine ay rfl hc_16 (ax (au (dB (bv hD_7 hn_8) wz rfl (aa (vI ((k_4+1:Nat):Int)) (af ?_)))))
     obtain rfl:=ae hc_10
     exact aV (k_4+1,l_5,()) ⟨hL_11,aR hD_7⟩ (ls_ _) rfl (aK rfl)
  ·rintro s_9 ho_ sl_ H_ hp_ hq_
   subst ho_
   refine aO _ hp_ hq_ (ai (aa (vB true) (af ?_)))
   obtain rfl:=ae hF
   exact aA (aL [(vB true)] ⟨rfl,trivial⟩)
theorem wo {g_1:Spot} {h_2:Spot} {r:Bool} (hF:iR g_1 h_2=some r) :
  FnM Tryz.prog 15 [(.d (.agg (Spot.enc g_1))),(.d (.agg (Spot.enc h_2)))] [] (vB r) []:=by
 refine FnM.of_wH ⟨Tryz.prog,31,[],[]⟩ rfl Tryz.func15 rfl rfl (lb_ rfl) (by kernel_rfl) ?_
 unfold iR at hF
 refine ai (gz 0 (.inl rfl) (Spot.v g_1) rfl rfl wz (λn_3=>gz 0 (.inl rfl) (Spot.v h_2) rfl rfl wz (λn_4=>aa (vB false) (af (ak ?_)))))
 obtain ⟨v_5,h_6,hF⟩:=bind_some hF
 refine aS [(4,(vB v_5))] [(n_3,some (.cells 5 (Spot.v g_1))),(n_4,some (.cells 5 (Spot.v h_2)))] ?_ ?_
 ·refine au (aG Ad rfl 0 rfl wz (aC 0 0 il ft sz9 ag9 rfl rfl (vS g_1.Key) rfl wz (aG Ad rfl 0 rfl wz (aC 0 1 il ft sz9 ag9 rfl rfl (vS h_2.Key) rfl wz (aa (vB (sEq g_1.Key h_2.Key)) ?_)))))
  rcases aj h_6 with⟨hc_7,h_6⟩|⟨hc_7,h_6⟩
  ·refine aD rfl hc_7 wz (aG EU rfl 1 rfl wa (aC 0 0 il ft xC Dj rfl rfl (.d (.agg (Window.enc g_1.Time))) rfl wa (aG EU rfl 1 rfl wa (aC 0 1 il ft xC Dj rfl rfl (.d (.agg (Window.enc h_2.Time))) rfl wa (aJ (vB ((g_1.Time.From==h_2.Time.From)&&((g_1.Time.To==h_2.Time.To)&&true))) wa (by kernel_rfl) (aa (vB ((g_1.Time.From==h_2.Time.From)&&((g_1.Time.To==h_2.Time.To)&&true))) ?_))))))
   rcases aj h_6 with⟨hc_8,h_6⟩|⟨hc_8,h_6⟩
   ·refine aD rfl hc_8 wz (aG z8 rfl 3 rfl wa (aC 0 0 il ft sz3 ag3 rfl rfl (vI g_1.Room) rfl wa (aG z8 rfl 3 rfl wa (aC 0 1 il ft sz3 ag3 rfl rfl (vI h_2.Room) rfl wa (aJ (vB (g_1.Room==h_2.Room)) wa rfl (aa (vB (g_1.Room==h_2.Room)) ?_))))))
    rcases aj h_6 with⟨hc_9,h_6⟩|⟨hc_9,h_6⟩
    ·refine aD rfl hc_9 wz (aG Cc rfl 4 rfl wa (aC 0 0 il ft zf AR rfl rfl (vL eS g_1.Tags) rfl wa (aG Cc rfl 4 rfl wa (aC 0 1 il ft zf AR rfl rfl (vL eS h_2.Tags) rfl wa ?_))))
     obtain ⟨r_10,hr_11,h_6⟩:=bind_some h_6
     refine aF (qE hr_11) rfl hb16 rfl rfl rfl rfl wa (aa (vB r_10) (aa (vB r_10) (af ?_)))
     obtain rfl:=ae h_6
     exact cu
    ·refine aD rfl hc_9 wz (ah (ah (ah (ah (ah (aa (vB false) (aa (vB false) (af ?_))))))))
     obtain rfl:=ae h_6
     exact cu
   ·refine aD rfl hc_8 wz (ah (ah (ah (ah (ah (aa (vB false) (aa (vB false) (ah (ah (ah (ah (ah (aa (vB false) (aa (vB false) (af ?_)))))))))))))))
    obtain rfl:=ae h_6
    exact cu
  ·refine aD rfl hc_7 wz (ah (ah (ah (ah (ah (aa (vB false) (aa (vB false) (ah (ah (ah (ah (ah (aa (vB false) (aa (vB false) (ah (ah (ah (ah (ah (aa (vB false) (aa (vB false) (af ?_))))))))))))))))))))))
   obtain rfl:=ae h_6
   exact cu
 ·rintro ⟨⟩ _ sl_ H_ hp_ hq_
  refine aO _ hp_ hq_ ?_
  obtain rfl:=ae hF
  exact aA (aL [(vB v_5)] ⟨rfl,trivial⟩)
theorem gU {s1_1:(List Spot)} {s2_2:(List Spot)} {r:Bool} (hF:bL s1_1 s2_2=some r) :
  FnM Tryz.prog 14 [(vL Spot.enc s1_1),(vL Spot.enc s2_2),(.fn 15 [])] [] (vB r) []:=by
 refine FnM.of_wH ⟨Tryz.prog,32,[],[]⟩ rfl Tryz.func14 rfl rfl (lb_ rfl) (by kernel_rfl) ?_
 unfold bL at hF
 refine ai (aa (vB false) (af (ak (ai (aa (vL Spot.enc s1_1) (bH Fa rfl wz (aa (vL Spot.enc s2_2) (bH Fa rfl wz (aa (vB ((s1_1.length:Int) != (s2_2.length:Int))) (af ?_))))))))))
 rcases aj hF with⟨hc_4,hF⟩|⟨hc_4,hF⟩
 ·refine aB rfl hc_4 (ai (aa (vB false) (af ?_)))
  obtain rfl:=ae hF
  exact aA (aL [(vB false)] ⟨rfl,trivial⟩)
 ·refine ay rfl hc_4 (ax (ak (ai (aa (vL Spot.enc s1_1) (bH Fa rfl wz (aa (vI 0) (af ?_)))))))
  obtain ⟨o_13,hj_14,hF⟩:=bind_some hF
  obtain ⟨hn_9,hj_14⟩:=aY hj_14
  refine bN (λ(s_10:Unit)=>[]) (λ(s_10:Unit)=>[]) (λ(k_5:Nat)=>(λ(s_10:Unit)=>[(1,(vL Spot.enc s2_2)),(2,(.fn 15 [])),(15,(vL Spot.enc s1_1)),(16,(vI (s1_1.length:Int))),(17,(vI (k_5:Int)))])) (λk x s=>bG s2_2 k x s) o_13 s1_1 () hj_14 rfl (aK rfl) ?_ ?_
  ·rintro ⟨k_5,l_6,s_10⟩ ⟨hL_12,hD_8⟩
   dsimp only at hL_12 hD_8
   cases l_6 with
   | nil =>
    obtain rfl:=ae hL_12
    refine ai (aa (vB (decide ((k_5:Int)<(s1_1.length:Int)))) (af ?_))
    refine ak (ay rfl (drop_nil hD_8) (aW ?_))
    exact aU (s_10) rfl rfl (aK rfl)
   | cons x_7 l_6 =>
    obtain ⟨c_,hc_11,hL_12⟩:=bind_some hL_12
    refine ai (aa (vB (decide ((k_5:Int)<(s1_1.length:Int)))) (af ?_))
    refine ak (aB rfl (bu hD_8) (ax ?_))
    unfold bG at hc_11
    refine ak (aM (ai (aa (vI (k_5:Int)) (dC Dr rfl rfl (bD hD_8) rfl wz (bK uq Db rfl (.d (.agg (Spot.enc x_7))) rfl wz (cz 0 (.inl rfl) z57 rfl wz (λn_15=>aa (vI (k_5:Int)) (eB 0 il ft 0 uq rfl rfl (Spot.v x_7) rfl wz (af (ai (aa (vL Spot.enc s2_2) (aa (vI (k_5:Int)) ?_))))))))))))
    obtain ⟨y_16,hy_17,hc_11⟩:=bind_some hc_11
    refine dC Dr rfl rfl hy_17 rfl wz (bK uq Db rfl (.d (.agg (Spot.enc y_16))) rfl wz (cz 0 (.inl rfl) z57 rfl wz (λn_18=>eB 0 il ft 1 uq rfl rfl (Spot.v y_16) rfl wz (af (ai (aa (.fn 15 []) (aC 0 0 il ft uq Db rfl rfl (.d (.agg (Spot.enc x_7))) rfl wz (aC 0 1 il ft uq Db rfl rfl (.d (.agg (Spot.enc y_16))) rfl wz ?_))))))))
    obtain ⟨r_19,hr_20,hc_11⟩:=bind_some hc_11
    refine aF (wo hr_20) rfl hb15 rfl rfl rfl rfl wz (aa (vB (!r_19)) (af ?_))
    rcases aj hc_11 with⟨hc_21,hc_11⟩|⟨hc_21,hc_11⟩
    ·refine aB rfl hc_21 (ai (aa (vB false) (af ?_)))
     obtain rfl:=ae hc_11
     obtain rfl:=ae hL_12
     obtain rfl:=ae hF
     exact aA (aL [(vB false)] ⟨rfl,trivial⟩)
    ·refine ay rfl hc_21 (ax (au (dB (bv hD_8 hn_9) wz rfl (aa (vI ((k_5+1:Nat):Int)) (af ?_)))))
     obtain rfl:=ae hc_11
     exact aV (k_5+1,l_6,()) ⟨hL_12,aR hD_8⟩ (ls_ _) rfl (aK rfl)
  ·rintro s_10 ho_ sl_ H_ hp_ hq_
   subst ho_
   refine aO _ hp_ hq_ (ai (aa (vB true) (af ?_)))
   obtain rfl:=ae hF
   exact aA (aL [(vB true)] ⟨rfl,trivial⟩)
theorem C9 {x0:Int} {r:ByteArray} (hF:strconv_Itoa x0=some r) :
  FnM Tryz.prog 79 [(vI x0)] [] (vS r) [] :=
 itoa_ok Tryz.strconv_Itoa LX hF
theorem rA {x0:(List ByteArray)} {x1:ByteArray} {r:ByteArray} (hF:strings_Join x0 x1=some r) :
  FnM Tryz.prog 59 [(vL eS x0),(vS x1)] [] (vS r) [] :=
 join_ok rfl Tryz.strings_Join_none Tryz.strings_Join hF
theorem EF {l_1:(List Int)} {r:ByteArray} (hF:qP l_1=some r) :
  FnM Tryz.prog 60 [(vL eI l_1)] [] (vS r) []:=by
 refine FnM.of_wH ⟨Tryz.prog,20,[],[]⟩ rfl Tryz.func60 rfl rfl (lb_ rfl) (by kernel_rfl) ?_
 unfold qP at hF
 refine ai (aa (vS (⟨#[]⟩:ByteArray)) (af (ai (aa .nil (af (ak (ai (aa (vL eI l_1) (bH uT rfl wz (aa (vI 0) (af (jv (λn_8 => ?_)))))))))))))
 obtain ⟨o_13,hj_14,hF⟩:=bind_some hF
 obtain ⟨hn_6,hj_14⟩:=aY hj_14
 refine fT (σ:=(List ByteArray)) (N:=Nm) (λp=>(λ(s_7:List ByteArray) (n_10:Nm)=>([(3,(gV n_10 1 s_7))]:SL_)) p.1 p.2) (λp=>(λ(s_7:List ByteArray) (n_10:Nm)=>([(n_10,gB 1 eS s_7)]:Hp)) p.1 p.2) (λ(k_2:Nat)=>(λp=>(λ(s_7:List ByteArray) (n_10:Nm)=>([(3,(gV n_10 1 s_7)),(6,(vL eI l_1)),(7,(vI (l_1.length:Int))),(8,(vI (k_2:Int)))]:SL_)) p.1 p.2)) (λk x s=>mX k x s) o_13 l_1 (([]:List ByteArray),n_8) hj_14 rfl (aK rfl) ?_ ?_
 ·rintro ⟨k_2,l_3,s_7,n_10⟩ ⟨hL_12,hD_5⟩
  dsimp only at hL_12 hD_5
  cases l_3 with
  | nil =>
   obtain rfl:=ae hL_12
   refine ai (aa (vB (decide ((k_2:Int)<(l_1.length:Int)))) (af ?_))
   refine ak (ay rfl (drop_nil hD_5) (aW ?_))
   exact aU (s_7,n_10) rfl rfl (aK rfl)
  | cons x_4 l_3 =>
   obtain ⟨c_,hc_11,hL_12⟩:=bind_some hL_12
   refine ai (aa (vB (decide ((k_2:Int)<(l_1.length:Int)))) (af ?_))
   refine ak (aB rfl (bu hD_5) (ax ?_))
   unfold mX at hc_11
   refine ak (aM (ai (dC gq rfl rfl (bD hD_5) rfl wz (bK sz3 ag3 rfl (vI x_4) rfl wz (aa (vI x_4) (af (au (aa (gV n_10 1 s_7) (aa (vI x_4) ?_)))))))))
   obtain ⟨r_15,hr_16,hc_11⟩:=bind_some hc_11
   refine aF (C9 hr_16) rfl hb79 rfl rfl rfl rfl wz (dU (([r_15]:List ByteArray).map eS) pz BB rfl rfl rfl rfl rfl wz ?_)
   obtain ⟨a_17,hz_18,hc_11⟩:=bind_some hc_11
   refine kT 0 il ft (i:=0) Jo Jo sz9 z9 rfl (by decide) by9 (by decide) (λ_=>rfl) rfl rfl rfl hz_18 wz (λn_19=>aa (gV n_19 1 a_17) (af (au (dB (bv hD_5 hn_6) wz rfl (aa (vI ((k_2+1:Nat):Int)) (af ?_))))))
   obtain rfl:=ae hc_11
   exact aV (k_2+1,l_3,a_17,n_19) ⟨hL_12,aR hD_5⟩ (ls_ _) rfl (aK rfl)
 ·rintro ⟨s_7,n_10⟩ ho_ sl_ H_ hp_ hq_
  subst ho_
  refine aO _ hp_ hq_ (ak (iQ 0 rfl (fF 3 0 rfl rfl (au (aa (vL eS s_7) ?_)))))
  obtain ⟨r_20,hr_21,hF⟩:=bind_some hF
  refine aF (rA hr_21) rfl hb59 rfl rfl rfl rfl wz (aa (vS r_20) (af ?_))
  obtain rfl:=ae hF
  exact aA (aL [(vS r_20)] ⟨rfl,trivial⟩)
theorem FV {l_1:(List ByteArray)} {r:ByteArray} (hF:tH l_1=some r) :
  FnM Tryz.prog 61 [(vL eS l_1)] [] (vS r) []:=by
 refine FnM.of_wH ⟨Tryz.prog,8,[],[]⟩ rfl Tryz.func61 rfl rfl (lb_ rfl) (by kernel_rfl) ?_
 unfold tH at hF
 refine ai (aa (vS (⟨#[]⟩:ByteArray)) (af (ak (ai (aa (vL eS l_1) (bH xq rfl wz (aa (vB ((l_1.length:Int)==0)) (af ?_))))))))
 rcases aj hF with⟨hc_2,hF⟩|⟨hc_2,hF⟩
 ·refine aB rfl hc_2 (ai (aa (vS (⟨#[45]⟩:ByteArray)) (af ?_)))
  obtain rfl:=ae hF
  exact aA (aL [(vS (⟨#[45]⟩:ByteArray))] ⟨rfl,trivial⟩)
 ·refine ay rfl hc_2 (ax (ai (aa (vL eS l_1) ?_)))
  obtain ⟨r_3,hr_4,hF⟩:=bind_some hF
  refine aF (rA hr_4) rfl hb59 rfl rfl rfl rfl wz (aa (vS r_3) (af ?_))
  obtain rfl:=ae hF
  exact aA (aL [(vS r_3)] ⟨rfl,trivial⟩)
theorem rU {c_1:Campaign} {r:ByteArray} (hF:ja c_1=some r) :
  FnM Tryz.prog 41 [(.d (.agg (Campaign.enc c_1)))] [] (vS r) []:=by
 refine FnM.of_wH ⟨Tryz.prog,30,[],[]⟩ rfl Tryz.func41 rfl rfl (lb_ rfl) (by kernel_rfl) ?_
 unfold ja at hF
 refine ai (gz 0 (.inl rfl) (Campaign.v c_1) rfl rfl wz (λn_2=>aa (vS (⟨#[]⟩:ByteArray)) (af (ai (aG KU rfl 1 rfl wz (aC 0 0 il ft sz9 ag9 rfl rfl (vS c_1.Class) rfl wz (aa (vS c_1.Class) (af (ak (ai (aa (vS c_1.Class) (aa (vB (sEq c_1.Class (⟨#[]⟩:ByteArray))) (af ?_)))))))))))))
 obtain ⟨v_3,h_4,hF⟩:=bind_some hF
 refine aS [(1,(.ref n_2 0 0)),(3,(vS v_3))] [(n_2,some (.cells 8 (Campaign.v c_1)))] ?_ ?_
 ·rcases aj h_4 with⟨hc_5,h_4⟩|⟨hc_5,h_4⟩
  ·refine aB rfl hc_5 (au (aa (vS (⟨#[45]⟩:ByteArray)) (af ?_)))
   obtain rfl:=ae h_4
   exact cu
  ·refine ay rfl hc_5 (ax ?_)
   obtain rfl:=ae h_4
   exact cu
 ·rintro ⟨⟩ _ sl_ H_ hp_ hq_
  refine aO _ hp_ hq_ (ak (bE (aG xe rfl 0 rfl wz (aC 1 0 (.inr (by kernel_rfl)) (λ_ _ ag=>trivial) sz9 ag9 rfl rfl (vS c_1.Key) rfl wz (aa (vS v_3) (aG qZ rfl 2 rfl wz (aG mF rfl 2 rfl wz (aC 5 0 (.inr (by kernel_rfl)) (λ_ _ ag=>⟨.inl ⟨rfl,rfl⟩,trivial⟩) sz3 ag3 rfl rfl (vI c_1.Time.From) rfl wz (aG qZ rfl 2 rfl wz (aG mq rfl 3 rfl wz (aC 8 0 (.inr (by kernel_rfl)) (λ_ _ ag=>⟨.inl ⟨rfl,rfl⟩,⟨.inl ⟨rfl,rfl⟩,trivial⟩⟩) sz3 ag3 rfl rfl (vI c_1.Time.To) rfl wz (aG zT rfl 5 rfl wz (aC 10 0 (.inr (by kernel_rfl)) (λ_ _ ag=>⟨.inl ⟨rfl,rfl⟩,⟨.inl ⟨rfl,rfl⟩,⟨.inl ⟨rfl,rfl⟩,trivial⟩⟩⟩) sz3 ag3 rfl rfl (vI c_1.Goal) rfl wz (aG Me rfl 6 rfl wz (aC 12 0 (.inr (by kernel_rfl)) (λ_ _ ag=>⟨.inl ⟨rfl,rfl⟩,⟨.inl ⟨rfl,rfl⟩,⟨.inl ⟨rfl,rfl⟩,⟨.inl ⟨rfl,rfl⟩,trivial⟩⟩⟩⟩) sz3 ag3 rfl rfl (vI c_1.Most) rfl wz (aG P9 rfl 7 rfl wz (aC 14 0 (.inr (by kernel_rfl)) (λ_ _ ag=>⟨.inl ⟨rfl,rfl⟩,⟨.inl ⟨rfl,rfl⟩,⟨.inl ⟨rfl,rfl⟩,⟨.inl ⟨rfl,rfl⟩,⟨.inl ⟨rfl,rfl⟩,trivial⟩⟩⟩⟩⟩) sz3 ag3 rfl rfl (vI c_1.Cents) rfl wz (dU (([c_1.Time.From,c_1.Time.To,c_1.Goal,c_1.Most,c_1.Cents]:List Int).map eI) gq zJ rfl rfl rfl rfl rfl wz ?_))))))))))))))))))
  obtain ⟨r_6,hr_7,hF⟩:=bind_some hF
  refine aF (EF hr_7) rfl hb60 rfl rfl rfl rfl wz (aG EC rfl 4 rfl wz (aC 18 0 (.inr (by kernel_rfl)) (λ_ _ ag=>⟨.inl ⟨rfl,rfl⟩,⟨.inl ⟨rfl,rfl⟩,⟨.inl ⟨rfl,rfl⟩,⟨.inl ⟨rfl,rfl⟩,⟨.inl ⟨rfl,rfl⟩,⟨.inl ⟨rfl,rfl⟩,trivial⟩⟩⟩⟩⟩⟩) zf AR rfl rfl (vL eS c_1.Tags) rfl wz ?_))
  obtain ⟨r_8,hr_9,hF⟩:=bind_some hF
  refine aF (FV hr_9) rfl hb61 rfl rfl rfl rfl wz (dU (([c_1.Key,v_3,r_6,r_8]:List ByteArray).map eS) pz BB rfl rfl rfl rfl rfl wz ?_)
  obtain ⟨r_10,hr_11,hF⟩:=bind_some hF
  refine aF (rA hr_11) rfl hb59 rfl rfl rfl rfl wz (aa (vS r_10) (af ?_))
  obtain rfl:=ae hF
  exact aA (aL [(vS r_10)] ⟨rfl,trivial⟩)
theorem zb {a_1:Campaign} {b_2:Campaign} {r:Bool} (hF:kQ a_1 b_2=some r) :
  FnM Tryz.prog 18 [(.d (.agg (Campaign.enc a_1))),(.d (.agg (Campaign.enc b_2)))] [] (vB r) []:=by
 refine FnM.of_wH ⟨Tryz.prog,10,[],[]⟩ rfl Tryz.func18 rfl rfl (lb_ rfl) (by kernel_rfl) ?_
 unfold kQ at hF
 refine ai (gz 0 (.inl rfl) (Campaign.v a_1) rfl rfl wz (λn_3=>gz 0 (.inl rfl) (Campaign.v b_2) rfl rfl wz (λn_4=>aa (vB false) (af (ak (bE (aC 0 0 (.inr (by kernel_rfl)) (λ_ _ ag=>trivial) oD vG rfl rfl (.d (.agg (Campaign.enc a_1))) rfl wz ?_)))))))
 obtain ⟨r_5,hr_6,hF⟩:=bind_some hF
 refine aF (rU hr_6) rfl hb41 rfl rfl rfl rfl wz (aC 2 1 (.inr (by kernel_rfl)) (λ_ _ ag=>⟨.inl ⟨rfl,rfl⟩,trivial⟩) oD vG rfl rfl (.d (.agg (Campaign.enc b_2))) rfl wz ?_)
 obtain ⟨r_7,hr_8,hF⟩:=bind_some hF
 refine aF (rU hr_8) rfl hb41 rfl rfl rfl rfl wz (aa (vB (sEq r_5 r_7)) (aa (vB (sEq r_5 r_7)) (af ?_)))
 obtain rfl:=ae hF
 exact aA (aL [(vB (sEq r_5 r_7))] ⟨rfl,trivial⟩)
theorem eY {s1_1:(List Campaign)} {s2_2:(List Campaign)} {r:Bool} (hF:bf s1_1 s2_2=some r) :
  FnM Tryz.prog 17 [(vL Campaign.enc s1_1),(vL Campaign.enc s2_2),(.fn 18 [])] [] (vB r) []:=by
 refine FnM.of_wH ⟨Tryz.prog,32,[],[]⟩ rfl Tryz.func17 rfl rfl (lb_ rfl) (by kernel_rfl) ?_
 unfold bf at hF
 refine ai (aa (vB false) (af (ak (ai (aa (vL Campaign.enc s1_1) (bH BA rfl wz (aa (vL Campaign.enc s2_2) (bH BA rfl wz (aa (vB ((s1_1.length:Int) != (s2_2.length:Int))) (af ?_))))))))))
 rcases aj hF with⟨hc_4,hF⟩|⟨hc_4,hF⟩
 ·refine aB rfl hc_4 (ai (aa (vB false) (af ?_)))
  obtain rfl:=ae hF
  exact aA (aL [(vB false)] ⟨rfl,trivial⟩)
 ·refine ay rfl hc_4 (ax (ak (ai (aa (vL Campaign.enc s1_1) (bH BA rfl wz (aa (vI 0) (af ?_)))))))
  obtain ⟨o_13,hj_14,hF⟩:=bind_some hF
  obtain ⟨hn_9,hj_14⟩:=aY hj_14
  refine bN (λ(s_10:Unit)=>[]) (λ(s_10:Unit)=>[]) (λ(k_5:Nat)=>(λ(s_10:Unit)=>[(1,(vL Campaign.enc s2_2)),(2,(.fn 18 [])),(15,(vL Campaign.enc s1_1)),(16,(vI (s1_1.length:Int))),(17,(vI (k_5:Int)))])) (λk x s=>aZ s2_2 k x s) o_13 s1_1 () hj_14 rfl (aK rfl) ?_ ?_
  ·rintro ⟨k_5,l_6,s_10⟩ ⟨hL_12,hD_8⟩
   dsimp only at hL_12 hD_8
   cases l_6 with
   | nil =>
    obtain rfl:=ae hL_12
    refine ai (aa (vB (decide ((k_5:Int)<(s1_1.length:Int)))) (af ?_))
    refine ak (ay rfl (drop_nil hD_8) (aW ?_))
    exact aU (s_10) rfl rfl (aK rfl)
   | cons x_7 l_6 =>
    obtain ⟨c_,hc_11,hL_12⟩:=bind_some hL_12
    refine ai (aa (vB (decide ((k_5:Int)<(s1_1.length:Int)))) (af ?_))
    refine ak (aB rfl (bu hD_8) (ax ?_))
    unfold aZ at hc_11
    refine ak (aM (ai (aa (vI (k_5:Int)) (dC Am rfl rfl (bD hD_8) rfl wz (bK oD vG rfl (.d (.agg (Campaign.enc x_7))) rfl wz (cz 0 (.inl rfl) z48 rfl wz (λn_15=>aa (vI (k_5:Int)) (eB 0 il ft 0 oD rfl rfl (Campaign.v x_7) rfl wz (af (ai (aa (vL Campaign.enc s2_2) (aa (vI (k_5:Int)) ?_))))))))))))
    obtain ⟨y_16,hy_17,hc_11⟩:=bind_some hc_11
    refine dC Am rfl rfl hy_17 rfl wz (bK oD vG rfl (.d (.agg (Campaign.enc y_16))) rfl wz (cz 0 (.inl rfl) z48 rfl wz (λn_18=>eB 0 il ft 1 oD rfl rfl (Campaign.v y_16) rfl wz (af (ai (aa (.fn 18 []) (aC 0 0 il ft oD vG rfl rfl (.d (.agg (Campaign.enc x_7))) rfl wz (aC 0 1 il ft oD vG rfl rfl (.d (.agg (Campaign.enc y_16))) rfl wz ?_))))))))
    obtain ⟨r_19,hr_20,hc_11⟩:=bind_some hc_11
    refine aF (zb hr_20) rfl hb18 rfl rfl rfl rfl wz (aa (vB (!r_19)) (af ?_))
    rcases aj hc_11 with⟨hc_21,hc_11⟩|⟨hc_21,hc_11⟩
    ·refine aB rfl hc_21 (ai (aa (vB false) (af ?_)))
     obtain rfl:=ae hc_11
     obtain rfl:=ae hL_12
     obtain rfl:=ae hF
     exact aA (aL [(vB false)] ⟨rfl,trivial⟩)
    ·refine ay rfl hc_21 (ax (au (dB (bv hD_8 hn_9) wz rfl (aa (vI ((k_5+1:Nat):Int)) (af ?_)))))
     obtain rfl:=ae hc_11
     exact aV (k_5+1,l_6,()) ⟨hL_12,aR hD_8⟩ (ls_ _) rfl (aK rfl)
  ·rintro s_10 ho_ sl_ H_ hp_ hq_
   subst ho_
   refine aO _ hp_ hq_ (ai (aa (vB true) (af ?_)))
   obtain rfl:=ae hF
   exact aA (aL [(vB true)] ⟨rfl,trivial⟩)
theorem o7 {s1_1:(List Play)} {s2_2:(List Play)} {r:Bool} (hF:fe s1_1 s2_2=some r) :
  FnM Tryz.prog 19 [(vL Play.enc s1_1),(vL Play.enc s2_2)] [] (vB r) []:=by
 refine FnM.of_wH ⟨Tryz.prog,26,[],[]⟩ rfl Tryz.func19 rfl rfl (lb_ rfl) (by kernel_rfl) ?_
 unfold fe at hF
 refine ai (aa (vB false) (af (ak (ai (aa (vL Play.enc s1_1) (bH Oj rfl wz (aa (vL Play.enc s2_2) (bH Oj rfl wz (aa (vB ((s1_1.length:Int) != (s2_2.length:Int))) (af ?_))))))))))
 rcases aj hF with⟨hc_3,hF⟩|⟨hc_3,hF⟩
 ·refine aB rfl hc_3 (ai (aa (vB false) (af ?_)))
  obtain rfl:=ae hF
  exact aA (aL [(vB false)] ⟨rfl,trivial⟩)
 ·refine ay rfl hc_3 (ax (ak (ai (aa (vL Play.enc s1_1) (bH Oj rfl wz (aa (vI 0) (af ?_)))))))
  obtain ⟨o_12,hj_13,hF⟩:=bind_some hF
  obtain ⟨hn_8,hj_13⟩:=aY hj_13
  refine bN (λ(s_9:Unit)=>[]) (λ(s_9:Unit)=>[]) (λ(k_4:Nat)=>(λ(s_9:Unit)=>[(0,(vL Play.enc s1_1)),(1,(vL Play.enc s2_2)),(12,(vI (s1_1.length:Int))),(13,(vI (k_4:Int)))])) (λk x s=>dY s2_2 k x s) o_12 s1_1 () hj_13 rfl (aK rfl) ?_ ?_
  ·rintro ⟨k_4,l_5,s_9⟩ ⟨hL_11,hD_7⟩
   dsimp only at hL_11 hD_7
   cases l_5 with
   | nil =>
    obtain rfl:=ae hL_11
    refine ai (aa (vB (decide ((k_4:Int)<(s1_1.length:Int)))) (af ?_))
    refine ak (ay rfl (drop_nil hD_7) (aW ?_))
    exact aU (s_9) rfl rfl (aK rfl)
   | cons x_6 l_5 =>
    obtain ⟨c_,hc_10,hL_11⟩:=bind_some hL_11
    refine ai (aa (vB (decide ((k_4:Int)<(s1_1.length:Int)))) (af ?_))
    refine ak (aB rfl (bu hD_7) (ax ?_))
    unfold dY at hc_10
    refine ak (aM (ai (aa (vI (k_4:Int)) (aa (vI (k_4:Int)) (af (ak (bE (aa (vL Play.enc s1_1) (aa (vI (k_4:Int)) (dC PH rfl rfl (bD hD_7) rfl wz (bK FU Ql rfl (.d (.agg (Play.enc x_6))) rfl wz (aa (vL Play.enc s2_2) (aa (vI (k_4:Int)) ?_)))))))))))))
    obtain ⟨y_14,hy_15,hc_10⟩:=bind_some hc_10
    refine dC PH rfl rfl hy_15 rfl wz (bK FU Ql rfl (.d (.agg (Play.enc y_14))) rfl wz (aJ (vB (!((x_6.Player.toList==y_14.Player.toList)&&((x_6.Item.toList==y_14.Item.toList)&&((x_6.At==y_14.At)&&((x_6.Long==y_14.Long)&&true)))))) wz (by kernel_rfl) (af ?_)))
    rcases aj hc_10 with⟨hc_16,hc_10⟩|⟨hc_16,hc_10⟩
    ·refine aB rfl hc_16 (ai (aa (vB false) (af ?_)))
     obtain rfl:=ae hc_10
     obtain rfl:=ae hL_11
     obtain rfl:=ae hF
     exact aA (aL [(vB false)] ⟨rfl,trivial⟩)
    ·refine ay rfl hc_16 (ax (au (dB (bv hD_7 hn_8) wz rfl (aa (vI ((k_4+1:Nat):Int)) (af ?_)))))
     obtain rfl:=ae hc_10
     exact aV (k_4+1,l_5,()) ⟨hL_11,aR hD_7⟩ (ls_ _) rfl (aK rfl)
  ·rintro s_9 ho_ sl_ H_ hp_ hq_
   subst ho_
   refine aO _ hp_ hq_ (ai (aa (vB true) (af ?_)))
   obtain rfl:=ae hF
   exact aA (aL [(vB true)] ⟨rfl,trivial⟩)
theorem rV {r_1:Rect} {r:Int} (hF:nA r_1=some r) :
  FnM Tryz.prog 80 [(.d (.agg (Rect.enc r_1)))] [] (vI r) []:=by
 refine FnM.of_wH ⟨Tryz.prog,25,[],[]⟩ rfl Tryz.func80 rfl rfl (lb_ rfl) (by kernel_rfl) ?_
 unfold nA at hF
 refine ai (gz 0 (.inl rfl) (Rect.v r_1) rfl rfl wz (λn_2=>aa (vI 0) (af (ak (ak ?_)))))
 obtain ⟨v_3,h_4,hF⟩:=bind_some hF
 refine aS [(1,(.ref n_2 0 0)),(10,(vB v_3))] [(n_2,some (.cells 4 (Rect.v r_1)))] ?_ ?_
 ·refine au (aG Cs rfl 0 rfl wz (aC 0 0 il ft sz3 ag3 rfl rfl (vI r_1.X) rfl wz ?_))
  obtain ⟨r_5,hr_6,h_4⟩:=bind_some h_4
  refine aF (bA hr_6) rfl rC rfl rfl rfl rfl wz ?_
  rcases aj h_4 with⟨hc_7,h_4⟩|⟨hc_7,h_4⟩
  ·refine aD rfl hc_7 wz (ah (ah (ah (aa (vB true) (af ?_)))))
   obtain rfl:=ae h_4
   exact cu
  ·refine aD rfl hc_7 wz (aG yn rfl 1 rfl wa (aC 0 0 il ft sz3 ag3 rfl rfl (vI r_1.Y) rfl wa ?_))
   obtain ⟨r_8,hr_9,h_4⟩:=bind_some h_4
   refine aF (bA hr_9) rfl rC rfl rfl rfl rfl wa (aa (vB r_8) (af ?_))
   obtain rfl:=ae h_4
   exact cu
 ·rintro ⟨⟩ _ sl_ H_ hp_ hq_
  refine aO _ hp_ hq_ ?_
  rcases aj hF with⟨hc_10,hF⟩|⟨hc_10,hF⟩
  ·refine aB rfl hc_10 (ai (aa (vI 1) (af ?_)))
   obtain rfl:=ae hF
   exact aA (aL [(vI 1)] ⟨rfl,trivial⟩)
  ·refine ay rfl hc_10 (ax (ak (ak ?_)))
   obtain ⟨v_11,h_12,hF⟩:=bind_some hF
   refine aS [(24,(vB v_11))] [(n_2,some (.cells 4 (Rect.v r_1)))] ?_ ?_
   ·refine au (aG HV rfl 2 rfl wz (aC 0 0 il ft sz3 ag3 rfl rfl (vI r_1.W) rfl wz (aG Cs rfl 0 rfl wz (aC 0 0 il ft sz3 ag3 rfl rfl (vI r_1.X) rfl wz (aa (vI (w64 (100000-r_1.X))) ?_)))))
    obtain ⟨r_13,hr_14,h_12⟩:=bind_some h_12
    refine aF (bA hr_14) rfl rC rfl rfl rfl rfl wz ?_
    rcases aj h_12 with⟨hc_15,h_12⟩|⟨hc_15,h_12⟩
    ·refine aD rfl hc_15 wz (ah (ah (ah (ah (ah (ah (aa (vB true) (af ?_))))))))
     obtain rfl:=ae h_12
     exact cu
    ·refine aD rfl hc_15 wz (aG EL rfl 3 rfl wa (aC 0 0 il ft sz3 ag3 rfl rfl (vI r_1.H) rfl wa (aG yn rfl 1 rfl wa (aC 0 0 il ft sz3 ag3 rfl rfl (vI r_1.Y) rfl wa (aJ (vI (w64 (100000-r_1.Y))) wa rfl ?_)))))
     obtain ⟨r_16,hr_17,h_12⟩:=bind_some h_12
     refine aF (bA hr_17) rfl rC rfl rfl rfl rfl wa (aa (vB r_16) (af ?_))
     obtain rfl:=ae h_12
     exact cu
   ·rintro ⟨⟩ _ sl_ H_ hp_ hq_
    refine aO _ hp_ hq_ ?_
    rcases aj hF with⟨hc_18,hF⟩|⟨hc_18,hF⟩
    ·refine aB rfl hc_18 (ai (aa (vI 1) (af ?_)))
     obtain rfl:=ae hF
     exact aA (aL [(vI 1)] ⟨rfl,trivial⟩)
    ·refine ay rfl hc_18 (ax (ai (aa (vI 0) (af ?_))))
     obtain rfl:=ae hF
     exact aA (aL [(vI 0)] ⟨rfl,trivial⟩)
theorem yz {l_1:(List Rect)} {r:Int} (hF:l9 l_1=some r) :
  FnM Tryz.prog 62 [(vL Rect.enc l_1)] [] (vI r) []:=by
 refine FnM.of_wH ⟨Tryz.prog,21,[],[]⟩ rfl Tryz.func62 rfl rfl (lb_ rfl) (by kernel_rfl) ?_
 unfold l9 at hF
 refine ai (aa (vI 0) (af (ak (ai (aa (vL Rect.enc l_1) (bH Ca rfl wz (aa (vB (decide ((l_1.length:Int)>2000))) (af ?_))))))))
 rcases aj hF with⟨hc_2,hF⟩|⟨hc_2,hF⟩
 ·refine aB rfl hc_2 (ai (aa (vI 2) (af ?_)))
  obtain rfl:=ae hF
  exact aA (aL [(vI 2)] ⟨rfl,trivial⟩)
 ·refine ay rfl hc_2 (ax (ak (ai (aa (vL Rect.enc l_1) (bH Ca rfl wz (aa (vI 0) (af ?_)))))))
  obtain ⟨o_11,hj_12,hF⟩:=bind_some hF
  obtain ⟨hn_7,hj_12⟩:=aY hj_12
  refine bN (λ(s_8:Unit)=>[]) (λ(s_8:Unit)=>[]) (λ(k_3:Nat)=>(λ(s_8:Unit)=>[(9,(vL Rect.enc l_1)),(10,(vI (l_1.length:Int))),(11,(vI (k_3:Int)))])) (λk x s=>mU k x s) o_11 l_1 () hj_12 rfl (aK rfl) ?_ ?_
  ·rintro ⟨k_3,l_4,s_8⟩ ⟨hL_10,hD_6⟩
   dsimp only at hL_10 hD_6
   cases l_4 with
   | nil =>
    obtain rfl:=ae hL_10
    refine ai (aa (vB (decide ((k_3:Int)<(l_1.length:Int)))) (af ?_))
    refine ak (ay rfl (drop_nil hD_6) (aW ?_))
    exact aU (s_8) rfl rfl (aK rfl)
   | cons x_5 l_4 =>
    obtain ⟨c_,hc_9,hL_10⟩:=bind_some hL_10
    refine ai (aa (vB (decide ((k_3:Int)<(l_1.length:Int)))) (af ?_))
    refine ak (aB rfl (bu hD_6) (ax ?_))
    unfold mU at hc_9
    refine ak (aM (ai (dC I8 rfl rfl (bD hD_6) rfl wz (bK x9 JL rfl (.d (.agg (Rect.enc x_5))) rfl wz (cz 0 (.inl rfl) z92 rfl wz (λn_13=>eB 0 il ft 0 x9 rfl rfl (Rect.v x_5) rfl wz (af (ai (aC 0 0 il ft x9 JL rfl rfl (.d (.agg (Rect.enc x_5))) rfl wz ?_)))))))))
    obtain ⟨r_14,hr_15,hc_9⟩:=bind_some hc_9
    refine aF (rV hr_15) rfl hb80 rfl rfl rfl rfl wz (aa (vI r_14) (af (ai (aa (vI r_14) (aa (vB (r_14 != 0)) (af ?_))))))
    rcases aj hc_9 with⟨hc_16,hc_9⟩|⟨hc_16,hc_9⟩
    ·refine aB rfl hc_16 (ai (aa (vI r_14) (aa (vI r_14) (af ?_))))
     obtain rfl:=ae hc_9
     obtain rfl:=ae hL_10
     obtain rfl:=ae hF
     exact aA (aL [(vI r_14)] ⟨rfl,trivial⟩)
    ·refine ay rfl hc_16 (ax (au (dB (bv hD_6 hn_7) wz rfl (aa (vI ((k_3+1:Nat):Int)) (af ?_)))))
     obtain rfl:=ae hc_9
     exact aV (k_3+1,l_4,()) ⟨hL_10,aR hD_6⟩ (ls_ _) rfl (aK rfl)
  ·rintro s_8 ho_ sl_ H_ hp_ hq_
   subst ho_
   refine aO _ hp_ hq_ (ai (aa (vI 0) (af ?_)))
   obtain rfl:=ae hF
   exact aA (aL [(vI 0)] ⟨rfl,trivial⟩)
theorem oG {n_1:Int} {r:Bool} (hF:gH n_1=some r) :
  FnM Tryz.prog 101 [.nil,(vI n_1)] [] (kV r (av 0) 4 ([]:List Rect)) (kO r 4):=by
 refine FnM.of_wH ⟨Tryz.prog,27,[],[]⟩ rfl Tryz.func101 rfl rfl (lb_ rfl) (by kernel_rfl) ?_
 unfold gH at hF
 refine ai (aa .nil (af (ak (ai (aa (vI n_1) (aa (vB (decide (n_1<0))) (af ?_)))))))
 rcases aj hF with⟨hc_2,hF⟩|⟨hc_2,hF⟩
 ·refine aB rfl hc_2 (au ?_)
  cases hF
 ·refine ay rfl hc_2 (ax (ak (ai (aa (vI n_1) (aa .nil (Pg Md rfl wz (aa .nil (PV Ca rfl wz (aa (vI (w64 (0-0))) (aa (vI (w64 (n_1-(w64 (0-0))))) (aa (vI (w64 (n_1-(w64 (0-0))))) (af (ai (aa (vI (w64 (n_1-(w64 (0-0))))) (aa (vB (decide ((w64 (n_1-(w64 (0-0))))>0))) (af ?_))))))))))))))))
  rcases aj hF with⟨hc_3,hF⟩|⟨hc_3,hF⟩
  ·refine aB rfl hc_3 (au (aa .nil (aa .nil (Pg Md rfl wz (aJ .nil wz (by kernel_rfl) (aa (vI (w64 (n_1-(w64 (0-0))))) ?_))))))
   obtain ⟨_,hz_5,hF⟩:=bind_some hF
   refine h_appz (enc:=Rect.enc) 0 (.inl rfl) Md (by kernel_rfl) x9 z92 rfl (by decide) by92 rfl rfl hz_5 wz (λn_4=>aa .nil (PV Ca rfl wz (h_cutm (m:=0) Ca x9 rfl rfl rfl (Nat.zero_le _) wz (aa (.vs n_4 4 0 0) (af (ai (aa (.vs n_4 4 0 0) (aa (.vs n_4 4 0 0) (af ?_)))))))))
   obtain rfl:=ae hF
   exact aA (finK (.inr rfl) 0 rfl rfl)
  ·refine ay rfl hc_3 (ax (ai (aa .nil (aa .nil (af ?_)))))
   obtain rfl:=ae hF
   exact aA (finK0 (.inr rfl) rfl)
theorem oN {slices_1:(List (List Rect))} {r:(List Rect)} (hF:eP slices_1=some r) :
  FnM Tryz.prog 81 [(vL (eL Rect.enc) slices_1)] [] (vL Rect.enc r) []:=by
 refine FnM.of_wH ⟨Tryz.prog,36,[],[]⟩ rfl Tryz.func81 rfl rfl (lb_ rfl) (by kernel_rfl) ?_
 unfold eP at hF
 refine ai (aa .nil (af (ai (aa (vI 0) (af (ak (ai (aa (vL (eL Rect.enc) slices_1) (bH un174 rfl wz (aa (vI 0) (af ?_)))))))))))
 obtain ⟨o_10,hj_11,hF⟩:=bind_some hF
 obtain ⟨hn_6,hj_11⟩:=aY hj_11
 refine bN (λ(s_7:Int)=>[(0,(vL (eL Rect.enc) slices_1)),(3,(vI s_7))]) (λ(s_7:Int)=>[]) (λ(k_2:Nat)=>(λ(s_7:Int)=>[(0,(vL (eL Rect.enc) slices_1)),(3,(vI s_7)),(9,(vL (eL Rect.enc) slices_1)),(10,(vI (slices_1.length:Int))),(11,(vI (k_2:Int)))])) (λk x s=>fO k x s) o_10 slices_1 0 hj_11 rfl (aK rfl) ?_ ?_
 ·rintro ⟨k_2,l_3,s_7⟩ ⟨hL_9,hD_5⟩
  dsimp only at hL_9 hD_5
  cases l_3 with
  | nil =>
   obtain rfl:=ae hL_9
   refine ai (aa (vB (decide ((k_2:Int)<(slices_1.length:Int)))) (af ?_))
   refine ak (ay rfl (drop_nil hD_5) (aW ?_))
   exact aU (s_7) rfl rfl (aK rfl)
  | cons x_4 l_3 =>
   obtain ⟨c_,hc_8,hL_9⟩:=bind_some hL_9
   refine ai (aa (vB (decide ((k_2:Int)<(slices_1.length:Int)))) (af ?_))
   refine ak (aB rfl (bu hD_5) (ax ?_))
   unfold fO at hc_8
   refine ak (aM (ai (dC OW rfl rfl (bD hD_5) rfl wz (bK NM NA rfl (vL Rect.enc x_4) rfl wz (aa (vL Rect.enc x_4) (af (ai (aa (vI s_7) (aa (vL Rect.enc x_4) (bH Ca rfl wz (aa (vI (w64 (s_7+(x_4.length:Int)))) (aa (vI (w64 (s_7+(x_4.length:Int)))) (af (ai (aa (vI (w64 (s_7+(x_4.length:Int)))) (aa (vB (decide ((w64 (s_7+(x_4.length:Int)))<0))) (af ?_)))))))))))))))))
   obtain ⟨v_12,h_13,hc_8⟩:=bind_some hc_8
   refine aS [(0,(vL (eL Rect.enc) slices_1)),(3,(vI (w64 (s_7+(x_4.length:Int))))),(9,(vL (eL Rect.enc) slices_1)),(10,(vI (slices_1.length:Int))),(11,(vI (k_2:Int)))] [] ?_ ?_
   ·rcases aj h_13 with⟨hc_14,h_13⟩|⟨hc_14,h_13⟩
    ·refine aB rfl hc_14 (au ?_)
     cases h_13
    ·refine ay rfl hc_14 (ax ?_)
     obtain rfl:=ae h_13
     exact cu
   ·rintro ⟨⟩ _ sl_ H_ hp_ hq_
    refine aO _ hp_ hq_ (au (dB (bv hD_5 hn_6) wz rfl (aa (vI ((k_2+1:Nat):Int)) (af ?_))))
    obtain rfl:=ae hc_8
    exact aV (k_2+1,l_3,(w64 (s_7+(x_4.length:Int)))) ⟨hL_9,aR hD_5⟩ (ls_ _) rfl (aK rfl)
 ·rintro s_7 ho_ sl_ H_ hp_ hq_
  subst ho_
  refine aO _ hp_ hq_ (ai (aa (vI s_7) ?_))
  obtain ⟨b_15,hr_16,hF⟩:=bind_some hF
  refine h_callk (enc:=Rect.enc) (oG hr_16) rfl hb101 (by kernel_rfl) rfl (by kernel_rfl) wz (λn_17=>aa (kV b_15 n_17 4 ([]:List Rect)) (af (ak (ai (aa (vL (eL Rect.enc) slices_1) (bH un174 rfl wz (aa (vI 0) (af ?_))))))))
  obtain ⟨o_28,hj_29,hF⟩:=bind_some hF
  obtain ⟨hn_22,hj_29⟩:=aY hj_29
  refine fT (σ:=(List Rect)) (N:=Nm) (λp=>(λ(s_23:List Rect) (n_25:Nm)=>([(6,(kV b_15 n_25 4 s_23))]:SL_)) p.1 p.2) (λp=>(λ(s_23:List Rect) (n_25:Nm)=>([(n_25,kB b_15 4 Rect.enc s_23)]:Hp)) p.1 p.2) (λ(k_18:Nat)=>(λp=>(λ(s_23:List Rect) (n_25:Nm)=>([(6,(kV b_15 n_25 4 s_23)),(25,(vL (eL Rect.enc) slices_1)),(26,(vI (slices_1.length:Int))),(27,(vI (k_18:Int)))]:SL_)) p.1 p.2)) (λk x s=>fP k x s) o_28 slices_1 (([]:List Rect),n_17) hj_29 rfl (aK rfl) ?_ ?_
  ·rintro ⟨k_18,l_19,s_23,n_25⟩ ⟨hL_27,hD_21⟩
   dsimp only at hL_27 hD_21
   cases l_19 with
   | nil =>
    obtain rfl:=ae hL_27
    refine ai (aa (vB (decide ((k_18:Int)<(slices_1.length:Int)))) (af ?_))
    refine ak (ay rfl (drop_nil hD_21) (aW ?_))
    exact aU (s_23,n_25) rfl rfl (aK rfl)
   | cons x_20 l_19 =>
    obtain ⟨c_,hc_26,hL_27⟩:=bind_some hL_27
    refine ai (aa (vB (decide ((k_18:Int)<(slices_1.length:Int)))) (af ?_))
    refine ak (aB rfl (bu hD_21) (ax ?_))
    unfold fP at hc_26
    refine ak (aM (ai (dC OW rfl rfl (bD hD_21) rfl wz (bK NM NA rfl (vL Rect.enc x_20) rfl wz (aa (vL Rect.enc x_20) (af (au (aa (kV b_15 n_25 4 s_23) (aa (vL Rect.enc x_20) ?_)))))))))
    obtain ⟨a_30,hz_31,hc_26⟩:=bind_some hc_26
    refine h_appk 0 il ft (i:=0) Md Md x9 z92 rfl (by decide) by92 (by decide) (λ_=>rfl) rfl rfl rfl hz_31 wz (λn_32=>aa (kV b_15 n_32 4 a_30) (af (au (dB (bv hD_21 hn_22) wz rfl (aa (vI ((k_18+1:Nat):Int)) (af ?_))))))
    obtain rfl:=ae hc_26
    exact aV (k_18+1,l_19,a_30,n_32) ⟨hL_27,aR hD_21⟩ (ls_ _) rfl (aK rfl)
  ·rintro ⟨s_23,n_25⟩ ho_ sl_ H_ hp_ hq_
   subst ho_
   refine aO _ hp_ hq_ (ai (aa (kV b_15 n_25 4 s_23) (aa (kV b_15 n_25 4 s_23) (af (Qr 0 rfl (LC 2 0 rfl rfl (LC 6 0 rfl rfl (LC 35 0 rfl rfl ?_))))))))
   obtain rfl:=ae hF
   exact aA (aL [(vL Rect.enc s_23)] ⟨rfl,trivial⟩)
theorem uo {x r:(List Int)} (hF:iV x=some r) :
  FnM Tryz.prog 82 [(dV (av 0) 1 x)] (([]:List Box)++gI 1 eI x) (.tup []) (([]:List Box).map some++gT x (gB 1 eI r)) :=
 PK Tryz.slices_Sort_int Tryz.slices_Sort_int_none hF
theorem q9 {s_1:(List Int)} {r:(List Int)} (hF:fw s_1=some r) :
  FnM Tryz.prog 83 [(dV (av 0) 1 s_1)] (([]:List Box)++gI 1 eI s_1) (vL eI r) (([]:List Box).map some++gT s_1 none):=by
 refine FnM.of_wHv ⟨Tryz.prog,61,[],[]⟩ rfl Tryz.func83 rfl rfl (lb_ rfl) (by kernel_rfl) ?_
 unfold fw at hF
 refine ai (aa .nil (af (ak (ai (aa (dV (av 0) 1 s_1) (Co uT rfl wz (aa (vB (decide ((s_1.length:Int)<2))) (af ?_))))))))
 rcases aj hF with⟨hc_2,hF⟩|⟨hc_2,hF⟩
 ·refine aB rfl hc_2 (ai (aa (dV (av 0) 1 s_1) (aa (dV (av 0) 1 s_1) (af (iQ 0 rfl (zC 0 0 rfl rfl (zC 2 0 rfl rfl (zC 6 0 rfl rfl (zC 9 0 rfl rfl (H6 (i:=0) rfl ?_))))))))))
  obtain rfl:=ae hF
  exact aA (FK (bs:=([]:List Box)) (os:=([]:List Box)) (xs:=s_1) (o:=none) (.inr rfl) [(vL eI s_1)] ⟨rfl,trivial⟩ rfl rfl rfl rfl rfl (by kernel_rfl) Dw rfl)
 ·refine ay rfl hc_2 (ax (ak (ai (aa (vI 1) (af ?_)))))
  obtain ⟨o_11,hj_12,hF⟩:=bind_some hF
  obtain ⟨nq_52,hj_12⟩:=dR hj_12
  refine gD (λ(s_8:Int)=>[(0,(dV (av 0) 1 s_1))]) (λ(s_8:Int)=>[((av 0),gB 1 eI s_1)]) (λ(k_3:Nat)=>(λ(s_8:Int)=>[(0,(dV (av 0) 1 s_1)),(3,(vI s_8))])) (λs=>dS s_1 s) o_11 nq_52 1 hj_12 rfl (aK rfl) ?_ ?_
  ·rintro ⟨k_3,s_8⟩ hL_10
   dsimp only at hL_10
   cases k_3 with
   | zero=>cases hL_10
   | succ k_3 =>
    obtain ⟨c_,hc_9,hL_10⟩:=bind_some hL_10
    unfold dS at hc_9
    refine ak (ai (aa (vI s_8) (aa (dV (av 0) 1 s_1) (Co uT rfl wz (aa (vB (decide (s_8<(s_1.length:Int)))) (af ?_))))))
    rcases aj hc_9 with⟨hc_13,hc_9⟩|⟨hc_13,hc_9⟩
    ·refine aB rfl hc_13 (ax (ak (aM (ak (bE (aa (dV (av 0) 1 s_1) (aa (vI s_8) ?_)))))))
     obtain ⟨_,hi_14,hc_9⟩:=bind_some hc_9
     refine tT gq rfl rfl (gp hi_14) (dK hi_14) wz ?_
     obtain ⟨e_15,hy_16,hc_9⟩:=bind_some hc_9
     refine uh 3 0 (.inr (by kernel_rfl)) (λ_ _ ag=>trivial) sz3 ag3 rfl rfl hy_16 (vI e_15) rfl wz (aa (dV (av 0) 1 s_1) (aa (vI s_8) (aa (vI (w64 (s_8-1))) ?_)))
     obtain ⟨_,hi_17,hc_9⟩:=bind_some hc_9
     refine tT gq rfl rfl (gp hi_17) (dK hi_17) wz ?_
     obtain ⟨e_18,hy_19,hc_9⟩:=bind_some hc_9
     refine uh 8 0 (.inr (by kernel_rfl)) (λ_ _ ag=>⟨.inl ⟨rfl,rfl⟩,trivial⟩) sz3 ag3 rfl rfl hy_19 (vI e_18) rfl wz (aa (vB (e_15==e_18)) (af ?_))
     rcases aj hc_9 with⟨hc_20,hc_9⟩|⟨hc_20,hc_9⟩
     ·refine aB rfl hc_20 (ai (aa (dV (av 0) 1 s_1) (aa (vI s_8) ?_)))
      obtain ⟨_,hn_21,hc_9⟩:=bind_some hc_9
      replace hn_21:=Qg hn_21
      refine gG (v':=(vV (av 0) 1 s_1)) 0 rfl (AX hn_21) (gG (v':=(vV (av 0) 1 s_1)) 11 rfl (AX hn_21) (gG (v':=(vV (av 0) 1 s_1)) 16 rfl (AX hn_21) (gG (v':=(vV (av 0) 1 s_1)) 20 rfl (AX hn_21) (gG (v':=(vV (av 0) 1 s_1)) 26 rfl (AX hn_21) (xz 0 rfl (ME hn_21) ?_)))))
      obtain ⟨_,hr_22,hc_9⟩:=bind_some hc_9
      refine KG uT sz3 rfl rfl hr_22 wz (aa (.vs (av 0) 1 ((s_8).toNat) (((s_1.length:Int)).toNat-(s_8).toNat)) (af (ak (ai (aa (vI 1) (af ?_))))))
      obtain ⟨o_31,hj_32,hc_9⟩:=bind_some hc_9
      obtain ⟨nq_51,hj_32⟩:=dR hj_32
      refine gD (λ(s_28:(List Int)×Int×Int)=>[(0,(vV (av 0) 1 s_28.1)),(3,(vI s_28.2.1))]) (λ(s_28:(List Int)×Int×Int)=>[((av 0),some (bV 1 eI s_28.1))]) (λ(k_23:Nat)=>(λ(s_28:(List Int)×Int×Int)=>[(0,(vV (av 0) 1 s_28.1)),(3,(vI s_28.2.1)),(4,(.vs (av 0) 1 ((s_8).toNat) (((s_1.length:Int)).toNat-(s_8).toNat))),(5,(vI s_28.2.2))])) (λs=>fI s_1 s_8 s) o_31 nq_51 (s_1,s_8,1) hj_32 rfl (aK rfl) ?_ ?_
      ·rintro ⟨k_23,s_28⟩ hL_30
       dsimp only at hL_30
       cases k_23 with
       | zero=>cases hL_30
       | succ k_23 =>
        obtain ⟨c_,hc_29,hL_30⟩:=bind_some hL_30
        unfold fI at hc_29
        refine ak (ai (aa (vI s_28.2.2) (aa (.vs (av 0) 1 ((s_8).toNat) (((s_1.length:Int)).toNat-(s_8).toNat)) (Jg uT rfl wz (aa (vB (decide (s_28.2.2<(((((s_1.length:Int)).toNat-(s_8).toNat):Nat):Int)))) (af ?_))))))
        rcases aj hc_29 with⟨hc_33,hc_29⟩|⟨hc_33,hc_29⟩
        ·refine aB rfl hc_33 (ax (ak (aM (ak (bE (aa (.vs (av 0) 1 ((s_8).toNat) (((s_1.length:Int)).toNat-(s_8).toNat)) (aa (vI s_28.2.2) ?_)))))))
         obtain ⟨_,hi_34,hc_29⟩:=bind_some hc_29
         refine j5 gq rfl rfl (pU hi_34) (lw hi_34) wz ?_
         obtain ⟨e_35,hy_36,hc_29⟩:=bind_some hc_29
         refine Bh 3 0 (.inr (by kernel_rfl)) (λ_ _ ag=>trivial) sz3 ag3 rfl rfl hy_36 (vI e_35) rfl wz (aa (.vs (av 0) 1 ((s_8).toNat) (((s_1.length:Int)).toNat-(s_8).toNat)) (aa (vI s_28.2.2) (aa (vI (w64 (s_28.2.2-1))) ?_)))
         obtain ⟨_,hi_37,hc_29⟩:=bind_some hc_29
         refine j5 gq rfl rfl (pU hi_37) (lw hi_37) wz ?_
         obtain ⟨e_38,hy_39,hc_29⟩:=bind_some hc_29
         refine Bh 8 0 (.inr (by kernel_rfl)) (λ_ _ ag=>⟨.inl ⟨rfl,rfl⟩,trivial⟩) sz3 ag3 rfl rfl hy_39 (vI e_38) rfl wz (aa (vB (e_35 != e_38)) (af ?_))
         obtain ⟨v_40,h_41,hc_29⟩:=bind_some hc_29
         refine aS [(0,(vV (av 0) 1 v_40.1)),(3,(vI v_40.2)),(4,(.vs (av 0) 1 ((s_8).toNat) (((s_1.length:Int)).toNat-(s_8).toNat))),(5,(vI s_28.2.2))] [((av 0),some (bV 1 eI v_40.1))] ?_ ?_
         ·rcases aj h_41 with⟨hc_42,h_41⟩|⟨hc_42,h_41⟩
          ·refine aB rfl hc_42 (ai (aa (vV (av 0) 1 s_28.1) (aa (vI s_28.2.1) (aa (.vs (av 0) 1 ((s_8).toNat) (((s_1.length:Int)).toNat-(s_8).toNat)) (aa (vI s_28.2.2) ?_)))))
           obtain ⟨_,hi_43,h_41⟩:=bind_some h_41
           refine j5 gq rfl rfl (pU hi_43) (lw hi_43) wz ?_
           obtain ⟨e_44,hy_45,h_41⟩:=bind_some h_41
           refine Bh 0 0 il ft sz3 ag3 rfl rfl hy_45 (vI e_44) rfl wz ?_
           obtain ⟨_,hi_46,h_41⟩:=bind_some h_41
           refine j5 gq rfl rfl (gp hi_46) (dK hi_46) wz ?_
           obtain ⟨e_47,hy_48,h_41⟩:=bind_some h_41
           refine JB 0 il ft 0 sz3 rfl rfl hy_48 e_44 rfl wz (gG (v':=(vV (av 0) 1 (s_28.1.set (0+(s_28.2.1).toNat) e_44))) 0 rfl (uL (by simp)) (gG (v':=(vV (av 0) 1 (s_28.1.set (0+(s_28.2.1).toNat) e_44))) 45 rfl (uL (by simp)) (af (au (aa (vI s_28.2.1) (aa (vI (w64 (s_28.2.1+1))) (aa (vI (w64 (s_28.2.1+1))) (af ?_))))))))
           obtain rfl:=ae h_41
           exact cu
          ·refine ay rfl hc_42 (ax ?_)
           obtain rfl:=ae h_41
           exact cu
         ·rintro ⟨⟩ _ sl_ H_ hp_ hq_
          refine aO _ hp_ hq_ (au (aa (vI s_28.2.2) (aa (vI (w64 (s_28.2.2+1))) (aa (vI (w64 (s_28.2.2+1))) (af ?_)))))
          obtain rfl:=ae hc_29
          exact aV (k_23,(v_40.1,v_40.2,(w64 (s_28.2.2+1)))) hL_30 (ls_ _) rfl (aK rfl)
        ·refine ay rfl hc_33 (aW ?_)
         obtain rfl:=ae hc_29
         obtain rfl:=ae hL_30
         exact aU ((s_28.1,s_28.2.1,s_28.2.2)) rfl rfl (aK rfl)
      ·rintro s_28 ho_ sl_ H_ hp_ hq_
       subst ho_
       refine aO _ hp_ hq_ (ai (aa (vV (av 0) 1 s_28.1) (aa (vI s_28.2.1) ?_)))
       obtain ⟨_,hr_49,hc_9⟩:=bind_some hc_9
       refine KG uT sz3 rfl rfl hr_49 wz (h_clear (i:=0) 0 il ft 0 Lh sz3 z3 rfl rfl rfl (by decide) rfl (Ba hr_49) rfl wz (gG (v':=(vV (av 0) 1 (s_28.1.take ((s_28.2.1).toNat)++List.replicate (((s_28.1.length:Int)).toNat-(s_28.2.1).toNat) 0++s_28.1.drop (((s_28.2.1).toNat)+(((s_28.1.length:Int)).toNat-(s_28.2.1).toNat))))) 0 rfl (uL (Gp (Ba hr_49))) (gG (v':=(vV (av 0) 1 (s_28.1.take ((s_28.2.1).toNat)++List.replicate (((s_28.1.length:Int)).toNat-(s_28.2.1).toNat) 0++s_28.1.drop (((s_28.2.1).toNat)+(((s_28.1.length:Int)).toNat-(s_28.2.1).toNat))))) 54 rfl (uL (Gp (Ba hr_49))) (af (ai (aa (vV (av 0) 1 (s_28.1.take ((s_28.2.1).toNat)++List.replicate (((s_28.1.length:Int)).toNat-(s_28.2.1).toNat) 0++s_28.1.drop (((s_28.2.1).toNat)+(((s_28.1.length:Int)).toNat-(s_28.2.1).toNat)))) (aa (vI s_28.2.1) ?_)))))))
       obtain ⟨_,hr_50,hc_9⟩:=bind_some hc_9
       refine Po uT sz3 rfl rfl hr_50 wz (aa (.vs (av 0) 1 0 ((s_28.2.1).toNat)) (af (DR 0 rfl (zA 0 0 rfl rfl (OX 2 0 rfl rfl (Ba hr_50) (zA 54 0 rfl rfl (zA 57 0 rfl rfl (OX 59 0 rfl rfl (Ba hr_50) (H6 (i:=0) rfl ?_)))))))))
       obtain rfl:=ae hc_9
       obtain rfl:=ae hL_10
       obtain rfl:=ae hF
       exact aA (FK (bs:=([]:List Box)) (os:=([]:List Box)) (xs:=s_1) (o:=none) (.inr rfl) [(vL eI (cutL (s_28.1.take ((s_28.2.1).toNat)++List.replicate (((s_28.1.length:Int)).toNat-(s_28.2.1).toNat) 0++s_28.1.drop (((s_28.2.1).toNat)+(((s_28.1.length:Int)).toNat-(s_28.2.1).toNat))) 0 ((s_28.2.1).toNat)))] ⟨rfl,trivial⟩ rfl rfl rfl rfl rfl (by kernel_rfl) Dw rfl)
     ·refine ay rfl hc_20 (ax (au (aa (vI s_8) (aa (vI (w64 (s_8+1))) (aa (vI (w64 (s_8+1))) (af ?_))))))
      obtain rfl:=ae hc_9
      exact aV (k_3,(w64 (s_8+1))) hL_10 (ls_ _) rfl (aK rfl)
    ·refine ay rfl hc_13 (aW ?_)
     obtain rfl:=ae hc_9
     obtain rfl:=ae hL_10
     exact aU (s_8) rfl rfl (aK rfl)
  ·rintro s_8 ho_ sl_ H_ hp_ hq_
   subst ho_
   refine aO _ hp_ hq_ (ai (aa (dV (av 0) 1 s_1) (aa (dV (av 0) 1 s_1) (af (iQ 0 rfl (zC 0 0 rfl rfl (zC 2 0 rfl rfl (zC 60 0 rfl rfl (H6 (i:=0) rfl ?_)))))))))
   obtain rfl:=ae hF
   exact aA (FK (bs:=([]:List Box)) (os:=([]:List Box)) (xs:=s_1) (o:=none) (.inr rfl) [(vL eI s_1)] ⟨rfl,trivial⟩ rfl rfl rfl rfl rfl (by kernel_rfl) Dw rfl)
theorem Bz {a_1:Run} {b_2:Run} {r:Int} (hF:uM a_1 b_2=some r) :
  FnM Tryz.prog 105 [(.d (.agg (Run.enc a_1))),(.d (.agg (Run.enc b_2)))] [] (vI r) []:=by
 refine FnM.of_wH ⟨Tryz.prog,10,[],[]⟩ rfl Tryz.func105 rfl rfl (lb_ rfl) (by kernel_rfl) ?_
 unfold uM at hF
 refine ai (gz 0 (.inl rfl) [(vI a_1.f_from),(vI a_1.f_to)] rfl rfl wz (λn_3=>gz 0 (.inl rfl) [(vI b_2.f_from),(vI b_2.f_to)] rfl rfl wz (λn_4=>aa (vI 0) (af (ai (aG lY rfl 0 rfl wz (aC 0 0 il ft sz3 ag3 rfl rfl (vI a_1.f_from) rfl wz (aG lY rfl 0 rfl wz (aC 0 1 il ft sz3 ag3 rfl rfl (vI b_2.f_from) rfl wz (aa (vI (w64 (a_1.f_from-b_2.f_from))) (aa (vI (w64 (a_1.f_from-b_2.f_from))) (af ?_))))))))))))
 obtain rfl:=ae hF
 exact aA (aL [(vI (w64 (a_1.f_from-b_2.f_from)))] ⟨rfl,trivial⟩)
theorem zD {x_1:Int} {r:Int} (hF:qY x_1=some r) :
  FnM Tryz.prog 126 [(.d (.int .u64 x_1))] [] (vI r) []:=by
 refine FnM.of_wH ⟨Tryz.prog,25,[],[]⟩ rfl Tryz.func126 rfl rfl (lb_ rfl) (by kernel_rfl) ?_
 unfold qY at hF
 refine ai (aa (vI 0) (af (ak (ai (aa (.d (.int .u64 x_1)) (aa (vB (decide (x_1>=4294967296))) (af ?_)))))))
 obtain ⟨v_2,h_3,hF⟩:=bind_some hF
 refine aS [(0,(.d (.int .u64 v_2.1))),(2,(vI v_2.2))] [] ?_ ?_
 ·rcases aj h_3 with⟨hc_4,h_3⟩|⟨hc_4,h_3⟩
  ·refine aB rfl hc_4 (ai (aa (.d (.int .u64 x_1)) ?_))
   obtain ⟨q_5,hz_6,h_3⟩:=bind_some h_3
   refine JN rfl rfl hz_6 wz (aa (.d (.int .u64 q_5)) (af (au (aa (vI 32) (af ?_)))))
   obtain rfl:=ae h_3
   exact cu
  ·refine ay rfl hc_4 (ax ?_)
   obtain rfl:=ae h_3
   exact cu
 ·rintro ⟨⟩ _ sl_ H_ hp_ hq_
  refine aO _ hp_ hq_ (ak (ai (aa (.d (.int .u64 v_2.1)) (aa (vB (decide (v_2.1>=65536))) (af ?_)))))
  obtain ⟨v_7,h_8,hF⟩:=bind_some hF
  refine aS [(0,(.d (.int .u64 v_7.1))),(2,(vI v_7.2))] [] ?_ ?_
  ·rcases aj h_8 with⟨hc_9,h_8⟩|⟨hc_9,h_8⟩
   ·refine aB rfl hc_9 (ai (aa (.d (.int .u64 v_2.1)) ?_))
    obtain ⟨q_10,hz_11,h_8⟩:=bind_some h_8
    refine JN rfl rfl hz_11 wz (aa (.d (.int .u64 q_10)) (af (au (aa (vI v_2.2) (aa (vI (w64 (v_2.2+16))) (aa (vI (w64 (v_2.2+16))) (af ?_)))))))
    obtain rfl:=ae h_8
    exact cu
   ·refine ay rfl hc_9 (ax ?_)
    obtain rfl:=ae h_8
    exact cu
  ·rintro ⟨⟩ _ sl_ H_ hp_ hq_
   refine aO _ hp_ hq_ (ak (ai (aa (.d (.int .u64 v_7.1)) (aa (vB (decide (v_7.1>=256))) (af ?_)))))
   obtain ⟨v_12,h_13,hF⟩:=bind_some hF
   refine aS [(0,(.d (.int .u64 v_12.1))),(2,(vI v_12.2))] [] ?_ ?_
   ·rcases aj h_13 with⟨hc_14,h_13⟩|⟨hc_14,h_13⟩
    ·refine aB rfl hc_14 (ai (aa (.d (.int .u64 v_7.1)) ?_))
     obtain ⟨q_15,hz_16,h_13⟩:=bind_some h_13
     refine JN rfl rfl hz_16 wz (aa (.d (.int .u64 q_15)) (af (au (aa (vI v_7.2) (aa (vI (w64 (v_7.2+8))) (aa (vI (w64 (v_7.2+8))) (af ?_)))))))
     obtain rfl:=ae h_13
     exact cu
    ·refine ay rfl hc_14 (ax ?_)
     obtain rfl:=ae h_13
     exact cu
   ·rintro ⟨⟩ _ sl_ H_ hp_ hq_
    refine aO _ hp_ hq_ (ai (aa (vI v_12.2) (aa (.d (.int .u64 v_12.1)) (zH un204 un5 rfl wz ?_))))
    obtain ⟨b_17,hy_18,hF⟩:=bind_some hF
    refine wO un9 rfl rfl hy_18 wz (zH un5 un3 rfl wz (aa (vI (w64 (v_12.2+(w64 (b_17.toNat:Int))))) (aa (vI (w64 (v_12.2+(w64 (b_17.toNat:Int))))) (af ?_))))
    obtain rfl:=ae hF
    exact aA (aL [(vI (w64 (v_12.2+(w64 (b_17.toNat:Int)))))] ⟨rfl,trivial⟩)
theorem Cj {x_1:Int} {r:Int} (hF:qw x_1=some r) :
  FnM Tryz.prog 103 [(.d (.int .u64 x_1))] [] (vI r) []:=by
 refine FnM.of_wH ⟨Tryz.prog,8,[],[]⟩ rfl Tryz.func103 rfl rfl (lb_ rfl) (by kernel_rfl) ?_
 unfold qw at hF
 refine ai (aa (vI 0) (af (ak (ay rfl rfl (ax (ai (aa (.d (.int .u64 x_1)) ?_)))))))
 obtain ⟨r_2,hr_3,hF⟩:=bind_some hF
 refine aF (zD hr_3) rfl hb126 rfl rfl rfl rfl wz (aa (vI r_2) (af ?_))
 obtain rfl:=ae hF
 exact aA (aL [(vI r_2)] ⟨rfl,trivial⟩)
theorem kK {data_1:(List Run)} {a_2:Int} {b_3:Int} {r:(List Run)} (hF:bU data_1 a_2 b_3=some r) :
  FnM Tryz.prog 145 [(dV (av 0) 2 data_1),(vI a_2),(vI b_3),(.fn 105 [])] (([]:List Box)++gI 2 Run.enc data_1) (.tup []) (([]:List Box).map some++gT data_1 (gB 2 Run.enc r)):=by
 refine FnM.of_wHv ⟨Tryz.prog,53,[],[]⟩ rfl Tryz.func145 rfl rfl (lb_ rfl) (by kernel_rfl) ?_
 unfold bU at hF
 refine ai (aa (vI a_2) (aa (vI (w64 (a_2+1))) (aa (vI (w64 (a_2+1))) (af ?_))))
 obtain ⟨o_13,hj_14,hF⟩:=bind_some hF
 obtain ⟨nq_51,hj_14⟩:=dR hj_14
 refine gD (λ(s_10:(List Run)×Int)=>[]) (λ(s_10:(List Run)×Int)=>[((av 0),gB 2 Run.enc s_10.1)]) (λ(k_5:Nat)=>(λ(s_10:(List Run)×Int)=>[(0,(dV (av 0) 2 s_10.1)),(1,(vI a_2)),(2,(vI b_3)),(3,(.fn 105 [])),(8,(vI s_10.2))])) (λs=>bO b_3 a_2 s) o_13 nq_51 (data_1,(w64 (a_2+1))) hj_14 rfl (aK rfl) ?_ ?_
 ·rintro ⟨k_5,s_10⟩ hL_12
  dsimp only at hL_12
  cases k_5 with
  | zero=>cases hL_12
  | succ k_5 =>
   obtain ⟨c_,hc_11,hL_12⟩:=bind_some hL_12
   unfold bO at hc_11
   refine ak (ai (aa (vI s_10.2) (aa (vI b_3) (aa (vB (decide (s_10.2<b_3))) (af ?_)))))
   rcases aj hc_11 with⟨hc_15,hc_11⟩|⟨hc_15,hc_11⟩
   ·refine aB rfl hc_15 (ax (ak (aM (ai (aa (vI s_10.2) (aa (vI s_10.2) (af ?_)))))))
    obtain ⟨o_24,hj_25,hc_11⟩:=bind_some hc_11
    obtain ⟨nq_50,hj_25⟩:=dR hj_25
    refine gD (λ(s_21:(List Run)×Int)=>[(0,(dV (av 0) 2 s_21.1)),(1,(vI a_2)),(2,(vI b_3)),(3,(.fn 105 [])),(8,(vI s_10.2))]) (λ(s_21:(List Run)×Int)=>[((av 0),gB 2 Run.enc s_21.1)]) (λ(k_16:Nat)=>(λ(s_21:(List Run)×Int)=>[(0,(dV (av 0) 2 s_21.1)),(1,(vI a_2)),(2,(vI b_3)),(3,(.fn 105 [])),(8,(vI s_10.2)),(9,(vI s_21.2))])) (λs=>cZ a_2 s) o_24 nq_50 (s_10.1,s_10.2) hj_25 rfl (aK rfl) ?_ ?_
    ·rintro ⟨k_16,s_21⟩ hL_23
     dsimp only at hL_23
     cases k_16 with
     | zero=>cases hL_23
     | succ k_16 =>
      obtain ⟨c_,hc_22,hL_23⟩:=bind_some hL_23
      unfold cZ at hc_22
      refine ak (ak ?_)
      obtain ⟨v_26,h_27,hc_22⟩:=bind_some hc_22
      refine aS [(0,(dV (av 0) 2 s_21.1)),(1,(vI a_2)),(2,(vI b_3)),(3,(.fn 105 [])),(8,(vI s_10.2)),(9,(vI s_21.2)),(34,(vB v_26))] [((av 0),gB 2 Run.enc s_21.1)] ?_ ?_
      ·refine bE (aa (vI s_21.2) (aa (vI a_2) (aa (vB (decide (s_21.2>a_2))) ?_)))
       rcases aj h_27 with⟨hc_28,h_27⟩|⟨hc_28,h_27⟩
       ·refine aD rfl hc_28 wz (aJ (.fn 105 []) wa rfl (aJ (dV (av 0) 2 s_21.1) wa rfl (aJ (vI s_21.2) wa rfl ?_)))
        obtain ⟨_,hi_29,h_27⟩:=bind_some h_27
        refine tT mK rfl rfl (gp hi_29) (dK hi_29) wa ?_
        obtain ⟨e_30,hy_31,h_27⟩:=bind_some h_27
        refine uh 8 0 (.inr (by kernel_rfl)) (λ_ _ ag=>trivial) oP yx rfl rfl hy_31 (.d (.agg (Run.enc e_30))) rfl wa (aJ (dV (av 0) 2 s_21.1) wa rfl (aJ (vI s_21.2) wa rfl (aJ (vI (w64 (s_21.2-1))) wa rfl ?_)))
        obtain ⟨_,hi_32,h_27⟩:=bind_some h_27
        refine tT mK rfl rfl (gp hi_32) (dK hi_32) wa ?_
        obtain ⟨e_33,hy_34,h_27⟩:=bind_some h_27
        refine uh 13 0 (.inr (by kernel_rfl)) (λ_ _ ag=>⟨.inl ⟨rfl,rfl⟩,trivial⟩) oP yx rfl rfl hy_34 (.d (.agg (Run.enc e_33))) rfl wa ?_
        obtain ⟨r_35,hr_36,h_27⟩:=bind_some h_27
        refine aF (Bz hr_36) rfl hb105 rfl rfl rfl rfl wa (aJ (vB (decide (r_35<0))) wa rfl (aa (vB (decide (r_35<0))) (af ?_)))
        obtain rfl:=ae h_27
        exact cu
       ·refine aD rfl hc_28 wz (ah (ah (ah (ah (ah (ah (ah (ah (ah (ah (ah (ah (aa (vB false) (af ?_))))))))))))))
        obtain rfl:=ae h_27
        exact cu
      ·rintro ⟨⟩ _ sl_ H_ hp_ hq_
       refine aO _ hp_ hq_ ?_
       rcases aj hc_22 with⟨hc_37,hc_22⟩|⟨hc_37,hc_22⟩
       ·refine aB rfl hc_37 (ax (ak (aM (bE (aa (dV (av 0) 2 s_21.1) (aa (vI s_21.2) (aa (dV (av 0) 2 s_21.1) (aa (vI s_21.2) (aa (vI (w64 (s_21.2-1))) (aa (dV (av 0) 2 s_21.1) (aa (vI s_21.2) (aa (vI (w64 (s_21.2-1))) ?_))))))))))))
        obtain ⟨_,hi_38,hc_22⟩:=bind_some hc_22
        refine tT mK rfl rfl (gp hi_38) (dK hi_38) wz ?_
        obtain ⟨e_39,hy_40,hc_22⟩:=bind_some hc_22
        refine uh 9 0 (.inr (by kernel_rfl)) (λ_ _ ag=>trivial) oP yx rfl rfl hy_40 (.d (.agg (Run.enc e_39))) rfl wz (aa (dV (av 0) 2 s_21.1) (aa (vI s_21.2) ?_))
        obtain ⟨_,hi_41,hc_22⟩:=bind_some hc_22
        refine tT mK rfl rfl (gp hi_41) (dK hi_41) wz ?_
        obtain ⟨e_42,hy_43,hc_22⟩:=bind_some hc_22
        refine uh 13 0 (.inr (by kernel_rfl)) (λ_ _ ag=>⟨.inl ⟨rfl,rfl⟩,trivial⟩) oP yx rfl rfl hy_43 (.d (.agg (Run.enc e_42))) rfl wz ?_
        obtain ⟨_,hi_44,hc_22⟩:=bind_some hc_22
        refine tT mK rfl rfl (gp hi_44) (dK hi_44) wz ?_
        obtain ⟨e_45,hy_46,hc_22⟩:=bind_some hc_22
        refine wI 15 (.inr (by kernel_rfl)) (λ_ _ ag=>⟨.inr (.inr (by kernel_rfl)),⟨.inr (.inr (by kernel_rfl)),trivial⟩⟩) 0 oP rfl rfl hy_46 e_39 rfl wz (gG (v':=(dV (av 0) 2 (s_21.1.set (0+(s_21.2).toNat) e_39))) 0 rfl (j4 (by simp)) (gG (v':=(dV (av 0) 2 (s_21.1.set (0+(s_21.2).toNat) e_39))) 37 rfl (j4 (by simp)) (gG (v':=(dV (av 0) 2 (s_21.1.set (0+(s_21.2).toNat) e_39))) 39 rfl (j4 (by simp)) (gG (v':=(dV (av 0) 2 (s_21.1.set (0+(s_21.2).toNat) e_39))) 42 rfl (j4 (by simp)) (gG (v':=(dV (av 0) 2 (s_21.1.set (0+(s_21.2).toNat) e_39))) 47 rfl (j4 (by simp)) ?_)))))
        obtain ⟨_,hi_47,hc_22⟩:=bind_some hc_22
        refine tT mK rfl rfl (gp hi_47) (dK hi_47) wz ?_
        obtain ⟨e_48,hy_49,hc_22⟩:=bind_some hc_22
        refine wI 17 (.inr (by kernel_rfl)) (λ_ _ ag=>⟨.inr (.inr (by kernel_rfl)),⟨.inr (.inr (by kernel_rfl)),⟨.inr (.inr (by kernel_rfl)),trivial⟩⟩⟩) 0 oP rfl rfl hy_49 e_42 rfl wz (gG (v':=(dV (av 0) 2 ((s_21.1.set (0+(s_21.2).toNat) e_39).set (0+((w64 (s_21.2-1))).toNat) e_42))) 0 rfl (j4 (by simp)) (gG (v':=(dV (av 0) 2 ((s_21.1.set (0+(s_21.2).toNat) e_39).set (0+((w64 (s_21.2-1))).toNat) e_42))) 37 rfl (j4 (by simp)) (gG (v':=(dV (av 0) 2 ((s_21.1.set (0+(s_21.2).toNat) e_39).set (0+((w64 (s_21.2-1))).toNat) e_42))) 39 rfl (j4 (by simp)) (gG (v':=(dV (av 0) 2 ((s_21.1.set (0+(s_21.2).toNat) e_39).set (0+((w64 (s_21.2-1))).toNat) e_42))) 42 rfl (j4 (by simp)) (gG (v':=(dV (av 0) 2 ((s_21.1.set (0+(s_21.2).toNat) e_39).set (0+((w64 (s_21.2-1))).toNat) e_42))) 47 rfl (j4 (by simp)) (af (au (aa (vI s_21.2) (aa (vI (w64 (s_21.2-1))) (aa (vI (w64 (s_21.2-1))) (af ?_)))))))))))
        obtain rfl:=ae hc_22
        exact aV (k_16,(((s_21.1.set (0+(s_21.2).toNat) e_39).set (0+((w64 (s_21.2-1))).toNat) e_42),(w64 (s_21.2-1)))) hL_23 (ls_ _) rfl (aK rfl)
       ·refine ay rfl hc_37 (aW ?_)
        obtain rfl:=ae hc_22
        obtain rfl:=ae hL_23
        exact aU ((s_21.1,s_21.2)) rfl rfl (aK rfl)
    ·rintro s_21 ho_ sl_ H_ hp_ hq_
     subst ho_
     refine aO _ hp_ hq_ (au (aa (vI s_10.2) (aa (vI (w64 (s_10.2+1))) (aa (vI (w64 (s_10.2+1))) (af ?_)))))
     obtain rfl:=ae hc_11
     exact aV (k_5,(s_21.1,(w64 (s_10.2+1)))) hL_12 (ls_ _) rfl (aK rfl)
   ·refine ay rfl hc_15 (aW ?_)
    obtain rfl:=ae hc_11
    obtain rfl:=ae hL_12
    exact aU ((s_10.1,s_10.2)) rfl rfl (aK rfl)
 ·rintro s_10 ho_ sl_ H_ hp_ hq_
  subst ho_
  show tX _ _ _ _ _ _ _ _
  obtain rfl:=ae hF
  exact Ap (H0:=([((av 0),gB 2 Run.enc s_10.1)]:Hp)) (sl':=envS []) hq_ (FK (bs:=([]:List Box)) (os:=([]:List Box)) (xs:=data_1) (o:=gB 2 Run.enc s_10.1) (.inl rfl) [] trivial rfl rfl rfl rfl rfl (by kernel_rfl) uf rfl)
theorem mH {data_1:(List Run)} {a_2:Int} {b_3:Int} {limit_4:Int} {r:(List Run)} (hF:dx data_1 a_2 b_3 limit_4=some r) :
  FnM Tryz.prog 127 [(dV (av 0) 2 data_1),(vI a_2),(vI b_3),(vI limit_4),(.fn 105 [])] (([]:List Box)++gI 2 Run.enc data_1) (.tup []) (([]:List Box).map some++gT data_1 (gB 2 Run.enc r)):=by
 refine FnM.of_wHv ⟨Tryz.prog,148,[],[]⟩ rfl Tryz.func127 rfl rfl (lb_ rfl) (by kernel_rfl) ?_
 unfold dx at hF
 refine ai (aa (vB true) (af (ai (aa (vB true) (af ?_)))))
 obtain ⟨o_14,hj_15,hF⟩:=bind_some hF
 obtain ⟨nq_21,hj_15⟩:=dR hj_15
 refine gD (λ(s_11:Unit)=>[]) (λ(s_11:Unit)=>[((av 0),gB 2 Run.enc data_1)]) (λ(k_6:Nat)=>(λ(s_11:Unit)=>[(0,(dV (av 0) 2 data_1)),(1,(vI a_2)),(2,(vI b_3)),(3,(vI limit_4)),(4,(.fn 105 [])),(10,(vB true)),(11,(vB true))])) (λs=>cB b_3 a_2 data_1 limit_4 s) o_14 nq_21 () hj_15 rfl (aK rfl) ?_ ?_
 ·rintro ⟨k_6,s_11⟩ hL_13
  dsimp only at hL_13
  cases k_6 with
  | zero=>cases hL_13
  | succ k_6 =>
   obtain ⟨c_,hc_12,hL_13⟩:=bind_some hL_13
   unfold cB at hc_12
   refine aM (ai (aa (vI b_3) (aa (vI a_2) (aa (vI (w64 (b_3-a_2))) (aa (vI (w64 (b_3-a_2))) (af (ak (ai (aa (vI (w64 (b_3-a_2))) (aa (vB (decide ((w64 (b_3-a_2))<=12))) (af ?_)))))))))))
   rcases aj hc_12 with⟨hc_16,hc_12⟩|⟨hc_16,hc_12⟩
   ·refine aB rfl hc_16 (ai (aa (dV (av 0) 2 data_1) (aa (vI a_2) (aa (vI b_3) (aa (.fn 105 []) ?_)))))
    obtain ⟨r_17,hr_18,hc_12⟩:=bind_some hc_12
    obtain ⟨_,hs_19,hc_12⟩:=bind_some hc_12
    replace hs_19:=mR hs_19
    refine sG 0 [] 0 0 il ft (kK hr_18) rfl hb145 rfl rfl rfl (by kernel_rfl) rfl (.inr (.inl rfl)) rfl (by kernel_rfl) (by kernel_rfl) (by kernel_rfl) (by kernel_rfl) rfl (by decide) (by kernel_rfl) uf (CU hs_19) wz ([((av 0),gB 2 Run.enc r_17)]:Hp) (by kernel_rfl) (gG (v':=(dV (av 0) 2 r_17)) 0 rfl (j4 hs_19.symm) (gG (v':=(dV (av 0) 2 r_17)) 26 rfl (j4 hs_19.symm) (af ?_)))
    obtain rfl:=ae hc_12
    obtain rfl:=ae hL_13
    obtain rfl:=ae hF
    exact aA (FK (bs:=([]:List Box)) (os:=([]:List Box)) (xs:=data_1) (o:=gB 2 Run.enc r_17) (.inr rfl) [] trivial rfl rfl rfl rfl rfl (by kernel_rfl) uf rfl)
   ·refine ay rfl hc_16 (ax (ak (ai (aa (vI limit_4) (aa (vB (limit_4==0)) (af ?_))))))
    rcases aj hc_12 with⟨hc_20,hc_12⟩|⟨hc_20,hc_12⟩
    ·refine aB rfl hc_20 (ai (aa (dV (av 0) 2 data_1) (aa (vI a_2) (aa (vI b_3) (aa (.fn 105 []) ?_)))))
     cases hc_12
    ·refine ay rfl hc_20 (ax (ak (ai (aa (vB true) (aa (vB false) (af (ay rfl rfl (ax (ai (aa (dV (av 0) 2 data_1) (aa (vI a_2) (aa (vI b_3) (aa (.fn 105 []) ?_)))))))))))))
     cases hc_12
 ·rintro s_11 ho_ sl_ H_ hp_ hq_
  subst ho_
  show tX _ _ _ _ _ _ _ _
  obtain rfl:=ae hF
  exact Ap (H0:=([((av 0),gB 2 Run.enc data_1)]:Hp)) (sl':=envS []) hq_ (FK (bs:=([]:List Box)) (os:=([]:List Box)) (xs:=data_1) (o:=gB 2 Run.enc data_1) (.inl rfl) [] trivial rfl rfl rfl rfl rfl (by kernel_rfl) uf rfl)
end Go.Proofs.YtkjlhdminmpmkacGreatDoor.Law

