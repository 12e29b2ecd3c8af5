/-
 The machine computes these plain functions (written by a program of ours).
-/
import Derived.Test.YtnfojnnfidnikaaGreatDoorFacts
import Derived.Test.YtnfojnnfidnikaaGreatDoorDefs
import Derived.Test.YtnfojnnfidnikaaGreatDoorPf2
open Go Go.Eng Go.Proofs
namespace Go.Proofs.YtnfojnnfidnikaaGreatDoor.Law
set_option maxRecDepth 100000
set_option linter.unusedVariables false
set_option maxHeartbeats 1000000
theorem mX {slices_1:(List (List Rect))} {r:(List Rect)} (hF:dL slices_1=some r) :
  FnM Tryz.prog 88 [(vL (eL Rect.enc) slices_1)] [] (vL Rect.enc r) []:=by
 refine FnM.of_wH ⟨Tryz.prog,36,[],[]⟩ rfl Tryz.func88 rfl rfl (lb_ rfl) (by kernel_rfl) ?_
 unfold dL at hF
 refine ai (aa .nil (ah (ai (aa (vI 0) (ah (ak (ai (aa (vL (eL Rect.enc) slices_1) (bN un186 rfl wz (aa (vI 0) (ah ?_)))))))))))
 obtain ⟨o_10,hj_11,hF⟩:=bind_some hF
 obtain ⟨hn_6,hj_11⟩:=bv hj_11
 refine bW (λ(s_7:Int)=>[(0,(vL (eL Rect.enc) slices_1)),(3,(vI s_7))]) (λ(s_7:Int)=>[]) (λ(k_2:Nat)=>(λ(s_7:Int)=>[(0,(vL (eL Rect.enc) slices_1)),(3,(vI s_7)),(9,(vL (eL Rect.enc) slices_1)),(10,(vI (slices_1.length:Int))),(11,(vI (k_2:Int)))])) (λk x s=>fC k x s) o_10 slices_1 0 hj_11 rfl (aK rfl) ?_ ?_
 ·rintro ⟨k_2,l_3,s_7⟩ ⟨hL_9,hD_5⟩
  dsimp only at hL_9 hD_5
  cases l_3 with
  | nil =>
   obtain rfl:=ae hL_9
   refine ai (aa (vB (decide ((k_2:Int)<(slices_1.length:Int)))) (ah ?_))
   refine ak (ax rfl (drop_nil hD_5) (bf ?_))
   exact aY (s_7) rfl rfl (aK rfl)
  | cons x_4 l_3 =>
   obtain ⟨c_,hc_8,hL_9⟩:=bind_some hL_9
   refine ai (aa (vB (decide ((k_2:Int)<(slices_1.length:Int)))) (ah ?_))
   refine ak (aA rfl (bA hD_5) (av ?_))
   unfold fC at hc_8
   refine ak (aQ (ai (dB PI rfl rfl (bK hD_5) rfl wz (bH Mx Mi rfl (vL Rect.enc x_4) rfl wz (aa (vL Rect.enc x_4) (ah (ai (aa (vI s_7) (aa (vL Rect.enc x_4) (bN Ao rfl wz (aa (vI (w64 (s_7+(x_4.length:Int)))) (aa (vI (w64 (s_7+(x_4.length:Int)))) (ah (ai (aa (vI (w64 (s_7+(x_4.length:Int)))) (aa (vB (decide ((w64 (s_7+(x_4.length:Int)))<0))) (ah ?_)))))))))))))))))
   obtain ⟨v_12,h_13,hc_8⟩:=bind_some hc_8
   refine aS [(0,(vL (eL Rect.enc) slices_1)),(3,(vI (w64 (s_7+(x_4.length:Int))))),(9,(vL (eL Rect.enc) slices_1)),(10,(vI (slices_1.length:Int))),(11,(vI (k_2:Int)))] [] ?_ ?_
   ·rcases aj h_13 with⟨hc_14,h_13⟩|⟨hc_14,h_13⟩
    ·refine aA rfl hc_14 (au ?_)
     cases h_13
    ·refine ax rfl hc_14 (av ?_)
     obtain rfl:=ae h_13
     exact cu
   ·rintro ⟨⟩ _ sl_ H_ hp_ hq_
    refine aR _ hp_ hq_ (au (fw (bE hD_5 hn_6) wz rfl (aa (vI ((k_2+1:Nat):Int)) (ah ?_))))
    obtain rfl:=ae hc_8
    exact aZ (k_2+1,l_3,(w64 (s_7+(x_4.length:Int)))) ⟨hL_9,aX hD_5⟩ (ls_ _) rfl (aK rfl)
 ·rintro s_7 ho_ sl_ H_ hp_ hq_
  subst ho_
  refine aR _ hp_ hq_ (ai (aa (vI s_7) ?_))
  obtain ⟨b_15,hr_16,hF⟩:=bind_some hF
  refine h_callk (enc:=Rect.enc) (mR hr_16) rfl hb121 (by kernel_rfl) rfl (by kernel_rfl) wz (λn_17=>aa (kV b_15 n_17 4 ([]:List Rect)) (ah (ak (ai (aa (vL (eL Rect.enc) slices_1) (bN un186 rfl wz (aa (vI 0) (ah ?_))))))))
  obtain ⟨o_28,hj_29,hF⟩:=bind_some hF
  obtain ⟨hn_22,hj_29⟩:=bv hj_29
  refine iM (σ:=(List Rect)) (N:=Nm) (λp=>(λ(s_23:List Rect) (n_25:Nm)=>([(6,(kV b_15 n_25 4 s_23))]:SL_)) p.1 p.2) (λp=>(λ(s_23:List Rect) (n_25:Nm)=>([(n_25,kB b_15 4 Rect.enc s_23)]:Hp)) p.1 p.2) (λ(k_18:Nat)=>(λp=>(λ(s_23:List Rect) (n_25:Nm)=>([(6,(kV b_15 n_25 4 s_23)),(25,(vL (eL Rect.enc) slices_1)),(26,(vI (slices_1.length:Int))),(27,(vI (k_18:Int)))]:SL_)) p.1 p.2)) (λk x s=>fB k x s) o_28 slices_1 (([]:List Rect),n_17) hj_29 rfl (aK rfl) ?_ ?_
  ·rintro ⟨k_18,l_19,s_23,n_25⟩ ⟨hL_27,hD_21⟩
   dsimp only at hL_27 hD_21
   cases l_19 with
   | nil =>
    obtain rfl:=ae hL_27
    refine ai (aa (vB (decide ((k_18:Int)<(slices_1.length:Int)))) (ah ?_))
    refine ak (ax rfl (drop_nil hD_21) (bf ?_))
    exact aY (s_23,n_25) rfl rfl (aK rfl)
   | cons x_20 l_19 =>
    obtain ⟨c_,hc_26,hL_27⟩:=bind_some hL_27
    refine ai (aa (vB (decide ((k_18:Int)<(slices_1.length:Int)))) (ah ?_))
    refine ak (aA rfl (bA hD_21) (av ?_))
    unfold fB at hc_26
    refine ak (aQ (ai (dB PI rfl rfl (bK hD_21) rfl wz (bH Mx Mi rfl (vL Rect.enc x_20) rfl wz (aa (vL Rect.enc x_20) (ah (au (aa (kV b_15 n_25 4 s_23) (aa (vL Rect.enc x_20) ?_)))))))))
    obtain ⟨a_30,hz_31,hc_26⟩:=bind_some hc_26
    refine h_appk 0 il ft (i:=0) JU JU vR z74 rfl (by decide) by74 (by decide) (λ_=>rfl) rfl rfl rfl hz_31 wz (λn_32=>aa (kV b_15 n_32 4 a_30) (ah (au (fw (bE hD_21 hn_22) wz rfl (aa (vI ((k_18+1:Nat):Int)) (ah ?_))))))
    obtain rfl:=ae hc_26
    exact aZ (k_18+1,l_19,a_30,n_32) ⟨hL_27,aX hD_21⟩ (ls_ _) rfl (aK rfl)
  ·rintro ⟨s_23,n_25⟩ ho_ sl_ H_ hp_ hq_
   subst ho_
   refine aR _ hp_ hq_ (ai (aa (kV b_15 n_25 4 s_23) (aa (kV b_15 n_25 4 s_23) (ah (OG 0 rfl (KH 2 0 rfl rfl (KH 6 0 rfl rfl (KH 35 0 rfl rfl ?_))))))))
   obtain rfl:=ae hF
   exact ay (aM [(vL Rect.enc s_23)] ⟨rfl,trivial⟩)
theorem pQ {s_1:(List Int)} {r:(List Int)} (hF:ek s_1=some r) :
  FnM Tryz.prog 89 [(dV (aI 0) 1 s_1)] (([]:List Box)++gI 1 eI s_1) (vL eI r) (([]:List Box).map some++gT s_1 none):=by
 refine FnM.of_wHv ⟨Tryz.prog,61,[],[]⟩ rfl Tryz.func89 rfl rfl (lb_ rfl) (by kernel_rfl) ?_
 unfold ek at hF
 refine ai (aa .nil (ah (ak (ai (aa (dV (aI 0) 1 s_1) (FV vk rfl wz (aa (vB (decide ((s_1.length:Int)<2))) (ah ?_))))))))
 rcases aj hF with⟨hc_2,hF⟩|⟨hc_2,hF⟩
 ·refine aA rfl hc_2 (ai (aa (dV (aI 0) 1 s_1) (aa (dV (aI 0) 1 s_1) (ah (gJ 0 rfl (yl 0 0 rfl rfl (yl 2 0 rfl rfl (yl 6 0 rfl rfl (yl 9 0 rfl rfl (G8 (i:=0) rfl ?_))))))))))
  obtain rfl:=ae hF
  exact ay (qb (bs:=([]:List Box)) (os:=([]:List Box)) (xs:=s_1) (o:=none) (.inr rfl) [(vL eI s_1)] ⟨rfl,trivial⟩ rfl rfl rfl rfl rfl (by kernel_rfl) BS rfl)
 ·refine ax rfl hc_2 (av (ak (ai (aa (vI 1) (ah ?_)))))
  obtain ⟨o_11,hj_12,hF⟩:=bind_some hF
  obtain ⟨nq_52,hj_12⟩:=dh hj_12
  refine fQ (λ(s_8:Int)=>[(0,(dV (aI 0) 1 s_1))]) (λ(s_8:Int)=>[((aI 0),gB 1 eI s_1)]) (λ(k_3:Nat)=>(λ(s_8:Int)=>[(0,(dV (aI 0) 1 s_1)),(3,(vI s_8))])) (λs=>dC s_1 s) o_11 nq_52 1 hj_12 rfl (aK rfl) ?_ ?_
  ·rintro ⟨k_3,s_8⟩ hL_10
   dsimp only at hL_10
   cases k_3 with
   | zero=>cases hL_10
   | succ k_3 =>
    obtain ⟨c_,hc_9,hL_10⟩:=bind_some hL_10
    unfold dC at hc_9
    refine ak (ai (aa (vI s_8) (aa (dV (aI 0) 1 s_1) (FV vk rfl wz (aa (vB (decide (s_8<(s_1.length:Int)))) (ah ?_))))))
    rcases aj hc_9 with⟨hc_13,hc_9⟩|⟨hc_13,hc_9⟩
    ·refine aA rfl hc_13 (av (ak (aQ (ak (bC (aa (dV (aI 0) 1 s_1) (aa (vI s_8) ?_)))))))
     obtain ⟨_,hi_14,hc_9⟩:=bind_some hc_9
     refine nG mQ rfl rfl (nu hi_14) (jM hi_14) wz ?_
     obtain ⟨e_15,hy_16,hc_9⟩:=bind_some hc_9
     refine oG 3 0 (.inr (by kernel_rfl)) (λ_ _ ag=>trivial) sz3 ag3 rfl rfl hy_16 (vI e_15) rfl wz (aa (dV (aI 0) 1 s_1) (aa (vI s_8) (aa (vI (w64 (s_8-1))) ?_)))
     obtain ⟨_,hi_17,hc_9⟩:=bind_some hc_9
     refine nG mQ rfl rfl (nu hi_17) (jM hi_17) wz ?_
     obtain ⟨e_18,hy_19,hc_9⟩:=bind_some hc_9
     refine oG 8 0 (.inr (by kernel_rfl)) (λ_ _ ag=>⟨.inl ⟨rfl,rfl⟩,trivial⟩) sz3 ag3 rfl rfl hy_19 (vI e_18) rfl wz (aa (vB (e_15==e_18)) (ah ?_))
     rcases aj hc_9 with⟨hc_20,hc_9⟩|⟨hc_20,hc_9⟩
     ·refine aA rfl hc_20 (ai (aa (dV (aI 0) 1 s_1) (aa (vI s_8) ?_)))
      obtain ⟨_,hn_21,hc_9⟩:=bind_some hc_9
      replace hn_21:=neL_ne hn_21
      refine fI (v':=(vV (aI 0) 1 s_1)) 0 rfl (yU hn_21) (fI (v':=(vV (aI 0) 1 s_1)) 11 rfl (yU hn_21) (fI (v':=(vV (aI 0) 1 s_1)) 16 rfl (yU hn_21) (fI (v':=(vV (aI 0) 1 s_1)) 20 rfl (yU hn_21) (fI (v':=(vV (aI 0) 1 s_1)) 26 rfl (yU hn_21) (Mh 0 rfl (gB_cons hn_21) ?_)))))
      obtain ⟨_,hr_22,hc_9⟩:=bind_some hc_9
      refine IC vk sz3 rfl rfl hr_22 wz (aa (.vs (aI 0) 1 ((s_8).toNat) (((s_1.length:Int)).toNat-(s_8).toNat)) (ah (ak (ai (aa (vI 1) (ah ?_))))))
      obtain ⟨o_31,hj_32,hc_9⟩:=bind_some hc_9
      obtain ⟨nq_51,hj_32⟩:=dh hj_32
      refine fQ (λ(s_28:(List Int)×Int×Int)=>[(0,(vV (aI 0) 1 s_28.1)),(3,(vI s_28.2.1))]) (λ(s_28:(List Int)×Int×Int)=>[((aI 0),some (bV 1 eI s_28.1))]) (λ(k_23:Nat)=>(λ(s_28:(List Int)×Int×Int)=>[(0,(vV (aI 0) 1 s_28.1)),(3,(vI s_28.2.1)),(4,(.vs (aI 0) 1 ((s_8).toNat) (((s_1.length:Int)).toNat-(s_8).toNat))),(5,(vI s_28.2.2))])) (λs=>fo s_1 s_8 s) o_31 nq_51 (s_1,s_8,1) hj_32 rfl (aK rfl) ?_ ?_
      ·rintro ⟨k_23,s_28⟩ hL_30
       dsimp only at hL_30
       cases k_23 with
       | zero=>cases hL_30
       | succ k_23 =>
        obtain ⟨c_,hc_29,hL_30⟩:=bind_some hL_30
        unfold fo at hc_29
        refine ak (ai (aa (vI s_28.2.2) (aa (.vs (aI 0) 1 ((s_8).toNat) (((s_1.length:Int)).toNat-(s_8).toNat)) (h_lenp vk rfl wz (aa (vB (decide (s_28.2.2<(((((s_1.length:Int)).toNat-(s_8).toNat):Nat):Int)))) (ah ?_))))))
        rcases aj hc_29 with⟨hc_33,hc_29⟩|⟨hc_33,hc_29⟩
        ·refine aA rfl hc_33 (av (ak (aQ (ak (bC (aa (.vs (aI 0) 1 ((s_8).toNat) (((s_1.length:Int)).toNat-(s_8).toNat)) (aa (vI s_28.2.2) ?_)))))))
         obtain ⟨_,hi_34,hc_29⟩:=bind_some hc_29
         refine ET mQ rfl rfl (PH hi_34) (KD hi_34) wz ?_
         obtain ⟨e_35,hy_36,hc_29⟩:=bind_some hc_29
         refine Mc 3 0 (.inr (by kernel_rfl)) (λ_ _ ag=>trivial) sz3 ag3 rfl rfl hy_36 (vI e_35) rfl wz (aa (.vs (aI 0) 1 ((s_8).toNat) (((s_1.length:Int)).toNat-(s_8).toNat)) (aa (vI s_28.2.2) (aa (vI (w64 (s_28.2.2-1))) ?_)))
         obtain ⟨_,hi_37,hc_29⟩:=bind_some hc_29
         refine ET mQ rfl rfl (PH hi_37) (KD hi_37) wz ?_
         obtain ⟨e_38,hy_39,hc_29⟩:=bind_some hc_29
         refine Mc 8 0 (.inr (by kernel_rfl)) (λ_ _ ag=>⟨.inl ⟨rfl,rfl⟩,trivial⟩) sz3 ag3 rfl rfl hy_39 (vI e_38) rfl wz (aa (vB (e_35 != e_38)) (ah ?_))
         obtain ⟨v_40,h_41,hc_29⟩:=bind_some hc_29
         refine aS [(0,(vV (aI 0) 1 v_40.1)),(3,(vI v_40.2)),(4,(.vs (aI 0) 1 ((s_8).toNat) (((s_1.length:Int)).toNat-(s_8).toNat))),(5,(vI s_28.2.2))] [((aI 0),some (bV 1 eI v_40.1))] ?_ ?_
         ·rcases aj h_41 with⟨hc_42,h_41⟩|⟨hc_42,h_41⟩
          ·refine aA rfl hc_42 (ai (aa (vV (aI 0) 1 s_28.1) (aa (vI s_28.2.1) (aa (.vs (aI 0) 1 ((s_8).toNat) (((s_1.length:Int)).toNat-(s_8).toNat)) (aa (vI s_28.2.2) ?_)))))
           obtain ⟨_,hi_43,h_41⟩:=bind_some h_41
           refine ET mQ rfl rfl (PH hi_43) (KD hi_43) wz ?_
           obtain ⟨e_44,hy_45,h_41⟩:=bind_some h_41
           refine Mc 0 0 il ft sz3 ag3 rfl rfl hy_45 (vI e_44) rfl wz ?_
           obtain ⟨_,hi_46,h_41⟩:=bind_some h_41
           refine ET mQ rfl rfl (nu hi_46) (jM hi_46) wz ?_
           obtain ⟨e_47,hy_48,h_41⟩:=bind_some h_41
           refine h_stv 0 il ft 0 sz3 rfl rfl hy_48 e_44 rfl wz (fI (v':=(vV (aI 0) 1 (s_28.1.set (0+(s_28.2.1).toNat) e_44))) 0 rfl (GN (by simp)) (fI (v':=(vV (aI 0) 1 (s_28.1.set (0+(s_28.2.1).toNat) e_44))) 45 rfl (GN (by simp)) (ah (au (aa (vI s_28.2.1) (aa (vI (w64 (s_28.2.1+1))) (aa (vI (w64 (s_28.2.1+1))) (ah ?_))))))))
           obtain rfl:=ae h_41
           exact cu
          ·refine ax rfl hc_42 (av ?_)
           obtain rfl:=ae h_41
           exact cu
         ·rintro ⟨⟩ _ sl_ H_ hp_ hq_
          refine aR _ hp_ hq_ (au (aa (vI s_28.2.2) (aa (vI (w64 (s_28.2.2+1))) (aa (vI (w64 (s_28.2.2+1))) (ah ?_)))))
          obtain rfl:=ae hc_29
          exact aZ (k_23,(v_40.1,v_40.2,(w64 (s_28.2.2+1)))) hL_30 (ls_ _) rfl (aK rfl)
        ·refine ax rfl hc_33 (bf ?_)
         obtain rfl:=ae hc_29
         obtain rfl:=ae hL_30
         exact aY ((s_28.1,s_28.2.1,s_28.2.2)) rfl rfl (aK rfl)
      ·rintro s_28 ho_ sl_ H_ hp_ hq_
       subst ho_
       refine aR _ hp_ hq_ (ai (aa (vV (aI 0) 1 s_28.1) (aa (vI s_28.2.1) ?_)))
       obtain ⟨_,hr_49,hc_9⟩:=bind_some hc_9
       refine IC vk sz3 rfl rfl hr_49 wz (h_clear (i:=0) 0 il ft 0 GY sz3 z3 rfl rfl rfl (by decide) rfl (zk hr_49) rfl wz (fI (v':=(vV (aI 0) 1 (s_28.1.take ((s_28.2.1).toNat)++List.replicate (((s_28.1.length:Int)).toNat-(s_28.2.1).toNat) 0++s_28.1.drop (((s_28.2.1).toNat)+(((s_28.1.length:Int)).toNat-(s_28.2.1).toNat))))) 0 rfl (GN (EJ (zk hr_49))) (fI (v':=(vV (aI 0) 1 (s_28.1.take ((s_28.2.1).toNat)++List.replicate (((s_28.1.length:Int)).toNat-(s_28.2.1).toNat) 0++s_28.1.drop (((s_28.2.1).toNat)+(((s_28.1.length:Int)).toNat-(s_28.2.1).toNat))))) 54 rfl (GN (EJ (zk hr_49))) (ah (ai (aa (vV (aI 0) 1 (s_28.1.take ((s_28.2.1).toNat)++List.replicate (((s_28.1.length:Int)).toNat-(s_28.2.1).toNat) 0++s_28.1.drop (((s_28.2.1).toNat)+(((s_28.1.length:Int)).toNat-(s_28.2.1).toNat)))) (aa (vI s_28.2.1) ?_)))))))
       obtain ⟨_,hr_50,hc_9⟩:=bind_some hc_9
       refine Nw vk sz3 rfl rfl hr_50 wz (aa (.vs (aI 0) 1 0 ((s_28.2.1).toNat)) (ah (Gm 0 rfl (Fb 0 0 rfl rfl (PM 2 0 rfl rfl (zk hr_50) (Fb 54 0 rfl rfl (Fb 57 0 rfl rfl (PM 59 0 rfl rfl (zk hr_50) (G8 (i:=0) rfl ?_)))))))))
       obtain rfl:=ae hc_9
       obtain rfl:=ae hL_10
       obtain rfl:=ae hF
       exact ay (qb (bs:=([]:List Box)) (os:=([]:List Box)) (xs:=s_1) (o:=none) (.inr rfl) [(vL eI (cutL (s_28.1.take ((s_28.2.1).toNat)++List.replicate (((s_28.1.length:Int)).toNat-(s_28.2.1).toNat) 0++s_28.1.drop (((s_28.2.1).toNat)+(((s_28.1.length:Int)).toNat-(s_28.2.1).toNat))) 0 ((s_28.2.1).toNat)))] ⟨rfl,trivial⟩ rfl rfl rfl rfl rfl (by kernel_rfl) BS rfl)
     ·refine ax rfl hc_20 (av (au (aa (vI s_8) (aa (vI (w64 (s_8+1))) (aa (vI (w64 (s_8+1))) (ah ?_))))))
      obtain rfl:=ae hc_9
      exact aZ (k_3,(w64 (s_8+1))) hL_10 (ls_ _) rfl (aK rfl)
    ·refine ax rfl hc_13 (bf ?_)
     obtain rfl:=ae hc_9
     obtain rfl:=ae hL_10
     exact aY (s_8) rfl rfl (aK rfl)
  ·rintro s_8 ho_ sl_ H_ hp_ hq_
   subst ho_
   refine aR _ hp_ hq_ (ai (aa (dV (aI 0) 1 s_1) (aa (dV (aI 0) 1 s_1) (ah (gJ 0 rfl (yl 0 0 rfl rfl (yl 2 0 rfl rfl (yl 60 0 rfl rfl (G8 (i:=0) rfl ?_)))))))))
   obtain rfl:=ae hF
   exact ay (qb (bs:=([]:List Box)) (os:=([]:List Box)) (xs:=s_1) (o:=none) (.inr rfl) [(vL eI s_1)] ⟨rfl,trivial⟩ rfl rfl rfl rfl rfl (by kernel_rfl) BS rfl)
theorem Ay {a_1:Run} {b_2:Run} {r:Int} (hF:sj a_1 b_2=some r) :
  FnM Tryz.prog 123 [(.d (.agg (Run.enc a_1))),(.d (.agg (Run.enc b_2)))] [] (vI r) []:=by
 refine FnM.of_wH ⟨Tryz.prog,10,[],[]⟩ rfl Tryz.func123 rfl rfl (lb_ rfl) (by kernel_rfl) ?_
 unfold sj at hF
 refine ai (fJ 0 (.inl rfl) [(vI a_1.f_from),(vI a_1.f_to)] rfl rfl wz (λn_3=>fJ 0 (.inl rfl) [(vI b_2.f_from),(vI b_2.f_to)] rfl rfl wz (λn_4=>aa (vI 0) (ah (ai (aH kP rfl 0 rfl wz (aG 0 0 il ft sz3 ag3 rfl rfl (vI a_1.f_from) rfl wz (aH kP rfl 0 rfl wz (aG 0 1 il ft sz3 ag3 rfl rfl (vI b_2.f_from) rfl wz (aa (vI (w64 (a_1.f_from-b_2.f_from))) (aa (vI (w64 (a_1.f_from-b_2.f_from))) (ah ?_))))))))))))
 obtain rfl:=ae hF
 exact ay (aM [(vI (w64 (a_1.f_from-b_2.f_from)))] ⟨rfl,trivial⟩)
theorem xQ {x_1:Int} {r:Int} (hF:pW x_1=some r) :
  FnM Tryz.prog 77 [(.d (.int .u64 x_1))] [] (vI r) []:=by
 refine FnM.of_wH ⟨Tryz.prog,25,[],[]⟩ rfl Tryz.func77 rfl rfl (lb_ rfl) (by kernel_rfl) ?_
 unfold pW at hF
 refine ai (aa (vI 0) (ah (ak (ai (aa (.d (.int .u64 x_1)) (aa (vB (decide (x_1>=4294967296))) (ah ?_)))))))
 obtain ⟨v_2,h_3,hF⟩:=bind_some hF
 refine aS [(0,(.d (.int .u64 v_2.1))),(2,(vI v_2.2))] [] ?_ ?_
 ·rcases aj h_3 with⟨hc_4,h_3⟩|⟨hc_4,h_3⟩
  ·refine aA rfl hc_4 (ai (aa (.d (.int .u64 x_1)) ?_))
   obtain ⟨q_5,hz_6,h_3⟩:=bind_some h_3
   refine LQ rfl rfl hz_6 wz (aa (.d (.int .u64 q_5)) (ah (au (aa (vI 32) (ah ?_)))))
   obtain rfl:=ae h_3
   exact cu
  ·refine ax rfl hc_4 (av ?_)
   obtain rfl:=ae h_3
   exact cu
 ·rintro ⟨⟩ _ sl_ H_ hp_ hq_
  refine aR _ hp_ hq_ (ak (ai (aa (.d (.int .u64 v_2.1)) (aa (vB (decide (v_2.1>=65536))) (ah ?_)))))
  obtain ⟨v_7,h_8,hF⟩:=bind_some hF
  refine aS [(0,(.d (.int .u64 v_7.1))),(2,(vI v_7.2))] [] ?_ ?_
  ·rcases aj h_8 with⟨hc_9,h_8⟩|⟨hc_9,h_8⟩
   ·refine aA rfl hc_9 (ai (aa (.d (.int .u64 v_2.1)) ?_))
    obtain ⟨q_10,hz_11,h_8⟩:=bind_some h_8
    refine LQ rfl rfl hz_11 wz (aa (.d (.int .u64 q_10)) (ah (au (aa (vI v_2.2) (aa (vI (w64 (v_2.2+16))) (aa (vI (w64 (v_2.2+16))) (ah ?_)))))))
    obtain rfl:=ae h_8
    exact cu
   ·refine ax rfl hc_9 (av ?_)
    obtain rfl:=ae h_8
    exact cu
  ·rintro ⟨⟩ _ sl_ H_ hp_ hq_
   refine aR _ hp_ hq_ (ak (ai (aa (.d (.int .u64 v_7.1)) (aa (vB (decide (v_7.1>=256))) (ah ?_)))))
   obtain ⟨v_12,h_13,hF⟩:=bind_some hF
   refine aS [(0,(.d (.int .u64 v_12.1))),(2,(vI v_12.2))] [] ?_ ?_
   ·rcases aj h_13 with⟨hc_14,h_13⟩|⟨hc_14,h_13⟩
    ·refine aA rfl hc_14 (ai (aa (.d (.int .u64 v_7.1)) ?_))
     obtain ⟨q_15,hz_16,h_13⟩:=bind_some h_13
     refine LQ rfl rfl hz_16 wz (aa (.d (.int .u64 q_15)) (ah (au (aa (vI v_7.2) (aa (vI (w64 (v_7.2+8))) (aa (vI (w64 (v_7.2+8))) (ah ?_)))))))
     obtain rfl:=ae h_13
     exact cu
    ·refine ax rfl hc_14 (av ?_)
     obtain rfl:=ae h_13
     exact cu
   ·rintro ⟨⟩ _ sl_ H_ hp_ hq_
    refine aR _ hp_ hq_ (ai (aa (vI v_12.2) (aa (.d (.int .u64 v_12.1)) (Au un125 un5 rfl wz ?_))))
    obtain ⟨b_17,hy_18,hF⟩:=bind_some hF
    refine FR un9 rfl rfl hy_18 wz (Au un5 un3 rfl wz (aa (vI (w64 (v_12.2+(w64 (b_17.toNat:Int))))) (aa (vI (w64 (v_12.2+(w64 (b_17.toNat:Int))))) (ah ?_))))
    obtain rfl:=ae hF
    exact ay (aM [(vI (w64 (v_12.2+(w64 (b_17.toNat:Int)))))] ⟨rfl,trivial⟩)
theorem zD {x_1:Int} {r:Int} (hF:oP x_1=some r) :
  FnM Tryz.prog 47 [(.d (.int .u64 x_1))] [] (vI r) []:=by
 refine FnM.of_wH ⟨Tryz.prog,8,[],[]⟩ rfl Tryz.func47 rfl rfl (lb_ rfl) (by kernel_rfl) ?_
 unfold oP at hF
 refine ai (aa (vI 0) (ah (ak (ax rfl rfl (av (ai (aa (.d (.int .u64 x_1)) ?_)))))))
 obtain ⟨r_2,hr_3,hF⟩:=bind_some hF
 refine aB (xQ hr_3) rfl hb77 rfl rfl rfl rfl wz (aa (vI r_2) (ah ?_))
 obtain rfl:=ae hF
 exact ay (aM [(vI r_2)] ⟨rfl,trivial⟩)
theorem jO {data_1:(List Run)} {a_2:Int} {b_3:Int} {r:(List Run)} (hF:bG data_1 a_2 b_3=some r) :
  FnM Tryz.prog 154 [(dV (aI 0) 2 data_1),(vI a_2),(vI b_3),(.fn 123 [])] (([]:List Box)++gI 2 Run.enc data_1) (.tup []) (([]:List Box).map some++gT data_1 (gB 2 Run.enc r)):=by
 refine FnM.of_wHv ⟨Tryz.prog,53,[],[]⟩ rfl Tryz.func154 rfl rfl (lb_ rfl) (by kernel_rfl) ?_
 unfold bG at hF
 refine ai (aa (vI a_2) (aa (vI (w64 (a_2+1))) (aa (vI (w64 (a_2+1))) (ah ?_))))
 obtain ⟨o_13,hj_14,hF⟩:=bind_some hF
 obtain ⟨nq_51,hj_14⟩:=dh hj_14
 refine fQ (λ(s_10:(List Run)×Int)=>[]) (λ(s_10:(List Run)×Int)=>[((aI 0),gB 2 Run.enc s_10.1)]) (λ(k_5:Nat)=>(λ(s_10:(List Run)×Int)=>[(0,(dV (aI 0) 2 s_10.1)),(1,(vI a_2)),(2,(vI b_3)),(3,(.fn 123 [])),(8,(vI s_10.2))])) (λs=>bB b_3 a_2 s) o_13 nq_51 (data_1,(w64 (a_2+1))) hj_14 rfl (aK rfl) ?_ ?_
 ·rintro ⟨k_5,s_10⟩ hL_12
  dsimp only at hL_12
  cases k_5 with
  | zero=>cases hL_12
  | succ k_5 =>
   obtain ⟨c_,hc_11,hL_12⟩:=bind_some hL_12
   unfold bB at hc_11
   refine ak (ai (aa (vI s_10.2) (aa (vI b_3) (aa (vB (decide (s_10.2<b_3))) (ah ?_)))))
   rcases aj hc_11 with⟨hc_15,hc_11⟩|⟨hc_15,hc_11⟩
   ·refine aA rfl hc_15 (av (ak (aQ (ai (aa (vI s_10.2) (aa (vI s_10.2) (ah ?_)))))))
    obtain ⟨o_24,hj_25,hc_11⟩:=bind_some hc_11
    obtain ⟨nq_50,hj_25⟩:=dh hj_25
    refine fQ (λ(s_21:(List Run)×Int)=>[(0,(dV (aI 0) 2 s_21.1)),(1,(vI a_2)),(2,(vI b_3)),(3,(.fn 123 [])),(8,(vI s_10.2))]) (λ(s_21:(List Run)×Int)=>[((aI 0),gB 2 Run.enc s_21.1)]) (λ(k_16:Nat)=>(λ(s_21:(List Run)×Int)=>[(0,(dV (aI 0) 2 s_21.1)),(1,(vI a_2)),(2,(vI b_3)),(3,(.fn 123 [])),(8,(vI s_10.2)),(9,(vI s_21.2))])) (λs=>bQ a_2 s) o_24 nq_50 (s_10.1,s_10.2) hj_25 rfl (aK rfl) ?_ ?_
    ·rintro ⟨k_16,s_21⟩ hL_23
     dsimp only at hL_23
     cases k_16 with
     | zero=>cases hL_23
     | succ k_16 =>
      obtain ⟨c_,hc_22,hL_23⟩:=bind_some hL_23
      unfold bQ at hc_22
      refine ak (ak ?_)
      obtain ⟨v_26,h_27,hc_22⟩:=bind_some hc_22
      refine aS [(0,(dV (aI 0) 2 s_21.1)),(1,(vI a_2)),(2,(vI b_3)),(3,(.fn 123 [])),(8,(vI s_10.2)),(9,(vI s_21.2)),(34,(vB v_26))] [((aI 0),gB 2 Run.enc s_21.1)] ?_ ?_
      ·refine bC (aa (vI s_21.2) (aa (vI a_2) (aa (vB (decide (s_21.2>a_2))) ?_)))
       rcases aj h_27 with⟨hc_28,h_27⟩|⟨hc_28,h_27⟩
       ·refine aC rfl hc_28 wz (aJ (.fn 123 []) wa rfl (aJ (dV (aI 0) 2 s_21.1) wa rfl (aJ (vI s_21.2) wa rfl ?_)))
        obtain ⟨_,hi_29,h_27⟩:=bind_some h_27
        refine nG lh rfl rfl (nu hi_29) (jM hi_29) wa ?_
        obtain ⟨e_30,hy_31,h_27⟩:=bind_some h_27
        refine oG 8 0 (.inr (by kernel_rfl)) (λ_ _ ag=>trivial) nC vQ rfl rfl hy_31 (.d (.agg (Run.enc e_30))) rfl wa (aJ (dV (aI 0) 2 s_21.1) wa rfl (aJ (vI s_21.2) wa rfl (aJ (vI (w64 (s_21.2-1))) wa rfl ?_)))
        obtain ⟨_,hi_32,h_27⟩:=bind_some h_27
        refine nG lh rfl rfl (nu hi_32) (jM hi_32) wa ?_
        obtain ⟨e_33,hy_34,h_27⟩:=bind_some h_27
        refine oG 13 0 (.inr (by kernel_rfl)) (λ_ _ ag=>⟨.inl ⟨rfl,rfl⟩,trivial⟩) nC vQ rfl rfl hy_34 (.d (.agg (Run.enc e_33))) rfl wa ?_
        obtain ⟨r_35,hr_36,h_27⟩:=bind_some h_27
        refine aB (Ay hr_36) rfl hb123 rfl rfl rfl rfl wa (aJ (vB (decide (r_35<0))) wa rfl (aa (vB (decide (r_35<0))) (ah ?_)))
        obtain rfl:=ae h_27
        exact cu
       ·refine aC rfl hc_28 wz (af (af (af (af (af (af (af (af (af (af (af (af (aa (vB false) (ah ?_))))))))))))))
        obtain rfl:=ae h_27
        exact cu
      ·rintro ⟨⟩ _ sl_ H_ hp_ hq_
       refine aR _ hp_ hq_ ?_
       rcases aj hc_22 with⟨hc_37,hc_22⟩|⟨hc_37,hc_22⟩
       ·refine aA rfl hc_37 (av (ak (aQ (bC (aa (dV (aI 0) 2 s_21.1) (aa (vI s_21.2) (aa (dV (aI 0) 2 s_21.1) (aa (vI s_21.2) (aa (vI (w64 (s_21.2-1))) (aa (dV (aI 0) 2 s_21.1) (aa (vI s_21.2) (aa (vI (w64 (s_21.2-1))) ?_))))))))))))
        obtain ⟨_,hi_38,hc_22⟩:=bind_some hc_22
        refine nG lh rfl rfl (nu hi_38) (jM hi_38) wz ?_
        obtain ⟨e_39,hy_40,hc_22⟩:=bind_some hc_22
        refine oG 9 0 (.inr (by kernel_rfl)) (λ_ _ ag=>trivial) nC vQ rfl rfl hy_40 (.d (.agg (Run.enc e_39))) rfl wz (aa (dV (aI 0) 2 s_21.1) (aa (vI s_21.2) ?_))
        obtain ⟨_,hi_41,hc_22⟩:=bind_some hc_22
        refine nG lh rfl rfl (nu hi_41) (jM hi_41) wz ?_
        obtain ⟨e_42,hy_43,hc_22⟩:=bind_some hc_22
        refine oG 13 0 (.inr (by kernel_rfl)) (λ_ _ ag=>⟨.inl ⟨rfl,rfl⟩,trivial⟩) nC vQ rfl rfl hy_43 (.d (.agg (Run.enc e_42))) rfl wz ?_
        obtain ⟨_,hi_44,hc_22⟩:=bind_some hc_22
        refine nG lh rfl rfl (nu hi_44) (jM hi_44) wz ?_
        obtain ⟨e_45,hy_46,hc_22⟩:=bind_some hc_22
        refine zQ 15 (.inr (by kernel_rfl)) (λ_ _ ag=>⟨.inr (.inr (by kernel_rfl)),⟨.inr (.inr (by kernel_rfl)),trivial⟩⟩) 0 nC rfl rfl hy_46 e_39 rfl wz (fI (v':=(dV (aI 0) 2 (s_21.1.set (0+(s_21.2).toNat) e_39))) 0 rfl (eX (by simp)) (fI (v':=(dV (aI 0) 2 (s_21.1.set (0+(s_21.2).toNat) e_39))) 37 rfl (eX (by simp)) (fI (v':=(dV (aI 0) 2 (s_21.1.set (0+(s_21.2).toNat) e_39))) 39 rfl (eX (by simp)) (fI (v':=(dV (aI 0) 2 (s_21.1.set (0+(s_21.2).toNat) e_39))) 42 rfl (eX (by simp)) (fI (v':=(dV (aI 0) 2 (s_21.1.set (0+(s_21.2).toNat) e_39))) 47 rfl (eX (by simp)) ?_)))))
        obtain ⟨_,hi_47,hc_22⟩:=bind_some hc_22
        refine nG lh rfl rfl (nu hi_47) (jM hi_47) wz ?_
        obtain ⟨e_48,hy_49,hc_22⟩:=bind_some hc_22
        refine zQ 17 (.inr (by kernel_rfl)) (λ_ _ ag=>⟨.inr (.inr (by kernel_rfl)),⟨.inr (.inr (by kernel_rfl)),⟨.inr (.inr (by kernel_rfl)),trivial⟩⟩⟩) 0 nC rfl rfl hy_49 e_42 rfl wz (fI (v':=(dV (aI 0) 2 ((s_21.1.set (0+(s_21.2).toNat) e_39).set (0+((w64 (s_21.2-1))).toNat) e_42))) 0 rfl (eX (by simp)) (fI (v':=(dV (aI 0) 2 ((s_21.1.set (0+(s_21.2).toNat) e_39).set (0+((w64 (s_21.2-1))).toNat) e_42))) 37 rfl (eX (by simp)) (fI (v':=(dV (aI 0) 2 ((s_21.1.set (0+(s_21.2).toNat) e_39).set (0+((w64 (s_21.2-1))).toNat) e_42))) 39 rfl (eX (by simp)) (fI (v':=(dV (aI 0) 2 ((s_21.1.set (0+(s_21.2).toNat) e_39).set (0+((w64 (s_21.2-1))).toNat) e_42))) 42 rfl (eX (by simp)) (fI (v':=(dV (aI 0) 2 ((s_21.1.set (0+(s_21.2).toNat) e_39).set (0+((w64 (s_21.2-1))).toNat) e_42))) 47 rfl (eX (by simp)) (ah (au (aa (vI s_21.2) (aa (vI (w64 (s_21.2-1))) (aa (vI (w64 (s_21.2-1))) (ah ?_)))))))))))
        obtain rfl:=ae hc_22
        exact aZ (k_16,(((s_21.1.set (0+(s_21.2).toNat) e_39).set (0+((w64 (s_21.2-1))).toNat) e_42),(w64 (s_21.2-1)))) hL_23 (ls_ _) rfl (aK rfl)
       ·refine ax rfl hc_37 (bf ?_)
        obtain rfl:=ae hc_22
        obtain rfl:=ae hL_23
        exact aY ((s_21.1,s_21.2)) rfl rfl (aK rfl)
    ·rintro s_21 ho_ sl_ H_ hp_ hq_
     subst ho_
     refine aR _ hp_ hq_ (au (aa (vI s_10.2) (aa (vI (w64 (s_10.2+1))) (aa (vI (w64 (s_10.2+1))) (ah ?_)))))
     obtain rfl:=ae hc_11
     exact aZ (k_5,(s_21.1,(w64 (s_10.2+1)))) hL_12 (ls_ _) rfl (aK rfl)
   ·refine ax rfl hc_15 (bf ?_)
    obtain rfl:=ae hc_11
    obtain rfl:=ae hL_12
    exact aY ((s_10.1,s_10.2)) rfl rfl (aK rfl)
 ·rintro s_10 ho_ sl_ H_ hp_ hq_
  subst ho_
  show ut _ _ _ _ _ _ _ _
  obtain rfl:=ae hF
  exact BM (H0:=([((aI 0),gB 2 Run.enc s_10.1)]:Hp)) (sl':=envS []) hq_ (qb (bs:=([]:List Box)) (os:=([]:List Box)) (xs:=data_1) (o:=gB 2 Run.enc s_10.1) (.inl rfl) [] trivial rfl rfl rfl rfl rfl (by kernel_rfl) pI rfl)
theorem lN {data_1:(List Run)} {a_2:Int} {b_3:Int} {limit_4:Int} {r:(List Run)} (hF:bU data_1 a_2 b_3 limit_4=some r) :
  FnM Tryz.prog 142 [(dV (aI 0) 2 data_1),(vI a_2),(vI b_3),(vI limit_4),(.fn 123 [])] (([]:List Box)++gI 2 Run.enc data_1) (.tup []) (([]:List Box).map some++gT data_1 (gB 2 Run.enc r)):=by
 refine FnM.of_wHv ⟨Tryz.prog,148,[],[]⟩ rfl Tryz.func142 rfl rfl (lb_ rfl) (by kernel_rfl) ?_
 unfold bU at hF
 refine ai (aa (vB true) (ah (ai (aa (vB true) (ah ?_)))))
 obtain ⟨o_14,hj_15,hF⟩:=bind_some hF
 obtain ⟨nq_21,hj_15⟩:=dh hj_15
 refine fQ (λ(s_11:Unit)=>[]) (λ(s_11:Unit)=>[((aI 0),gB 2 Run.enc data_1)]) (λ(k_6:Nat)=>(λ(s_11:Unit)=>[(0,(dV (aI 0) 2 data_1)),(1,(vI a_2)),(2,(vI b_3)),(3,(vI limit_4)),(4,(.fn 123 [])),(10,(vB true)),(11,(vB true))])) (λs=>bP b_3 a_2 data_1 limit_4 s) o_14 nq_21 () hj_15 rfl (aK rfl) ?_ ?_
 ·rintro ⟨k_6,s_11⟩ hL_13
  dsimp only at hL_13
  cases k_6 with
  | zero=>cases hL_13
  | succ k_6 =>
   obtain ⟨c_,hc_12,hL_13⟩:=bind_some hL_13
   unfold bP at hc_12
   refine aQ (ai (aa (vI b_3) (aa (vI a_2) (aa (vI (w64 (b_3-a_2))) (aa (vI (w64 (b_3-a_2))) (ah (ak (ai (aa (vI (w64 (b_3-a_2))) (aa (vB (decide ((w64 (b_3-a_2))<=12))) (ah ?_)))))))))))
   rcases aj hc_12 with⟨hc_16,hc_12⟩|⟨hc_16,hc_12⟩
   ·refine aA rfl hc_16 (ai (aa (dV (aI 0) 2 data_1) (aa (vI a_2) (aa (vI b_3) (aa (.fn 123 []) ?_)))))
    obtain ⟨r_17,hr_18,hc_12⟩:=bind_some hc_12
    obtain ⟨_,hs_19,hc_12⟩:=bind_some hc_12
    replace hs_19:=mF hs_19
    refine nV 0 [] 0 0 il ft (jO hr_18) rfl hb154 rfl rfl rfl (by kernel_rfl) rfl (.inr (.inl rfl)) rfl (by kernel_rfl) (by kernel_rfl) (by kernel_rfl) (by kernel_rfl) rfl (by decide) (by kernel_rfl) pI (xC hs_19) wz ([((aI 0),gB 2 Run.enc r_17)]:Hp) (by kernel_rfl) (fI (v':=(dV (aI 0) 2 r_17)) 0 rfl (eX hs_19.symm) (fI (v':=(dV (aI 0) 2 r_17)) 26 rfl (eX hs_19.symm) (ah ?_)))
    obtain rfl:=ae hc_12
    obtain rfl:=ae hL_13
    obtain rfl:=ae hF
    exact ay (qb (bs:=([]:List Box)) (os:=([]:List Box)) (xs:=data_1) (o:=gB 2 Run.enc r_17) (.inr rfl) [] trivial rfl rfl rfl rfl rfl (by kernel_rfl) pI rfl)
   ·refine ax rfl hc_16 (av (ak (ai (aa (vI limit_4) (aa (vB (limit_4==0)) (ah ?_))))))
    rcases aj hc_12 with⟨hc_20,hc_12⟩|⟨hc_20,hc_12⟩
    ·refine aA rfl hc_20 (ai (aa (dV (aI 0) 2 data_1) (aa (vI a_2) (aa (vI b_3) (aa (.fn 123 []) ?_)))))
     cases hc_12
    ·refine ax rfl hc_20 (av (ak (ai (aa (vB true) (aa (vB false) (ah (ax rfl rfl (av (ai (aa (dV (aI 0) 2 data_1) (aa (vI a_2) (aa (vI b_3) (aa (.fn 123 []) ?_)))))))))))))
     cases hc_12
 ·rintro s_11 ho_ sl_ H_ hp_ hq_
  subst ho_
  show ut _ _ _ _ _ _ _ _
  obtain rfl:=ae hF
  exact BM (H0:=([((aI 0),gB 2 Run.enc data_1)]:Hp)) (sl':=envS []) hq_ (qb (bs:=([]:List Box)) (os:=([]:List Box)) (xs:=data_1) (o:=gB 2 Run.enc data_1) (.inl rfl) [] trivial rfl rfl rfl rfl rfl (by kernel_rfl) pI rfl)
theorem jQ {x_1:(List Run)} {r:(List Run)} (hF:bI x_1=some r) :
  FnM Tryz.prog 122 [(dV (aI 0) 2 x_1),(.fn 123 [])] (([]:List Box)++gI 2 Run.enc x_1) (.tup []) (([]:List Box).map some++gT x_1 (gB 2 Run.enc r)):=by
 refine FnM.of_wHv ⟨Tryz.prog,14,[],[]⟩ rfl Tryz.func122 rfl rfl (lb_ rfl) (by kernel_rfl) ?_
 unfold bI at hF
 refine ai (aa (dV (aI 0) 2 x_1) (FV xE rfl wz (aa (vI (x_1.length:Int)) (ah (au (aa (dV (aI 0) 2 x_1) (aa (vI (x_1.length:Int)) (aa (vI (x_1.length:Int)) (Au un3 NE rfl wz ?_)))))))))
 obtain ⟨r_3,hr_4,hF⟩:=bind_some hF
 refine aB (zD hr_4) rfl hb47 rfl rfl rfl rfl wz (aa (.fn 123 []) ?_)
 obtain ⟨r_5,hr_6,hF⟩:=bind_some hF
 obtain ⟨_,hs_7,hF⟩:=bind_some hF
 replace hs_7:=mF hs_7
 refine nV 0 [] 0 0 il ft (lN hr_6) rfl hb142 rfl rfl rfl (by kernel_rfl) rfl (.inr (.inl rfl)) rfl (by kernel_rfl) (by kernel_rfl) (by kernel_rfl) (by kernel_rfl) rfl (by decide) (by kernel_rfl) pI (xC hs_7) wz ([((aI 0),gB 2 Run.enc r_5)]:Hp) (by kernel_rfl) (fI (v':=(dV (aI 0) 2 r_5)) 0 rfl (eX hs_7.symm) (fI (v':=(dV (aI 0) 2 r_5)) 5 rfl (eX hs_7.symm) (fI (v':=(dV (aI 0) 2 r_5)) 7 rfl (eX hs_7.symm) (ah ?_))))
 show ut _ _ _ _ _ _ _ _
 obtain rfl:=ae hF
 exact qb (bs:=([]:List Box)) (os:=([]:List Box)) (xs:=x_1) (o:=gB 2 Run.enc r_5) (.inl rfl) [] trivial rfl rfl rfl rfl rfl (by kernel_rfl) pI rfl
theorem vN {l_1:(List Rect)} {y_2:Int} {r:(List Run)} (hF:nA l_1 y_2=some r) :
  FnM Tryz.prog 91 [(vL Rect.enc l_1),(vI y_2)] [] (vL Run.enc r) []:=by
 refine FnM.of_wH ⟨Tryz.prog,84,[],[]⟩ rfl Tryz.func91 rfl rfl (lb_ rfl) (by kernel_rfl) ?_
 unfold nA at hF
 refine ai (aa .nil (ah (ai (aa .nil (ah (ak (ai (aa (vL Rect.enc l_1) (bN Ao rfl wz (aa (vI 0) (ah (mh (λn_9 => ?_)))))))))))))
 obtain ⟨o_14,hj_15,hF⟩:=bind_some hF
 obtain ⟨hn_7,hj_15⟩:=bv hj_15
 refine iM (σ:=(List Run)) (N:=Nm) (λp=>(λ(s_8:List Run) (n_11:Nm)=>([(5,(gV n_11 2 s_8))]:SL_)) p.1 p.2) (λp=>(λ(s_8:List Run) (n_11:Nm)=>([(n_11,gB 2 Run.enc s_8)]:Hp)) p.1 p.2) (λ(k_3:Nat)=>(λp=>(λ(s_8:List Run) (n_11:Nm)=>([(1,(vI y_2)),(5,(gV n_11 2 s_8)),(12,(vL Rect.enc l_1)),(13,(vI (l_1.length:Int))),(14,(vI (k_3:Int)))]:SL_)) p.1 p.2)) (λk x s=>nP y_2 k x s) o_14 l_1 (([]:List Run),n_9) hj_15 rfl (aK rfl) ?_ ?_
 ·rintro ⟨k_3,l_4,s_8,n_11⟩ ⟨hL_13,hD_6⟩
  dsimp only at hL_13 hD_6
  cases l_4 with
  | nil =>
   obtain rfl:=ae hL_13
   refine ai (aa (vB (decide ((k_3:Int)<(l_1.length:Int)))) (ah ?_))
   refine ak (ax rfl (drop_nil hD_6) (bf ?_))
   exact aY (s_8,n_11) rfl rfl (aK rfl)
  | cons x_5 l_4 =>
   obtain ⟨c_,hc_12,hL_13⟩:=bind_some hL_13
   refine ai (aa (vB (decide ((k_3:Int)<(l_1.length:Int)))) (ah ?_))
   refine ak (aA rfl (bA hD_6) (av ?_))
   unfold nP at hc_12
   refine ak (aQ (ai (dB FQ rfl rfl (bK hD_6) rfl wz (bH vR IU rfl (.d (.agg (Rect.enc x_5))) rfl wz (di 0 (.inl rfl) z74 rfl wz (λn_16=>gu 0 il ft 1 vR rfl rfl (Rect.v x_5) rfl wz (ah (ak ?_))))))))
   obtain ⟨v_17,h_18,hc_12⟩:=bind_some hc_12
   refine aS [(1,(vI y_2)),(5,(gV n_11 2 s_8)),(7,(.ref n_16 0 0)),(12,(vL Rect.enc l_1)),(13,(vI (l_1.length:Int))),(14,(vI (k_3:Int))),(30,(vB v_17))] [(n_11,gB 2 Run.enc s_8),(n_16,some (.cells 4 (Rect.v x_5)))] ?_ ?_
   ·refine au (aH vJ rfl 1 rfl wz (aG 0 1 il ft sz3 ag3 rfl rfl (vI x_5.Y) rfl wz (aa (vI y_2) (aa (vB (decide (x_5.Y<=y_2))) ?_))))
    rcases aj h_18 with⟨hc_19,h_18⟩|⟨hc_19,h_18⟩
    ·refine aC rfl hc_19 wz (aJ (vI y_2) wa rfl (aH vJ rfl 1 rfl wa (aG 0 1 il ft sz3 ag3 rfl rfl (vI x_5.Y) rfl wa (aH Co rfl 3 rfl wa (aG 0 1 il ft sz3 ag3 rfl rfl (vI x_5.H) rfl wa (aJ (vI (w64 (x_5.Y+x_5.H))) wa rfl (aJ (vB (decide (y_2<(w64 (x_5.Y+x_5.H))))) wa rfl (aa (vB (decide (y_2<(w64 (x_5.Y+x_5.H))))) (ah ?_)))))))))
     obtain rfl:=ae h_18
     exact cu
    ·refine aC rfl hc_19 wz (af (af (af (af (af (af (af (aa (vB false) (ah ?_)))))))))
     obtain rfl:=ae h_18
     exact cu
   ·rintro ⟨⟩ _ sl_ H_ hp_ hq_
    refine aR _ hp_ hq_ ?_
    obtain ⟨v_20,h_21,hc_12⟩:=bind_some hc_12
    refine jU (β:=Nm) (λ(n_22:Nm)=>([(1,(vI y_2)),(5,(gV n_22 2 v_20)),(12,(vL Rect.enc l_1)),(13,(vI (l_1.length:Int))),(14,(vI (k_3:Int)))]:SL_)) (λ(n_22:Nm)=>([(n_22,gB 2 Run.enc v_20),(n_16,some (.cells 4 (Rect.v x_5)))]:Hp)) (λ_=>True) ?_ ?_
    ·rcases aj h_21 with⟨hc_23,h_21⟩|⟨hc_23,h_21⟩
     ·refine aA rfl hc_23 (au (aa (gV n_11 2 s_8) (aH zK rfl 0 rfl wz (aG 0 1 il ft sz3 ag3 rfl rfl (vI x_5.X) rfl wz (aH zK rfl 0 rfl wz (aG 0 1 il ft sz3 ag3 rfl rfl (vI x_5.X) rfl wz (aH Hu rfl 2 rfl wz (aG 0 1 il ft sz3 ag3 rfl rfl (vI x_5.W) rfl wz (aa (vI (w64 (x_5.X+x_5.W))) (aJ (.d (.agg (Run.enc (⟨x_5.X,(w64 (x_5.X+x_5.W))⟩:Run)))) wz (by kernel_rfl) (fq (([(⟨x_5.X,(w64 (x_5.X+x_5.W))⟩:Run)]:List Run).map Run.enc) lh LH rfl rfl rfl rfl rfl wz ?_)))))))))))
      obtain ⟨a_24,hz_25,h_21⟩:=bind_some h_21
      refine jL 0 il ft (i:=0) AX AX nC z157 rfl (by decide) LP (by decide) (λ_=>rfl) rfl rfl rfl hz_25 wz (λn_26=>aa (gV n_26 2 a_24) (ah ?_))
      obtain rfl:=ae h_21
      exact aY n_26 trivial rfl (aK rfl)
     ·refine ax rfl hc_23 (av ?_)
      obtain rfl:=ae h_21
      exact aY n_11 trivial rfl (aK rfl)
    ·rintro n_22 _ sl_ H_ hp_ hq_
     refine aR _ hp_ hq_ (au (fw (bE hD_6 hn_7) wz rfl (aa (vI ((k_3+1:Nat):Int)) (ah ?_))))
     obtain rfl:=ae hc_12
     exact aZ (k_3+1,l_4,v_20,n_22) ⟨hL_13,aX hD_6⟩ (ls_ _) rfl (aK rfl)
 ·rintro ⟨s_8,n_11⟩ ho_ sl_ H_ hp_ hq_
  subst ho_
  refine aR _ hp_ hq_ (ai (aa (gV n_11 2 s_8) ?_))
  obtain ⟨r_27,hr_28,hF⟩:=bind_some hF
  obtain ⟨_,hs_29,hF⟩:=bind_some hF
  replace hs_29:=mF hs_29
  refine nV 0 [] 0 0 il ft (jQ hr_28) rfl hb122 rfl rfl rfl (by kernel_rfl) rfl (.inl rfl) rfl (by kernel_rfl) (by kernel_rfl) (by kernel_rfl) (by kernel_rfl) rfl (by decide) (by kernel_rfl) pI (xC hs_29) wz ([(n_11,gB 2 Run.enc r_27)]:Hp) (by kernel_rfl) (fI (v':=(gV n_11 2 r_27)) 43 rfl (mg hs_29.symm) (fI (v':=(gV n_11 2 r_27)) 5 rfl (mg hs_29.symm) (ah (ai (aa .nil (ah (ak (ai (aa (gV n_11 2 r_27) (JX xE rfl wz (aa (vI 0) (ah (gJ 0 rfl (bZ 5 0 rfl rfl (bZ 43 0 rfl rfl (bZ 45 0 rfl rfl (mh (λn_36 => ?_))))))))))))))))))
  obtain ⟨o_41,hj_42,hF⟩:=bind_some hF
  obtain ⟨hn_34,hj_42⟩:=bv hj_42
  refine iM (σ:=(List Run)) (N:=Nm) (λp=>(λ(s_35:List Run) (n_38:Nm)=>([(8,(gV n_38 2 s_35))]:SL_)) p.1 p.2) (λp=>(λ(s_35:List Run) (n_38:Nm)=>([(n_11,gF 2 Run.enc r_27),(n_38,gB 2 Run.enc s_35)]:Hp)) p.1 p.2) (λ(k_30:Nat)=>(λp=>(λ(s_35:List Run) (n_38:Nm)=>([(8,(gV n_38 2 s_35)),(45,(vL Run.enc r_27)),(46,(vI (r_27.length:Int))),(47,(vI (k_30:Int)))]:SL_)) p.1 p.2)) (λk x s=>nQ k x s) o_41 r_27 (([]:List Run),n_36) hj_42 rfl (aK rfl) ?_ ?_
  ·rintro ⟨k_30,l_31,s_35,n_38⟩ ⟨hL_40,hD_33⟩
   dsimp only at hL_40 hD_33
   cases l_31 with
   | nil =>
    obtain rfl:=ae hL_40
    refine ai (aa (vB (decide ((k_30:Int)<(r_27.length:Int)))) (ah ?_))
    refine ak (ax rfl (drop_nil hD_33) (bf ?_))
    exact aY (s_35,n_38) rfl rfl (aK rfl)
   | cons x_32 l_31 =>
    obtain ⟨c_,hc_39,hL_40⟩:=bind_some hL_40
    refine ai (aa (vB (decide ((k_30:Int)<(r_27.length:Int)))) (ah ?_))
    refine ak (aA rfl (bA hD_33) (av ?_))
    unfold nQ at hc_39
    refine ak (aQ (ai (dB lh rfl rfl (bK hD_33) rfl wz (bH nC vQ rfl (.d (.agg (Run.enc x_32))) rfl wz (di 0 (.inl rfl) z157 rfl wz (λn_43=>gu 0 il ft 2 nC rfl rfl [(vI x_32.f_from),(vI x_32.f_to)] rfl wz (ah (ai (aa (gV n_38 2 s_35) (JX xE rfl wz (aa (vI (w64 ((s_35.length:Int)-1))) (aa (vI (w64 ((s_35.length:Int)-1))) (ah (ak ?_))))))))))))))
    obtain ⟨v_44,h_45,hc_39⟩:=bind_some hc_39
    refine aS [(8,(gV n_38 2 s_35)),(10,(.ref n_43 0 0)),(11,(vI (w64 ((s_35.length:Int)-1)))),(45,(vL Run.enc r_27)),(46,(vI (r_27.length:Int))),(47,(vI (k_30:Int))),(65,(vB v_44))] [(n_11,gF 2 Run.enc r_27),(n_38,gB 2 Run.enc s_35),(n_43,some (.cells 2 [(vI x_32.f_from),(vI x_32.f_to)]))] ?_ ?_
    ·refine bC (aa (vI (w64 ((s_35.length:Int)-1))) (aa (vB (decide ((w64 ((s_35.length:Int)-1))>=0))) ?_))
     rcases aj h_45 with⟨hc_46,h_45⟩|⟨hc_46,h_45⟩
     ·refine aC rfl hc_46 wz (aH kP rfl 0 rfl wa (aG 4 2 (.inr (by kernel_rfl)) (λ_ _ ag=>trivial) sz3 ag3 rfl rfl (vI x_32.f_from) rfl wa (aJ (gV n_38 2 s_35) wa rfl (aJ (vI (w64 ((s_35.length:Int)-1))) wa rfl ?_))))
      obtain ⟨_,hi_47,h_45⟩:=bind_some h_45
      refine DC lh rfl rfl (nu hi_47) (jM hi_47) wa (aH qB rfl 1 rfl wa ?_)
      obtain ⟨e_48,hy_49,h_45⟩:=bind_some h_45
      refine oG 9 1 (.inr (by kernel_rfl)) (λ_ _ ag=>⟨.inl ⟨rfl,rfl⟩,trivial⟩) sz3 ag3 rfl rfl hy_49 (vI e_48.f_to) rfl wa (aJ (vB (decide (x_32.f_from<=e_48.f_to))) wa rfl (aa (vB (decide (x_32.f_from<=e_48.f_to))) (ah ?_)))
      obtain rfl:=ae h_45
      exact cu
     ·refine aC rfl hc_46 wz (af (af (af (af (af (af (af (af (aa (vB false) (ah ?_))))))))))
      obtain rfl:=ae h_45
      exact cu
    ·rintro ⟨⟩ _ sl_ H_ hp_ hq_
     refine aR _ hp_ hq_ ?_
     obtain ⟨v_50,h_51,hc_39⟩:=bind_some hc_39
     refine jU (β:=Nm) (λ(n_52:Nm)=>([(8,(gV n_52 2 v_50)),(45,(vL Run.enc r_27)),(46,(vI (r_27.length:Int))),(47,(vI (k_30:Int)))]:SL_)) (λ(n_52:Nm)=>([(n_11,gF 2 Run.enc r_27),(n_52,gB 2 Run.enc v_50),(n_43,some (.cells 2 [(vI x_32.f_from),(vI x_32.f_to)]))]:Hp)) (λ_=>True) ?_ ?_
     ·rcases aj h_51 with⟨hc_53,h_51⟩|⟨hc_53,h_51⟩
      ·refine aA rfl hc_53 (bC (aa (gV n_38 2 s_35) (aa (vI (w64 ((s_35.length:Int)-1))) (aa (gV n_38 2 s_35) (aa (vI (w64 ((s_35.length:Int)-1))) ?_)))))
       obtain ⟨_,hi_54,h_51⟩:=bind_some h_51
       refine DC lh rfl rfl (nu hi_54) (jM hi_54) wz (aH qB rfl 1 rfl wz ?_)
       obtain ⟨e_55,hy_56,h_51⟩:=bind_some h_51
       refine oG 6 1 (.inr (by kernel_rfl)) (λ_ _ ag=>trivial) sz3 ag3 rfl rfl hy_56 (vI e_55.f_to) rfl wz (aH qB rfl 1 rfl wz (aG 8 2 (.inr (by kernel_rfl)) (λ_ _ ag=>⟨.inl ⟨rfl,rfl⟩,trivial⟩) sz3 ag3 rfl rfl (vI x_32.f_to) rfl wz (qK (vI (iw e_55.f_to x_32.f_to)) rfl (.inr rfl) wz ?_)))
       obtain ⟨_,hi_57,h_51⟩:=bind_some h_51
       refine DC lh rfl rfl (nu hi_57) (jM hi_57) wz (aH qB rfl 1 rfl wz ?_)
       obtain ⟨e_58,hy_59,h_51⟩:=bind_some h_51
       refine zQ 12 (.inr (by kernel_rfl)) (λ_ _ ag=>⟨.inr (.inr (by kernel_rfl)),⟨.inr (.inr (by kernel_rfl)),trivial⟩⟩) 1 sz3 rfl rfl hy_59 (⟨e_58.f_from,(iw e_55.f_to x_32.f_to)⟩:Run) rfl wz (fI (v':=(gV n_38 2 (s_35.set (0+((w64 ((s_35.length:Int)-1))).toNat) (⟨e_58.f_from,(iw e_55.f_to x_32.f_to)⟩:Run)))) 8 rfl (mg (by simp)) (fI (v':=(gV n_38 2 (s_35.set (0+((w64 ((s_35.length:Int)-1))).toNat) (⟨e_58.f_from,(iw e_55.f_to x_32.f_to)⟩:Run)))) 66 rfl (mg (by simp)) (fI (v':=(gV n_38 2 (s_35.set (0+((w64 ((s_35.length:Int)-1))).toNat) (⟨e_58.f_from,(iw e_55.f_to x_32.f_to)⟩:Run)))) 68 rfl (mg (by simp)) (ah ?_))))
       obtain rfl:=ae h_51
       exact aY n_38 trivial rfl (aK rfl)
      ·refine ax rfl hc_53 (au (aa (gV n_38 2 s_35) (aG 0 2 il ft nC vQ rfl rfl (.d (.agg (Run.enc x_32))) rfl wz (fq (([x_32]:List Run).map Run.enc) lh LH rfl rfl rfl rfl rfl wz ?_))))
       obtain ⟨a_60,hz_61,h_51⟩:=bind_some h_51
       refine jL 0 il ft (i:=1) AX AX nC z157 rfl (by decide) LP (by decide) (λ_=>rfl) rfl rfl rfl hz_61 wz (λn_62=>aa (gV n_62 2 a_60) (ah ?_))
       obtain rfl:=ae h_51
       exact aY n_62 trivial rfl (aK rfl)
     ·rintro n_52 _ sl_ H_ hp_ hq_
      refine aR _ hp_ hq_ (au (fw (bE hD_33 hn_34) wz rfl (aa (vI ((k_30+1:Nat):Int)) (ah ?_))))
      obtain rfl:=ae hc_39
      exact aZ (k_30+1,l_31,v_50,n_52) ⟨hL_40,aX hD_33⟩ (ls_ _) rfl (aK rfl)
  ·rintro ⟨s_35,n_38⟩ ho_ sl_ H_ hp_ hq_
   subst ho_
   refine aR _ hp_ hq_ (ai (aa (gV n_38 2 s_35) (aa (gV n_38 2 s_35) (ah (gJ 1 rfl (bZ 4 1 rfl rfl (bZ 8 1 rfl rfl (bZ 83 1 rfl rfl ?_))))))))
   obtain rfl:=ae hF
   exact ay (aM [(vL Run.enc s_35)] ⟨rfl,trivial⟩)
theorem C9 {l_1:(List Run)} {m_2:(List Run)} {r:(List Run)} (hF:pu l_1 m_2=some r) :
  FnM Tryz.prog 90 [(vL Run.enc l_1),(vL Run.enc m_2)] [] (vL Run.enc r) []:=by
 refine FnM.of_wH ⟨Tryz.prog,88,[],[]⟩ rfl Tryz.func90 rfl rfl (lb_ rfl) (by kernel_rfl) ?_
 unfold pu at hF
 refine ai (aa .nil (ah (ai (aa .nil (ah (ai (aa (vI 0) (ah (ak (ai (aa (vL Run.enc l_1) (bN xE rfl wz (aa (vI 0) (ah (mh (λn_9 => ?_))))))))))))))))
 obtain ⟨o_14,hj_15,hF⟩:=bind_some hF
 obtain ⟨hn_7,hj_15⟩:=bv hj_15
 refine iM (σ:=(List Run)×Int) (N:=Nm) (λp=>(λ(s_8:(List Run)×Int) (n_11:Nm)=>([(5,(gV n_11 2 s_8.1))]:SL_)) p.1 p.2) (λp=>(λ(s_8:(List Run)×Int) (n_11:Nm)=>([(n_11,gB 2 Run.enc s_8.1)]:Hp)) p.1 p.2) (λ(k_3:Nat)=>(λp=>(λ(s_8:(List Run)×Int) (n_11:Nm)=>([(1,(vL Run.enc m_2)),(5,(gV n_11 2 s_8.1)),(6,(vI s_8.2)),(10,(vL Run.enc l_1)),(11,(vI (l_1.length:Int))),(12,(vI (k_3:Int)))]:SL_)) p.1 p.2)) (λk x s=>lq m_2 k x s) o_14 l_1 ((([]:List Run),0),n_9) hj_15 rfl (aK rfl) ?_ ?_
 ·rintro ⟨k_3,l_4,s_8,n_11⟩ ⟨hL_13,hD_6⟩
  dsimp only at hL_13 hD_6
  cases l_4 with
  | nil =>
   obtain rfl:=ae hL_13
   refine ai (aa (vB (decide ((k_3:Int)<(l_1.length:Int)))) (ah ?_))
   refine ak (ax rfl (drop_nil hD_6) (bf ?_))
   exact aY (s_8,n_11) rfl rfl (aK rfl)
  | cons x_5 l_4 =>
   obtain ⟨c_,hc_12,hL_13⟩:=bind_some hL_13
   refine ai (aa (vB (decide ((k_3:Int)<(l_1.length:Int)))) (ah ?_))
   refine ak (aA rfl (bA hD_6) (av ?_))
   unfold lq at hc_12
   refine ak (aQ (ai (dB lh rfl rfl (bK hD_6) rfl wz (bH nC vQ rfl (.d (.agg (Run.enc x_5))) rfl wz (di 0 (.inl rfl) z157 rfl wz (λn_16=>gu 0 il ft 1 nC rfl rfl [(vI x_5.f_from),(vI x_5.f_to)] rfl wz (ah (ak ?_))))))))
   obtain ⟨o_25,hj_26,hc_12⟩:=bind_some hc_12
   obtain ⟨nq_72,hj_26⟩:=dh hj_26
   refine fQ (λ(s_22:Int)=>[(1,(vL Run.enc m_2)),(5,(gV n_11 2 s_8.1)),(6,(vI s_22)),(8,(.ref n_16 0 0)),(10,(vL Run.enc l_1)),(11,(vI (l_1.length:Int))),(12,(vI (k_3:Int)))]) (λ(s_22:Int)=>[(n_11,gB 2 Run.enc s_8.1),(n_16,some (.cells 2 [(vI x_5.f_from),(vI x_5.f_to)]))]) (λ(k_17:Nat)=>(λ(s_22:Int)=>[(1,(vL Run.enc m_2)),(5,(gV n_11 2 s_8.1)),(6,(vI s_22)),(8,(.ref n_16 0 0)),(10,(vL Run.enc l_1)),(11,(vI (l_1.length:Int))),(12,(vI (k_3:Int)))])) (λs=>nU m_2 x_5 s) o_25 nq_72 s_8.2 hj_26 rfl (aK rfl) ?_ ?_
   ·rintro ⟨k_17,s_22⟩ hL_24
    dsimp only at hL_24
    cases k_17 with
    | zero=>cases hL_24
    | succ k_17 =>
     obtain ⟨c_,hc_23,hL_24⟩:=bind_some hL_24
     unfold nU at hc_23
     refine ak (ak ?_)
     obtain ⟨v_27,h_28,hc_23⟩:=bind_some hc_23
     refine aS [(1,(vL Run.enc m_2)),(5,(gV n_11 2 s_8.1)),(6,(vI s_22)),(8,(.ref n_16 0 0)),(10,(vL Run.enc l_1)),(11,(vI (l_1.length:Int))),(12,(vI (k_3:Int))),(29,(vB v_27))] [(n_11,gB 2 Run.enc s_8.1),(n_16,some (.cells 2 [(vI x_5.f_from),(vI x_5.f_to)]))] ?_ ?_
     ·refine bC (aa (vI s_22) (aa (vL Run.enc m_2) (bN xE rfl wz (aa (vB (decide (s_22<(m_2.length:Int)))) ?_))))
      rcases aj h_28 with⟨hc_29,h_28⟩|⟨hc_29,h_28⟩
      ·refine aC rfl hc_29 wz (aJ (vL Run.enc m_2) wa rfl (aJ (vI s_22) wa rfl ?_))
       obtain ⟨y_30,hy_31,h_28⟩:=bind_some h_28
       refine dB lh rfl rfl hy_31 rfl wa (kv qB rfl [.int .i64 y_30.f_to] rfl rfl wa (bH sz3 ag3 rfl (vI y_30.f_to) rfl wa (aH kP rfl 0 rfl wa (aG 11 1 (.inr (by kernel_rfl)) (λ_ _ ag=>trivial) sz3 ag3 rfl rfl (vI x_5.f_from) rfl wa (aJ (vB (decide (y_30.f_to<=x_5.f_from))) wa rfl (aa (vB (decide (y_30.f_to<=x_5.f_from))) (ah ?_)))))))
       obtain rfl:=ae h_28
       exact cu
      ·refine aC rfl hc_29 wz (af (af (af (af (af (af (af (af (aa (vB false) (ah ?_))))))))))
       obtain rfl:=ae h_28
       exact cu
     ·rintro ⟨⟩ _ sl_ H_ hp_ hq_
      refine aR _ hp_ hq_ ?_
      rcases aj hc_23 with⟨hc_32,hc_23⟩|⟨hc_32,hc_23⟩
      ·refine aA rfl hc_32 (av (aQ (au (aa (vI s_22) (aa (vI (w64 (s_22+1))) (aa (vI (w64 (s_22+1))) (ah ?_)))))))
       obtain rfl:=ae hc_23
       exact aZ (k_17,(w64 (s_22+1))) hL_24 (ls_ _) rfl (aK rfl)
      ·refine ax rfl hc_32 (bf ?_)
       obtain rfl:=ae hc_23
       obtain rfl:=ae hL_24
       exact aY (s_22) rfl rfl (aK rfl)
   ·rintro s_22 ho_ sl_ H_ hp_ hq_
    subst ho_
    refine aR _ hp_ hq_ (ak (ai (aa (vI s_22) (aa (vI s_22) (ah ?_)))))
    obtain ⟨o_43,hj_44,hc_12⟩:=bind_some hc_12
    obtain ⟨nq_71,hj_44⟩:=dh hj_44
    refine yQ (σ:=(List Run)×Int×Int) (N:=Nm) (λp=>(λ(s_38:(List Run)×Int×Int) (n_40:Nm)=>([(1,(vL Run.enc m_2)),(5,(gV n_40 2 s_38.1)),(6,(vI s_22)),(8,(.ref n_16 0 0)),(10,(vL Run.enc l_1)),(11,(vI (l_1.length:Int))),(12,(vI (k_3:Int)))]:SL_)) p.1 p.2) (λp=>(λ(s_38:(List Run)×Int×Int) (n_40:Nm)=>([(n_40,gB 2 Run.enc s_38.1),(n_16,some (.cells 2 [(vI s_38.2.2),(vI x_5.f_to)]))]:Hp)) p.1 p.2) (λ(k_33:Nat)=>(λp=>(λ(s_38:(List Run)×Int×Int) (n_40:Nm)=>([(1,(vL Run.enc m_2)),(5,(gV n_40 2 s_38.1)),(6,(vI s_22)),(8,(.ref n_16 0 0)),(9,(vI s_38.2.1)),(10,(vL Run.enc l_1)),(11,(vI (l_1.length:Int))),(12,(vI (k_3:Int)))]:SL_)) p.1 p.2)) (λs=>nY m_2 x_5 s) o_43 nq_71 ((s_8.1,s_22,x_5.f_from),n_11) hj_44 rfl (aK rfl) ?_ ?_
    ·rintro ⟨k_33,s_38,n_40⟩ hL_42
     dsimp only at hL_42
     cases k_33 with
     | zero=>cases hL_42
     | succ k_33 =>
      obtain ⟨c_,hc_41,hL_42⟩:=bind_some hL_42
      unfold nY at hc_41
      refine ak (ak ?_)
      obtain ⟨v_45,h_46,hc_41⟩:=bind_some hc_41
      refine aS [(1,(vL Run.enc m_2)),(5,(gV n_40 2 s_38.1)),(6,(vI s_22)),(8,(.ref n_16 0 0)),(9,(vI s_38.2.1)),(10,(vL Run.enc l_1)),(11,(vI (l_1.length:Int))),(12,(vI (k_3:Int))),(46,(vB v_45))] [(n_40,gB 2 Run.enc s_38.1),(n_16,some (.cells 2 [(vI s_38.2.2),(vI x_5.f_to)]))] ?_ ?_
      ·refine bC (aa (vI s_38.2.1) (aa (vL Run.enc m_2) (bN xE rfl wz (aa (vB (decide (s_38.2.1<(m_2.length:Int)))) ?_))))
       rcases aj h_46 with⟨hc_47,h_46⟩|⟨hc_47,h_46⟩
       ·refine aC rfl hc_47 wz (aJ (vL Run.enc m_2) wa rfl (aJ (vI s_38.2.1) wa rfl ?_))
        obtain ⟨y_48,hy_49,h_46⟩:=bind_some h_46
        refine dB lh rfl rfl hy_49 rfl wa (kv kP rfl [.int .i64 y_48.f_from,.int .i64 y_48.f_to] rfl rfl wa (bH sz3 ag3 rfl (vI y_48.f_from) rfl wa (aH qB rfl 1 rfl wa (aG 11 1 (.inr (by kernel_rfl)) (λ_ _ ag=>trivial) sz3 ag3 rfl rfl (vI x_5.f_to) rfl wa (aJ (vB (decide (y_48.f_from<x_5.f_to))) wa rfl (aa (vB (decide (y_48.f_from<x_5.f_to))) (ah ?_)))))))
        obtain rfl:=ae h_46
        exact cu
       ·refine aC rfl hc_47 wz (af (af (af (af (af (af (af (af (aa (vB false) (ah ?_))))))))))
        obtain rfl:=ae h_46
        exact cu
      ·rintro ⟨⟩ _ sl_ H_ hp_ hq_
       refine aR _ hp_ hq_ ?_
       rcases aj hc_41 with⟨hc_50,hc_41⟩|⟨hc_50,hc_41⟩
       ·refine aA rfl hc_50 (av (ak (aQ (ak (ak (bC (aa (vL Run.enc m_2) (aa (vI s_38.2.1) ?_))))))))
        obtain ⟨y_51,hy_52,hc_41⟩:=bind_some hc_41
        refine dB lh rfl rfl hy_52 rfl wz (kv kP rfl [.int .i64 y_51.f_from,.int .i64 y_51.f_to] rfl rfl wz (bH sz3 ag3 rfl (vI y_51.f_from) rfl wz (aH kP rfl 0 rfl wz (aG 6 1 (.inr (by kernel_rfl)) (λ_ _ ag=>trivial) sz3 ag3 rfl rfl (vI s_38.2.2) rfl wz (aa (vB (decide (y_51.f_from>s_38.2.2))) (ah ?_))))))
        obtain ⟨v_53,h_54,hc_41⟩:=bind_some hc_41
        refine jU (β:=Nm) (λ(n_55:Nm)=>([(1,(vL Run.enc m_2)),(5,(gV n_55 2 v_53)),(6,(vI s_22)),(8,(.ref n_16 0 0)),(9,(vI s_38.2.1)),(10,(vL Run.enc l_1)),(11,(vI (l_1.length:Int))),(12,(vI (k_3:Int)))]:SL_)) (λ(n_55:Nm)=>([(n_55,gB 2 Run.enc v_53),(n_16,some (.cells 2 [(vI s_38.2.2),(vI x_5.f_to)]))]:Hp)) (λ_=>True) ?_ ?_
        ·rcases aj h_54 with⟨hc_56,h_54⟩|⟨hc_56,h_54⟩
         ·refine aA rfl hc_56 (bC (aa (gV n_40 2 s_38.1) (aH kP rfl 0 rfl wz (aG 2 1 (.inr (by kernel_rfl)) (λ_ _ ag=>trivial) sz3 ag3 rfl rfl (vI s_38.2.2) rfl wz (aa (vL Run.enc m_2) (aa (vI s_38.2.1) ?_))))))
          obtain ⟨y_57,hy_58,h_54⟩:=bind_some h_54
          refine dB lh rfl rfl hy_58 rfl wz (kv kP rfl [.int .i64 y_57.f_from,.int .i64 y_57.f_to] rfl rfl wz (bH sz3 ag3 rfl (vI y_57.f_from) rfl wz (aJ (.d (.agg (Run.enc (⟨s_38.2.2,y_57.f_from⟩:Run)))) wz (by kernel_rfl) (fq (([(⟨s_38.2.2,y_57.f_from⟩:Run)]:List Run).map Run.enc) lh LH rfl rfl rfl rfl rfl wz ?_))))
          obtain ⟨a_59,hz_60,h_54⟩:=bind_some h_54
          refine jL 10 (.inr (by kernel_rfl)) (λ_ _ ag=>⟨.inr (.inr (by kernel_rfl)),trivial⟩) (i:=0) AX AX nC z157 rfl (by decide) LP (by decide) (λ_=>rfl) rfl rfl rfl hz_60 wz (λn_61=>aa (gV n_61 2 a_59) (ah ?_))
          obtain rfl:=ae h_54
          exact aY n_61 trivial rfl (aK rfl)
         ·refine ax rfl hc_56 (av ?_)
          obtain rfl:=ae h_54
          exact aY n_40 trivial rfl (aK rfl)
        ·rintro n_55 _ sl_ H_ hp_ hq_
         refine aR _ hp_ hq_ (bC (aH kP rfl 0 rfl wz (aG 1 1 (.inr (by kernel_rfl)) (λ_ _ ag=>trivial) sz3 ag3 rfl rfl (vI s_38.2.2) rfl wz (aa (vL Run.enc m_2) (aa (vI s_38.2.1) ?_)))))
         obtain ⟨y_62,hy_63,hc_41⟩:=bind_some hc_41
         refine dB lh rfl rfl hy_63 rfl wz (kv qB rfl [.int .i64 y_62.f_to] rfl rfl wz (bH sz3 ag3 rfl (vI y_62.f_to) rfl wz (qK (vI (iw s_38.2.2 y_62.f_to)) rfl (.inr rfl) wz (aH kP rfl 0 rfl wz (gu 9 (.inr (by kernel_rfl)) (λ_ _ ag=>⟨.inr (.inr (by kernel_rfl)),trivial⟩) 1 sz3 rfl rfl [(vI (iw s_38.2.2 y_62.f_to)),(vI x_5.f_to)] rfl wz (ah (au (aa (vI s_38.2.1) (aa (vI (w64 (s_38.2.1+1))) (aa (vI (w64 (s_38.2.1+1))) (ah ?_)))))))))))
         obtain rfl:=ae hc_41
         exact aZ (k_33,(v_53,(w64 (s_38.2.1+1)),(iw s_38.2.2 y_62.f_to)),n_55) hL_42 (ls_ _) rfl (aK rfl)
       ·refine ax rfl hc_50 (bf ?_)
        obtain rfl:=ae hc_41
        obtain rfl:=ae hL_42
        exact aY ((s_38.1,s_38.2.1,s_38.2.2),n_40) rfl rfl (aK rfl)
    ·rintro ⟨s_38,n_40⟩ ho_ sl_ H_ hp_ hq_
     subst ho_
     refine aR _ hp_ hq_ (ai (aH kP rfl 0 rfl wz (aG 0 1 il ft sz3 ag3 rfl rfl (vI s_38.2.2) rfl wz (aH qB rfl 1 rfl wz (aG 0 1 il ft sz3 ag3 rfl rfl (vI x_5.f_to) rfl wz (aa (vB (decide (s_38.2.2<x_5.f_to))) (ah ?_)))))))
     obtain ⟨v_64,h_65,hc_12⟩:=bind_some hc_12
     refine jU (β:=Nm) (λ(n_66:Nm)=>([(1,(vL Run.enc m_2)),(5,(gV n_66 2 v_64)),(6,(vI s_22)),(10,(vL Run.enc l_1)),(11,(vI (l_1.length:Int))),(12,(vI (k_3:Int)))]:SL_)) (λ(n_66:Nm)=>([(n_66,gB 2 Run.enc v_64),(n_16,some (.cells 2 [(vI s_38.2.2),(vI x_5.f_to)]))]:Hp)) (λ_=>True) ?_ ?_
     ·rcases aj h_65 with⟨hc_67,h_65⟩|⟨hc_67,h_65⟩
      ·refine aA rfl hc_67 (au (aa (gV n_40 2 s_38.1) (aG 0 1 il ft nC vQ rfl rfl (.d (.agg (Run.enc (⟨s_38.2.2,x_5.f_to⟩:Run)))) rfl wz (fq (([(⟨s_38.2.2,x_5.f_to⟩:Run)]:List Run).map Run.enc) lh LH rfl rfl rfl rfl rfl wz ?_))))
       obtain ⟨a_68,hz_69,h_65⟩:=bind_some h_65
       refine jL 0 il ft (i:=0) AX AX nC z157 rfl (by decide) LP (by decide) (λ_=>rfl) rfl rfl rfl hz_69 wz (λn_70=>aa (gV n_70 2 a_68) (ah ?_))
       obtain rfl:=ae h_65
       exact aY n_70 trivial rfl (aK rfl)
      ·refine ax rfl hc_67 (av ?_)
       obtain rfl:=ae h_65
       exact aY n_40 trivial rfl (aK rfl)
     ·rintro n_66 _ sl_ H_ hp_ hq_
      refine aR _ hp_ hq_ (au (fw (bE hD_6 hn_7) wz rfl (aa (vI ((k_3+1:Nat):Int)) (ah ?_))))
      obtain rfl:=ae hc_12
      exact aZ (k_3+1,l_4,(v_64,s_22),n_66) ⟨hL_13,aX hD_6⟩ (ls_ _) rfl (aK rfl)
 ·rintro ⟨s_8,n_11⟩ ho_ sl_ H_ hp_ hq_
  subst ho_
  refine aR _ hp_ hq_ (ai (aa (gV n_11 2 s_8.1) (aa (gV n_11 2 s_8.1) (ah (gJ 0 rfl (bZ 4 0 rfl rfl (bZ 5 0 rfl rfl (bZ 87 0 rfl rfl ?_))))))))
  obtain rfl:=ae hF
  exact ay (aM [(vL Run.enc s_8.1)] ⟨rfl,trivial⟩)
theorem lZ {s1_1:(List Run)} {s2_2:(List Run)} {r:Bool} (hF:dz s1_1 s2_2=some r) :
  FnM Tryz.prog 92 [(vL Run.enc s1_1),(vL Run.enc s2_2)] [] (vB r) []:=by
 refine FnM.of_wH ⟨Tryz.prog,26,[],[]⟩ rfl Tryz.func92 rfl rfl (lb_ rfl) (by kernel_rfl) ?_
 unfold dz at hF
 refine ai (aa (vB false) (ah (ak (ai (aa (vL Run.enc s1_1) (bN xE rfl wz (aa (vL Run.enc s2_2) (bN xE rfl wz (aa (vB ((s1_1.length:Int) != (s2_2.length:Int))) (ah ?_))))))))))
 rcases aj hF with⟨hc_3,hF⟩|⟨hc_3,hF⟩
 ·refine aA rfl hc_3 (ai (aa (vB false) (ah ?_)))
  obtain rfl:=ae hF
  exact ay (aM [(vB false)] ⟨rfl,trivial⟩)
 ·refine ax rfl hc_3 (av (ak (ai (aa (vL Run.enc s1_1) (bN xE rfl wz (aa (vI 0) (ah ?_)))))))
  obtain ⟨o_12,hj_13,hF⟩:=bind_some hF
  obtain ⟨hn_8,hj_13⟩:=bv hj_13
  refine bW (λ(s_9:Unit)=>[]) (λ(s_9:Unit)=>[]) (λ(k_4:Nat)=>(λ(s_9:Unit)=>[(0,(vL Run.enc s1_1)),(1,(vL Run.enc s2_2)),(12,(vI (s1_1.length:Int))),(13,(vI (k_4:Int)))])) (λk x s=>dY s2_2 k x s) o_12 s1_1 () hj_13 rfl (aK rfl) ?_ ?_
  ·rintro ⟨k_4,l_5,s_9⟩ ⟨hL_11,hD_7⟩
   dsimp only at hL_11 hD_7
   cases l_5 with
   | nil =>
    obtain rfl:=ae hL_11
    refine ai (aa (vB (decide ((k_4:Int)<(s1_1.length:Int)))) (ah ?_))
    refine ak (ax rfl (drop_nil hD_7) (bf ?_))
    exact aY (s_9) rfl rfl (aK rfl)
   | cons x_6 l_5 =>
    obtain ⟨c_,hc_10,hL_11⟩:=bind_some hL_11
    refine ai (aa (vB (decide ((k_4:Int)<(s1_1.length:Int)))) (ah ?_))
    refine ak (aA rfl (bA hD_7) (av ?_))
    unfold dY at hc_10
    refine ak (aQ (ai (aa (vI (k_4:Int)) (aa (vI (k_4:Int)) (ah (ak (bC (aa (vL Run.enc s1_1) (aa (vI (k_4:Int)) (dB lh rfl rfl (bK hD_7) rfl wz (bH nC vQ rfl (.d (.agg (Run.enc x_6))) rfl wz (aa (vL Run.enc s2_2) (aa (vI (k_4:Int)) ?_)))))))))))))
    obtain ⟨y_14,hy_15,hc_10⟩:=bind_some hc_10
    refine dB lh rfl rfl hy_15 rfl wz (bH nC vQ rfl (.d (.agg (Run.enc y_14))) rfl wz (aJ (vB (!((x_6.f_from==y_14.f_from)&&((x_6.f_to==y_14.f_to)&&true)))) wz (by kernel_rfl) (ah ?_)))
    rcases aj hc_10 with⟨hc_16,hc_10⟩|⟨hc_16,hc_10⟩
    ·refine aA rfl hc_16 (ai (aa (vB false) (ah ?_)))
     obtain rfl:=ae hc_10
     obtain rfl:=ae hL_11
     obtain rfl:=ae hF
     exact ay (aM [(vB false)] ⟨rfl,trivial⟩)
    ·refine ax rfl hc_16 (av (au (fw (bE hD_7 hn_8) wz rfl (aa (vI ((k_4+1:Nat):Int)) (ah ?_)))))
     obtain rfl:=ae hc_10
     exact aZ (k_4+1,l_5,()) ⟨hL_11,aX hD_7⟩ (ls_ _) rfl (aK rfl)
  ·rintro s_9 ho_ sl_ H_ hp_ hq_
   subst ho_
   refine aR _ hp_ hq_ (ai (aa (vB true) (ah ?_)))
   obtain rfl:=ae hF
   exact ay (aM [(vB true)] ⟨rfl,trivial⟩)
theorem zG {l_1:(List Rect)} {m_2:(List Rect)} {r:(List Rect)} (hF:mI l_1 m_2=some r) :
  FnM Tryz.prog 54 [(vL Rect.enc l_1),(vL Rect.enc m_2)] [] (vL Rect.enc r) []:=by
 refine FnM.of_wH ⟨Tryz.prog,88,[],[]⟩ rfl Tryz.func54 rfl rfl (lb_ rfl) (by kernel_rfl) ?_
 unfold mI at hF
 refine ai (aa .nil (ah (ai (aa .nil (ah (ak (ai (aa (vL Rect.enc l_1) (aa (vL Rect.enc m_2) (fq (([l_1,m_2]:List (List Rect)).map (eL Rect.enc)) PI ez186 rfl rfl rfl rfl rfl wz ?_))))))))))
 obtain ⟨r_3,hr_4,hF⟩:=bind_some hF
 refine aB (mX hr_4) rfl hb88 rfl rfl rfl rfl wz (bN Ao rfl wz (aa (vI 0) (ah (mh (λn_11 => ?_)))))
 obtain ⟨o_16,hj_17,hF⟩:=bind_some hF
 obtain ⟨hn_9,hj_17⟩:=bv hj_17
 refine iM (σ:=(List Int)) (N:=Nm) (λp=>(λ(s_10:List Int) (n_13:Nm)=>([(0,(vL Rect.enc l_1)),(1,(vL Rect.enc m_2)),(5,(gV n_13 1 s_10))]:SL_)) p.1 p.2) (λp=>(λ(s_10:List Int) (n_13:Nm)=>([(n_13,gB 1 eI s_10)]:Hp)) p.1 p.2) (λ(k_5:Nat)=>(λp=>(λ(s_10:List Int) (n_13:Nm)=>([(0,(vL Rect.enc l_1)),(1,(vL Rect.enc m_2)),(5,(gV n_13 1 s_10)),(19,(vL Rect.enc r_3)),(20,(vI (r_3.length:Int))),(21,(vI (k_5:Int)))]:SL_)) p.1 p.2)) (λk x s=>lW k x s) o_16 r_3 (([]:List Int),n_11) hj_17 rfl (aK rfl) ?_ ?_
 ·rintro ⟨k_5,l_6,s_10,n_13⟩ ⟨hL_15,hD_8⟩
  dsimp only at hL_15 hD_8
  cases l_6 with
  | nil =>
   obtain rfl:=ae hL_15
   refine ai (aa (vB (decide ((k_5:Int)<(r_3.length:Int)))) (ah ?_))
   refine ak (ax rfl (drop_nil hD_8) (bf ?_))
   exact aY (s_10,n_13) rfl rfl (aK rfl)
  | cons x_7 l_6 =>
   obtain ⟨c_,hc_14,hL_15⟩:=bind_some hL_15
   refine ai (aa (vB (decide ((k_5:Int)<(r_3.length:Int)))) (ah ?_))
   refine ak (aA rfl (bA hD_8) (av ?_))
   unfold lW at hc_14
   refine ak (aQ (ai (dB FQ rfl rfl (bK hD_8) rfl wz (bH vR IU rfl (.d (.agg (Rect.enc x_7))) rfl wz (di 0 (.inl rfl) z74 rfl wz (λn_18=>gu 0 il ft 1 vR rfl rfl (Rect.v x_7) rfl wz (ah (au (aa (gV n_13 1 s_10) (aH vJ rfl 1 rfl wz (aG 0 1 il ft sz3 ag3 rfl rfl (vI x_7.Y) rfl wz (aH vJ rfl 1 rfl wz (aG 0 1 il ft sz3 ag3 rfl rfl (vI x_7.Y) rfl wz (aH Co rfl 3 rfl wz (aG 0 1 il ft sz3 ag3 rfl rfl (vI x_7.H) rfl wz (aa (vI (w64 (x_7.Y+x_7.H))) (fq (([x_7.Y,(w64 (x_7.Y+x_7.H))]:List Int).map eI) mQ x9 rfl rfl rfl rfl rfl wz ?_)))))))))))))))))
   obtain ⟨a_19,hz_20,hc_14⟩:=bind_some hc_14
   refine jL 0 il ft (i:=0) GY GY sz3 z3 rfl (by decide) by3 (by decide) (λ_=>rfl) rfl rfl rfl hz_20 wz (λn_21=>aa (gV n_21 1 a_19) (ah (au (fw (bE hD_8 hn_9) wz rfl (aa (vI ((k_5+1:Nat):Int)) (ah ?_))))))
   obtain rfl:=ae hc_14
   exact aZ (k_5+1,l_6,a_19,n_21) ⟨hL_15,aX hD_8⟩ (ls_ _) rfl (aK rfl)
 ·rintro ⟨s_10,n_13⟩ ho_ sl_ H_ hp_ hq_
  subst ho_
  refine aR _ hp_ hq_ (ai (aa (gV n_13 1 s_10) ?_))
  obtain ⟨r_22,hr_23,hF⟩:=bind_some hF
  obtain ⟨_,hs_24,hF⟩:=bind_some hF
  replace hs_24:=mF hs_24
  refine nV 0 [] 0 0 il ft (mf hr_23) rfl hb19 rfl rfl rfl (by kernel_rfl) rfl (.inl rfl) rfl (by kernel_rfl) (by kernel_rfl) (by kernel_rfl) (by kernel_rfl) rfl (by decide) (by kernel_rfl) pI (xC hs_24) wz ([(n_13,gB 1 eI r_22)]:Hp) (by kernel_rfl) (fI (v':=(gV n_13 1 r_22)) 36 rfl (mg hs_24.symm) (fI (v':=(gV n_13 1 r_22)) 5 rfl (mg hs_24.symm) (ah (ai (aa (gV n_13 1 r_22) ?_)))))
  obtain ⟨r_25,hr_26,hF⟩:=bind_some hF
  refine nV 0 [] 0 0 il ft (pQ hr_26) rfl hb89 rfl rfl rfl (by kernel_rfl) rfl (.inl rfl) rfl (by kernel_rfl) (by kernel_rfl) (by kernel_rfl) (by kernel_rfl) rfl (by decide) (by kernel_rfl) BS (λ_=>rfl) wz ([(n_13,none)]:Hp) (by kernel_rfl) (aa (vL eI r_25) (ah (ai (aa .nil (ah (ai (aa .nil (ah (ai (aa (vI 0) (ah (ak (ai (aa (vL eI r_25) (bN vk rfl wz (aa (vI 0) (ah (Mg Run.enc 9 rfl (mh (λn_33 => ?_))))))))))))))))))))
  obtain ⟨o_38,hj_39,hF⟩:=bind_some hF
  obtain ⟨hn_31,hj_39⟩:=bv hj_39
  refine iM (σ:=(List Rect)×(List Run)×Int) (N:=Nm) (λp=>(λ(s_32:(List Rect)×(List Run)×Int) (n_35:Nm)=>([(8,(gV n_35 4 s_32.1))]:SL_)) p.1 p.2) (λp=>(λ(s_32:(List Rect)×(List Run)×Int) (n_35:Nm)=>([(n_13,none),(n_35,gB 4 Rect.enc s_32.1)]:Hp)) p.1 p.2) (λ(k_27:Nat)=>(λp=>(λ(s_32:(List Rect)×(List Run)×Int) (n_35:Nm)=>([(0,(vL Rect.enc l_1)),(1,(vL Rect.enc m_2)),(5,(vL eI r_25)),(8,(gV n_35 4 s_32.1)),(9,(vL Run.enc s_32.2.1)),(10,(vI s_32.2.2)),(40,(vL eI r_25)),(41,(vI (r_25.length:Int))),(42,(vI (k_27:Int)))]:SL_)) p.1 p.2)) (λk x s=>jN r_25 l_1 m_2 k x s) o_38 r_25 ((([]:List Rect),([]:List Run),0),n_33) hj_39 rfl (aK rfl) ?_ ?_
  ·rintro ⟨k_27,l_28,s_32,n_35⟩ ⟨hL_37,hD_30⟩
   dsimp only at hL_37 hD_30
   cases l_28 with
   | nil =>
    obtain rfl:=ae hL_37
    refine ai (aa (vB (decide ((k_27:Int)<(r_25.length:Int)))) (ah ?_))
    refine ak (ax rfl (drop_nil hD_30) (bf ?_))
    exact aY (s_32,n_35) rfl rfl (aK rfl)
   | cons x_29 l_28 =>
    obtain ⟨c_,hc_36,hL_37⟩:=bind_some hL_37
    refine ai (aa (vB (decide ((k_27:Int)<(r_25.length:Int)))) (ah ?_))
    refine ak (aA rfl (bA hD_30) (av ?_))
    unfold jN at hc_36
    refine ak (aQ (ai (aa (vI (k_27:Int)) (dB mQ rfl rfl (bK hD_30) rfl wz (bH sz3 ag3 rfl (vI x_29) rfl wz (aa (vI (k_27:Int)) (aa (vI x_29) (ah (ai (aa .nil (ah (ak (ai (aa (vI (k_27:Int)) (aa (vI (w64 ((k_27:Int)+1))) (aa (vL eI r_25) (bN vk rfl wz (aa (vB (decide ((w64 ((k_27:Int)+1))<(r_25.length:Int)))) (ah (Mg Run.enc 13 rfl ?_))))))))))))))))))))
    obtain ⟨v_42,h_43,hc_36⟩:=bind_some hc_36
    refine aS [(0,(vL Rect.enc l_1)),(1,(vL Rect.enc m_2)),(5,(vL eI r_25)),(8,(gV n_35 4 s_32.1)),(9,(vL Run.enc s_32.2.1)),(10,(vI s_32.2.2)),(12,(vI x_29)),(13,(vL Run.enc v_42)),(40,(vL eI r_25)),(41,(vI (r_25.length:Int))),(42,(vI (k_27:Int)))] [(n_13,none),(n_35,gB 4 Rect.enc s_32.1)] ?_ ?_
    ·rcases aj h_43 with⟨hc_44,h_43⟩|⟨hc_44,h_43⟩
     ·refine aA rfl hc_44 (au (aa (vL Rect.enc l_1) (aa (vI x_29) ?_)))
      obtain ⟨r_45,hr_46,h_43⟩:=bind_some h_43
      refine aB (vN hr_46) rfl hb91 rfl rfl rfl rfl wz (aa (vL Rect.enc m_2) (aa (vI x_29) ?_))
      obtain ⟨r_47,hr_48,h_43⟩:=bind_some h_43
      refine aB (vN hr_48) rfl hb91 rfl rfl rfl rfl wz ?_
      obtain ⟨r_49,hr_50,h_43⟩:=bind_some h_43
      refine aB (C9 hr_50) rfl hb90 rfl rfl rfl rfl wz (aa (vL Run.enc r_49) (ah ?_))
      obtain rfl:=ae h_43
      exact cu
     ·refine ax rfl hc_44 (av ?_)
      obtain rfl:=ae h_43
      exact cu
    ·rintro ⟨⟩ _ sl_ H_ hp_ hq_
     refine aR _ hp_ hq_ (ak (ai (aa (vL Run.enc s_32.2.1) (aa (vL Run.enc v_42) ?_))))
     obtain ⟨r_51,hr_52,hc_36⟩:=bind_some hc_36
     refine aB (lZ hr_52) rfl hb92 rfl rfl rfl rfl wz (ah ?_)
     rcases aj hc_36 with⟨hc_53,hc_36⟩|⟨hc_53,hc_36⟩
     ·refine aA rfl hc_53 (bf (au (fw (bE hD_30 hn_31) wz rfl (aa (vI ((k_27+1:Nat):Int)) (ah ?_)))))
      obtain rfl:=ae hc_36
      exact aZ (k_27+1,l_28,(s_32.1,s_32.2.1,s_32.2.2),n_35) ⟨hL_37,aX hD_30⟩ (ls_ _) rfl (aK rfl)
     ·refine ax rfl hc_53 (av (ak (ai (aa (vL Run.enc s_32.2.1) (bN xE rfl wz (aa (vI 0) (ah ?_)))))))
      obtain ⟨o_64,hj_65,hc_36⟩:=bind_some hc_36
      obtain ⟨hn_58,hj_65⟩:=bv hj_65
      refine iM (σ:=(List Rect)) (N:=Nm) (λp=>(λ(s_59:List Rect) (n_61:Nm)=>([(0,(vL Rect.enc l_1)),(1,(vL Rect.enc m_2)),(5,(vL eI r_25)),(8,(gV n_61 4 s_59)),(12,(vI x_29)),(13,(vL Run.enc v_42)),(40,(vL eI r_25)),(41,(vI (r_25.length:Int))),(42,(vI (k_27:Int)))]:SL_)) p.1 p.2) (λp=>(λ(s_59:List Rect) (n_61:Nm)=>([(n_13,none),(n_61,gB 4 Rect.enc s_59)]:Hp)) p.1 p.2) (λ(k_54:Nat)=>(λp=>(λ(s_59:List Rect) (n_61:Nm)=>([(0,(vL Rect.enc l_1)),(1,(vL Rect.enc m_2)),(5,(vL eI r_25)),(8,(gV n_61 4 s_59)),(10,(vI s_32.2.2)),(12,(vI x_29)),(13,(vL Run.enc v_42)),(40,(vL eI r_25)),(41,(vI (r_25.length:Int))),(42,(vI (k_27:Int))),(62,(vL Run.enc s_32.2.1)),(63,(vI (s_32.2.1.length:Int))),(64,(vI (k_54:Int)))]:SL_)) p.1 p.2)) (λk x s=>l8 s_32 x_29 k x s) o_64 s_32.2.1 (s_32.1,n_35) hj_65 rfl (aK rfl) ?_ ?_
      ·rintro ⟨k_54,l_55,s_59,n_61⟩ ⟨hL_63,hD_57⟩
       dsimp only at hL_63 hD_57
       cases l_55 with
       | nil =>
        obtain rfl:=ae hL_63
        refine ai (aa (vB (decide ((k_54:Int)<(s_32.2.1.length:Int)))) (ah ?_))
        refine ak (ax rfl (drop_nil hD_57) (bf ?_))
        exact aY (s_59,n_61) rfl rfl (aK rfl)
       | cons x_56 l_55 =>
        obtain ⟨c_,hc_62,hL_63⟩:=bind_some hL_63
        refine ai (aa (vB (decide ((k_54:Int)<(s_32.2.1.length:Int)))) (ah ?_))
        refine ak (aA rfl (bA hD_57) (av ?_))
        unfold l8 at hc_62
        refine ak (aQ (ai (dB lh rfl rfl (bK hD_57) rfl wz (bH nC vQ rfl (.d (.agg (Run.enc x_56))) rfl wz (di 0 (.inl rfl) z157 rfl wz (λn_66=>gu 0 il ft 2 nC rfl rfl [(vI x_56.f_from),(vI x_56.f_to)] rfl wz (ah (au (aa (gV n_61 4 s_59) (aH kP rfl 0 rfl wz (aG 0 2 il ft sz3 ag3 rfl rfl (vI x_56.f_from) rfl wz (aa (vI s_32.2.2) (aH qB rfl 1 rfl wz (aG 0 2 il ft sz3 ag3 rfl rfl (vI x_56.f_to) rfl wz (aH kP rfl 0 rfl wz (aG 0 2 il ft sz3 ag3 rfl rfl (vI x_56.f_from) rfl wz (aa (vI (w64 (x_56.f_to-x_56.f_from))) (aa (vI x_29) (aa (vI s_32.2.2) (aa (vI (w64 (x_29-s_32.2.2))) (aJ (.d (.agg (Rect.enc (⟨x_56.f_from,s_32.2.2,(w64 (x_56.f_to-x_56.f_from)),(w64 (x_29-s_32.2.2))⟩:Rect)))) wz (by kernel_rfl) (fq (([(⟨x_56.f_from,s_32.2.2,(w64 (x_56.f_to-x_56.f_from)),(w64 (x_29-s_32.2.2))⟩:Rect)]:List Rect).map Rect.enc) FQ ez75 rfl rfl rfl rfl rfl wz ?_))))))))))))))))))))))
        obtain ⟨a_67,hz_68,hc_62⟩:=bind_some hc_62
        refine jL 0 il ft (i:=1) JU JU vR z74 rfl (by decide) by74 (by decide) (λ_=>rfl) rfl rfl rfl hz_68 wz (λn_69=>aa (gV n_69 4 a_67) (ah (au (fw (bE hD_57 hn_58) wz rfl (aa (vI ((k_54+1:Nat):Int)) (ah ?_))))))
        obtain rfl:=ae hc_62
        exact aZ (k_54+1,l_55,a_67,n_69) ⟨hL_63,aX hD_57⟩ (ls_ _) rfl (aK rfl)
      ·rintro ⟨s_59,n_61⟩ ho_ sl_ H_ hp_ hq_
       subst ho_
       refine aR _ hp_ hq_ (au (aa (vL Run.enc v_42) (aa (vI x_29) (aa (vL Run.enc v_42) (aa (vI x_29) (ah (au (fw (bE hD_30 hn_31) wz rfl (aa (vI ((k_27+1:Nat):Int)) (ah ?_))))))))))
       obtain rfl:=ae hc_36
       exact aZ (k_27+1,l_28,(s_59,v_42,x_29),n_61) ⟨hL_37,aX hD_30⟩ (ls_ _) rfl (aK rfl)
  ·rintro ⟨s_32,n_35⟩ ho_ sl_ H_ hp_ hq_
   subst ho_
   refine aR _ hp_ hq_ (ai (aa (gV n_35 4 s_32.1) (aa (gV n_35 4 s_32.1) (ah (gJ 1 rfl (bZ 4 1 rfl rfl (bZ 8 1 rfl rfl (bZ 87 1 rfl rfl ?_))))))))
   obtain rfl:=ae hF
   exact ay (aM [(vL Rect.enc s_32.1)] ⟨rfl,trivial⟩)
theorem DZ {l_1:(List Rect)} {r:Int} (hF:rU l_1=some r) :
  FnM Tryz.prog 53 [(vL Rect.enc l_1)] [] (vI r) []:=by
 refine FnM.of_wH ⟨Tryz.prog,21,[],[]⟩ rfl Tryz.func53 rfl rfl (lb_ rfl) (by kernel_rfl) ?_
 unfold rU at hF
 refine ai (aa (vI 0) (ah (ai (aa (vI 0) (ah (ak (ai (aa (vL Rect.enc l_1) (bN Ao rfl wz (aa (vI 0) (ah ?_)))))))))))
 obtain ⟨o_10,hj_11,hF⟩:=bind_some hF
 obtain ⟨hn_6,hj_11⟩:=bv hj_11
 refine bW (λ(s_7:Int)=>[(3,(vI s_7))]) (λ(s_7:Int)=>[]) (λ(k_2:Nat)=>(λ(s_7:Int)=>[(3,(vI s_7)),(6,(vL Rect.enc l_1)),(7,(vI (l_1.length:Int))),(8,(vI (k_2:Int)))])) (λk x s=>qN k x s) o_10 l_1 0 hj_11 rfl (aK rfl) ?_ ?_
 ·rintro ⟨k_2,l_3,s_7⟩ ⟨hL_9,hD_5⟩
  dsimp only at hL_9 hD_5
  cases l_3 with
  | nil =>
   obtain rfl:=ae hL_9
   refine ai (aa (vB (decide ((k_2:Int)<(l_1.length:Int)))) (ah ?_))
   refine ak (ax rfl (drop_nil hD_5) (bf ?_))
   exact aY (s_7) rfl rfl (aK rfl)
  | cons x_4 l_3 =>
   obtain ⟨c_,hc_8,hL_9⟩:=bind_some hL_9
   refine ai (aa (vB (decide ((k_2:Int)<(l_1.length:Int)))) (ah ?_))
   refine ak (aA rfl (bA hD_5) (av ?_))
   unfold qN at hc_8
   refine ak (aQ (ai (dB FQ rfl rfl (bK hD_5) rfl wz (bH vR IU rfl (.d (.agg (Rect.enc x_4))) rfl wz (di 0 (.inl rfl) z74 rfl wz (λn_12=>gu 0 il ft 0 vR rfl rfl (Rect.v x_4) rfl wz (ah (au (aa (vI s_7) (aH Hu rfl 2 rfl wz (aG 0 0 il ft sz3 ag3 rfl rfl (vI x_4.W) rfl wz (aH Co rfl 3 rfl wz (aG 0 0 il ft sz3 ag3 rfl rfl (vI x_4.H) rfl wz (aa (vI (w64 (x_4.W*x_4.H))) (aa (vI (w64 (s_7+(w64 (x_4.W*x_4.H))))) (aa (vI (w64 (s_7+(w64 (x_4.W*x_4.H))))) (ah (au (fw (bE hD_5 hn_6) wz rfl (aa (vI ((k_2+1:Nat):Int)) (ah ?_)))))))))))))))))))))
   obtain rfl:=ae hc_8
   exact aZ (k_2+1,l_3,(w64 (s_7+(w64 (x_4.W*x_4.H))))) ⟨hL_9,aX hD_5⟩ (ls_ _) rfl (aK rfl)
 ·rintro s_7 ho_ sl_ H_ hp_ hq_
  subst ho_
  refine aR _ hp_ hq_ (ai (aa (vI s_7) (aa (vI s_7) (ah ?_))))
  obtain rfl:=ae hF
  exact ay (aM [(vI s_7)] ⟨rfl,trivial⟩)
theorem Cc {l_1:(List Rect)} {r:Int×Int} (hF:oZ l_1=some r) :
  FnM Tryz.prog 30 [(vL Rect.enc l_1)] [] (.tup [(vI r.1),(vI r.2)]) []:=by
 refine FnM.of_wH ⟨Tryz.prog,13,[],[]⟩ rfl Tryz.func30 rfl rfl (lb_ rfl) (by kernel_rfl) ?_
 unfold oZ at hF
 refine ai (aa (vI 0) (aa (vI 0) (ah (ak (ai (aa (vL Rect.enc l_1) ?_))))))
 obtain ⟨r_2,hr_3,hF⟩:=bind_some hF
 refine aB (wC hr_3) rfl hb52 rfl rfl rfl rfl wz (aa (vI r_2) (ah (ai (aa (vI r_2) (aa (vB (r_2 != 0)) (ah ?_))))))
 rcases aj hF with⟨hc_4,hF⟩|⟨hc_4,hF⟩
 ·refine aA rfl hc_4 (ai (aa (vI r_2) (aa (vI 0) (aa (vI r_2) (ah ?_)))))
  obtain rfl:=ae hF
  exact ay (aM [(vI 0),(vI r_2)] ⟨rfl,⟨rfl,trivial⟩⟩)
 ·refine ax rfl hc_4 (av (ai (aa (vL Rect.enc l_1) ?_)))
  obtain ⟨r_5,hr_6,hF⟩:=bind_some hF
  refine aB (zG hr_6) rfl hb54 rfl rfl rfl rfl wz ?_
  obtain ⟨r_7,hr_8,hF⟩:=bind_some hF
  refine aB (DZ hr_8) rfl hb53 rfl rfl rfl rfl wz (aa (vI r_7) (aa (vI 0) (ah ?_)))
  obtain rfl:=ae hF
  exact ay (aM [(vI r_7),(vI 0)] ⟨rfl,⟨rfl,trivial⟩⟩)
theorem F5 {n_1:Int} {r:Bool} (hF:zW n_1=some r) :
  FnM Tryz.prog 143 [(vI n_1)] [] (vB r) []:=by
 refine FnM.of_wH ⟨Tryz.prog,9,[],[]⟩ rfl Tryz.func143 rfl rfl (lb_ rfl) (by kernel_rfl) ?_
 unfold zW at hF
 refine ai (aa (vB false) (ah (ak ?_)))
 obtain ⟨v_2,h_3,hF⟩:=bind_some hF
 refine aS [(2,(vB v_2))] [] ?_ ?_
 ·refine au (aa (vI n_1) (aa (vB (decide (n_1>=0))) ?_))
  rcases aj h_3 with⟨hc_4,h_3⟩|⟨hc_4,h_3⟩
  ·refine aC rfl hc_4 wz (aJ (vI n_1) wa rfl (aJ (vB (decide (n_1<=4000))) wa rfl (aa (vB (decide (n_1<=4000))) (aa (vB (decide (n_1<=4000))) (ah ?_)))))
   obtain rfl:=ae h_3
   exact cu
  ·refine aC rfl hc_4 wz (af (af (aa (vB false) (aa (vB false) (ah ?_)))))
   obtain rfl:=ae h_3
   exact cu
 ·rintro ⟨⟩ _ sl_ H_ hp_ hq_
  refine aR _ hp_ hq_ ?_
  obtain rfl:=ae hF
  exact ay (aM [(vB v_2)] ⟨rfl,trivial⟩)
theorem tL {l_1:(List Int)} {r:Int} (hF:ja l_1=some r) :
  FnM Tryz.prog 124 [(vL eI l_1)] [] (vI r) []:=by
 refine FnM.of_wH ⟨Tryz.prog,30,[],[]⟩ rfl Tryz.func124 rfl rfl (lb_ rfl) (by kernel_rfl) ?_
 unfold ja at hF
 refine ai (aa (vI 0) (ah (ak (ai (aa (vL eI l_1) (bN vk rfl wz (aa (vB (decide ((l_1.length:Int)>100))) (ah ?_))))))))
 rcases aj hF with⟨hc_2,hF⟩|⟨hc_2,hF⟩
 ·refine aA rfl hc_2 (ai (aa (vI 2) (ah ?_)))
  obtain rfl:=ae hF
  exact ay (aM [(vI 2)] ⟨rfl,trivial⟩)
 ·refine ax rfl hc_2 (av (ak (ai (aa (vL eI l_1) (bN vk rfl wz (aa (vI 0) (ah ?_)))))))
  obtain ⟨o_11,hj_12,hF⟩:=bind_some hF
  obtain ⟨hn_7,hj_12⟩:=bv hj_12
  refine bW (λ(s_8:Unit)=>[]) (λ(s_8:Unit)=>[]) (λ(k_3:Nat)=>(λ(s_8:Unit)=>[(0,(vL eI l_1)),(8,(vL eI l_1)),(9,(vI (l_1.length:Int))),(10,(vI (k_3:Int)))])) (λk x s=>jD l_1 k x s) o_11 l_1 () hj_12 rfl (aK rfl) ?_ ?_
  ·rintro ⟨k_3,l_4,s_8⟩ ⟨hL_10,hD_6⟩
   dsimp only at hL_10 hD_6
   cases l_4 with
   | nil =>
    obtain rfl:=ae hL_10
    refine ai (aa (vB (decide ((k_3:Int)<(l_1.length:Int)))) (ah ?_))
    refine ak (ax rfl (drop_nil hD_6) (bf ?_))
    exact aY (s_8) rfl rfl (aK rfl)
   | cons x_5 l_4 =>
    obtain ⟨c_,hc_9,hL_10⟩:=bind_some hL_10
    refine ai (aa (vB (decide ((k_3:Int)<(l_1.length:Int)))) (ah ?_))
    refine ak (aA rfl (bA hD_6) (av ?_))
    unfold jD at hc_9
    refine ak (aQ (ai (aa (vI (k_3:Int)) (dB mQ rfl rfl (bK hD_6) rfl wz (bH sz3 ag3 rfl (vI x_5) rfl wz (aa (vI (k_3:Int)) (aa (vI x_5) (ah (ak (ai (aa (vI x_5) ?_)))))))))))
    obtain ⟨r_13,hr_14,hc_9⟩:=bind_some hc_9
    refine aB (F5 hr_14) rfl hb143 rfl rfl rfl rfl wz (aa (vB (!r_13)) (ah ?_))
    rcases aj hc_9 with⟨hc_15,hc_9⟩|⟨hc_15,hc_9⟩
    ·refine aA rfl hc_15 (ai (aa (vI 1) (ah ?_)))
     obtain rfl:=ae hc_9
     obtain rfl:=ae hL_10
     obtain rfl:=ae hF
     exact ay (aM [(vI 1)] ⟨rfl,trivial⟩)
    ·refine ax rfl hc_15 (av (ak ?_))
     obtain ⟨v_16,h_17,hc_9⟩:=bind_some hc_9
     refine aS [(0,(vL eI l_1)),(8,(vL eI l_1)),(9,(vI (l_1.length:Int))),(10,(vI (k_3:Int))),(28,(vB v_16))] [] ?_ ?_
     ·refine au (aa (vI (k_3:Int)) (aa (vB (decide ((k_3:Int)>0))) ?_))
      rcases aj h_17 with⟨hc_18,h_17⟩|⟨hc_18,h_17⟩
      ·refine aC rfl hc_18 wz (aJ (vI x_5) wa rfl (aJ (vL eI l_1) wa rfl (aJ (vI (k_3:Int)) wa rfl (aJ (vI (w64 ((k_3:Int)-1))) wa rfl ?_))))
       obtain ⟨y_19,hy_20,h_17⟩:=bind_some h_17
       refine dB mQ rfl rfl hy_20 rfl wa (bH sz3 ag3 rfl (vI y_19) rfl wa (aJ (vB (decide (x_5<=y_19))) wa rfl (aa (vB (decide (x_5<=y_19))) (ah ?_))))
       obtain rfl:=ae h_17
       exact cu
      ·refine aC rfl hc_18 wz (af (af (af (af (af (af (af (aa (vB false) (ah ?_)))))))))
       obtain rfl:=ae h_17
       exact cu
     ·rintro ⟨⟩ _ sl_ H_ hp_ hq_
      refine aR _ hp_ hq_ ?_
      rcases aj hc_9 with⟨hc_21,hc_9⟩|⟨hc_21,hc_9⟩
      ·refine aA rfl hc_21 (ai (aa (vI 7) (ah ?_)))
       obtain rfl:=ae hc_9
       obtain rfl:=ae hL_10
       obtain rfl:=ae hF
       exact ay (aM [(vI 7)] ⟨rfl,trivial⟩)
      ·refine ax rfl hc_21 (av (au (fw (bE hD_6 hn_7) wz rfl (aa (vI ((k_3+1:Nat):Int)) (ah ?_)))))
       obtain rfl:=ae hc_9
       exact aZ (k_3+1,l_4,()) ⟨hL_10,aX hD_6⟩ (ls_ _) rfl (aK rfl)
  ·rintro s_8 ho_ sl_ H_ hp_ hq_
   subst ho_
   refine aR _ hp_ hq_ (ai (aa (vI 0) (ah ?_)))
   obtain rfl:=ae hF
   exact ay (aM [(vI 0)] ⟨rfl,trivial⟩)
theorem rG {l_1:(List ByteArray)} {r:Int} (hF:iX l_1=some r) :
  FnM Tryz.prog 127 [(vL eS l_1)] [] (vI r) []:=by
 refine FnM.of_wH ⟨Tryz.prog,27,[],[]⟩ rfl Tryz.func127 rfl rfl (lb_ rfl) (by kernel_rfl) ?_
 unfold iX at hF
 refine ai (aa (vI 0) (ah (ak (ai (aa (vL eS l_1) (bN G9 rfl wz (aa (vI 0) (ah ?_))))))))
 obtain ⟨o_10,hj_11,hF⟩:=bind_some hF
 obtain ⟨hn_6,hj_11⟩:=bv hj_11
 refine bW (λ(s_7:Unit)=>[]) (λ(s_7:Unit)=>[]) (λ(k_2:Nat)=>(λ(s_7:Unit)=>[(0,(vL eS l_1)),(5,(vL eS l_1)),(6,(vI (l_1.length:Int))),(7,(vI (k_2:Int)))])) (λk x s=>iI l_1 k x s) o_10 l_1 () hj_11 rfl (aK rfl) ?_ ?_
 ·rintro ⟨k_2,l_3,s_7⟩ ⟨hL_9,hD_5⟩
  dsimp only at hL_9 hD_5
  cases l_3 with
  | nil =>
   obtain rfl:=ae hL_9
   refine ai (aa (vB (decide ((k_2:Int)<(l_1.length:Int)))) (ah ?_))
   refine ak (ax rfl (drop_nil hD_5) (bf ?_))
   exact aY (s_7) rfl rfl (aK rfl)
  | cons x_4 l_3 =>
   obtain ⟨c_,hc_8,hL_9⟩:=bind_some hL_9
   refine ai (aa (vB (decide ((k_2:Int)<(l_1.length:Int)))) (ah ?_))
   refine ak (aA rfl (bA hD_5) (av ?_))
   unfold iI at hc_8
   refine ak (aQ (ai (aa (vI (k_2:Int)) (dB CJ rfl rfl (bK hD_5) rfl wz (bH sz9 ag9 rfl (vS x_4) rfl wz (aa (vI (k_2:Int)) (aa (vS x_4) (ah (ak (ai (aa (vS x_4) ?_)))))))))))
   obtain ⟨r_12,hr_13,hc_8⟩:=bind_some hc_8
   refine aB (dx hr_13) rfl yw rfl rfl rfl rfl wz (aa (vB (!r_12)) (ah ?_))
   rcases aj hc_8 with⟨hc_14,hc_8⟩|⟨hc_14,hc_8⟩
   ·refine aA rfl hc_14 (ai (aa (vI 5) (ah ?_)))
    obtain rfl:=ae hc_8
    obtain rfl:=ae hL_9
    obtain rfl:=ae hF
    exact ay (aM [(vI 5)] ⟨rfl,trivial⟩)
   ·refine ax rfl hc_14 (av (ak ?_))
    obtain ⟨v_15,h_16,hc_8⟩:=bind_some hc_8
    refine aS [(0,(vL eS l_1)),(5,(vL eS l_1)),(6,(vI (l_1.length:Int))),(7,(vI (k_2:Int))),(25,(vB v_15))] [] ?_ ?_
    ·refine au (aa (vI (k_2:Int)) (aa (vB (decide ((k_2:Int)>0))) ?_))
     rcases aj h_16 with⟨hc_17,h_16⟩|⟨hc_17,h_16⟩
     ·refine aC rfl hc_17 wz (aJ (vS x_4) wa rfl (aJ (vL eS l_1) wa rfl (aJ (vI (k_2:Int)) wa rfl (aJ (vI (w64 ((k_2:Int)-1))) wa rfl ?_))))
      obtain ⟨y_18,hy_19,h_16⟩:=bind_some h_16
      refine dB CJ rfl rfl hy_19 rfl wa (bH sz9 ag9 rfl (vS y_18) rfl wa (aJ (vB (sLe x_4 y_18)) wa rfl (aa (vB (sLe x_4 y_18)) (ah ?_))))
      obtain rfl:=ae h_16
      exact cu
     ·refine aC rfl hc_17 wz (af (af (af (af (af (af (af (aa (vB false) (ah ?_)))))))))
      obtain rfl:=ae h_16
      exact cu
    ·rintro ⟨⟩ _ sl_ H_ hp_ hq_
     refine aR _ hp_ hq_ ?_
     rcases aj hc_8 with⟨hc_20,hc_8⟩|⟨hc_20,hc_8⟩
     ·refine aA rfl hc_20 (ai (aa (vI 7) (ah ?_)))
      obtain rfl:=ae hc_8
      obtain rfl:=ae hL_9
      obtain rfl:=ae hF
      exact ay (aM [(vI 7)] ⟨rfl,trivial⟩)
     ·refine ax rfl hc_20 (av (au (fw (bE hD_5 hn_6) wz rfl (aa (vI ((k_2+1:Nat):Int)) (ah ?_)))))
      obtain rfl:=ae hc_8
      exact aZ (k_2+1,l_3,()) ⟨hL_9,aX hD_5⟩ (ls_ _) rfl (aK rfl)
 ·rintro s_7 ho_ sl_ H_ hp_ hq_
  subst ho_
  refine aR _ hp_ hq_ (ai (aa (vI 0) (ah ?_)))
  obtain rfl:=ae hF
  exact ay (aM [(vI 0)] ⟨rfl,trivial⟩)
theorem uZ {l_1:(List ByteArray)} {r:Int} (hF:iE l_1=some r) :
  FnM Tryz.prog 125 [(vL eS l_1)] [] (vI r) []:=by
 refine FnM.of_wH ⟨Tryz.prog,8,[],[]⟩ rfl Tryz.func125 rfl rfl (lb_ rfl) (by kernel_rfl) ?_
 unfold iE at hF
 refine ai (aa (vI 0) (ah (ak (ai (aa (vL eS l_1) (bN G9 rfl wz (aa (vB (decide ((l_1.length:Int)>20))) (ah ?_))))))))
 rcases aj hF with⟨hc_2,hF⟩|⟨hc_2,hF⟩
 ·refine aA rfl hc_2 (ai (aa (vI 2) (ah ?_)))
  obtain rfl:=ae hF
  exact ay (aM [(vI 2)] ⟨rfl,trivial⟩)
 ·refine ax rfl hc_2 (av (ai (aa (vL eS l_1) ?_)))
  obtain ⟨r_3,hr_4,hF⟩:=bind_some hF
  refine aB (rG hr_4) rfl hb127 rfl rfl rfl rfl wz (aa (vI r_3) (ah ?_))
  obtain rfl:=ae hF
  exact ay (aM [(vI r_3)] ⟨rfl,trivial⟩)
end Go.Proofs.YtnfojnnfidnikaaGreatDoor.Law

