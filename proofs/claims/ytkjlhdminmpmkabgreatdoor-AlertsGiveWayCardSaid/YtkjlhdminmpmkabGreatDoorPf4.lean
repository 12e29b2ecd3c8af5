/-
 The machine computes these plain functions (written by a program of ours).
-/
import Derived.Test.YtkjlhdminmpmkabGreatDoorFacts
import Derived.Test.YtkjlhdminmpmkabGreatDoorDefs
import Derived.Test.YtkjlhdminmpmkabGreatDoorPf3
import Derived.Test.YtkjlhdminmpmkabGreatDoorShelf
open Go Go.Eng Go.Proofs
namespace Go.Proofs.YtkjlhdminmpmkabGreatDoor.Law
set_option maxRecDepth 100000
set_option linter.unusedVariables false
set_option maxHeartbeats 1000000
theorem ow {slices_1:(List (List Rect))} {r:(List Rect)} (hF:fC slices_1=some r) :
  FnM Tryz.prog 99 [(vL (eL Rect.enc) slices_1)] [] (vL Rect.enc r) []:=by
 refine FnM.of_wH ⟨Tryz.prog,36,[],[]⟩ rfl Tryz.func99 rfl rfl (lb_ rfl) (by kernel_rfl) ?_
 unfold fC at hF
 refine ai (aa .nil (ah (ai (aa (vI 0) (ah (ak (ai (aa (vL (eL Rect.enc) slices_1) (bG un186 rfl wz (aa (vI 0) (ah ?_)))))))))))
 obtain ⟨o_10,hj_11,hF⟩:=bind_some hF
 obtain ⟨hn_6,hj_11⟩:=aX hj_11
 refine bP (λ(s_7:Int)=>[(0,(vL (eL Rect.enc) slices_1)),(3,(vI s_7))]) (λ(s_7:Int)=>[]) (λ(k_2:Nat)=>(λ(s_7:Int)=>[(0,(vL (eL Rect.enc) slices_1)),(3,(vI s_7)),(9,(vL (eL Rect.enc) slices_1)),(10,(vI (slices_1.length:Int))),(11,(vI (k_2:Int)))])) (λk x s=>gX k x s) o_10 slices_1 0 hj_11 rfl (aH rfl) ?_ ?_
 ·rintro ⟨k_2,l_3,s_7⟩ ⟨hL_9,hD_5⟩
  dsimp only at hL_9 hD_5
  cases l_3 with
  | nil =>
   obtain rfl:=ae hL_9
   refine ai (aa (vB (decide ((k_2:Int)<(slices_1.length:Int)))) (ah ?_))
   refine ak (ax rfl (drop_nil hD_5) (aW ?_))
   exact aS (s_7) rfl rfl (aH rfl)
  | cons x_4 l_3 =>
   obtain ⟨c_,hc_8,hL_9⟩:=bind_some hL_9
   refine ai (aa (vB (decide ((k_2:Int)<(slices_1.length:Int)))) (ah ?_))
   refine ak (ay rfl (aZ hD_5) (av ?_))
   unfold gX at hc_8
   refine ak (aL (ai (dY Pf rfl rfl (bz hD_5) rfl wz (bI Ch EC rfl (vL Rect.enc x_4) rfl wz (aa (vL Rect.enc x_4) (ah (ai (aa (vI s_7) (aa (vL Rect.enc x_4) (bG xL rfl wz (aa (vI (w64 (s_7+(x_4.length:Int)))) (aa (vI (w64 (s_7+(x_4.length:Int)))) (ah (ai (aa (vI (w64 (s_7+(x_4.length:Int)))) (aa (vB (decide ((w64 (s_7+(x_4.length:Int)))<0))) (ah ?_)))))))))))))))))
   obtain ⟨v_12,h_13,hc_8⟩:=bind_some hc_8
   refine aP [(0,(vL (eL Rect.enc) slices_1)),(3,(vI (w64 (s_7+(x_4.length:Int))))),(9,(vL (eL Rect.enc) slices_1)),(10,(vI (slices_1.length:Int))),(11,(vI (k_2:Int)))] [] ?_ ?_
   ·rcases aj h_13 with⟨hc_14,h_13⟩|⟨hc_14,h_13⟩
    ·refine ay rfl hc_14 (au ?_)
     cases h_13
    ·refine ax rfl hc_14 (av ?_)
     obtain rfl:=ae h_13
     exact cu
   ·rintro ⟨⟩ _ sl_ H_ hp_ hq_
    refine aN _ hp_ hq_ (au (dZ (bn hD_5 hn_6) wz rfl (aa (vI ((k_2+1:Nat):Int)) (ah ?_))))
    obtain rfl:=ae hc_8
    exact aU (k_2+1,l_3,(w64 (s_7+(x_4.length:Int)))) ⟨hL_9,aR hD_5⟩ (ls_ _) rfl (aH rfl)
 ·rintro s_7 ho_ sl_ H_ hp_ hq_
  subst ho_
  refine aN _ hp_ hq_ (ai (aa (vI s_7) ?_))
  obtain ⟨b_15,hr_16,hF⟩:=bind_some hF
  refine MR (enc:=Rect.enc) (oC hr_16) rfl hb133 (by kernel_rfl) rfl (by kernel_rfl) wz (λn_17=>aa (kV b_15 n_17 4 ([]:List Rect)) (ah (ak (ai (aa (vL (eL Rect.enc) slices_1) (bG un186 rfl wz (aa (vI 0) (ah ?_))))))))
  obtain ⟨o_28,hj_29,hF⟩:=bind_some hF
  obtain ⟨hn_22,hj_29⟩:=aX hj_29
  refine ic (σ:=(List Rect)) (N:=Nm) (λp=>(λ(s_23:List Rect) (n_25:Nm)=>([(6,(kV b_15 n_25 4 s_23))]:SL_)) p.1 p.2) (λp=>(λ(s_23:List Rect) (n_25:Nm)=>([(n_25,kB b_15 4 Rect.enc s_23)]:Hp)) p.1 p.2) (λ(k_18:Nat)=>(λp=>(λ(s_23:List Rect) (n_25:Nm)=>([(6,(kV b_15 n_25 4 s_23)),(25,(vL (eL Rect.enc) slices_1)),(26,(vI (slices_1.length:Int))),(27,(vI (k_18:Int)))]:SL_)) p.1 p.2)) (λk x s=>gU k x s) o_28 slices_1 (([]:List Rect),n_17) hj_29 rfl (aH rfl) ?_ ?_
  ·rintro ⟨k_18,l_19,s_23,n_25⟩ ⟨hL_27,hD_21⟩
   dsimp only at hL_27 hD_21
   cases l_19 with
   | nil =>
    obtain rfl:=ae hL_27
    refine ai (aa (vB (decide ((k_18:Int)<(slices_1.length:Int)))) (ah ?_))
    refine ak (ax rfl (drop_nil hD_21) (aW ?_))
    exact aS (s_23,n_25) rfl rfl (aH rfl)
   | cons x_20 l_19 =>
    obtain ⟨c_,hc_26,hL_27⟩:=bind_some hL_27
    refine ai (aa (vB (decide ((k_18:Int)<(slices_1.length:Int)))) (ah ?_))
    refine ak (ay rfl (aZ hD_21) (av ?_))
    unfold gU at hc_26
    refine ak (aL (ai (dY Pf rfl rfl (bz hD_21) rfl wz (bI Ch EC rfl (vL Rect.enc x_20) rfl wz (aa (vL Rect.enc x_20) (ah (au (aa (kV b_15 n_25 4 s_23) (aa (vL Rect.enc x_20) ?_)))))))))
    obtain ⟨a_30,hz_31,hc_26⟩:=bind_some hc_26
    refine Pv 0 il ft (i:=0) El El q8 z53 rfl (by decide) O5 (by decide) (λ_=>rfl) rfl rfl rfl hz_31 wz (λn_32=>aa (kV b_15 n_32 4 a_30) (ah (au (dZ (bn hD_21 hn_22) wz rfl (aa (vI ((k_18+1:Nat):Int)) (ah ?_))))))
    obtain rfl:=ae hc_26
    exact aU (k_18+1,l_19,a_30,n_32) ⟨hL_27,aR hD_21⟩ (ls_ _) rfl (aH rfl)
  ·rintro ⟨s_23,n_25⟩ ho_ sl_ H_ hp_ hq_
   subst ho_
   refine aN _ hp_ hq_ (ai (aa (kV b_15 n_25 4 s_23) (aa (kV b_15 n_25 4 s_23) (ah (Kv 0 rfl (BJ 2 0 rfl rfl (BJ 6 0 rfl rfl (BJ 35 0 rfl rfl ?_))))))))
   obtain rfl:=ae hF
   exact aA (aK [(vL Rect.enc s_23)] ⟨rfl,trivial⟩)
theorem uo {x r:(List Int)} (hF:jk x=some r) :
  FnM Tryz.prog 100 [(dV (aD 0) 1 x)] (([]:List Box)++gI 1 eI x) (.tup []) (([]:List Box).map some++gT x (gB 1 eI r)) :=
 PQ Tryz.slices_Sort_int Tryz.slices_Sort_int_none hF
theorem rF {s_1:(List Int)} {r:(List Int)} (hF:gm s_1=some r) :
  FnM Tryz.prog 101 [(dV (aD 0) 1 s_1)] (([]:List Box)++gI 1 eI s_1) (vL eI r) (([]:List Box).map some++gT s_1 none):=by
 refine FnM.of_wHv ⟨Tryz.prog,61,[],[]⟩ rfl Tryz.func101 rfl rfl (lb_ rfl) (by kernel_rfl) ?_
 unfold gm at hF
 refine ai (aa .nil (ah (ak (ai (aa (dV (aD 0) 1 s_1) (BN vJ rfl wz (aa (vB (decide ((s_1.length:Int)<2))) (ah ?_))))))))
 rcases aj hF with⟨hc_2,hF⟩|⟨hc_2,hF⟩
 ·refine ay rfl hc_2 (ai (aa (dV (aD 0) 1 s_1) (aa (dV (aD 0) 1 s_1) (ah (gK 0 rfl (Ad 0 0 rfl rfl (Ad 2 0 rfl rfl (Ad 6 0 rfl rfl (Ad 9 0 rfl rfl (HY (i:=0) rfl ?_))))))))))
  obtain rfl:=ae hF
  exact aA (xh (bs:=([]:List Box)) (os:=([]:List Box)) (xs:=s_1) (o:=none) (.inr rfl) [(vL eI s_1)] ⟨rfl,trivial⟩ rfl rfl rfl rfl rfl (by kernel_rfl) DN rfl)
 ·refine ax rfl hc_2 (av (ak (ai (aa (vI 1) (ah ?_)))))
  obtain ⟨o_11,hj_12,hF⟩:=bind_some hF
  obtain ⟨nq_52,hj_12⟩:=dw hj_12
  refine eZ (λ(s_8:Int)=>[(0,(dV (aD 0) 1 s_1))]) (λ(s_8:Int)=>[((aD 0),gB 1 eI s_1)]) (λ(k_3:Nat)=>(λ(s_8:Int)=>[(0,(dV (aD 0) 1 s_1)),(3,(vI s_8))])) (λs=>eQ s_1 s) o_11 nq_52 1 hj_12 rfl (aH rfl) ?_ ?_
  ·rintro ⟨k_3,s_8⟩ hL_10
   dsimp only at hL_10
   cases k_3 with
   | zero=>cases hL_10
   | succ k_3 =>
    obtain ⟨c_,hc_9,hL_10⟩:=bind_some hL_10
    unfold eQ at hc_9
    refine ak (ai (aa (vI s_8) (aa (dV (aD 0) 1 s_1) (BN vJ rfl wz (aa (vB (decide (s_8<(s_1.length:Int)))) (ah ?_))))))
    rcases aj hc_9 with⟨hc_13,hc_9⟩|⟨hc_13,hc_9⟩
    ·refine ay rfl hc_13 (av (ak (aL (ak (bC (aa (dV (aD 0) 1 s_1) (aa (vI s_8) ?_)))))))
     obtain ⟨_,hi_14,hc_9⟩:=bind_some hc_9
     refine iP ni rfl rfl (iV hi_14) (fD hi_14) wz ?_
     obtain ⟨e_15,hy_16,hc_9⟩:=bind_some hc_9
     refine jr 3 0 (.inr (by kernel_rfl)) (λ_ _ ag=>trivial) sz3 ag3 rfl rfl hy_16 (vI e_15) rfl wz (aa (dV (aD 0) 1 s_1) (aa (vI s_8) (aa (vI (w64 (s_8-1))) ?_)))
     obtain ⟨_,hi_17,hc_9⟩:=bind_some hc_9
     refine iP ni rfl rfl (iV hi_17) (fD hi_17) wz ?_
     obtain ⟨e_18,hy_19,hc_9⟩:=bind_some hc_9
     refine jr 8 0 (.inr (by kernel_rfl)) (λ_ _ ag=>⟨.inl ⟨rfl,rfl⟩,trivial⟩) sz3 ag3 rfl rfl hy_19 (vI e_18) rfl wz (aa (vB (e_15==e_18)) (ah ?_))
     rcases aj hc_9 with⟨hc_20,hc_9⟩|⟨hc_20,hc_9⟩
     ·refine ay rfl hc_20 (ai (aa (dV (aD 0) 1 s_1) (aa (vI s_8) ?_)))
      obtain ⟨_,hn_21,hc_9⟩:=bind_some hc_9
      replace hn_21:=neL_ne hn_21
      refine dH (v':=(vV (aD 0) 1 s_1)) 0 rfl (Ao hn_21) (dH (v':=(vV (aD 0) 1 s_1)) 11 rfl (Ao hn_21) (dH (v':=(vV (aD 0) 1 s_1)) 16 rfl (Ao hn_21) (dH (v':=(vV (aD 0) 1 s_1)) 20 rfl (Ao hn_21) (dH (v':=(vV (aD 0) 1 s_1)) 26 rfl (Ao hn_21) (QN 0 rfl (gB_cons hn_21) ?_)))))
      obtain ⟨_,hr_22,hc_9⟩:=bind_some hc_9
      refine JD vJ sz3 rfl rfl hr_22 wz (aa (.vs (aD 0) 1 ((s_8).toNat) (((s_1.length:Int)).toNat-(s_8).toNat)) (ah (ak (ai (aa (vI 1) (ah ?_))))))
      obtain ⟨o_31,hj_32,hc_9⟩:=bind_some hc_9
      obtain ⟨nq_51,hj_32⟩:=dw hj_32
      refine eZ (λ(s_28:(List Int)×Int×Int)=>[(0,(vV (aD 0) 1 s_28.1)),(3,(vI s_28.2.1))]) (λ(s_28:(List Int)×Int×Int)=>[((aD 0),some (bV 1 eI s_28.1))]) (λ(k_23:Nat)=>(λ(s_28:(List Int)×Int×Int)=>[(0,(vV (aD 0) 1 s_28.1)),(3,(vI s_28.2.1)),(4,(.vs (aD 0) 1 ((s_8).toNat) (((s_1.length:Int)).toNat-(s_8).toNat))),(5,(vI s_28.2.2))])) (λs=>gP s_1 s_8 s) o_31 nq_51 (s_1,s_8,1) hj_32 rfl (aH rfl) ?_ ?_
      ·rintro ⟨k_23,s_28⟩ hL_30
       dsimp only at hL_30
       cases k_23 with
       | zero=>cases hL_30
       | succ k_23 =>
        obtain ⟨c_,hc_29,hL_30⟩:=bind_some hL_30
        unfold gP at hc_29
        refine ak (ai (aa (vI s_28.2.2) (aa (.vs (aD 0) 1 ((s_8).toNat) (((s_1.length:Int)).toNat-(s_8).toNat)) (QR vJ rfl wz (aa (vB (decide (s_28.2.2<(((((s_1.length:Int)).toNat-(s_8).toNat):Nat):Int)))) (ah ?_))))))
        rcases aj hc_29 with⟨hc_33,hc_29⟩|⟨hc_33,hc_29⟩
        ·refine ay rfl hc_33 (av (ak (aL (ak (bC (aa (.vs (aD 0) 1 ((s_8).toNat) (((s_1.length:Int)).toNat-(s_8).toNat)) (aa (vI s_28.2.2) ?_)))))))
         obtain ⟨_,hi_34,hc_29⟩:=bind_some hc_29
         refine vQ ni rfl rfl (zB hi_34) (uU hi_34) wz ?_
         obtain ⟨e_35,hy_36,hc_29⟩:=bind_some hc_29
         refine G7 3 0 (.inr (by kernel_rfl)) (λ_ _ ag=>trivial) sz3 ag3 rfl rfl hy_36 (vI e_35) rfl wz (aa (.vs (aD 0) 1 ((s_8).toNat) (((s_1.length:Int)).toNat-(s_8).toNat)) (aa (vI s_28.2.2) (aa (vI (w64 (s_28.2.2-1))) ?_)))
         obtain ⟨_,hi_37,hc_29⟩:=bind_some hc_29
         refine vQ ni rfl rfl (zB hi_37) (uU hi_37) wz ?_
         obtain ⟨e_38,hy_39,hc_29⟩:=bind_some hc_29
         refine G7 8 0 (.inr (by kernel_rfl)) (λ_ _ ag=>⟨.inl ⟨rfl,rfl⟩,trivial⟩) sz3 ag3 rfl rfl hy_39 (vI e_38) rfl wz (aa (vB (e_35 != e_38)) (ah ?_))
         obtain ⟨v_40,h_41,hc_29⟩:=bind_some hc_29
         refine aP [(0,(vV (aD 0) 1 v_40.1)),(3,(vI v_40.2)),(4,(.vs (aD 0) 1 ((s_8).toNat) (((s_1.length:Int)).toNat-(s_8).toNat))),(5,(vI s_28.2.2))] [((aD 0),some (bV 1 eI v_40.1))] ?_ ?_
         ·rcases aj h_41 with⟨hc_42,h_41⟩|⟨hc_42,h_41⟩
          ·refine ay rfl hc_42 (ai (aa (vV (aD 0) 1 s_28.1) (aa (vI s_28.2.1) (aa (.vs (aD 0) 1 ((s_8).toNat) (((s_1.length:Int)).toNat-(s_8).toNat)) (aa (vI s_28.2.2) ?_)))))
           obtain ⟨_,hi_43,h_41⟩:=bind_some h_41
           refine vQ ni rfl rfl (zB hi_43) (uU hi_43) wz ?_
           obtain ⟨e_44,hy_45,h_41⟩:=bind_some h_41
           refine G7 0 0 il ft sz3 ag3 rfl rfl hy_45 (vI e_44) rfl wz ?_
           obtain ⟨_,hi_46,h_41⟩:=bind_some h_41
           refine vQ ni rfl rfl (iV hi_46) (fD hi_46) wz ?_
           obtain ⟨e_47,hy_48,h_41⟩:=bind_some h_41
           refine h_stv 0 il ft 0 sz3 rfl rfl hy_48 e_44 rfl wz (dH (v':=(vV (aD 0) 1 (s_28.1.set (0+(s_28.2.1).toNat) e_44))) 0 rfl (I1 (by simp)) (dH (v':=(vV (aD 0) 1 (s_28.1.set (0+(s_28.2.1).toNat) e_44))) 45 rfl (I1 (by simp)) (ah (au (aa (vI s_28.2.1) (aa (vI (w64 (s_28.2.1+1))) (aa (vI (w64 (s_28.2.1+1))) (ah ?_))))))))
           obtain rfl:=ae h_41
           exact cu
          ·refine ax rfl hc_42 (av ?_)
           obtain rfl:=ae h_41
           exact cu
         ·rintro ⟨⟩ _ sl_ H_ hp_ hq_
          refine aN _ hp_ hq_ (au (aa (vI s_28.2.2) (aa (vI (w64 (s_28.2.2+1))) (aa (vI (w64 (s_28.2.2+1))) (ah ?_)))))
          obtain rfl:=ae hc_29
          exact aU (k_23,(v_40.1,v_40.2,(w64 (s_28.2.2+1)))) hL_30 (ls_ _) rfl (aH rfl)
        ·refine ax rfl hc_33 (aW ?_)
         obtain rfl:=ae hc_29
         obtain rfl:=ae hL_30
         exact aS ((s_28.1,s_28.2.1,s_28.2.2)) rfl rfl (aH rfl)
      ·rintro s_28 ho_ sl_ H_ hp_ hq_
       subst ho_
       refine aN _ hp_ hq_ (ai (aa (vV (aD 0) 1 s_28.1) (aa (vI s_28.2.1) ?_)))
       obtain ⟨_,hr_49,hc_9⟩:=bind_some hc_9
       refine JD vJ sz3 rfl rfl hr_49 wz (h_clear (i:=0) 0 il ft 0 EK sz3 z3 rfl rfl rfl (by decide) rfl (A8 hr_49) rfl wz (dH (v':=(vV (aD 0) 1 (s_28.1.take ((s_28.2.1).toNat)++List.replicate (((s_28.1.length:Int)).toNat-(s_28.2.1).toNat) 0++s_28.1.drop (((s_28.2.1).toNat)+(((s_28.1.length:Int)).toNat-(s_28.2.1).toNat))))) 0 rfl (I1 (Gs (A8 hr_49))) (dH (v':=(vV (aD 0) 1 (s_28.1.take ((s_28.2.1).toNat)++List.replicate (((s_28.1.length:Int)).toNat-(s_28.2.1).toNat) 0++s_28.1.drop (((s_28.2.1).toNat)+(((s_28.1.length:Int)).toNat-(s_28.2.1).toNat))))) 54 rfl (I1 (Gs (A8 hr_49))) (ah (ai (aa (vV (aD 0) 1 (s_28.1.take ((s_28.2.1).toNat)++List.replicate (((s_28.1.length:Int)).toNat-(s_28.2.1).toNat) 0++s_28.1.drop (((s_28.2.1).toNat)+(((s_28.1.length:Int)).toNat-(s_28.2.1).toNat)))) (aa (vI s_28.2.1) ?_)))))))
       obtain ⟨_,hr_50,hc_9⟩:=bind_some hc_9
       refine Qp vJ sz3 rfl rfl hr_50 wz (aa (.vs (aD 0) 1 0 ((s_28.2.1).toNat)) (ah (IQ 0 rfl (Gy 0 0 rfl rfl (OU 2 0 rfl rfl (A8 hr_50) (Gy 54 0 rfl rfl (Gy 57 0 rfl rfl (OU 59 0 rfl rfl (A8 hr_50) (HY (i:=0) rfl ?_)))))))))
       obtain rfl:=ae hc_9
       obtain rfl:=ae hL_10
       obtain rfl:=ae hF
       exact aA (xh (bs:=([]:List Box)) (os:=([]:List Box)) (xs:=s_1) (o:=none) (.inr rfl) [(vL eI (cutL (s_28.1.take ((s_28.2.1).toNat)++List.replicate (((s_28.1.length:Int)).toNat-(s_28.2.1).toNat) 0++s_28.1.drop (((s_28.2.1).toNat)+(((s_28.1.length:Int)).toNat-(s_28.2.1).toNat))) 0 ((s_28.2.1).toNat)))] ⟨rfl,trivial⟩ rfl rfl rfl rfl rfl (by kernel_rfl) DN rfl)
     ·refine ax rfl hc_20 (av (au (aa (vI s_8) (aa (vI (w64 (s_8+1))) (aa (vI (w64 (s_8+1))) (ah ?_))))))
      obtain rfl:=ae hc_9
      exact aU (k_3,(w64 (s_8+1))) hL_10 (ls_ _) rfl (aH rfl)
    ·refine ax rfl hc_13 (aW ?_)
     obtain rfl:=ae hc_9
     obtain rfl:=ae hL_10
     exact aS (s_8) rfl rfl (aH rfl)
  ·rintro s_8 ho_ sl_ H_ hp_ hq_
   subst ho_
   refine aN _ hp_ hq_ (ai (aa (dV (aD 0) 1 s_1) (aa (dV (aD 0) 1 s_1) (ah (gK 0 rfl (Ad 0 0 rfl rfl (Ad 2 0 rfl rfl (Ad 60 0 rfl rfl (HY (i:=0) rfl ?_)))))))))
   obtain rfl:=ae hF
   exact aA (xh (bs:=([]:List Box)) (os:=([]:List Box)) (xs:=s_1) (o:=none) (.inr rfl) [(vL eI s_1)] ⟨rfl,trivial⟩ rfl rfl rfl rfl rfl (by kernel_rfl) DN rfl)
theorem Cq {a_1:Run} {b_2:Run} {r:Int} (hF:uR a_1 b_2=some r) :
  FnM Tryz.prog 136 [(.d (.agg (Run.enc a_1))),(.d (.agg (Run.enc b_2)))] [] (vI r) []:=by
 refine FnM.of_wH ⟨Tryz.prog,10,[],[]⟩ rfl Tryz.func136 rfl rfl (lb_ rfl) (by kernel_rfl) ?_
 unfold uR at hF
 refine ai (gQ 0 (.inl rfl) [(vI a_1.f_from),(vI a_1.f_to)] rfl rfl wz (λn_3=>gQ 0 (.inl rfl) [(vI b_2.f_from),(vI b_2.f_to)] rfl rfl wz (λn_4=>aa (vI 0) (ah (ai (aG mg rfl 0 rfl wz (aC 0 0 il ft sz3 ag3 rfl rfl (vI a_1.f_from) rfl wz (aG mg rfl 0 rfl wz (aC 0 1 il ft sz3 ag3 rfl rfl (vI b_2.f_from) rfl wz (aa (vI (w64 (a_1.f_from-b_2.f_from))) (aa (vI (w64 (a_1.f_from-b_2.f_from))) (ah ?_))))))))))))
 obtain rfl:=ae hF
 exact aA (aK [(vI (w64 (a_1.f_from-b_2.f_from)))] ⟨rfl,trivial⟩)
theorem kU {data_1:(List Run)} {a_2:Int} {b_3:Int} {r:(List Run)} (hF:bO data_1 a_2 b_3=some r) :
  FnM Tryz.prog 183 [(dV (aD 0) 2 data_1),(vI a_2),(vI b_3),(.fn 136 [])] (([]:List Box)++gI 2 Run.enc data_1) (.tup []) (([]:List Box).map some++gT data_1 (gB 2 Run.enc r)):=by
 refine FnM.of_wHv ⟨Tryz.prog,53,[],[]⟩ rfl Tryz.func183 rfl rfl (lb_ rfl) (by kernel_rfl) ?_
 unfold bO at hF
 refine ai (aa (vI a_2) (aa (vI (w64 (a_2+1))) (aa (vI (w64 (a_2+1))) (ah ?_))))
 obtain ⟨o_13,hj_14,hF⟩:=bind_some hF
 obtain ⟨nq_51,hj_14⟩:=dw hj_14
 refine eZ (λ(s_10:(List Run)×Int)=>[]) (λ(s_10:(List Run)×Int)=>[((aD 0),gB 2 Run.enc s_10.1)]) (λ(k_5:Nat)=>(λ(s_10:(List Run)×Int)=>[(0,(dV (aD 0) 2 s_10.1)),(1,(vI a_2)),(2,(vI b_3)),(3,(.fn 136 [])),(8,(vI s_10.2))])) (λs=>bH b_3 a_2 s) o_13 nq_51 (data_1,(w64 (a_2+1))) hj_14 rfl (aH rfl) ?_ ?_
 ·rintro ⟨k_5,s_10⟩ hL_12
  dsimp only at hL_12
  cases k_5 with
  | zero=>cases hL_12
  | succ k_5 =>
   obtain ⟨c_,hc_11,hL_12⟩:=bind_some hL_12
   unfold bH at hc_11
   refine ak (ai (aa (vI s_10.2) (aa (vI b_3) (aa (vB (decide (s_10.2<b_3))) (ah ?_)))))
   rcases aj hc_11 with⟨hc_15,hc_11⟩|⟨hc_15,hc_11⟩
   ·refine ay rfl hc_15 (av (ak (aL (ai (aa (vI s_10.2) (aa (vI s_10.2) (ah ?_)))))))
    obtain ⟨o_24,hj_25,hc_11⟩:=bind_some hc_11
    obtain ⟨nq_50,hj_25⟩:=dw hj_25
    refine eZ (λ(s_21:(List Run)×Int)=>[(0,(dV (aD 0) 2 s_21.1)),(1,(vI a_2)),(2,(vI b_3)),(3,(.fn 136 [])),(8,(vI s_10.2))]) (λ(s_21:(List Run)×Int)=>[((aD 0),gB 2 Run.enc s_21.1)]) (λ(k_16:Nat)=>(λ(s_21:(List Run)×Int)=>[(0,(dV (aD 0) 2 s_21.1)),(1,(vI a_2)),(2,(vI b_3)),(3,(.fn 136 [])),(8,(vI s_10.2)),(9,(vI s_21.2))])) (λs=>cZ a_2 s) o_24 nq_50 (s_10.1,s_10.2) hj_25 rfl (aH rfl) ?_ ?_
    ·rintro ⟨k_16,s_21⟩ hL_23
     dsimp only at hL_23
     cases k_16 with
     | zero=>cases hL_23
     | succ k_16 =>
      obtain ⟨c_,hc_22,hL_23⟩:=bind_some hL_23
      unfold cZ at hc_22
      refine ak (ak ?_)
      obtain ⟨v_26,h_27,hc_22⟩:=bind_some hc_22
      refine aP [(0,(dV (aD 0) 2 s_21.1)),(1,(vI a_2)),(2,(vI b_3)),(3,(.fn 136 [])),(8,(vI s_10.2)),(9,(vI s_21.2)),(34,(vB v_26))] [((aD 0),gB 2 Run.enc s_21.1)] ?_ ?_
      ·refine bC (aa (vI s_21.2) (aa (vI a_2) (aa (vB (decide (s_21.2>a_2))) ?_)))
       rcases aj h_27 with⟨hc_28,h_27⟩|⟨hc_28,h_27⟩
       ·refine aB rfl hc_28 wz (aJ (.fn 136 []) wa rfl (aJ (dV (aD 0) 2 s_21.1) wa rfl (aJ (vI s_21.2) wa rfl ?_)))
        obtain ⟨_,hi_29,h_27⟩:=bind_some h_27
        refine iP mO rfl rfl (iV hi_29) (fD hi_29) wa ?_
        obtain ⟨e_30,hy_31,h_27⟩:=bind_some h_27
        refine jr 8 0 (.inr (by kernel_rfl)) (λ_ _ ag=>trivial) oU yB rfl rfl hy_31 (.d (.agg (Run.enc e_30))) rfl wa (aJ (dV (aD 0) 2 s_21.1) wa rfl (aJ (vI s_21.2) wa rfl (aJ (vI (w64 (s_21.2-1))) wa rfl ?_)))
        obtain ⟨_,hi_32,h_27⟩:=bind_some h_27
        refine iP mO rfl rfl (iV hi_32) (fD hi_32) wa ?_
        obtain ⟨e_33,hy_34,h_27⟩:=bind_some h_27
        refine jr 13 0 (.inr (by kernel_rfl)) (λ_ _ ag=>⟨.inl ⟨rfl,rfl⟩,trivial⟩) oU yB rfl rfl hy_34 (.d (.agg (Run.enc e_33))) rfl wa ?_
        obtain ⟨r_35,hr_36,h_27⟩:=bind_some h_27
        refine aF (Cq hr_36) rfl hb136 rfl rfl rfl rfl wa (aJ (vB (decide (r_35<0))) wa rfl (aa (vB (decide (r_35<0))) (ah ?_)))
        obtain rfl:=ae h_27
        exact cu
       ·refine aB rfl hc_28 wz (af (af (af (af (af (af (af (af (af (af (af (af (aa (vB false) (ah ?_))))))))))))))
        obtain rfl:=ae h_27
        exact cu
      ·rintro ⟨⟩ _ sl_ H_ hp_ hq_
       refine aN _ hp_ hq_ ?_
       rcases aj hc_22 with⟨hc_37,hc_22⟩|⟨hc_37,hc_22⟩
       ·refine ay rfl hc_37 (av (ak (aL (bC (aa (dV (aD 0) 2 s_21.1) (aa (vI s_21.2) (aa (dV (aD 0) 2 s_21.1) (aa (vI s_21.2) (aa (vI (w64 (s_21.2-1))) (aa (dV (aD 0) 2 s_21.1) (aa (vI s_21.2) (aa (vI (w64 (s_21.2-1))) ?_))))))))))))
        obtain ⟨_,hi_38,hc_22⟩:=bind_some hc_22
        refine iP mO rfl rfl (iV hi_38) (fD hi_38) wz ?_
        obtain ⟨e_39,hy_40,hc_22⟩:=bind_some hc_22
        refine jr 9 0 (.inr (by kernel_rfl)) (λ_ _ ag=>trivial) oU yB rfl rfl hy_40 (.d (.agg (Run.enc e_39))) rfl wz (aa (dV (aD 0) 2 s_21.1) (aa (vI s_21.2) ?_))
        obtain ⟨_,hi_41,hc_22⟩:=bind_some hc_22
        refine iP mO rfl rfl (iV hi_41) (fD hi_41) wz ?_
        obtain ⟨e_42,hy_43,hc_22⟩:=bind_some hc_22
        refine jr 13 0 (.inr (by kernel_rfl)) (λ_ _ ag=>⟨.inl ⟨rfl,rfl⟩,trivial⟩) oU yB rfl rfl hy_43 (.d (.agg (Run.enc e_42))) rfl wz ?_
        obtain ⟨_,hi_44,hc_22⟩:=bind_some hc_22
        refine iP mO rfl rfl (iV hi_44) (fD hi_44) wz ?_
        obtain ⟨e_45,hy_46,hc_22⟩:=bind_some hc_22
        refine tX 15 (.inr (by kernel_rfl)) (λ_ _ ag=>⟨.inr (.inr (by kernel_rfl)),⟨.inr (.inr (by kernel_rfl)),trivial⟩⟩) 0 oU rfl rfl hy_46 e_39 rfl wz (dH (v':=(dV (aD 0) 2 (s_21.1.set (0+(s_21.2).toNat) e_39))) 0 rfl (bL (by simp)) (dH (v':=(dV (aD 0) 2 (s_21.1.set (0+(s_21.2).toNat) e_39))) 37 rfl (bL (by simp)) (dH (v':=(dV (aD 0) 2 (s_21.1.set (0+(s_21.2).toNat) e_39))) 39 rfl (bL (by simp)) (dH (v':=(dV (aD 0) 2 (s_21.1.set (0+(s_21.2).toNat) e_39))) 42 rfl (bL (by simp)) (dH (v':=(dV (aD 0) 2 (s_21.1.set (0+(s_21.2).toNat) e_39))) 47 rfl (bL (by simp)) ?_)))))
        obtain ⟨_,hi_47,hc_22⟩:=bind_some hc_22
        refine iP mO rfl rfl (iV hi_47) (fD hi_47) wz ?_
        obtain ⟨e_48,hy_49,hc_22⟩:=bind_some hc_22
        refine tX 17 (.inr (by kernel_rfl)) (λ_ _ ag=>⟨.inr (.inr (by kernel_rfl)),⟨.inr (.inr (by kernel_rfl)),⟨.inr (.inr (by kernel_rfl)),trivial⟩⟩⟩) 0 oU rfl rfl hy_49 e_42 rfl wz (dH (v':=(dV (aD 0) 2 ((s_21.1.set (0+(s_21.2).toNat) e_39).set (0+((w64 (s_21.2-1))).toNat) e_42))) 0 rfl (bL (by simp)) (dH (v':=(dV (aD 0) 2 ((s_21.1.set (0+(s_21.2).toNat) e_39).set (0+((w64 (s_21.2-1))).toNat) e_42))) 37 rfl (bL (by simp)) (dH (v':=(dV (aD 0) 2 ((s_21.1.set (0+(s_21.2).toNat) e_39).set (0+((w64 (s_21.2-1))).toNat) e_42))) 39 rfl (bL (by simp)) (dH (v':=(dV (aD 0) 2 ((s_21.1.set (0+(s_21.2).toNat) e_39).set (0+((w64 (s_21.2-1))).toNat) e_42))) 42 rfl (bL (by simp)) (dH (v':=(dV (aD 0) 2 ((s_21.1.set (0+(s_21.2).toNat) e_39).set (0+((w64 (s_21.2-1))).toNat) e_42))) 47 rfl (bL (by simp)) (ah (au (aa (vI s_21.2) (aa (vI (w64 (s_21.2-1))) (aa (vI (w64 (s_21.2-1))) (ah ?_)))))))))))
        obtain rfl:=ae hc_22
        exact aU (k_16,(((s_21.1.set (0+(s_21.2).toNat) e_39).set (0+((w64 (s_21.2-1))).toNat) e_42),(w64 (s_21.2-1)))) hL_23 (ls_ _) rfl (aH rfl)
       ·refine ax rfl hc_37 (aW ?_)
        obtain rfl:=ae hc_22
        obtain rfl:=ae hL_23
        exact aS ((s_21.1,s_21.2)) rfl rfl (aH rfl)
    ·rintro s_21 ho_ sl_ H_ hp_ hq_
     subst ho_
     refine aN _ hp_ hq_ (au (aa (vI s_10.2) (aa (vI (w64 (s_10.2+1))) (aa (vI (w64 (s_10.2+1))) (ah ?_)))))
     obtain rfl:=ae hc_11
     exact aU (k_5,(s_21.1,(w64 (s_10.2+1)))) hL_12 (ls_ _) rfl (aH rfl)
   ·refine ax rfl hc_15 (aW ?_)
    obtain rfl:=ae hc_11
    obtain rfl:=ae hL_12
    exact aS ((s_10.1,s_10.2)) rfl rfl (aH rfl)
 ·rintro s_10 ho_ sl_ H_ hp_ hq_
  subst ho_
  show qZ _ _ _ _ _ _ _ _
  obtain rfl:=ae hF
  exact uy (H0:=([((aD 0),gB 2 Run.enc s_10.1)]:Hp)) (sl':=envS []) hq_ (xh (bs:=([]:List Box)) (os:=([]:List Box)) (xs:=data_1) (o:=gB 2 Run.enc s_10.1) (.inl rfl) [] trivial rfl rfl rfl rfl rfl (by kernel_rfl) jX rfl)
theorem mX {data_1:(List Run)} {a_2:Int} {b_3:Int} {limit_4:Int} {r:(List Run)} (hF:dA data_1 a_2 b_3 limit_4=some r) :
  FnM Tryz.prog 166 [(dV (aD 0) 2 data_1),(vI a_2),(vI b_3),(vI limit_4),(.fn 136 [])] (([]:List Box)++gI 2 Run.enc data_1) (.tup []) (([]:List Box).map some++gT data_1 (gB 2 Run.enc r)):=by
 refine FnM.of_wHv ⟨Tryz.prog,148,[],[]⟩ rfl Tryz.func166 rfl rfl (lb_ rfl) (by kernel_rfl) ?_
 unfold dA at hF
 refine ai (aa (vB true) (ah (ai (aa (vB true) (ah ?_)))))
 obtain ⟨o_14,hj_15,hF⟩:=bind_some hF
 obtain ⟨nq_21,hj_15⟩:=dw hj_15
 refine eZ (λ(s_11:Unit)=>[]) (λ(s_11:Unit)=>[((aD 0),gB 2 Run.enc data_1)]) (λ(k_6:Nat)=>(λ(s_11:Unit)=>[(0,(dV (aD 0) 2 data_1)),(1,(vI a_2)),(2,(vI b_3)),(3,(vI limit_4)),(4,(.fn 136 [])),(10,(vB true)),(11,(vB true))])) (λs=>cz b_3 a_2 data_1 limit_4 s) o_14 nq_21 () hj_15 rfl (aH rfl) ?_ ?_
 ·rintro ⟨k_6,s_11⟩ hL_13
  dsimp only at hL_13
  cases k_6 with
  | zero=>cases hL_13
  | succ k_6 =>
   obtain ⟨c_,hc_12,hL_13⟩:=bind_some hL_13
   unfold cz at hc_12
   refine aL (ai (aa (vI b_3) (aa (vI a_2) (aa (vI (w64 (b_3-a_2))) (aa (vI (w64 (b_3-a_2))) (ah (ak (ai (aa (vI (w64 (b_3-a_2))) (aa (vB (decide ((w64 (b_3-a_2))<=12))) (ah ?_)))))))))))
   rcases aj hc_12 with⟨hc_16,hc_12⟩|⟨hc_16,hc_12⟩
   ·refine ay rfl hc_16 (ai (aa (dV (aD 0) 2 data_1) (aa (vI a_2) (aa (vI b_3) (aa (.fn 136 []) ?_)))))
    obtain ⟨r_17,hr_18,hc_12⟩:=bind_some hc_12
    obtain ⟨_,hs_19,hc_12⟩:=bind_some hc_12
    replace hs_19:=kQ hs_19
    refine mh 0 [] 0 0 il ft (kU hr_18) rfl hb183 rfl rfl rfl (by kernel_rfl) rfl (.inr (.inl rfl)) rfl (by kernel_rfl) (by kernel_rfl) (by kernel_rfl) (by kernel_rfl) rfl (by decide) (by kernel_rfl) jX (vZ hs_19) wz ([((aD 0),gB 2 Run.enc r_17)]:Hp) (by kernel_rfl) (dH (v':=(dV (aD 0) 2 r_17)) 0 rfl (bL hs_19.symm) (dH (v':=(dV (aD 0) 2 r_17)) 26 rfl (bL hs_19.symm) (ah ?_)))
    obtain rfl:=ae hc_12
    obtain rfl:=ae hL_13
    obtain rfl:=ae hF
    exact aA (xh (bs:=([]:List Box)) (os:=([]:List Box)) (xs:=data_1) (o:=gB 2 Run.enc r_17) (.inr rfl) [] trivial rfl rfl rfl rfl rfl (by kernel_rfl) jX rfl)
   ·refine ax rfl hc_16 (av (ak (ai (aa (vI limit_4) (aa (vB (limit_4==0)) (ah ?_))))))
    rcases aj hc_12 with⟨hc_20,hc_12⟩|⟨hc_20,hc_12⟩
    ·refine ay rfl hc_20 (ai (aa (dV (aD 0) 2 data_1) (aa (vI a_2) (aa (vI b_3) (aa (.fn 136 []) ?_)))))
     cases hc_12
    ·refine ax rfl hc_20 (av (ak (ai (aa (vB true) (aa (vB false) (ah (ax rfl rfl (av (ai (aa (dV (aD 0) 2 data_1) (aa (vI a_2) (aa (vI b_3) (aa (.fn 136 []) ?_)))))))))))))
     cases hc_12
 ·rintro s_11 ho_ sl_ H_ hp_ hq_
  subst ho_
  show qZ _ _ _ _ _ _ _ _
  obtain rfl:=ae hF
  exact uy (H0:=([((aD 0),gB 2 Run.enc data_1)]:Hp)) (sl':=envS []) hq_ (xh (bs:=([]:List Box)) (os:=([]:List Box)) (xs:=data_1) (o:=gB 2 Run.enc data_1) (.inl rfl) [] trivial rfl rfl rfl rfl rfl (by kernel_rfl) jX rfl)
theorem ll {x_1:(List Run)} {r:(List Run)} (hF:bQ x_1=some r) :
  FnM Tryz.prog 135 [(dV (aD 0) 2 x_1),(.fn 136 [])] (([]:List Box)++gI 2 Run.enc x_1) (.tup []) (([]:List Box).map some++gT x_1 (gB 2 Run.enc r)):=by
 refine FnM.of_wHv ⟨Tryz.prog,14,[],[]⟩ rfl Tryz.func135 rfl rfl (lb_ rfl) (by kernel_rfl) ?_
 unfold bQ at hF
 refine ai (aa (dV (aD 0) 2 x_1) (BN zG rfl wz (aa (vI (x_1.length:Int)) (ah (au (aa (dV (aD 0) 2 x_1) (aa (vI (x_1.length:Int)) (aa (vI (x_1.length:Int)) (yC un3 Ov rfl wz ?_)))))))))
 obtain ⟨r_3,hr_4,hF⟩:=bind_some hF
 refine aF (nG hr_4) rfl hb45 rfl rfl rfl rfl wz (aa (.fn 136 []) ?_)
 obtain ⟨r_5,hr_6,hF⟩:=bind_some hF
 obtain ⟨_,hs_7,hF⟩:=bind_some hF
 replace hs_7:=kQ hs_7
 refine mh 0 [] 0 0 il ft (mX hr_6) rfl hb166 rfl rfl rfl (by kernel_rfl) rfl (.inr (.inl rfl)) rfl (by kernel_rfl) (by kernel_rfl) (by kernel_rfl) (by kernel_rfl) rfl (by decide) (by kernel_rfl) jX (vZ hs_7) wz ([((aD 0),gB 2 Run.enc r_5)]:Hp) (by kernel_rfl) (dH (v':=(dV (aD 0) 2 r_5)) 0 rfl (bL hs_7.symm) (dH (v':=(dV (aD 0) 2 r_5)) 5 rfl (bL hs_7.symm) (dH (v':=(dV (aD 0) 2 r_5)) 7 rfl (bL hs_7.symm) (ah ?_))))
 show qZ _ _ _ _ _ _ _ _
 obtain rfl:=ae hF
 exact xh (bs:=([]:List Box)) (os:=([]:List Box)) (xs:=x_1) (o:=gB 2 Run.enc r_5) (.inl rfl) [] trivial rfl rfl rfl rfl rfl (by kernel_rfl) jX rfl
theorem yJ {l_1:(List Rect)} {y_2:Int} {r:(List Run)} (hF:oM l_1 y_2=some r) :
  FnM Tryz.prog 103 [(vL Rect.enc l_1),(vI y_2)] [] (vL Run.enc r) []:=by
 refine FnM.of_wH ⟨Tryz.prog,84,[],[]⟩ rfl Tryz.func103 rfl rfl (lb_ rfl) (by kernel_rfl) ?_
 unfold oM at hF
 refine ai (aa .nil (ah (ai (aa .nil (ah (ak (ai (aa (vL Rect.enc l_1) (bG xL rfl wz (aa (vI 0) (ah (l6 (λn_9 => ?_)))))))))))))
 obtain ⟨o_14,hj_15,hF⟩:=bind_some hF
 obtain ⟨hn_7,hj_15⟩:=aX hj_15
 refine ic (σ:=(List Run)) (N:=Nm) (λp=>(λ(s_8:List Run) (n_11:Nm)=>([(5,(gV n_11 2 s_8))]:SL_)) p.1 p.2) (λp=>(λ(s_8:List Run) (n_11:Nm)=>([(n_11,gB 2 Run.enc s_8)]:Hp)) p.1 p.2) (λ(k_3:Nat)=>(λp=>(λ(s_8:List Run) (n_11:Nm)=>([(1,(vI y_2)),(5,(gV n_11 2 s_8)),(12,(vL Rect.enc l_1)),(13,(vI (l_1.length:Int))),(14,(vI (k_3:Int)))]:SL_)) p.1 p.2)) (λk x s=>pI y_2 k x s) o_14 l_1 (([]:List Run),n_9) hj_15 rfl (aH rfl) ?_ ?_
 ·rintro ⟨k_3,l_4,s_8,n_11⟩ ⟨hL_13,hD_6⟩
  dsimp only at hL_13 hD_6
  cases l_4 with
  | nil =>
   obtain rfl:=ae hL_13
   refine ai (aa (vB (decide ((k_3:Int)<(l_1.length:Int)))) (ah ?_))
   refine ak (ax rfl (drop_nil hD_6) (aW ?_))
   exact aS (s_8,n_11) rfl rfl (aH rfl)
  | cons x_5 l_4 =>
   obtain ⟨c_,hc_12,hL_13⟩:=bind_some hL_13
   refine ai (aa (vB (decide ((k_3:Int)<(l_1.length:Int)))) (ah ?_))
   refine ak (ay rfl (aZ hD_6) (av ?_))
   unfold pI at hc_12
   refine ak (aL (ai (dY Au rfl rfl (bz hD_6) rfl wz (bI q8 Du rfl (.d (.agg (Rect.enc x_5))) rfl wz (dC 0 (.inl rfl) z53 rfl wz (λn_16=>fB 0 il ft 1 q8 rfl rfl (Rect.v x_5) rfl wz (ah (ak ?_))))))))
   obtain ⟨v_17,h_18,hc_12⟩:=bind_some hc_12
   refine aP [(1,(vI y_2)),(5,(gV n_11 2 s_8)),(7,(.ref n_16 0 0)),(12,(vL Rect.enc l_1)),(13,(vI (l_1.length:Int))),(14,(vI (k_3:Int))),(30,(vB v_17))] [(n_11,gB 2 Run.enc s_8),(n_16,some (.cells 4 (Rect.v x_5)))] ?_ ?_
   ·refine au (aG xA rfl 1 rfl wz (aC 0 1 il ft sz3 ag3 rfl rfl (vI x_5.Y) rfl wz (aa (vI y_2) (aa (vB (decide (x_5.Y<=y_2))) ?_))))
    rcases aj h_18 with⟨hc_19,h_18⟩|⟨hc_19,h_18⟩
    ·refine aB rfl hc_19 wz (aJ (vI y_2) wa rfl (aG xA rfl 1 rfl wa (aC 0 1 il ft sz3 ag3 rfl rfl (vI x_5.Y) rfl wa (aG BA rfl 3 rfl wa (aC 0 1 il ft sz3 ag3 rfl rfl (vI x_5.H) rfl wa (aJ (vI (w64 (x_5.Y+x_5.H))) wa rfl (aJ (vB (decide (y_2<(w64 (x_5.Y+x_5.H))))) wa rfl (aa (vB (decide (y_2<(w64 (x_5.Y+x_5.H))))) (ah ?_)))))))))
     obtain rfl:=ae h_18
     exact cu
    ·refine aB rfl hc_19 wz (af (af (af (af (af (af (af (aa (vB false) (ah ?_)))))))))
     obtain rfl:=ae h_18
     exact cu
   ·rintro ⟨⟩ _ sl_ H_ hp_ hq_
    refine aN _ hp_ hq_ ?_
    obtain ⟨v_20,h_21,hc_12⟩:=bind_some hc_12
    refine jW (β:=Nm) (λ(n_22:Nm)=>([(1,(vI y_2)),(5,(gV n_22 2 v_20)),(12,(vL Rect.enc l_1)),(13,(vI (l_1.length:Int))),(14,(vI (k_3:Int)))]:SL_)) (λ(n_22:Nm)=>([(n_22,gB 2 Run.enc v_20),(n_16,some (.cells 4 (Rect.v x_5)))]:Hp)) (λ_=>True) ?_ ?_
    ·rcases aj h_21 with⟨hc_23,h_21⟩|⟨hc_23,h_21⟩
     ·refine ay rfl hc_23 (au (aa (gV n_11 2 s_8) (aG zR rfl 0 rfl wz (aC 0 1 il ft sz3 ag3 rfl rfl (vI x_5.X) rfl wz (aG zR rfl 0 rfl wz (aC 0 1 il ft sz3 ag3 rfl rfl (vI x_5.X) rfl wz (aG Ej rfl 2 rfl wz (aC 0 1 il ft sz3 ag3 rfl rfl (vI x_5.W) rfl wz (aa (vI (w64 (x_5.X+x_5.W))) (aJ (.d (.agg (Run.enc (⟨x_5.X,(w64 (x_5.X+x_5.W))⟩:Run)))) wz (by kernel_rfl) (eT (([(⟨x_5.X,(w64 (x_5.X+x_5.W))⟩:Run)]:List Run).map Run.enc) mO Nn rfl rfl rfl rfl rfl wz ?_)))))))))))
      obtain ⟨a_24,hz_25,h_21⟩:=bind_some h_21
      refine jB 0 il ft (i:=0) CX CX oU z154 rfl (by decide) M5 (by decide) (λ_=>rfl) rfl rfl rfl hz_25 wz (λn_26=>aa (gV n_26 2 a_24) (ah ?_))
      obtain rfl:=ae h_21
      exact aS n_26 trivial rfl (aH rfl)
     ·refine ax rfl hc_23 (av ?_)
      obtain rfl:=ae h_21
      exact aS n_11 trivial rfl (aH rfl)
    ·rintro n_22 _ sl_ H_ hp_ hq_
     refine aN _ hp_ hq_ (au (dZ (bn hD_6 hn_7) wz rfl (aa (vI ((k_3+1:Nat):Int)) (ah ?_))))
     obtain rfl:=ae hc_12
     exact aU (k_3+1,l_4,v_20,n_22) ⟨hL_13,aR hD_6⟩ (ls_ _) rfl (aH rfl)
 ·rintro ⟨s_8,n_11⟩ ho_ sl_ H_ hp_ hq_
  subst ho_
  refine aN _ hp_ hq_ (ai (aa (gV n_11 2 s_8) ?_))
  obtain ⟨r_27,hr_28,hF⟩:=bind_some hF
  obtain ⟨_,hs_29,hF⟩:=bind_some hF
  replace hs_29:=kQ hs_29
  refine mh 0 [] 0 0 il ft (ll hr_28) rfl hb135 rfl rfl rfl (by kernel_rfl) rfl (.inl rfl) rfl (by kernel_rfl) (by kernel_rfl) (by kernel_rfl) (by kernel_rfl) rfl (by decide) (by kernel_rfl) jX (vZ hs_29) wz ([(n_11,gB 2 Run.enc r_27)]:Hp) (by kernel_rfl) (dH (v':=(gV n_11 2 r_27)) 43 rfl (kJ hs_29.symm) (dH (v':=(gV n_11 2 r_27)) 5 rfl (kJ hs_29.symm) (ah (ai (aa .nil (ah (ak (ai (aa (gV n_11 2 r_27) (BI zG rfl wz (aa (vI 0) (ah (gK 0 rfl (dE 5 0 rfl rfl (dE 43 0 rfl rfl (dE 45 0 rfl rfl (l6 (λn_36 => ?_))))))))))))))))))
  obtain ⟨o_41,hj_42,hF⟩:=bind_some hF
  obtain ⟨hn_34,hj_42⟩:=aX hj_42
  refine ic (σ:=(List Run)) (N:=Nm) (λp=>(λ(s_35:List Run) (n_38:Nm)=>([(8,(gV n_38 2 s_35))]:SL_)) p.1 p.2) (λp=>(λ(s_35:List Run) (n_38:Nm)=>([(n_11,gF 2 Run.enc r_27),(n_38,gB 2 Run.enc s_35)]:Hp)) p.1 p.2) (λ(k_30:Nat)=>(λp=>(λ(s_35:List Run) (n_38:Nm)=>([(8,(gV n_38 2 s_35)),(45,(vL Run.enc r_27)),(46,(vI (r_27.length:Int))),(47,(vI (k_30:Int)))]:SL_)) p.1 p.2)) (λk x s=>o9 k x s) o_41 r_27 (([]:List Run),n_36) hj_42 rfl (aH rfl) ?_ ?_
  ·rintro ⟨k_30,l_31,s_35,n_38⟩ ⟨hL_40,hD_33⟩
   dsimp only at hL_40 hD_33
   cases l_31 with
   | nil =>
    obtain rfl:=ae hL_40
    refine ai (aa (vB (decide ((k_30:Int)<(r_27.length:Int)))) (ah ?_))
    refine ak (ax rfl (drop_nil hD_33) (aW ?_))
    exact aS (s_35,n_38) rfl rfl (aH rfl)
   | cons x_32 l_31 =>
    obtain ⟨c_,hc_39,hL_40⟩:=bind_some hL_40
    refine ai (aa (vB (decide ((k_30:Int)<(r_27.length:Int)))) (ah ?_))
    refine ak (ay rfl (aZ hD_33) (av ?_))
    unfold o9 at hc_39
    refine ak (aL (ai (dY mO rfl rfl (bz hD_33) rfl wz (bI oU yB rfl (.d (.agg (Run.enc x_32))) rfl wz (dC 0 (.inl rfl) z154 rfl wz (λn_43=>fB 0 il ft 2 oU rfl rfl [(vI x_32.f_from),(vI x_32.f_to)] rfl wz (ah (ai (aa (gV n_38 2 s_35) (BI zG rfl wz (aa (vI (w64 ((s_35.length:Int)-1))) (aa (vI (w64 ((s_35.length:Int)-1))) (ah (ak ?_))))))))))))))
    obtain ⟨v_44,h_45,hc_39⟩:=bind_some hc_39
    refine aP [(8,(gV n_38 2 s_35)),(10,(.ref n_43 0 0)),(11,(vI (w64 ((s_35.length:Int)-1)))),(45,(vL Run.enc r_27)),(46,(vI (r_27.length:Int))),(47,(vI (k_30:Int))),(65,(vB v_44))] [(n_11,gF 2 Run.enc r_27),(n_38,gB 2 Run.enc s_35),(n_43,some (.cells 2 [(vI x_32.f_from),(vI x_32.f_to)]))] ?_ ?_
    ·refine bC (aa (vI (w64 ((s_35.length:Int)-1))) (aa (vB (decide ((w64 ((s_35.length:Int)-1))>=0))) ?_))
     rcases aj h_45 with⟨hc_46,h_45⟩|⟨hc_46,h_45⟩
     ·refine aB rfl hc_46 wz (aG mg rfl 0 rfl wa (aC 4 2 (.inr (by kernel_rfl)) (λ_ _ ag=>trivial) sz3 ag3 rfl rfl (vI x_32.f_from) rfl wa (aJ (gV n_38 2 s_35) wa rfl (aJ (vI (w64 ((s_35.length:Int)-1))) wa rfl ?_))))
      obtain ⟨_,hi_47,h_45⟩:=bind_some h_45
      refine yl mO rfl rfl (iV hi_47) (fD hi_47) wa (aG rX rfl 1 rfl wa ?_)
      obtain ⟨e_48,hy_49,h_45⟩:=bind_some h_45
      refine jr 9 1 (.inr (by kernel_rfl)) (λ_ _ ag=>⟨.inl ⟨rfl,rfl⟩,trivial⟩) sz3 ag3 rfl rfl hy_49 (vI e_48.f_to) rfl wa (aJ (vB (decide (x_32.f_from<=e_48.f_to))) wa rfl (aa (vB (decide (x_32.f_from<=e_48.f_to))) (ah ?_)))
      obtain rfl:=ae h_45
      exact cu
     ·refine aB rfl hc_46 wz (af (af (af (af (af (af (af (af (aa (vB false) (ah ?_))))))))))
      obtain rfl:=ae h_45
      exact cu
    ·rintro ⟨⟩ _ sl_ H_ hp_ hq_
     refine aN _ hp_ hq_ ?_
     obtain ⟨v_50,h_51,hc_39⟩:=bind_some hc_39
     refine jW (β:=Nm) (λ(n_52:Nm)=>([(8,(gV n_52 2 v_50)),(45,(vL Run.enc r_27)),(46,(vI (r_27.length:Int))),(47,(vI (k_30:Int)))]:SL_)) (λ(n_52:Nm)=>([(n_11,gF 2 Run.enc r_27),(n_52,gB 2 Run.enc v_50),(n_43,some (.cells 2 [(vI x_32.f_from),(vI x_32.f_to)]))]:Hp)) (λ_=>True) ?_ ?_
     ·rcases aj h_51 with⟨hc_53,h_51⟩|⟨hc_53,h_51⟩
      ·refine ay rfl hc_53 (bC (aa (gV n_38 2 s_35) (aa (vI (w64 ((s_35.length:Int)-1))) (aa (gV n_38 2 s_35) (aa (vI (w64 ((s_35.length:Int)-1))) ?_)))))
       obtain ⟨_,hi_54,h_51⟩:=bind_some h_51
       refine yl mO rfl rfl (iV hi_54) (fD hi_54) wz (aG rX rfl 1 rfl wz ?_)
       obtain ⟨e_55,hy_56,h_51⟩:=bind_some h_51
       refine jr 6 1 (.inr (by kernel_rfl)) (λ_ _ ag=>trivial) sz3 ag3 rfl rfl hy_56 (vI e_55.f_to) rfl wz (aG rX rfl 1 rfl wz (aC 8 2 (.inr (by kernel_rfl)) (λ_ _ ag=>⟨.inl ⟨rfl,rfl⟩,trivial⟩) sz3 ag3 rfl rfl (vI x_32.f_to) rfl wz (sM (vI (vH e_55.f_to x_32.f_to)) rfl (.inr rfl) wz ?_)))
       obtain ⟨_,hi_57,h_51⟩:=bind_some h_51
       refine yl mO rfl rfl (iV hi_57) (fD hi_57) wz (aG rX rfl 1 rfl wz ?_)
       obtain ⟨e_58,hy_59,h_51⟩:=bind_some h_51
       refine tX 12 (.inr (by kernel_rfl)) (λ_ _ ag=>⟨.inr (.inr (by kernel_rfl)),⟨.inr (.inr (by kernel_rfl)),trivial⟩⟩) 1 sz3 rfl rfl hy_59 (⟨e_58.f_from,(vH e_55.f_to x_32.f_to)⟩:Run) rfl wz (dH (v':=(gV n_38 2 (s_35.set (0+((w64 ((s_35.length:Int)-1))).toNat) (⟨e_58.f_from,(vH e_55.f_to x_32.f_to)⟩:Run)))) 8 rfl (kJ (by simp)) (dH (v':=(gV n_38 2 (s_35.set (0+((w64 ((s_35.length:Int)-1))).toNat) (⟨e_58.f_from,(vH e_55.f_to x_32.f_to)⟩:Run)))) 66 rfl (kJ (by simp)) (dH (v':=(gV n_38 2 (s_35.set (0+((w64 ((s_35.length:Int)-1))).toNat) (⟨e_58.f_from,(vH e_55.f_to x_32.f_to)⟩:Run)))) 68 rfl (kJ (by simp)) (ah ?_))))
       obtain rfl:=ae h_51
       exact aS n_38 trivial rfl (aH rfl)
      ·refine ax rfl hc_53 (au (aa (gV n_38 2 s_35) (aC 0 2 il ft oU yB rfl rfl (.d (.agg (Run.enc x_32))) rfl wz (eT (([x_32]:List Run).map Run.enc) mO Nn rfl rfl rfl rfl rfl wz ?_))))
       obtain ⟨a_60,hz_61,h_51⟩:=bind_some h_51
       refine jB 0 il ft (i:=1) CX CX oU z154 rfl (by decide) M5 (by decide) (λ_=>rfl) rfl rfl rfl hz_61 wz (λn_62=>aa (gV n_62 2 a_60) (ah ?_))
       obtain rfl:=ae h_51
       exact aS n_62 trivial rfl (aH rfl)
     ·rintro n_52 _ sl_ H_ hp_ hq_
      refine aN _ hp_ hq_ (au (dZ (bn hD_33 hn_34) wz rfl (aa (vI ((k_30+1:Nat):Int)) (ah ?_))))
      obtain rfl:=ae hc_39
      exact aU (k_30+1,l_31,v_50,n_52) ⟨hL_40,aR hD_33⟩ (ls_ _) rfl (aH rfl)
  ·rintro ⟨s_35,n_38⟩ ho_ sl_ H_ hp_ hq_
   subst ho_
   refine aN _ hp_ hq_ (ai (aa (gV n_38 2 s_35) (aa (gV n_38 2 s_35) (ah (gK 1 rfl (dE 4 1 rfl rfl (dE 8 1 rfl rfl (dE 83 1 rfl rfl ?_))))))))
   obtain rfl:=ae hF
   exact aA (aK [(vL Run.enc s_35)] ⟨rfl,trivial⟩)
theorem Ei {l_1:(List Run)} {m_2:(List Run)} {r:(List Run)} (hF:qF l_1 m_2=some r) :
  FnM Tryz.prog 102 [(vL Run.enc l_1),(vL Run.enc m_2)] [] (vL Run.enc r) []:=by
 refine FnM.of_wH ⟨Tryz.prog,88,[],[]⟩ rfl Tryz.func102 rfl rfl (lb_ rfl) (by kernel_rfl) ?_
 unfold qF at hF
 refine ai (aa .nil (ah (ai (aa .nil (ah (ai (aa (vI 0) (ah (ak (ai (aa (vL Run.enc l_1) (bG zG rfl wz (aa (vI 0) (ah (l6 (λn_9 => ?_))))))))))))))))
 obtain ⟨o_14,hj_15,hF⟩:=bind_some hF
 obtain ⟨hn_7,hj_15⟩:=aX hj_15
 refine ic (σ:=(List Run)×Int) (N:=Nm) (λp=>(λ(s_8:(List Run)×Int) (n_11:Nm)=>([(5,(gV n_11 2 s_8.1))]:SL_)) p.1 p.2) (λp=>(λ(s_8:(List Run)×Int) (n_11:Nm)=>([(n_11,gB 2 Run.enc s_8.1)]:Hp)) p.1 p.2) (λ(k_3:Nat)=>(λp=>(λ(s_8:(List Run)×Int) (n_11:Nm)=>([(1,(vL Run.enc m_2)),(5,(gV n_11 2 s_8.1)),(6,(vI s_8.2)),(10,(vL Run.enc l_1)),(11,(vI (l_1.length:Int))),(12,(vI (k_3:Int)))]:SL_)) p.1 p.2)) (λk x s=>mr m_2 k x s) o_14 l_1 ((([]:List Run),0),n_9) hj_15 rfl (aH rfl) ?_ ?_
 ·rintro ⟨k_3,l_4,s_8,n_11⟩ ⟨hL_13,hD_6⟩
  dsimp only at hL_13 hD_6
  cases l_4 with
  | nil =>
   obtain rfl:=ae hL_13
   refine ai (aa (vB (decide ((k_3:Int)<(l_1.length:Int)))) (ah ?_))
   refine ak (ax rfl (drop_nil hD_6) (aW ?_))
   exact aS (s_8,n_11) rfl rfl (aH rfl)
  | cons x_5 l_4 =>
   obtain ⟨c_,hc_12,hL_13⟩:=bind_some hL_13
   refine ai (aa (vB (decide ((k_3:Int)<(l_1.length:Int)))) (ah ?_))
   refine ak (ay rfl (aZ hD_6) (av ?_))
   unfold mr at hc_12
   refine ak (aL (ai (dY mO rfl rfl (bz hD_6) rfl wz (bI oU yB rfl (.d (.agg (Run.enc x_5))) rfl wz (dC 0 (.inl rfl) z154 rfl wz (λn_16=>fB 0 il ft 1 oU rfl rfl [(vI x_5.f_from),(vI x_5.f_to)] rfl wz (ah (ak ?_))))))))
   obtain ⟨o_25,hj_26,hc_12⟩:=bind_some hc_12
   obtain ⟨nq_72,hj_26⟩:=dw hj_26
   refine eZ (λ(s_22:Int)=>[(1,(vL Run.enc m_2)),(5,(gV n_11 2 s_8.1)),(6,(vI s_22)),(8,(.ref n_16 0 0)),(10,(vL Run.enc l_1)),(11,(vI (l_1.length:Int))),(12,(vI (k_3:Int)))]) (λ(s_22:Int)=>[(n_11,gB 2 Run.enc s_8.1),(n_16,some (.cells 2 [(vI x_5.f_from),(vI x_5.f_to)]))]) (λ(k_17:Nat)=>(λ(s_22:Int)=>[(1,(vL Run.enc m_2)),(5,(gV n_11 2 s_8.1)),(6,(vI s_22)),(8,(.ref n_16 0 0)),(10,(vL Run.enc l_1)),(11,(vI (l_1.length:Int))),(12,(vI (k_3:Int)))])) (λs=>pM m_2 x_5 s) o_25 nq_72 s_8.2 hj_26 rfl (aH rfl) ?_ ?_
   ·rintro ⟨k_17,s_22⟩ hL_24
    dsimp only at hL_24
    cases k_17 with
    | zero=>cases hL_24
    | succ k_17 =>
     obtain ⟨c_,hc_23,hL_24⟩:=bind_some hL_24
     unfold pM at hc_23
     refine ak (ak ?_)
     obtain ⟨v_27,h_28,hc_23⟩:=bind_some hc_23
     refine aP [(1,(vL Run.enc m_2)),(5,(gV n_11 2 s_8.1)),(6,(vI s_22)),(8,(.ref n_16 0 0)),(10,(vL Run.enc l_1)),(11,(vI (l_1.length:Int))),(12,(vI (k_3:Int))),(29,(vB v_27))] [(n_11,gB 2 Run.enc s_8.1),(n_16,some (.cells 2 [(vI x_5.f_from),(vI x_5.f_to)]))] ?_ ?_
     ·refine bC (aa (vI s_22) (aa (vL Run.enc m_2) (bG zG rfl wz (aa (vB (decide (s_22<(m_2.length:Int)))) ?_))))
      rcases aj h_28 with⟨hc_29,h_28⟩|⟨hc_29,h_28⟩
      ·refine aB rfl hc_29 wz (aJ (vL Run.enc m_2) wa rfl (aJ (vI s_22) wa rfl ?_))
       obtain ⟨y_30,hy_31,h_28⟩:=bind_some h_28
       refine dY mO rfl rfl hy_31 rfl wa (rQ rX rfl [.int .i64 y_30.f_to] rfl rfl wa (bI sz3 ag3 rfl (vI y_30.f_to) rfl wa (aG mg rfl 0 rfl wa (aC 11 1 (.inr (by kernel_rfl)) (λ_ _ ag=>trivial) sz3 ag3 rfl rfl (vI x_5.f_from) rfl wa (aJ (vB (decide (y_30.f_to<=x_5.f_from))) wa rfl (aa (vB (decide (y_30.f_to<=x_5.f_from))) (ah ?_)))))))
       obtain rfl:=ae h_28
       exact cu
      ·refine aB rfl hc_29 wz (af (af (af (af (af (af (af (af (aa (vB false) (ah ?_))))))))))
       obtain rfl:=ae h_28
       exact cu
     ·rintro ⟨⟩ _ sl_ H_ hp_ hq_
      refine aN _ hp_ hq_ ?_
      rcases aj hc_23 with⟨hc_32,hc_23⟩|⟨hc_32,hc_23⟩
      ·refine ay rfl hc_32 (av (aL (au (aa (vI s_22) (aa (vI (w64 (s_22+1))) (aa (vI (w64 (s_22+1))) (ah ?_)))))))
       obtain rfl:=ae hc_23
       exact aU (k_17,(w64 (s_22+1))) hL_24 (ls_ _) rfl (aH rfl)
      ·refine ax rfl hc_32 (aW ?_)
       obtain rfl:=ae hc_23
       obtain rfl:=ae hL_24
       exact aS (s_22) rfl rfl (aH rfl)
   ·rintro s_22 ho_ sl_ H_ hp_ hq_
    subst ho_
    refine aN _ hp_ hq_ (ak (ai (aa (vI s_22) (aa (vI s_22) (ah ?_)))))
    obtain ⟨o_43,hj_44,hc_12⟩:=bind_some hc_12
    obtain ⟨nq_71,hj_44⟩:=dw hj_44
    refine EN (σ:=(List Run)×Int×Int) (N:=Nm) (λp=>(λ(s_38:(List Run)×Int×Int) (n_40:Nm)=>([(1,(vL Run.enc m_2)),(5,(gV n_40 2 s_38.1)),(6,(vI s_22)),(8,(.ref n_16 0 0)),(10,(vL Run.enc l_1)),(11,(vI (l_1.length:Int))),(12,(vI (k_3:Int)))]:SL_)) p.1 p.2) (λp=>(λ(s_38:(List Run)×Int×Int) (n_40:Nm)=>([(n_40,gB 2 Run.enc s_38.1),(n_16,some (.cells 2 [(vI s_38.2.2),(vI x_5.f_to)]))]:Hp)) p.1 p.2) (λ(k_33:Nat)=>(λp=>(λ(s_38:(List Run)×Int×Int) (n_40:Nm)=>([(1,(vL Run.enc m_2)),(5,(gV n_40 2 s_38.1)),(6,(vI s_22)),(8,(.ref n_16 0 0)),(9,(vI s_38.2.1)),(10,(vL Run.enc l_1)),(11,(vI (l_1.length:Int))),(12,(vI (k_3:Int)))]:SL_)) p.1 p.2)) (λs=>pK m_2 x_5 s) o_43 nq_71 ((s_8.1,s_22,x_5.f_from),n_11) hj_44 rfl (aH rfl) ?_ ?_
    ·rintro ⟨k_33,s_38,n_40⟩ hL_42
     dsimp only at hL_42
     cases k_33 with
     | zero=>cases hL_42
     | succ k_33 =>
      obtain ⟨c_,hc_41,hL_42⟩:=bind_some hL_42
      unfold pK at hc_41
      refine ak (ak ?_)
      obtain ⟨v_45,h_46,hc_41⟩:=bind_some hc_41
      refine aP [(1,(vL Run.enc m_2)),(5,(gV n_40 2 s_38.1)),(6,(vI s_22)),(8,(.ref n_16 0 0)),(9,(vI s_38.2.1)),(10,(vL Run.enc l_1)),(11,(vI (l_1.length:Int))),(12,(vI (k_3:Int))),(46,(vB v_45))] [(n_40,gB 2 Run.enc s_38.1),(n_16,some (.cells 2 [(vI s_38.2.2),(vI x_5.f_to)]))] ?_ ?_
      ·refine bC (aa (vI s_38.2.1) (aa (vL Run.enc m_2) (bG zG rfl wz (aa (vB (decide (s_38.2.1<(m_2.length:Int)))) ?_))))
       rcases aj h_46 with⟨hc_47,h_46⟩|⟨hc_47,h_46⟩
       ·refine aB rfl hc_47 wz (aJ (vL Run.enc m_2) wa rfl (aJ (vI s_38.2.1) wa rfl ?_))
        obtain ⟨y_48,hy_49,h_46⟩:=bind_some h_46
        refine dY mO rfl rfl hy_49 rfl wa (rQ mg rfl [.int .i64 y_48.f_from,.int .i64 y_48.f_to] rfl rfl wa (bI sz3 ag3 rfl (vI y_48.f_from) rfl wa (aG rX rfl 1 rfl wa (aC 11 1 (.inr (by kernel_rfl)) (λ_ _ ag=>trivial) sz3 ag3 rfl rfl (vI x_5.f_to) rfl wa (aJ (vB (decide (y_48.f_from<x_5.f_to))) wa rfl (aa (vB (decide (y_48.f_from<x_5.f_to))) (ah ?_)))))))
        obtain rfl:=ae h_46
        exact cu
       ·refine aB rfl hc_47 wz (af (af (af (af (af (af (af (af (aa (vB false) (ah ?_))))))))))
        obtain rfl:=ae h_46
        exact cu
      ·rintro ⟨⟩ _ sl_ H_ hp_ hq_
       refine aN _ hp_ hq_ ?_
       rcases aj hc_41 with⟨hc_50,hc_41⟩|⟨hc_50,hc_41⟩
       ·refine ay rfl hc_50 (av (ak (aL (ak (ak (bC (aa (vL Run.enc m_2) (aa (vI s_38.2.1) ?_))))))))
        obtain ⟨y_51,hy_52,hc_41⟩:=bind_some hc_41
        refine dY mO rfl rfl hy_52 rfl wz (rQ mg rfl [.int .i64 y_51.f_from,.int .i64 y_51.f_to] rfl rfl wz (bI sz3 ag3 rfl (vI y_51.f_from) rfl wz (aG mg rfl 0 rfl wz (aC 6 1 (.inr (by kernel_rfl)) (λ_ _ ag=>trivial) sz3 ag3 rfl rfl (vI s_38.2.2) rfl wz (aa (vB (decide (y_51.f_from>s_38.2.2))) (ah ?_))))))
        obtain ⟨v_53,h_54,hc_41⟩:=bind_some hc_41
        refine jW (β:=Nm) (λ(n_55:Nm)=>([(1,(vL Run.enc m_2)),(5,(gV n_55 2 v_53)),(6,(vI s_22)),(8,(.ref n_16 0 0)),(9,(vI s_38.2.1)),(10,(vL Run.enc l_1)),(11,(vI (l_1.length:Int))),(12,(vI (k_3:Int)))]:SL_)) (λ(n_55:Nm)=>([(n_55,gB 2 Run.enc v_53),(n_16,some (.cells 2 [(vI s_38.2.2),(vI x_5.f_to)]))]:Hp)) (λ_=>True) ?_ ?_
        ·rcases aj h_54 with⟨hc_56,h_54⟩|⟨hc_56,h_54⟩
         ·refine ay rfl hc_56 (bC (aa (gV n_40 2 s_38.1) (aG mg rfl 0 rfl wz (aC 2 1 (.inr (by kernel_rfl)) (λ_ _ ag=>trivial) sz3 ag3 rfl rfl (vI s_38.2.2) rfl wz (aa (vL Run.enc m_2) (aa (vI s_38.2.1) ?_))))))
          obtain ⟨y_57,hy_58,h_54⟩:=bind_some h_54
          refine dY mO rfl rfl hy_58 rfl wz (rQ mg rfl [.int .i64 y_57.f_from,.int .i64 y_57.f_to] rfl rfl wz (bI sz3 ag3 rfl (vI y_57.f_from) rfl wz (aJ (.d (.agg (Run.enc (⟨s_38.2.2,y_57.f_from⟩:Run)))) wz (by kernel_rfl) (eT (([(⟨s_38.2.2,y_57.f_from⟩:Run)]:List Run).map Run.enc) mO Nn rfl rfl rfl rfl rfl wz ?_))))
          obtain ⟨a_59,hz_60,h_54⟩:=bind_some h_54
          refine jB 10 (.inr (by kernel_rfl)) (λ_ _ ag=>⟨.inr (.inr (by kernel_rfl)),trivial⟩) (i:=0) CX CX oU z154 rfl (by decide) M5 (by decide) (λ_=>rfl) rfl rfl rfl hz_60 wz (λn_61=>aa (gV n_61 2 a_59) (ah ?_))
          obtain rfl:=ae h_54
          exact aS n_61 trivial rfl (aH rfl)
         ·refine ax rfl hc_56 (av ?_)
          obtain rfl:=ae h_54
          exact aS n_40 trivial rfl (aH rfl)
        ·rintro n_55 _ sl_ H_ hp_ hq_
         refine aN _ hp_ hq_ (bC (aG mg rfl 0 rfl wz (aC 1 1 (.inr (by kernel_rfl)) (λ_ _ ag=>trivial) sz3 ag3 rfl rfl (vI s_38.2.2) rfl wz (aa (vL Run.enc m_2) (aa (vI s_38.2.1) ?_)))))
         obtain ⟨y_62,hy_63,hc_41⟩:=bind_some hc_41
         refine dY mO rfl rfl hy_63 rfl wz (rQ rX rfl [.int .i64 y_62.f_to] rfl rfl wz (bI sz3 ag3 rfl (vI y_62.f_to) rfl wz (sM (vI (vH s_38.2.2 y_62.f_to)) rfl (.inr rfl) wz (aG mg rfl 0 rfl wz (fB 9 (.inr (by kernel_rfl)) (λ_ _ ag=>⟨.inr (.inr (by kernel_rfl)),trivial⟩) 1 sz3 rfl rfl [(vI (vH s_38.2.2 y_62.f_to)),(vI x_5.f_to)] rfl wz (ah (au (aa (vI s_38.2.1) (aa (vI (w64 (s_38.2.1+1))) (aa (vI (w64 (s_38.2.1+1))) (ah ?_)))))))))))
         obtain rfl:=ae hc_41
         exact aU (k_33,(v_53,(w64 (s_38.2.1+1)),(vH s_38.2.2 y_62.f_to)),n_55) hL_42 (ls_ _) rfl (aH rfl)
       ·refine ax rfl hc_50 (aW ?_)
        obtain rfl:=ae hc_41
        obtain rfl:=ae hL_42
        exact aS ((s_38.1,s_38.2.1,s_38.2.2),n_40) rfl rfl (aH rfl)
    ·rintro ⟨s_38,n_40⟩ ho_ sl_ H_ hp_ hq_
     subst ho_
     refine aN _ hp_ hq_ (ai (aG mg rfl 0 rfl wz (aC 0 1 il ft sz3 ag3 rfl rfl (vI s_38.2.2) rfl wz (aG rX rfl 1 rfl wz (aC 0 1 il ft sz3 ag3 rfl rfl (vI x_5.f_to) rfl wz (aa (vB (decide (s_38.2.2<x_5.f_to))) (ah ?_)))))))
     obtain ⟨v_64,h_65,hc_12⟩:=bind_some hc_12
     refine jW (β:=Nm) (λ(n_66:Nm)=>([(1,(vL Run.enc m_2)),(5,(gV n_66 2 v_64)),(6,(vI s_22)),(10,(vL Run.enc l_1)),(11,(vI (l_1.length:Int))),(12,(vI (k_3:Int)))]:SL_)) (λ(n_66:Nm)=>([(n_66,gB 2 Run.enc v_64),(n_16,some (.cells 2 [(vI s_38.2.2),(vI x_5.f_to)]))]:Hp)) (λ_=>True) ?_ ?_
     ·rcases aj h_65 with⟨hc_67,h_65⟩|⟨hc_67,h_65⟩
      ·refine ay rfl hc_67 (au (aa (gV n_40 2 s_38.1) (aC 0 1 il ft oU yB rfl rfl (.d (.agg (Run.enc (⟨s_38.2.2,x_5.f_to⟩:Run)))) rfl wz (eT (([(⟨s_38.2.2,x_5.f_to⟩:Run)]:List Run).map Run.enc) mO Nn rfl rfl rfl rfl rfl wz ?_))))
       obtain ⟨a_68,hz_69,h_65⟩:=bind_some h_65
       refine jB 0 il ft (i:=0) CX CX oU z154 rfl (by decide) M5 (by decide) (λ_=>rfl) rfl rfl rfl hz_69 wz (λn_70=>aa (gV n_70 2 a_68) (ah ?_))
       obtain rfl:=ae h_65
       exact aS n_70 trivial rfl (aH rfl)
      ·refine ax rfl hc_67 (av ?_)
       obtain rfl:=ae h_65
       exact aS n_40 trivial rfl (aH rfl)
     ·rintro n_66 _ sl_ H_ hp_ hq_
      refine aN _ hp_ hq_ (au (dZ (bn hD_6 hn_7) wz rfl (aa (vI ((k_3+1:Nat):Int)) (ah ?_))))
      obtain rfl:=ae hc_12
      exact aU (k_3+1,l_4,(v_64,s_22),n_66) ⟨hL_13,aR hD_6⟩ (ls_ _) rfl (aH rfl)
 ·rintro ⟨s_8,n_11⟩ ho_ sl_ H_ hp_ hq_
  subst ho_
  refine aN _ hp_ hq_ (ai (aa (gV n_11 2 s_8.1) (aa (gV n_11 2 s_8.1) (ah (gK 0 rfl (dE 4 0 rfl rfl (dE 5 0 rfl rfl (dE 87 0 rfl rfl ?_))))))))
  obtain rfl:=ae hF
  exact aA (aK [(vL Run.enc s_8.1)] ⟨rfl,trivial⟩)
theorem nH {s1_1:(List Run)} {s2_2:(List Run)} {r:Bool} (hF:eG s1_1 s2_2=some r) :
  FnM Tryz.prog 104 [(vL Run.enc s1_1),(vL Run.enc s2_2)] [] (vB r) []:=by
 refine FnM.of_wH ⟨Tryz.prog,26,[],[]⟩ rfl Tryz.func104 rfl rfl (lb_ rfl) (by kernel_rfl) ?_
 unfold eG at hF
 refine ai (aa (vB false) (ah (ak (ai (aa (vL Run.enc s1_1) (bG zG rfl wz (aa (vL Run.enc s2_2) (bG zG rfl wz (aa (vB ((s1_1.length:Int) != (s2_2.length:Int))) (ah ?_))))))))))
 rcases aj hF with⟨hc_3,hF⟩|⟨hc_3,hF⟩
 ·refine ay rfl hc_3 (ai (aa (vB false) (ah ?_)))
  obtain rfl:=ae hF
  exact aA (aK [(vB false)] ⟨rfl,trivial⟩)
 ·refine ax rfl hc_3 (av (ak (ai (aa (vL Run.enc s1_1) (bG zG rfl wz (aa (vI 0) (ah ?_)))))))
  obtain ⟨o_12,hj_13,hF⟩:=bind_some hF
  obtain ⟨hn_8,hj_13⟩:=aX hj_13
  refine bP (λ(s_9:Unit)=>[]) (λ(s_9:Unit)=>[]) (λ(k_4:Nat)=>(λ(s_9:Unit)=>[(0,(vL Run.enc s1_1)),(1,(vL Run.enc s2_2)),(12,(vI (s1_1.length:Int))),(13,(vI (k_4:Int)))])) (λk x s=>fU s2_2 k x s) o_12 s1_1 () hj_13 rfl (aH rfl) ?_ ?_
  ·rintro ⟨k_4,l_5,s_9⟩ ⟨hL_11,hD_7⟩
   dsimp only at hL_11 hD_7
   cases l_5 with
   | nil =>
    obtain rfl:=ae hL_11
    refine ai (aa (vB (decide ((k_4:Int)<(s1_1.length:Int)))) (ah ?_))
    refine ak (ax rfl (drop_nil hD_7) (aW ?_))
    exact aS (s_9) rfl rfl (aH rfl)
   | cons x_6 l_5 =>
    obtain ⟨c_,hc_10,hL_11⟩:=bind_some hL_11
    refine ai (aa (vB (decide ((k_4:Int)<(s1_1.length:Int)))) (ah ?_))
    refine ak (ay rfl (aZ hD_7) (av ?_))
    unfold fU at hc_10
    refine ak (aL (ai (aa (vI (k_4:Int)) (aa (vI (k_4:Int)) (ah (ak (bC (aa (vL Run.enc s1_1) (aa (vI (k_4:Int)) (dY mO rfl rfl (bz hD_7) rfl wz (bI oU yB rfl (.d (.agg (Run.enc x_6))) rfl wz (aa (vL Run.enc s2_2) (aa (vI (k_4:Int)) ?_)))))))))))))
    obtain ⟨y_14,hy_15,hc_10⟩:=bind_some hc_10
    refine dY mO rfl rfl hy_15 rfl wz (bI oU yB rfl (.d (.agg (Run.enc y_14))) rfl wz (aJ (vB (!((x_6.f_from==y_14.f_from)&&((x_6.f_to==y_14.f_to)&&true)))) wz (by kernel_rfl) (ah ?_)))
    rcases aj hc_10 with⟨hc_16,hc_10⟩|⟨hc_16,hc_10⟩
    ·refine ay rfl hc_16 (ai (aa (vB false) (ah ?_)))
     obtain rfl:=ae hc_10
     obtain rfl:=ae hL_11
     obtain rfl:=ae hF
     exact aA (aK [(vB false)] ⟨rfl,trivial⟩)
    ·refine ax rfl hc_16 (av (au (dZ (bn hD_7 hn_8) wz rfl (aa (vI ((k_4+1:Nat):Int)) (ah ?_)))))
     obtain rfl:=ae hc_10
     exact aU (k_4+1,l_5,()) ⟨hL_11,aR hD_7⟩ (ls_ _) rfl (aH rfl)
  ·rintro s_9 ho_ sl_ H_ hp_ hq_
   subst ho_
   refine aN _ hp_ hq_ (ai (aa (vB true) (ah ?_)))
   obtain rfl:=ae hF
   exact aA (aK [(vB true)] ⟨rfl,trivial⟩)
theorem Cm {l_1:(List Rect)} {m_2:(List Rect)} {r:(List Rect)} (hF:ol l_1 m_2=some r) :
  FnM Tryz.prog 61 [(vL Rect.enc l_1),(vL Rect.enc m_2)] [] (vL Rect.enc r) []:=by
 refine FnM.of_wH ⟨Tryz.prog,88,[],[]⟩ rfl Tryz.func61 rfl rfl (lb_ rfl) (by kernel_rfl) ?_
 unfold ol at hF
 refine ai (aa .nil (ah (ai (aa .nil (ah (ak (ai (aa (vL Rect.enc l_1) (aa (vL Rect.enc m_2) (eT (([l_1,m_2]:List (List Rect)).map (eL Rect.enc)) Pf ez186 rfl rfl rfl rfl rfl wz ?_))))))))))
 obtain ⟨r_3,hr_4,hF⟩:=bind_some hF
 refine aF (ow hr_4) rfl hb99 rfl rfl rfl rfl wz (bG xL rfl wz (aa (vI 0) (ah (l6 (λn_11 => ?_)))))
 obtain ⟨o_16,hj_17,hF⟩:=bind_some hF
 obtain ⟨hn_9,hj_17⟩:=aX hj_17
 refine ic (σ:=(List Int)) (N:=Nm) (λp=>(λ(s_10:List Int) (n_13:Nm)=>([(0,(vL Rect.enc l_1)),(1,(vL Rect.enc m_2)),(5,(gV n_13 1 s_10))]:SL_)) p.1 p.2) (λp=>(λ(s_10:List Int) (n_13:Nm)=>([(n_13,gB 1 eI s_10)]:Hp)) p.1 p.2) (λ(k_5:Nat)=>(λp=>(λ(s_10:List Int) (n_13:Nm)=>([(0,(vL Rect.enc l_1)),(1,(vL Rect.enc m_2)),(5,(gV n_13 1 s_10)),(19,(vL Rect.enc r_3)),(20,(vI (r_3.length:Int))),(21,(vI (k_5:Int)))]:SL_)) p.1 p.2)) (λk x s=>ny k x s) o_16 r_3 (([]:List Int),n_11) hj_17 rfl (aH rfl) ?_ ?_
 ·rintro ⟨k_5,l_6,s_10,n_13⟩ ⟨hL_15,hD_8⟩
  dsimp only at hL_15 hD_8
  cases l_6 with
  | nil =>
   obtain rfl:=ae hL_15
   refine ai (aa (vB (decide ((k_5:Int)<(r_3.length:Int)))) (ah ?_))
   refine ak (ax rfl (drop_nil hD_8) (aW ?_))
   exact aS (s_10,n_13) rfl rfl (aH rfl)
  | cons x_7 l_6 =>
   obtain ⟨c_,hc_14,hL_15⟩:=bind_some hL_15
   refine ai (aa (vB (decide ((k_5:Int)<(r_3.length:Int)))) (ah ?_))
   refine ak (ay rfl (aZ hD_8) (av ?_))
   unfold ny at hc_14
   refine ak (aL (ai (dY Au rfl rfl (bz hD_8) rfl wz (bI q8 Du rfl (.d (.agg (Rect.enc x_7))) rfl wz (dC 0 (.inl rfl) z53 rfl wz (λn_18=>fB 0 il ft 1 q8 rfl rfl (Rect.v x_7) rfl wz (ah (au (aa (gV n_13 1 s_10) (aG xA rfl 1 rfl wz (aC 0 1 il ft sz3 ag3 rfl rfl (vI x_7.Y) rfl wz (aG xA rfl 1 rfl wz (aC 0 1 il ft sz3 ag3 rfl rfl (vI x_7.Y) rfl wz (aG BA rfl 3 rfl wz (aC 0 1 il ft sz3 ag3 rfl rfl (vI x_7.H) rfl wz (aa (vI (w64 (x_7.Y+x_7.H))) (eT (([x_7.Y,(w64 (x_7.Y+x_7.H))]:List Int).map eI) ni BG rfl rfl rfl rfl rfl wz ?_)))))))))))))))))
   obtain ⟨a_19,hz_20,hc_14⟩:=bind_some hc_14
   refine jB 0 il ft (i:=0) EK EK sz3 z3 rfl (by decide) by3 (by decide) (λ_=>rfl) rfl rfl rfl hz_20 wz (λn_21=>aa (gV n_21 1 a_19) (ah (au (dZ (bn hD_8 hn_9) wz rfl (aa (vI ((k_5+1:Nat):Int)) (ah ?_))))))
   obtain rfl:=ae hc_14
   exact aU (k_5+1,l_6,a_19,n_21) ⟨hL_15,aR hD_8⟩ (ls_ _) rfl (aH rfl)
 ·rintro ⟨s_10,n_13⟩ ho_ sl_ H_ hp_ hq_
  subst ho_
  refine aN _ hp_ hq_ (ai (aa (gV n_13 1 s_10) ?_))
  obtain ⟨r_22,hr_23,hF⟩:=bind_some hF
  obtain ⟨_,hs_24,hF⟩:=bind_some hF
  replace hs_24:=kQ hs_24
  refine mh 0 [] 0 0 il ft (uo hr_23) rfl hb100 rfl rfl rfl (by kernel_rfl) rfl (.inl rfl) rfl (by kernel_rfl) (by kernel_rfl) (by kernel_rfl) (by kernel_rfl) rfl (by decide) (by kernel_rfl) jX (vZ hs_24) wz ([(n_13,gB 1 eI r_22)]:Hp) (by kernel_rfl) (dH (v':=(gV n_13 1 r_22)) 36 rfl (kJ hs_24.symm) (dH (v':=(gV n_13 1 r_22)) 5 rfl (kJ hs_24.symm) (ah (ai (aa (gV n_13 1 r_22) ?_)))))
  obtain ⟨r_25,hr_26,hF⟩:=bind_some hF
  refine mh 0 [] 0 0 il ft (rF hr_26) rfl hb101 rfl rfl rfl (by kernel_rfl) rfl (.inl rfl) rfl (by kernel_rfl) (by kernel_rfl) (by kernel_rfl) (by kernel_rfl) rfl (by decide) (by kernel_rfl) DN (λ_=>rfl) wz ([(n_13,none)]:Hp) (by kernel_rfl) (aa (vL eI r_25) (ah (ai (aa .nil (ah (ai (aa .nil (ah (ai (aa (vI 0) (ah (ak (ai (aa (vL eI r_25) (bG vJ rfl wz (aa (vI 0) (ah (MG Run.enc 9 rfl (l6 (λn_33 => ?_))))))))))))))))))))
  obtain ⟨o_38,hj_39,hF⟩:=bind_some hF
  obtain ⟨hn_31,hj_39⟩:=aX hj_39
  refine ic (σ:=(List Rect)×(List Run)×Int) (N:=Nm) (λp=>(λ(s_32:(List Rect)×(List Run)×Int) (n_35:Nm)=>([(8,(gV n_35 4 s_32.1))]:SL_)) p.1 p.2) (λp=>(λ(s_32:(List Rect)×(List Run)×Int) (n_35:Nm)=>([(n_13,none),(n_35,gB 4 Rect.enc s_32.1)]:Hp)) p.1 p.2) (λ(k_27:Nat)=>(λp=>(λ(s_32:(List Rect)×(List Run)×Int) (n_35:Nm)=>([(0,(vL Rect.enc l_1)),(1,(vL Rect.enc m_2)),(5,(vL eI r_25)),(8,(gV n_35 4 s_32.1)),(9,(vL Run.enc s_32.2.1)),(10,(vI s_32.2.2)),(40,(vL eI r_25)),(41,(vI (r_25.length:Int))),(42,(vI (k_27:Int)))]:SL_)) p.1 p.2)) (λk x s=>lg r_25 l_1 m_2 k x s) o_38 r_25 ((([]:List Rect),([]:List Run),0),n_33) hj_39 rfl (aH rfl) ?_ ?_
  ·rintro ⟨k_27,l_28,s_32,n_35⟩ ⟨hL_37,hD_30⟩
   dsimp only at hL_37 hD_30
   cases l_28 with
   | nil =>
    obtain rfl:=ae hL_37
    refine ai (aa (vB (decide ((k_27:Int)<(r_25.length:Int)))) (ah ?_))
    refine ak (ax rfl (drop_nil hD_30) (aW ?_))
    exact aS (s_32,n_35) rfl rfl (aH rfl)
   | cons x_29 l_28 =>
    obtain ⟨c_,hc_36,hL_37⟩:=bind_some hL_37
    refine ai (aa (vB (decide ((k_27:Int)<(r_25.length:Int)))) (ah ?_))
    refine ak (ay rfl (aZ hD_30) (av ?_))
    unfold lg at hc_36
    refine ak (aL (ai (aa (vI (k_27:Int)) (dY ni rfl rfl (bz hD_30) rfl wz (bI sz3 ag3 rfl (vI x_29) rfl wz (aa (vI (k_27:Int)) (aa (vI x_29) (ah (ai (aa .nil (ah (ak (ai (aa (vI (k_27:Int)) (aa (vI (w64 ((k_27:Int)+1))) (aa (vL eI r_25) (bG vJ rfl wz (aa (vB (decide ((w64 ((k_27:Int)+1))<(r_25.length:Int)))) (ah (MG Run.enc 13 rfl ?_))))))))))))))))))))
    obtain ⟨v_42,h_43,hc_36⟩:=bind_some hc_36
    refine aP [(0,(vL Rect.enc l_1)),(1,(vL Rect.enc m_2)),(5,(vL eI r_25)),(8,(gV n_35 4 s_32.1)),(9,(vL Run.enc s_32.2.1)),(10,(vI s_32.2.2)),(12,(vI x_29)),(13,(vL Run.enc v_42)),(40,(vL eI r_25)),(41,(vI (r_25.length:Int))),(42,(vI (k_27:Int)))] [(n_13,none),(n_35,gB 4 Rect.enc s_32.1)] ?_ ?_
    ·rcases aj h_43 with⟨hc_44,h_43⟩|⟨hc_44,h_43⟩
     ·refine ay rfl hc_44 (au (aa (vL Rect.enc l_1) (aa (vI x_29) ?_)))
      obtain ⟨r_45,hr_46,h_43⟩:=bind_some h_43
      refine aF (yJ hr_46) rfl hb103 rfl rfl rfl rfl wz (aa (vL Rect.enc m_2) (aa (vI x_29) ?_))
      obtain ⟨r_47,hr_48,h_43⟩:=bind_some h_43
      refine aF (yJ hr_48) rfl hb103 rfl rfl rfl rfl wz ?_
      obtain ⟨r_49,hr_50,h_43⟩:=bind_some h_43
      refine aF (Ei hr_50) rfl hb102 rfl rfl rfl rfl wz (aa (vL Run.enc r_49) (ah ?_))
      obtain rfl:=ae h_43
      exact cu
     ·refine ax rfl hc_44 (av ?_)
      obtain rfl:=ae h_43
      exact cu
    ·rintro ⟨⟩ _ sl_ H_ hp_ hq_
     refine aN _ hp_ hq_ (ak (ai (aa (vL Run.enc s_32.2.1) (aa (vL Run.enc v_42) ?_))))
     obtain ⟨r_51,hr_52,hc_36⟩:=bind_some hc_36
     refine aF (nH hr_52) rfl hb104 rfl rfl rfl rfl wz (ah ?_)
     rcases aj hc_36 with⟨hc_53,hc_36⟩|⟨hc_53,hc_36⟩
     ·refine ay rfl hc_53 (aW (au (dZ (bn hD_30 hn_31) wz rfl (aa (vI ((k_27+1:Nat):Int)) (ah ?_)))))
      obtain rfl:=ae hc_36
      exact aU (k_27+1,l_28,(s_32.1,s_32.2.1,s_32.2.2),n_35) ⟨hL_37,aR hD_30⟩ (ls_ _) rfl (aH rfl)
     ·refine ax rfl hc_53 (av (ak (ai (aa (vL Run.enc s_32.2.1) (bG zG rfl wz (aa (vI 0) (ah ?_)))))))
      obtain ⟨o_64,hj_65,hc_36⟩:=bind_some hc_36
      obtain ⟨hn_58,hj_65⟩:=aX hj_65
      refine ic (σ:=(List Rect)) (N:=Nm) (λp=>(λ(s_59:List Rect) (n_61:Nm)=>([(0,(vL Rect.enc l_1)),(1,(vL Rect.enc m_2)),(5,(vL eI r_25)),(8,(gV n_61 4 s_59)),(12,(vI x_29)),(13,(vL Run.enc v_42)),(40,(vL eI r_25)),(41,(vI (r_25.length:Int))),(42,(vI (k_27:Int)))]:SL_)) p.1 p.2) (λp=>(λ(s_59:List Rect) (n_61:Nm)=>([(n_13,none),(n_61,gB 4 Rect.enc s_59)]:Hp)) p.1 p.2) (λ(k_54:Nat)=>(λp=>(λ(s_59:List Rect) (n_61:Nm)=>([(0,(vL Rect.enc l_1)),(1,(vL Rect.enc m_2)),(5,(vL eI r_25)),(8,(gV n_61 4 s_59)),(10,(vI s_32.2.2)),(12,(vI x_29)),(13,(vL Run.enc v_42)),(40,(vL eI r_25)),(41,(vI (r_25.length:Int))),(42,(vI (k_27:Int))),(62,(vL Run.enc s_32.2.1)),(63,(vI (s_32.2.1.length:Int))),(64,(vI (k_54:Int)))]:SL_)) p.1 p.2)) (λk x s=>nz s_32 x_29 k x s) o_64 s_32.2.1 (s_32.1,n_35) hj_65 rfl (aH rfl) ?_ ?_
      ·rintro ⟨k_54,l_55,s_59,n_61⟩ ⟨hL_63,hD_57⟩
       dsimp only at hL_63 hD_57
       cases l_55 with
       | nil =>
        obtain rfl:=ae hL_63
        refine ai (aa (vB (decide ((k_54:Int)<(s_32.2.1.length:Int)))) (ah ?_))
        refine ak (ax rfl (drop_nil hD_57) (aW ?_))
        exact aS (s_59,n_61) rfl rfl (aH rfl)
       | cons x_56 l_55 =>
        obtain ⟨c_,hc_62,hL_63⟩:=bind_some hL_63
        refine ai (aa (vB (decide ((k_54:Int)<(s_32.2.1.length:Int)))) (ah ?_))
        refine ak (ay rfl (aZ hD_57) (av ?_))
        unfold nz at hc_62
        refine ak (aL (ai (dY mO rfl rfl (bz hD_57) rfl wz (bI oU yB rfl (.d (.agg (Run.enc x_56))) rfl wz (dC 0 (.inl rfl) z154 rfl wz (λn_66=>fB 0 il ft 2 oU rfl rfl [(vI x_56.f_from),(vI x_56.f_to)] rfl wz (ah (au (aa (gV n_61 4 s_59) (aG mg rfl 0 rfl wz (aC 0 2 il ft sz3 ag3 rfl rfl (vI x_56.f_from) rfl wz (aa (vI s_32.2.2) (aG rX rfl 1 rfl wz (aC 0 2 il ft sz3 ag3 rfl rfl (vI x_56.f_to) rfl wz (aG mg rfl 0 rfl wz (aC 0 2 il ft sz3 ag3 rfl rfl (vI x_56.f_from) rfl wz (aa (vI (w64 (x_56.f_to-x_56.f_from))) (aa (vI x_29) (aa (vI s_32.2.2) (aa (vI (w64 (x_29-s_32.2.2))) (aJ (.d (.agg (Rect.enc (⟨x_56.f_from,s_32.2.2,(w64 (x_56.f_to-x_56.f_from)),(w64 (x_29-s_32.2.2))⟩:Rect)))) wz (by kernel_rfl) (eT (([(⟨x_56.f_from,s_32.2.2,(w64 (x_56.f_to-x_56.f_from)),(w64 (x_29-s_32.2.2))⟩:Rect)]:List Rect).map Rect.enc) Au PN rfl rfl rfl rfl rfl wz ?_))))))))))))))))))))))
        obtain ⟨a_67,hz_68,hc_62⟩:=bind_some hc_62
        refine jB 0 il ft (i:=1) El El q8 z53 rfl (by decide) O5 (by decide) (λ_=>rfl) rfl rfl rfl hz_68 wz (λn_69=>aa (gV n_69 4 a_67) (ah (au (dZ (bn hD_57 hn_58) wz rfl (aa (vI ((k_54+1:Nat):Int)) (ah ?_))))))
        obtain rfl:=ae hc_62
        exact aU (k_54+1,l_55,a_67,n_69) ⟨hL_63,aR hD_57⟩ (ls_ _) rfl (aH rfl)
      ·rintro ⟨s_59,n_61⟩ ho_ sl_ H_ hp_ hq_
       subst ho_
       refine aN _ hp_ hq_ (au (aa (vL Run.enc v_42) (aa (vI x_29) (aa (vL Run.enc v_42) (aa (vI x_29) (ah (au (dZ (bn hD_30 hn_31) wz rfl (aa (vI ((k_27+1:Nat):Int)) (ah ?_))))))))))
       obtain rfl:=ae hc_36
       exact aU (k_27+1,l_28,(s_59,v_42,x_29),n_61) ⟨hL_37,aR hD_30⟩ (ls_ _) rfl (aH rfl)
  ·rintro ⟨s_32,n_35⟩ ho_ sl_ H_ hp_ hq_
   subst ho_
   refine aN _ hp_ hq_ (ai (aa (gV n_35 4 s_32.1) (aa (gV n_35 4 s_32.1) (ah (gK 1 rfl (dE 4 1 rfl rfl (dE 8 1 rfl rfl (dE 87 1 rfl rfl ?_))))))))
   obtain rfl:=ae hF
   exact aA (aK [(vL Rect.enc s_32.1)] ⟨rfl,trivial⟩)
theorem EL {l_1:(List Rect)} {r:Int} (hF:uB l_1=some r) :
  FnM Tryz.prog 60 [(vL Rect.enc l_1)] [] (vI r) []:=by
 refine FnM.of_wH ⟨Tryz.prog,21,[],[]⟩ rfl Tryz.func60 rfl rfl (lb_ rfl) (by kernel_rfl) ?_
 unfold uB at hF
 refine ai (aa (vI 0) (ah (ai (aa (vI 0) (ah (ak (ai (aa (vL Rect.enc l_1) (bG xL rfl wz (aa (vI 0) (ah ?_)))))))))))
 obtain ⟨o_10,hj_11,hF⟩:=bind_some hF
 obtain ⟨hn_6,hj_11⟩:=aX hj_11
 refine bP (λ(s_7:Int)=>[(3,(vI s_7))]) (λ(s_7:Int)=>[]) (λ(k_2:Nat)=>(λ(s_7:Int)=>[(3,(vI s_7)),(6,(vL Rect.enc l_1)),(7,(vI (l_1.length:Int))),(8,(vI (k_2:Int)))])) (λk x s=>uh k x s) o_10 l_1 0 hj_11 rfl (aH rfl) ?_ ?_
 ·rintro ⟨k_2,l_3,s_7⟩ ⟨hL_9,hD_5⟩
  dsimp only at hL_9 hD_5
  cases l_3 with
  | nil =>
   obtain rfl:=ae hL_9
   refine ai (aa (vB (decide ((k_2:Int)<(l_1.length:Int)))) (ah ?_))
   refine ak (ax rfl (drop_nil hD_5) (aW ?_))
   exact aS (s_7) rfl rfl (aH rfl)
  | cons x_4 l_3 =>
   obtain ⟨c_,hc_8,hL_9⟩:=bind_some hL_9
   refine ai (aa (vB (decide ((k_2:Int)<(l_1.length:Int)))) (ah ?_))
   refine ak (ay rfl (aZ hD_5) (av ?_))
   unfold uh at hc_8
   refine ak (aL (ai (dY Au rfl rfl (bz hD_5) rfl wz (bI q8 Du rfl (.d (.agg (Rect.enc x_4))) rfl wz (dC 0 (.inl rfl) z53 rfl wz (λn_12=>fB 0 il ft 0 q8 rfl rfl (Rect.v x_4) rfl wz (ah (au (aa (vI s_7) (aG Ej rfl 2 rfl wz (aC 0 0 il ft sz3 ag3 rfl rfl (vI x_4.W) rfl wz (aG BA rfl 3 rfl wz (aC 0 0 il ft sz3 ag3 rfl rfl (vI x_4.H) rfl wz (aa (vI (w64 (x_4.W*x_4.H))) (aa (vI (w64 (s_7+(w64 (x_4.W*x_4.H))))) (aa (vI (w64 (s_7+(w64 (x_4.W*x_4.H))))) (ah (au (dZ (bn hD_5 hn_6) wz rfl (aa (vI ((k_2+1:Nat):Int)) (ah ?_)))))))))))))))))))))
   obtain rfl:=ae hc_8
   exact aU (k_2+1,l_3,(w64 (s_7+(w64 (x_4.W*x_4.H))))) ⟨hL_9,aR hD_5⟩ (ls_ _) rfl (aH rfl)
 ·rintro s_7 ho_ sl_ H_ hp_ hq_
  subst ho_
  refine aN _ hp_ hq_ (ai (aa (vI s_7) (aa (vI s_7) (ah ?_))))
  obtain rfl:=ae hF
  exact aA (aK [(vI s_7)] ⟨rfl,trivial⟩)
theorem FD {l_1:(List Rect)} {r:Int×Int} (hF:qJ l_1=some r) :
  FnM Tryz.prog 39 [(vL Rect.enc l_1)] [] (.tup [(vI r.1),(vI r.2)]) []:=by
 refine FnM.of_wH ⟨Tryz.prog,13,[],[]⟩ rfl Tryz.func39 rfl rfl (lb_ rfl) (by kernel_rfl) ?_
 unfold qJ at hF
 refine ai (aa (vI 0) (aa (vI 0) (ah (ak (ai (aa (vL Rect.enc l_1) ?_))))))
 obtain ⟨r_2,hr_3,hF⟩:=bind_some hF
 refine aF (yx hr_3) rfl hb59 rfl rfl rfl rfl wz (aa (vI r_2) (ah (ai (aa (vI r_2) (aa (vB (r_2 != 0)) (ah ?_))))))
 rcases aj hF with⟨hc_4,hF⟩|⟨hc_4,hF⟩
 ·refine ay rfl hc_4 (ai (aa (vI r_2) (aa (vI 0) (aa (vI r_2) (ah ?_)))))
  obtain rfl:=ae hF
  exact aA (aK [(vI 0),(vI r_2)] ⟨rfl,⟨rfl,trivial⟩⟩)
 ·refine ax rfl hc_4 (av (ai (aa (vL Rect.enc l_1) ?_)))
  obtain ⟨r_5,hr_6,hF⟩:=bind_some hF
  refine aF (Cm hr_6) rfl hb61 rfl rfl rfl rfl wz ?_
  obtain ⟨r_7,hr_8,hF⟩:=bind_some hF
  refine aF (EL hr_8) rfl hb60 rfl rfl rfl rfl wz (aa (vI r_7) (aa (vI 0) (ah ?_)))
  obtain rfl:=ae hF
  exact aA (aK [(vI r_7),(vI 0)] ⟨rfl,⟨rfl,trivial⟩⟩)
theorem H6 {n_1:Int} {r:Bool} (hF:BK n_1=some r) :
  FnM Tryz.prog 167 [(vI n_1)] [] (vB r) []:=by
 refine FnM.of_wH ⟨Tryz.prog,9,[],[]⟩ rfl Tryz.func167 rfl rfl (lb_ rfl) (by kernel_rfl) ?_
 unfold BK at hF
 refine ai (aa (vB false) (ah (ak ?_)))
 obtain ⟨v_2,h_3,hF⟩:=bind_some hF
 refine aP [(2,(vB v_2))] [] ?_ ?_
 ·refine au (aa (vI n_1) (aa (vB (decide (n_1>=0))) ?_))
  rcases aj h_3 with⟨hc_4,h_3⟩|⟨hc_4,h_3⟩
  ·refine aB rfl hc_4 wz (aJ (vI n_1) wa rfl (aJ (vB (decide (n_1<=4000))) wa rfl (aa (vB (decide (n_1<=4000))) (aa (vB (decide (n_1<=4000))) (ah ?_)))))
   obtain rfl:=ae h_3
   exact cu
  ·refine aB rfl hc_4 wz (af (af (aa (vB false) (aa (vB false) (ah ?_)))))
   obtain rfl:=ae h_3
   exact cu
 ·rintro ⟨⟩ _ sl_ H_ hp_ hq_
  refine aN _ hp_ hq_ ?_
  obtain rfl:=ae hF
  exact aA (aK [(vB v_2)] ⟨rfl,trivial⟩)
theorem vG {l_1:(List Int)} {r:Int} (hF:jY l_1=some r) :
  FnM Tryz.prog 137 [(vL eI l_1)] [] (vI r) []:=by
 refine FnM.of_wH ⟨Tryz.prog,30,[],[]⟩ rfl Tryz.func137 rfl rfl (lb_ rfl) (by kernel_rfl) ?_
 unfold jY at hF
 refine ai (aa (vI 0) (ah (ak (ai (aa (vL eI l_1) (bG vJ rfl wz (aa (vB (decide ((l_1.length:Int)>100))) (ah ?_))))))))
 rcases aj hF with⟨hc_2,hF⟩|⟨hc_2,hF⟩
 ·refine ay rfl hc_2 (ai (aa (vI 2) (ah ?_)))
  obtain rfl:=ae hF
  exact aA (aK [(vI 2)] ⟨rfl,trivial⟩)
 ·refine ax rfl hc_2 (av (ak (ai (aa (vL eI l_1) (bG vJ rfl wz (aa (vI 0) (ah ?_)))))))
  obtain ⟨o_11,hj_12,hF⟩:=bind_some hF
  obtain ⟨hn_7,hj_12⟩:=aX hj_12
  refine bP (λ(s_8:Unit)=>[]) (λ(s_8:Unit)=>[]) (λ(k_3:Nat)=>(λ(s_8:Unit)=>[(0,(vL eI l_1)),(8,(vL eI l_1)),(9,(vI (l_1.length:Int))),(10,(vI (k_3:Int)))])) (λk x s=>kP l_1 k x s) o_11 l_1 () hj_12 rfl (aH rfl) ?_ ?_
  ·rintro ⟨k_3,l_4,s_8⟩ ⟨hL_10,hD_6⟩
   dsimp only at hL_10 hD_6
   cases l_4 with
   | nil =>
    obtain rfl:=ae hL_10
    refine ai (aa (vB (decide ((k_3:Int)<(l_1.length:Int)))) (ah ?_))
    refine ak (ax rfl (drop_nil hD_6) (aW ?_))
    exact aS (s_8) rfl rfl (aH rfl)
   | cons x_5 l_4 =>
    obtain ⟨c_,hc_9,hL_10⟩:=bind_some hL_10
    refine ai (aa (vB (decide ((k_3:Int)<(l_1.length:Int)))) (ah ?_))
    refine ak (ay rfl (aZ hD_6) (av ?_))
    unfold kP at hc_9
    refine ak (aL (ai (aa (vI (k_3:Int)) (dY ni rfl rfl (bz hD_6) rfl wz (bI sz3 ag3 rfl (vI x_5) rfl wz (aa (vI (k_3:Int)) (aa (vI x_5) (ah (ak (ai (aa (vI x_5) ?_)))))))))))
    obtain ⟨r_13,hr_14,hc_9⟩:=bind_some hc_9
    refine aF (H6 hr_14) rfl hb167 rfl rfl rfl rfl wz (aa (vB (!r_13)) (ah ?_))
    rcases aj hc_9 with⟨hc_15,hc_9⟩|⟨hc_15,hc_9⟩
    ·refine ay rfl hc_15 (ai (aa (vI 1) (ah ?_)))
     obtain rfl:=ae hc_9
     obtain rfl:=ae hL_10
     obtain rfl:=ae hF
     exact aA (aK [(vI 1)] ⟨rfl,trivial⟩)
    ·refine ax rfl hc_15 (av (ak ?_))
     obtain ⟨v_16,h_17,hc_9⟩:=bind_some hc_9
     refine aP [(0,(vL eI l_1)),(8,(vL eI l_1)),(9,(vI (l_1.length:Int))),(10,(vI (k_3:Int))),(28,(vB v_16))] [] ?_ ?_
     ·refine au (aa (vI (k_3:Int)) (aa (vB (decide ((k_3:Int)>0))) ?_))
      rcases aj h_17 with⟨hc_18,h_17⟩|⟨hc_18,h_17⟩
      ·refine aB rfl hc_18 wz (aJ (vI x_5) wa rfl (aJ (vL eI l_1) wa rfl (aJ (vI (k_3:Int)) wa rfl (aJ (vI (w64 ((k_3:Int)-1))) wa rfl ?_))))
       obtain ⟨y_19,hy_20,h_17⟩:=bind_some h_17
       refine dY ni rfl rfl hy_20 rfl wa (bI sz3 ag3 rfl (vI y_19) rfl wa (aJ (vB (decide (x_5<=y_19))) wa rfl (aa (vB (decide (x_5<=y_19))) (ah ?_))))
       obtain rfl:=ae h_17
       exact cu
      ·refine aB rfl hc_18 wz (af (af (af (af (af (af (af (aa (vB false) (ah ?_)))))))))
       obtain rfl:=ae h_17
       exact cu
     ·rintro ⟨⟩ _ sl_ H_ hp_ hq_
      refine aN _ hp_ hq_ ?_
      rcases aj hc_9 with⟨hc_21,hc_9⟩|⟨hc_21,hc_9⟩
      ·refine ay rfl hc_21 (ai (aa (vI 7) (ah ?_)))
       obtain rfl:=ae hc_9
       obtain rfl:=ae hL_10
       obtain rfl:=ae hF
       exact aA (aK [(vI 7)] ⟨rfl,trivial⟩)
      ·refine ax rfl hc_21 (av (au (dZ (bn hD_6 hn_7) wz rfl (aa (vI ((k_3+1:Nat):Int)) (ah ?_)))))
       obtain rfl:=ae hc_9
       exact aU (k_3+1,l_4,()) ⟨hL_10,aR hD_6⟩ (ls_ _) rfl (aH rfl)
  ·rintro s_8 ho_ sl_ H_ hp_ hq_
   subst ho_
   refine aN _ hp_ hq_ (ai (aa (vI 0) (ah ?_)))
   obtain rfl:=ae hF
   exact aA (aK [(vI 0)] ⟨rfl,trivial⟩)
theorem sF {l_1:(List ByteArray)} {r:Int} (hF:jP l_1=some r) :
  FnM Tryz.prog 140 [(vL eS l_1)] [] (vI r) []:=by
 refine FnM.of_wH ⟨Tryz.prog,27,[],[]⟩ rfl Tryz.func140 rfl rfl (lb_ rfl) (by kernel_rfl) ?_
 unfold jP at hF
 refine ai (aa (vI 0) (ah (ak (ai (aa (vL eS l_1) (bG uT rfl wz (aa (vI 0) (ah ?_))))))))
 obtain ⟨o_10,hj_11,hF⟩:=bind_some hF
 obtain ⟨hn_6,hj_11⟩:=aX hj_11
 refine bP (λ(s_7:Unit)=>[]) (λ(s_7:Unit)=>[]) (λ(k_2:Nat)=>(λ(s_7:Unit)=>[(0,(vL eS l_1)),(5,(vL eS l_1)),(6,(vI (l_1.length:Int))),(7,(vI (k_2:Int)))])) (λk x s=>jy l_1 k x s) o_10 l_1 () hj_11 rfl (aH rfl) ?_ ?_
 ·rintro ⟨k_2,l_3,s_7⟩ ⟨hL_9,hD_5⟩
  dsimp only at hL_9 hD_5
  cases l_3 with
  | nil =>
   obtain rfl:=ae hL_9
   refine ai (aa (vB (decide ((k_2:Int)<(l_1.length:Int)))) (ah ?_))
   refine ak (ax rfl (drop_nil hD_5) (aW ?_))
   exact aS (s_7) rfl rfl (aH rfl)
  | cons x_4 l_3 =>
   obtain ⟨c_,hc_8,hL_9⟩:=bind_some hL_9
   refine ai (aa (vB (decide ((k_2:Int)<(l_1.length:Int)))) (ah ?_))
   refine ak (ay rfl (aZ hD_5) (av ?_))
   unfold jy at hc_8
   refine ak (aL (ai (aa (vI (k_2:Int)) (dY nM rfl rfl (bz hD_5) rfl wz (bI sz9 ag9 rfl (vS x_4) rfl wz (aa (vI (k_2:Int)) (aa (vS x_4) (ah (ak (ai (aa (vS x_4) ?_)))))))))))
   obtain ⟨r_12,hr_13,hc_8⟩:=bind_some hc_8
   refine aF (iy hr_13) rfl Ep rfl rfl rfl rfl wz (aa (vB (!r_12)) (ah ?_))
   rcases aj hc_8 with⟨hc_14,hc_8⟩|⟨hc_14,hc_8⟩
   ·refine ay rfl hc_14 (ai (aa (vI 5) (ah ?_)))
    obtain rfl:=ae hc_8
    obtain rfl:=ae hL_9
    obtain rfl:=ae hF
    exact aA (aK [(vI 5)] ⟨rfl,trivial⟩)
   ·refine ax rfl hc_14 (av (ak ?_))
    obtain ⟨v_15,h_16,hc_8⟩:=bind_some hc_8
    refine aP [(0,(vL eS l_1)),(5,(vL eS l_1)),(6,(vI (l_1.length:Int))),(7,(vI (k_2:Int))),(25,(vB v_15))] [] ?_ ?_
    ·refine au (aa (vI (k_2:Int)) (aa (vB (decide ((k_2:Int)>0))) ?_))
     rcases aj h_16 with⟨hc_17,h_16⟩|⟨hc_17,h_16⟩
     ·refine aB rfl hc_17 wz (aJ (vS x_4) wa rfl (aJ (vL eS l_1) wa rfl (aJ (vI (k_2:Int)) wa rfl (aJ (vI (w64 ((k_2:Int)-1))) wa rfl ?_))))
      obtain ⟨y_18,hy_19,h_16⟩:=bind_some h_16
      refine dY nM rfl rfl hy_19 rfl wa (bI sz9 ag9 rfl (vS y_18) rfl wa (aJ (vB (sLe x_4 y_18)) wa rfl (aa (vB (sLe x_4 y_18)) (ah ?_))))
      obtain rfl:=ae h_16
      exact cu
     ·refine aB rfl hc_17 wz (af (af (af (af (af (af (af (aa (vB false) (ah ?_)))))))))
      obtain rfl:=ae h_16
      exact cu
    ·rintro ⟨⟩ _ sl_ H_ hp_ hq_
     refine aN _ hp_ hq_ ?_
     rcases aj hc_8 with⟨hc_20,hc_8⟩|⟨hc_20,hc_8⟩
     ·refine ay rfl hc_20 (ai (aa (vI 7) (ah ?_)))
      obtain rfl:=ae hc_8
      obtain rfl:=ae hL_9
      obtain rfl:=ae hF
      exact aA (aK [(vI 7)] ⟨rfl,trivial⟩)
     ·refine ax rfl hc_20 (av (au (dZ (bn hD_5 hn_6) wz rfl (aa (vI ((k_2+1:Nat):Int)) (ah ?_)))))
      obtain rfl:=ae hc_8
      exact aU (k_2+1,l_3,()) ⟨hL_9,aR hD_5⟩ (ls_ _) rfl (aH rfl)
 ·rintro s_7 ho_ sl_ H_ hp_ hq_
  subst ho_
  refine aN _ hp_ hq_ (ai (aa (vI 0) (ah ?_)))
  obtain rfl:=ae hF
  exact aA (aK [(vI 0)] ⟨rfl,trivial⟩)
theorem xP {l_1:(List ByteArray)} {r:Int} (hF:jG l_1=some r) :
  FnM Tryz.prog 138 [(vL eS l_1)] [] (vI r) []:=by
 refine FnM.of_wH ⟨Tryz.prog,8,[],[]⟩ rfl Tryz.func138 rfl rfl (lb_ rfl) (by kernel_rfl) ?_
 unfold jG at hF
 refine ai (aa (vI 0) (ah (ak (ai (aa (vL eS l_1) (bG uT rfl wz (aa (vB (decide ((l_1.length:Int)>20))) (ah ?_))))))))
 rcases aj hF with⟨hc_2,hF⟩|⟨hc_2,hF⟩
 ·refine ay rfl hc_2 (ai (aa (vI 2) (ah ?_)))
  obtain rfl:=ae hF
  exact aA (aK [(vI 2)] ⟨rfl,trivial⟩)
 ·refine ax rfl hc_2 (av (ai (aa (vL eS l_1) ?_)))
  obtain ⟨r_3,hr_4,hF⟩:=bind_some hF
  refine aF (sF hr_4) rfl hb140 rfl rfl rfl rfl wz (aa (vI r_3) (ah ?_))
  obtain rfl:=ae hF
  exact aA (aK [(vI r_3)] ⟨rfl,trivial⟩)
theorem wZ {e_1:Entry} {r:Int} (hF:je e_1=some r) :
  FnM Tryz.prog 105 [(.d (.agg (Entry.enc e_1)))] [] (vI r) []:=by
 refine FnM.of_wH ⟨Tryz.prog,61,[],[]⟩ rfl Tryz.func105 rfl rfl (lb_ rfl) (by kernel_rfl) ?_
 unfold je at hF
 refine ai (gQ 0 (.inl rfl) (Entry.v e_1) rfl rfl wz (λn_2=>aa (vI 0) (ah (ak (ak ?_)))))
 obtain ⟨v_3,h_4,hF⟩:=bind_some hF
 refine aP [(1,(.ref n_2 0 0)),(13,(vB v_3))] [(n_2,some (.cells 13 (Entry.v e_1)))] ?_ ?_
 ·refine au (aG KW rfl 0 rfl wz (aC 0 0 il ft sz9 ag9 rfl rfl (vS e_1.Key) rfl wz ?_))
  obtain ⟨r_5,hr_6,h_4⟩:=bind_some h_4
  refine aF (iy hr_6) rfl Ep rfl rfl rfl rfl wz (aa (vB (!r_5)) ?_)
  rcases aj h_4 with⟨hc_7,h_4⟩|⟨hc_7,h_4⟩
  ·refine aB rfl hc_7 wz (af (af (af (af (aa (vB true) (ah ?_))))))
   obtain rfl:=ae h_4
   exact cu
  ·refine aB rfl hc_7 wz (aG pl80_1 rfl 1 rfl wa (aC 0 0 il ft sz9 ag9 rfl rfl (vS e_1.Item) rfl wa ?_))
   obtain ⟨r_8,hr_9,h_4⟩:=bind_some h_4
   refine aF (iy hr_9) rfl Ep rfl rfl rfl rfl wa (aJ (vB (!r_8)) wa rfl (aa (vB (!r_8)) (ah ?_)))
   obtain rfl:=ae h_4
   exact cu
 ·rintro ⟨⟩ _ sl_ H_ hp_ hq_
  refine aN _ hp_ hq_ ?_
  rcases aj hF with⟨hc_10,hF⟩|⟨hc_10,hF⟩
  ·refine ay rfl hc_10 (ai (aa (vI 5) (ah ?_)))
   obtain rfl:=ae hF
   exact aA (aK [(vI 5)] ⟨rfl,trivial⟩)
  ·refine ax rfl hc_10 (av (ak (ak ?_)))
   obtain ⟨v_11,h_12,hF⟩:=bind_some hF
   refine aP [(1,(.ref n_2 0 0)),(38,(vB v_11))] [(n_2,some (.cells 13 (Entry.v e_1)))] ?_ ?_
   ·refine au (aG pl80_2 rfl 2 rfl wz (aC 0 0 il ft sz3 ag3 rfl rfl (vI e_1.Version) rfl wz ?_))
    obtain ⟨r_13,hr_14,h_12⟩:=bind_some h_12
    refine aF (bB hr_14) rfl sW rfl rfl rfl rfl wz ?_
    rcases aj h_12 with⟨hc_15,h_12⟩|⟨hc_15,h_12⟩
    ·refine aB rfl hc_15 wz (af (af (af (af (af (aa (vB true) (aa (vB true) (af (af (af (aa (vB true) (aa (vB true) (af (af (af (aa (vB true) (aa (vB true) (af (af (af (aa (vB true) (ah ?_))))))))))))))))))))))
     obtain rfl:=ae h_12
     exact cu
    ·refine aB rfl hc_15 wz (aG Ij rfl 3 rfl wa (aC 0 0 il ft sz3 ag3 rfl rfl (vI e_1.First) rfl wa (aG Hy rfl 4 rfl wa (aC 0 0 il ft sz3 ag3 rfl rfl (vI e_1.Last) rfl wa ?_))))
     obtain ⟨r_16,hr_17,h_12⟩:=bind_some h_12
     refine aF (bB hr_17) rfl sW rfl rfl rfl rfl wa (aa (vB r_16) ?_)
     rcases aj h_12 with⟨hc_18,h_12⟩|⟨hc_18,h_12⟩
     ·refine aB rfl hc_18 wz (af (af (af (aa (vB true) (aa (vB true) (af (af (af (aa (vB true) (aa (vB true) (af (af (af (aa (vB true) (ah ?_)))))))))))))))
      obtain rfl:=ae h_12
      exact cu
     ·refine aB rfl hc_18 wz (aG Hy rfl 4 rfl wa (aC 0 0 il ft sz3 ag3 rfl rfl (vI e_1.Last) rfl wa (aJ (vB (decide (e_1.Last>4000))) wa rfl (aa (vB (decide (e_1.Last>4000))) ?_))))
      rcases aj h_12 with⟨hc_19,h_12⟩|⟨hc_19,h_12⟩
      ·refine aB rfl hc_19 wz (af (af (af (aa (vB true) (aa (vB true) (af (af (af (aa (vB true) (ah ?_))))))))))
       obtain rfl:=ae h_12
       exact cu
      ·refine aB rfl hc_19 wz (aG OX rfl 5 rfl wa (aC 0 0 il ft sz3 ag3 rfl rfl (vI e_1.Every) rfl wa ?_))
       obtain ⟨r_20,hr_21,h_12⟩:=bind_some h_12
       refine aF (bB hr_21) rfl sW rfl rfl rfl rfl wa (aa (vB r_20) ?_)
       rcases aj h_12 with⟨hc_22,h_12⟩|⟨hc_22,h_12⟩
       ·refine aB rfl hc_22 wz (af (af (af (aa (vB true) (ah ?_)))))
        obtain rfl:=ae h_12
        exact cu
       ·refine aB rfl hc_22 wz (aG OP rfl 6 rfl wa (aC 0 0 il ft sz3 ag3 rfl rfl (vI e_1.Days) rfl wa ?_))
        obtain ⟨r_23,hr_24,h_12⟩:=bind_some h_12
        refine aF (bB hr_24) rfl sW rfl rfl rfl rfl wa (aa (vB r_23) (ah ?_))
        obtain rfl:=ae h_12
        exact cu
   ·rintro ⟨⟩ _ sl_ H_ hp_ hq_
    refine aN _ hp_ hq_ ?_
    rcases aj hF with⟨hc_25,hF⟩|⟨hc_25,hF⟩
    ·refine ay rfl hc_25 (ai (aa (vI 1) (ah ?_)))
     obtain rfl:=ae hF
     exact aA (aK [(vI 1)] ⟨rfl,trivial⟩)
    ·refine ax rfl hc_25 (av (ak (ai (aG PY rfl 7 rfl wz (aC 0 0 il ft DD Jf rfl rfl (vL eI e_1.Except) rfl wz ?_)))))
     obtain ⟨r_26,hr_27,hF⟩:=bind_some hF
     refine aF (vG hr_27) rfl hb137 rfl rfl rfl rfl wz (aa (vI r_26) (ah (ai (aa (vI r_26) (aa (vB (r_26 != 0)) (ah ?_))))))
     rcases aj hF with⟨hc_28,hF⟩|⟨hc_28,hF⟩
     ·refine ay rfl hc_28 (ai (aa (vI r_26) (aa (vI r_26) (ah ?_))))
      obtain rfl:=ae hF
      exact aA (aK [(vI r_26)] ⟨rfl,trivial⟩)
     ·refine ax rfl hc_28 (av (ak (ak ?_)))
      obtain ⟨v_29,h_30,hF⟩:=bind_some hF
      refine aP [(1,(.ref n_2 0 0)),(57,(vB v_29))] [(n_2,some (.cells 13 (Entry.v e_1)))] ?_ ?_
      ·refine au (aG K7 rfl 8 rfl wz (aC 0 0 il ft sz3 ag3 rfl rfl (vI e_1.From) rfl wz ?_))
       obtain ⟨r_31,hr_32,h_30⟩:=bind_some h_30
       refine aF (bB hr_32) rfl sW rfl rfl rfl rfl wz ?_
       rcases aj h_30 with⟨hc_33,h_30⟩|⟨hc_33,h_30⟩
       ·refine aB rfl hc_33 wz (af (af (af (aa (vB true) (aa (vB true) (af (af (af (aa (vB true) (ah ?_))))))))))
        obtain rfl:=ae h_30
        exact cu
       ·refine aB rfl hc_33 wz (aG QP rfl 9 rfl wa (aC 0 0 il ft sz3 ag3 rfl rfl (vI e_1.To) rfl wa ?_))
        obtain ⟨r_34,hr_35,h_30⟩:=bind_some h_30
        refine aF (bB hr_35) rfl sW rfl rfl rfl rfl wa (aa (vB r_34) ?_)
        rcases aj h_30 with⟨hc_36,h_30⟩|⟨hc_36,h_30⟩
        ·refine aB rfl hc_36 wz (af (af (af (aa (vB true) (ah ?_)))))
         obtain rfl:=ae h_30
         exact cu
        ·refine aB rfl hc_36 wz (aG pl80_10 rfl 10 rfl wa (aC 0 0 il ft sz3 ag3 rfl rfl (vI e_1.Prio) rfl wa ?_))
         obtain ⟨r_37,hr_38,h_30⟩:=bind_some h_30
         refine aF (bB hr_38) rfl sW rfl rfl rfl rfl wa (aa (vB r_37) (ah ?_))
         obtain rfl:=ae h_30
         exact cu
      ·rintro ⟨⟩ _ sl_ H_ hp_ hq_
       refine aN _ hp_ hq_ ?_
       rcases aj hF with⟨hc_39,hF⟩|⟨hc_39,hF⟩
       ·refine ay rfl hc_39 (ai (aa (vI 1) (ah ?_)))
        obtain rfl:=ae hF
        exact aA (aK [(vI 1)] ⟨rfl,trivial⟩)
       ·refine ax rfl hc_39 (av (ai (aG pl80_11 rfl 11 rfl wz (aC 0 0 il ft xK zW rfl rfl (vL eS e_1.Tags) rfl wz ?_))))
        obtain ⟨r_40,hr_41,hF⟩:=bind_some hF
        refine aF (xP hr_41) rfl hb138 rfl rfl rfl rfl wz (aa (vI r_40) (ah ?_))
        obtain rfl:=ae hF
        exact aA (aK [(vI r_40)] ⟨rfl,trivial⟩)
end Go.Proofs.YtkjlhdminmpmkabGreatDoor.Law

