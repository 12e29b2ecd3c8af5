/-
 The machine computes these plain functions (written by a program of ours).
-/
import Derived.Test.YtjhcehhmdmbleaaGreatDoorFacts
import Derived.Test.YtjhcehhmdmbleaaGreatDoorDefs
import Derived.Test.YtjhcehhmdmbleaaGreatDoorPf3
open Go Go.Eng Go.Proofs
namespace Go.Proofs.YtjhcehhmdmbleaaGreatDoor.Law
set_option maxRecDepth 100000
set_option linter.unusedVariables false
set_option maxHeartbeats 1000000
theorem mX {slices_1:(List (List Rect))} {r:(List Rect)} (hF:eO slices_1=some r) :
  FnM Tryz.prog 145 [(vL (eL Rect.enc) slices_1)] [] (vL Rect.enc r) []:=by
 refine FnM.of_wH ⟨Tryz.prog,36,[],[]⟩ rfl Tryz.func145 rfl rfl (Nat.le_of_ble_eq_true rfl) (by kernel_rfl) ?_
 unfold eO at hF
 refine af (aa (ae .nil wz rfl (aj (af (aa (ae (vI 0) wz rfl (aj (af (af (aa (ae (vL (eL Rect.enc) slices_1) wz rfl (cO un260 rfl wz (ae (vI 0) wz rfl (aj ?_))))))))))))))
 obtain ⟨o_10,hj_11,hF⟩:=bind_some hF
 obtain ⟨hn_6,hj_11⟩:=bv hj_11
 refine aH (β:=(Int)) (fun (s_7:Int)=>([(0,(vL (eL Rect.enc) slices_1)),(3,(vI s_7))]:List (Nat×V))) (fun (s_7:Int)=>([]:Hp)) (fun p=>o_10 = .go p) ?_ ?_
 ·refine aC (aV (β:=Nat×(List (List Rect))×(Int)) (fun p=>(fun (k_2:Nat) (l_3:List (List Rect)) (s_7:Int)=>([(0,(vL (eL Rect.enc) slices_1)),(3,(vI s_7)),(9,(vL (eL Rect.enc) slices_1)),(10,(vI (slices_1.length:Int))),(11,(vI (k_2:Int)))]:List (Nat×V))) p.1 p.2.1 p.2.2) (fun p=>(fun (k_2:Nat) (l_3:List (List Rect)) (s_7:Int)=>([]:Hp)) p.1 p.2.1 p.2.2) (fun p=>forR (fun k x s=>fM k x s) p.2.1 p.1 p.2.2=some o_10∧(slices_1).drop p.1=p.2.1) (fun p=>p.2.1.length) (0,slices_1,0) ⟨hj_11,rfl⟩ rfl (aJ rfl) ?_)
  rintro ⟨k_2,l_3,s_7⟩ ⟨hL_9,hD_5⟩
  dsimp only at hL_9 hD_5
  cases l_3 with
  | nil =>
   obtain rfl:=ah hL_9
   refine af (aa (ae (vB (decide ((k_2:Int) < (slices_1.length:Int)))) wz rfl (aj ?_)))
   refine af (ay rfl (drop_nil hD_5) (aQ ?_))
   exact aR (s_7) rfl rfl (aJ rfl)
  | cons x_4 l_3 =>
   obtain ⟨c_,hc_8,hL_9⟩:=bind_some hL_9
   refine af (aa (ae (vB (decide ((k_2:Int) < (slices_1.length:Int)))) wz rfl (aj ?_)))
   refine af (aA rfl (bL hD_5) (av ?_))
   unfold fM at hc_8
   refine af (aC (af (aa (dU Mt rfl rfl (bT hD_5) rfl wz (bN KM KD rfl (vL Rect.enc x_4) rfl wz (ae (vL Rect.enc x_4) wz rfl (aj (af (aa (ae (vI s_7) wz rfl (ae (vL Rect.enc x_4) wz rfl (cO AA rfl wz (ae (vI (w64 (s_7 + (x_4.length:Int)))) wz rfl (ae (vI (w64 (s_7 + (x_4.length:Int)))) wz rfl (aj (af (aa (ae (vI (w64 (s_7 + (x_4.length:Int)))) wz rfl (ae (vB (decide ((w64 (s_7 + (x_4.length:Int))) < 0))) wz rfl (aj ?_))))))))))))))))))))
   obtain ⟨v_12,h_13,hc_8⟩:=bind_some hc_8
   refine aH (β:=Unit) (fun _=>([(0,(vL (eL Rect.enc) slices_1)),(3,(vI (w64 (s_7 + (x_4.length:Int))))),(9,(vL (eL Rect.enc) slices_1)),(10,(vI (slices_1.length:Int))),(11,(vI (k_2:Int)))]:List (Nat×V))) (fun _=>([]:Hp)) (fun _=>True) ?_ ?_
   ·rcases au h_13 with⟨hc_14,h_13⟩ | ⟨hc_14,h_13⟩
    ·refine aA rfl hc_14 (aa ?_)
     cases h_13
    ·refine ay rfl hc_14 (av ?_)
     obtain rfl:=ah h_13
     exact cu
   ·rintro ⟨⟩ _ sl_ H_ hp_ hq_
    refine aL _ hp_ hq_ (aa (fJ (bO hD_5 hn_6) wz rfl (ae (vI ((k_2 + 1:Nat):Int)) wz rfl (aj ?_))))
    obtain rfl:=ah hc_8
    exact aP (k_2 + 1,l_3,(w64 (s_7 + (x_4.length:Int)))) ⟨hL_9,aW hD_5⟩ (Nat.lt_succ_self _) rfl (aJ rfl)
 ·rintro s_7 ho_ sl_ H_ hp_ hq_
  subst ho_
  refine aL _ hp_ hq_ (af (aa (ae (vI s_7) wz rfl ?_)))
  obtain ⟨b_15,hr_16,hF⟩:=bind_some hF
  refine h_callk (enc:=Rect.enc) (mZ hr_16) rfl hb193 (by kernel_rfl) rfl (by kernel_rfl) wz (fun n_17=>ae (kV b_15 n_17 4 ([]:List Rect)) wz rfl (aj (af (af (aa (ae (vL (eL Rect.enc) slices_1) wz rfl (cO un260 rfl wz (ae (vI 0) wz rfl (aj ?_)))))))))
  obtain ⟨o_28,hj_29,hF⟩:=bind_some hF
  obtain ⟨hn_22,hj_29⟩:=bv hj_29
  refine aH (β:=((List Rect))×Nm) (fun p=>(fun (s_23:(List Rect)) (n_25:Nm)=>([(6,(kV b_15 n_25 4 s_23))]:List (Nat×V))) p.1 p.2) (fun p=>(fun (s_23:(List Rect)) (n_25:Nm)=>([(n_25,kB b_15 4 Rect.enc s_23)]:Hp)) p.1 p.2) (fun p=>o_28 = .go p.1) ?_ ?_
  ·refine aC (aV (β:=Nat×(List (List Rect))×((List Rect))×Nm) (fun p=>(fun (k_18:Nat) (l_19:List (List Rect)) (s_23:(List Rect)) (n_25:Nm)=>([(6,(kV b_15 n_25 4 s_23)),(25,(vL (eL Rect.enc) slices_1)),(26,(vI (slices_1.length:Int))),(27,(vI (k_18:Int)))]:List (Nat×V))) p.1 p.2.1 p.2.2.1 p.2.2.2) (fun p=>(fun (k_18:Nat) (l_19:List (List Rect)) (s_23:(List Rect)) (n_25:Nm)=>([(n_25,kB b_15 4 Rect.enc s_23)]:Hp)) p.1 p.2.1 p.2.2.1 p.2.2.2) (fun p=>forR (fun k x s=>fK k x s) p.2.1 p.1 p.2.2.1=some o_28∧(slices_1).drop p.1=p.2.1) (fun p=>p.2.1.length) (0,slices_1,([]:List Rect),n_17) ⟨hj_29,rfl⟩ rfl (aJ rfl) ?_)
   rintro ⟨k_18,l_19,s_23,n_25⟩ ⟨hL_27,hD_21⟩
   dsimp only at hL_27 hD_21
   cases l_19 with
   | nil =>
    obtain rfl:=ah hL_27
    refine af (aa (ae (vB (decide ((k_18:Int) < (slices_1.length:Int)))) wz rfl (aj ?_)))
    refine af (ay rfl (drop_nil hD_21) (aQ ?_))
    exact aR (s_23,n_25) rfl rfl (aJ rfl)
   | cons x_20 l_19 =>
    obtain ⟨c_,hc_26,hL_27⟩:=bind_some hL_27
    refine af (aa (ae (vB (decide ((k_18:Int) < (slices_1.length:Int)))) wz rfl (aj ?_)))
    refine af (aA rfl (bL hD_21) (av ?_))
    unfold fK at hc_26
    refine af (aC (af (aa (dU Mt rfl rfl (bT hD_21) rfl wz (bN KM KD rfl (vL Rect.enc x_20) rfl wz (ae (vL Rect.enc x_20) wz rfl (aj (aa (ae (kV b_15 n_25 4 s_23) wz rfl (ae (vL Rect.enc x_20) wz rfl ?_))))))))))
    obtain ⟨a_30,hz_31,hc_26⟩:=bind_some hc_26
    refine M0 0 il ft (i:=0) Je Je wB z45 rfl (by decide) by45 (by decide) (fun _=>rfl) rfl rfl rfl hz_31 wz (fun n_32=>ae (kV b_15 n_32 4 a_30) wz rfl (aj (aa (fJ (bO hD_21 hn_22) wz rfl (ae (vI ((k_18 + 1:Nat):Int)) wz rfl (aj ?_))))))
    obtain rfl:=ah hc_26
    exact aP (k_18 + 1,l_19,a_30,n_32) ⟨hL_27,aW hD_21⟩ (Nat.lt_succ_self _) rfl (aJ rfl)
  ·rintro ⟨s_23,n_25⟩ ho_ sl_ H_ hp_ hq_
   subst ho_
   refine aL _ hp_ hq_ (af (aa (ae (kV b_15 n_25 4 s_23) wz rfl (ae (kV b_15 n_25 4 s_23) wz rfl (aj (Lx 0 rfl (IM 2 0 rfl rfl (IM 6 0 rfl rfl (IM 35 0 rfl rfl ?_)))))))))
   obtain rfl:=ah hF
   exact aB (aO (.inr rfl) [(vL Rect.enc s_23)] ⟨rfl,trivial⟩ rfl rfl rfl)
theorem AY {a_1:Run} {b_2:Run} {r:Int} (hF:sP a_1 b_2=some r) :
  FnM Tryz.prog 195 [(.d (.agg (Run.enc a_1))),(.d (.agg (Run.enc b_2)))] [] (vI r) []:=by
 refine FnM.of_wH ⟨Tryz.prog,10,[],[]⟩ rfl Tryz.func195 rfl rfl (Nat.le_of_ble_eq_true rfl) (by kernel_rfl) ?_
 unfold sP at hF
 refine af (aa (ek 0 (.inl rfl) [(vI a_1.f_from),(vI a_1.f_to)] rfl rfl wz (fun n_3=>ek 0 (.inl rfl) [(vI b_2.f_from),(vI b_2.f_to)] rfl rfl wz (fun n_4=>ae (vI 0) wz rfl (aj (af (aa (aI kX rfl 0 rfl wz (aD 0 0 il ft sz3 ag3 rfl rfl (vI a_1.f_from) rfl wz (aI kX rfl 0 rfl wz (aD 0 1 il ft sz3 ag3 rfl rfl (vI b_2.f_from) rfl wz (ae (vI (w64 (a_1.f_from - b_2.f_from))) wz rfl (ae (vI (w64 (a_1.f_from - b_2.f_from))) wz rfl (aj ?_))))))))))))))
 obtain rfl:=ah hF
 exact aB (aO (.inr rfl) [(vI (w64 (a_1.f_from - b_2.f_from)))] ⟨rfl,trivial⟩ rfl rfl rfl)
theorem jT {data_1:(List Run)} {a_2:Int} {b_3:Int} {r:(List Run)} (hF:bP data_1 a_2 b_3=some r) :
  FnM Tryz.prog 304 [(dV (ax 0) 2 data_1),(vI a_2),(vI b_3),(.fn 195 [])] (([]:List Box)++gI 2 Run.enc data_1) (.tup []) (([]:List Box).map some++gT data_1 (gB 2 Run.enc r)):=by
 refine FnM.of_wHv ⟨Tryz.prog,53,[],[]⟩ rfl Tryz.func304 rfl rfl (Nat.le_of_ble_eq_true rfl) (by kernel_rfl) ?_
 unfold bP at hF
 refine af (aa (ae (vI a_2) wz rfl (ae (vI (w64 (a_2 + 1))) wz rfl (ae (vI (w64 (a_2 + 1))) wz rfl (aj ?_)))))
 obtain ⟨o_13,hj_14,hF⟩:=bind_some hF
 obtain ⟨nq_51,hj_14⟩:=cz hj_14
 refine aH (β:=((List Run)×Int)) (fun (s_10:(List Run)×Int)=>([]:List (Nat×V))) (fun (s_10:(List Run)×Int)=>([((ax 0),gB 2 Run.enc s_10.1)]:Hp)) (fun p=>o_13 = .go p) ?_ ?_
 ·refine aC (aV (β:=Nat×((List Run)×Int)) (fun p=>(fun (k_5:Nat) (s_10:(List Run)×Int)=>([(0,(dV (ax 0) 2 s_10.1)),(1,(vI a_2)),(2,(vI b_3)),(3,(.fn 195 [])),(8,(vI s_10.2))]:List (Nat×V))) p.1 p.2) (fun p=>(fun (k_5:Nat) (s_10:(List Run)×Int)=>([((ax 0),gB 2 Run.enc s_10.1)]:Hp)) p.1 p.2) (fun p=>iterN (fun s=>bJ b_3 a_2 s) p.1 p.2=some o_13) (fun p=>p.1) (nq_51,(data_1,(w64 (a_2 + 1)))) hj_14 rfl (aJ rfl) ?_)
  rintro ⟨k_5,s_10⟩ hL_12
  dsimp only at hL_12
  cases k_5 with
  | zero=>cases hL_12
  | succ k_5 =>
   obtain ⟨c_,hc_11,hL_12⟩:=bind_some hL_12
   unfold bJ at hc_11
   refine af (af (aa (ae (vI s_10.2) wz rfl (ae (vI b_3) wz rfl (ae (vB (decide (s_10.2 < b_3))) wz rfl (aj ?_))))))
   rcases au hc_11 with⟨hc_15,hc_11⟩ | ⟨hc_15,hc_11⟩
   ·refine aA rfl hc_15 (av (af (aC (af (aa (ae (vI s_10.2) wz rfl (ae (vI s_10.2) wz rfl (aj ?_))))))))
    obtain ⟨o_24,hj_25,hc_11⟩:=bind_some hc_11
    obtain ⟨nq_50,hj_25⟩:=cz hj_25
    refine aH (β:=((List Run)×Int)) (fun (s_21:(List Run)×Int)=>([(0,(dV (ax 0) 2 s_21.1)),(1,(vI a_2)),(2,(vI b_3)),(3,(.fn 195 [])),(8,(vI s_10.2))]:List (Nat×V))) (fun (s_21:(List Run)×Int)=>([((ax 0),gB 2 Run.enc s_21.1)]:Hp)) (fun p=>o_24 = .go p) ?_ ?_
    ·refine aC (aV (β:=Nat×((List Run)×Int)) (fun p=>(fun (k_16:Nat) (s_21:(List Run)×Int)=>([(0,(dV (ax 0) 2 s_21.1)),(1,(vI a_2)),(2,(vI b_3)),(3,(.fn 195 [])),(8,(vI s_10.2)),(9,(vI s_21.2))]:List (Nat×V))) p.1 p.2) (fun p=>(fun (k_16:Nat) (s_21:(List Run)×Int)=>([((ax 0),gB 2 Run.enc s_21.1)]:Hp)) p.1 p.2) (fun p=>iterN (fun s=>cK a_2 s) p.1 p.2=some o_24) (fun p=>p.1) (nq_50,(s_10.1,s_10.2)) hj_25 rfl (aJ rfl) ?_)
     rintro ⟨k_16,s_21⟩ hL_23
     dsimp only at hL_23
     cases k_16 with
     | zero=>cases hL_23
     | succ k_16 =>
      obtain ⟨c_,hc_22,hL_23⟩:=bind_some hL_23
      unfold cK at hc_22
      refine af (af ?_)
      obtain ⟨v_26,h_27,hc_22⟩:=bind_some hc_22
      refine aH (β:=Unit) (fun _=>([(0,(dV (ax 0) 2 s_21.1)),(1,(vI a_2)),(2,(vI b_3)),(3,(.fn 195 [])),(8,(vI s_10.2)),(9,(vI s_21.2)),(34,(vB v_26))]:List (Nat×V))) (fun _=>([((ax 0),gB 2 Run.enc s_21.1)]:Hp)) (fun _=>True) ?_ ?_
      ·refine bC (ae (vI s_21.2) wz rfl (ae (vI a_2) wz rfl (ae (vB (decide (s_21.2 > a_2))) wz rfl ?_)))
       rcases au h_27 with⟨hc_28,h_27⟩ | ⟨hc_28,h_27⟩
       ·refine aF rfl hc_28 wz (ae (.fn 195 []) wa rfl (ae (dV (ax 0) 2 s_21.1) wa rfl (ae (vI s_21.2) wa rfl ?_)))
        obtain ⟨_,hi_29,h_27⟩:=bind_some h_27
        refine lM lH rfl rfl (jf hi_29) (gm hi_29) wa ?_
        obtain ⟨e_30,hy_31,h_27⟩:=bind_some h_27
        refine ko 8 0 (.inr (by kernel_rfl)) (fun _ _ ag=>trivial) nE wW rfl rfl hy_31 (.d (.agg (Run.enc e_30))) rfl wa (ae (dV (ax 0) 2 s_21.1) wa rfl (ae (vI s_21.2) wa rfl (ae (vI (w64 (s_21.2 - 1))) wa rfl ?_)))
        obtain ⟨_,hi_32,h_27⟩:=bind_some h_27
        refine lM lH rfl rfl (jf hi_32) (gm hi_32) wa ?_
        obtain ⟨e_33,hy_34,h_27⟩:=bind_some h_27
        refine ko 13 0 (.inr (by kernel_rfl)) (fun _ _ ag=>⟨.inl ⟨rfl,rfl⟩,trivial⟩) nE wW rfl rfl hy_34 (.d (.agg (Run.enc e_33))) rfl wa ?_
        obtain ⟨r_35,hr_36,h_27⟩:=bind_some h_27
        refine aG (AY hr_36) rfl hb195 rfl rfl rfl rfl wa (ae (vB (decide (r_35 < 0))) wa rfl (ae (vB (decide (r_35 < 0))) wz rfl (aj ?_)))
        obtain rfl:=ah h_27
        exact cu
       ·refine aF rfl hc_28 wz (ak wa (ak wa (ak wa (ak wa (ak wa (ak wa (ak wa (ak wa (ak wa (ak wa (ak wa (ak wa (ae (vB false) wz rfl (aj ?_))))))))))))))
        obtain rfl:=ah h_27
        exact cu
      ·rintro ⟨⟩ _ sl_ H_ hp_ hq_
       refine aL _ hp_ hq_ ?_
       rcases au hc_22 with⟨hc_37,hc_22⟩ | ⟨hc_37,hc_22⟩
       ·refine aA rfl hc_37 (av (af (aC (bC (ae (dV (ax 0) 2 s_21.1) wz rfl (ae (vI s_21.2) wz rfl (ae (dV (ax 0) 2 s_21.1) wz rfl (ae (vI s_21.2) wz rfl (ae (vI (w64 (s_21.2 - 1))) wz rfl (ae (dV (ax 0) 2 s_21.1) wz rfl (ae (vI s_21.2) wz rfl (ae (vI (w64 (s_21.2 - 1))) wz rfl ?_))))))))))))
        obtain ⟨_,hi_38,hc_22⟩:=bind_some hc_22
        refine lM lH rfl rfl (jf hi_38) (gm hi_38) wz ?_
        obtain ⟨e_39,hy_40,hc_22⟩:=bind_some hc_22
        refine ko 9 0 (.inr (by kernel_rfl)) (fun _ _ ag=>trivial) nE wW rfl rfl hy_40 (.d (.agg (Run.enc e_39))) rfl wz (ae (dV (ax 0) 2 s_21.1) wz rfl (ae (vI s_21.2) wz rfl ?_))
        obtain ⟨_,hi_41,hc_22⟩:=bind_some hc_22
        refine lM lH rfl rfl (jf hi_41) (gm hi_41) wz ?_
        obtain ⟨e_42,hy_43,hc_22⟩:=bind_some hc_22
        refine ko 13 0 (.inr (by kernel_rfl)) (fun _ _ ag=>⟨.inl ⟨rfl,rfl⟩,trivial⟩) nE wW rfl rfl hy_43 (.d (.agg (Run.enc e_42))) rfl wz ?_
        obtain ⟨_,hi_44,hc_22⟩:=bind_some hc_22
        refine lM lH rfl rfl (jf hi_44) (gm hi_44) wz ?_
        obtain ⟨e_45,hy_46,hc_22⟩:=bind_some hc_22
        refine yX 15 (.inr (by kernel_rfl)) (fun _ _ ag=>⟨.inr (.inr (by kernel_rfl)),⟨.inr (.inr (by kernel_rfl)),trivial⟩⟩) 0 nE rfl rfl hy_46 e_39 rfl wz (dN (v':=(dV (ax 0) 2 (s_21.1.set (0 + (s_21.2).toNat) e_39))) 0 rfl (fV (by simp)) (dN (v':=(dV (ax 0) 2 (s_21.1.set (0 + (s_21.2).toNat) e_39))) 37 rfl (fV (by simp)) (dN (v':=(dV (ax 0) 2 (s_21.1.set (0 + (s_21.2).toNat) e_39))) 39 rfl (fV (by simp)) (dN (v':=(dV (ax 0) 2 (s_21.1.set (0 + (s_21.2).toNat) e_39))) 42 rfl (fV (by simp)) (dN (v':=(dV (ax 0) 2 (s_21.1.set (0 + (s_21.2).toNat) e_39))) 47 rfl (fV (by simp)) ?_)))))
        obtain ⟨_,hi_47,hc_22⟩:=bind_some hc_22
        refine lM lH rfl rfl (jf hi_47) (gm hi_47) wz ?_
        obtain ⟨e_48,hy_49,hc_22⟩:=bind_some hc_22
        refine yX 17 (.inr (by kernel_rfl)) (fun _ _ ag=>⟨.inr (.inr (by kernel_rfl)),⟨.inr (.inr (by kernel_rfl)),⟨.inr (.inr (by kernel_rfl)),trivial⟩⟩⟩) 0 nE rfl rfl hy_49 e_42 rfl wz (dN (v':=(dV (ax 0) 2 ((s_21.1.set (0 + (s_21.2).toNat) e_39).set (0 + ((w64 (s_21.2 - 1))).toNat) e_42))) 0 rfl (fV (by simp)) (dN (v':=(dV (ax 0) 2 ((s_21.1.set (0 + (s_21.2).toNat) e_39).set (0 + ((w64 (s_21.2 - 1))).toNat) e_42))) 37 rfl (fV (by simp)) (dN (v':=(dV (ax 0) 2 ((s_21.1.set (0 + (s_21.2).toNat) e_39).set (0 + ((w64 (s_21.2 - 1))).toNat) e_42))) 39 rfl (fV (by simp)) (dN (v':=(dV (ax 0) 2 ((s_21.1.set (0 + (s_21.2).toNat) e_39).set (0 + ((w64 (s_21.2 - 1))).toNat) e_42))) 42 rfl (fV (by simp)) (dN (v':=(dV (ax 0) 2 ((s_21.1.set (0 + (s_21.2).toNat) e_39).set (0 + ((w64 (s_21.2 - 1))).toNat) e_42))) 47 rfl (fV (by simp)) (aj (aa (ae (vI s_21.2) wz rfl (ae (vI (w64 (s_21.2 - 1))) wz rfl (ae (vI (w64 (s_21.2 - 1))) wz rfl (aj ?_)))))))))))
        obtain rfl:=ah hc_22
        exact aP (k_16,(((s_21.1.set (0 + (s_21.2).toNat) e_39).set (0 + ((w64 (s_21.2 - 1))).toNat) e_42),(w64 (s_21.2 - 1)))) hL_23 (Nat.lt_succ_self _) rfl (aJ rfl)
       ·refine ay rfl hc_37 (aQ ?_)
        obtain rfl:=ah hc_22
        obtain rfl:=ah hL_23
        exact aR ((s_21.1,s_21.2)) rfl rfl (aJ rfl)
    ·rintro s_21 ho_ sl_ H_ hp_ hq_
     subst ho_
     refine aL _ hp_ hq_ (aa (ae (vI s_10.2) wz rfl (ae (vI (w64 (s_10.2 + 1))) wz rfl (ae (vI (w64 (s_10.2 + 1))) wz rfl (aj ?_)))))
     obtain rfl:=ah hc_11
     exact aP (k_5,(s_21.1,(w64 (s_10.2 + 1)))) hL_12 (Nat.lt_succ_self _) rfl (aJ rfl)
   ·refine ay rfl hc_15 (aQ ?_)
    obtain rfl:=ah hc_11
    obtain rfl:=ah hL_12
    exact aR ((s_10.1,s_10.2)) rfl rfl (aJ rfl)
 ·rintro s_10 ho_ sl_ H_ hp_ hq_
  subst ho_
  show vQ _ _ _ _ _ _ _ _
  obtain rfl:=ah hF
  exact BO (H0:=([((ax 0),gB 2 Run.enc s_10.1)]:Hp)) (sl':=envS []) hq_ (BM (bs:=([]:List Box)) (os:=([]:List Box)) (xs:=data_1) (o:=gB 2 Run.enc s_10.1) (.inl rfl) [] trivial rfl rfl rfl rfl rfl (by kernel_rfl) nT rfl)
theorem lm {data_1:(List Run)} {a_2:Int} {b_3:Int} {limit_4:Int} {r:(List Run)} (hF:dm data_1 a_2 b_3 limit_4=some r) :
  FnM Tryz.prog 263 [(dV (ax 0) 2 data_1),(vI a_2),(vI b_3),(vI limit_4),(.fn 195 [])] (([]:List Box)++gI 2 Run.enc data_1) (.tup []) (([]:List Box).map some++gT data_1 (gB 2 Run.enc r)):=by
 refine FnM.of_wHv ⟨Tryz.prog,148,[],[]⟩ rfl Tryz.func263 rfl rfl (Nat.le_of_ble_eq_true rfl) (by kernel_rfl) ?_
 unfold dm at hF
 refine af (aa (ae (vB true) wz rfl (aj (af (aa (ae (vB true) wz rfl (aj ?_)))))))
 obtain ⟨o_14,hj_15,hF⟩:=bind_some hF
 obtain ⟨nq_21,hj_15⟩:=cz hj_15
 refine aH (β:=(Unit)) (fun (s_11:Unit)=>([]:List (Nat×V))) (fun (s_11:Unit)=>([((ax 0),gB 2 Run.enc data_1)]:Hp)) (fun p=>o_14 = .go p) ?_ ?_
 ·refine aC (aV (β:=Nat×(Unit)) (fun p=>(fun (k_6:Nat) (s_11:Unit)=>([(0,(dV (ax 0) 2 data_1)),(1,(vI a_2)),(2,(vI b_3)),(3,(vI limit_4)),(4,(.fn 195 [])),(10,(vB true)),(11,(vB true))]:List (Nat×V))) p.1 p.2) (fun p=>(fun (k_6:Nat) (s_11:Unit)=>([((ax 0),gB 2 Run.enc data_1)]:Hp)) p.1 p.2) (fun p=>iterN (fun s=>cB b_3 a_2 data_1 limit_4 s) p.1 p.2=some o_14) (fun p=>p.1) (nq_21,()) hj_15 rfl (aJ rfl) ?_)
  rintro ⟨k_6,s_11⟩ hL_13
  dsimp only at hL_13
  cases k_6 with
  | zero=>cases hL_13
  | succ k_6 =>
   obtain ⟨c_,hc_12,hL_13⟩:=bind_some hL_13
   unfold cB at hc_12
   refine aC (af (aa (ae (vI b_3) wz rfl (ae (vI a_2) wz rfl (ae (vI (w64 (b_3 - a_2))) wz rfl (ae (vI (w64 (b_3 - a_2))) wz rfl (aj (af (af (aa (ae (vI (w64 (b_3 - a_2))) wz rfl (ae (vB (decide ((w64 (b_3 - a_2))≤12))) wz rfl (aj ?_)))))))))))))
   rcases au hc_12 with⟨hc_16,hc_12⟩ | ⟨hc_16,hc_12⟩
   ·refine aA rfl hc_16 (af (aa (ae (dV (ax 0) 2 data_1) wz rfl (ae (vI a_2) wz rfl (ae (vI b_3) wz rfl (ae (.fn 195 []) wz rfl ?_))))))
    obtain ⟨r_17,hr_18,hc_12⟩:=bind_some hc_12
    obtain ⟨_,hs_19,hc_12⟩:=bind_some hc_12
    replace hs_19:=nH hs_19
    refine mP 0 [] 0 0 il ft (jT hr_18) rfl hb304 rfl rfl rfl (by kernel_rfl) rfl (.inr (.inl rfl)) rfl (by kernel_rfl) (by kernel_rfl) (by kernel_rfl) (by kernel_rfl) rfl (by decide) (by kernel_rfl) nT (yh hs_19) wz ([((ax 0),gB 2 Run.enc r_17)]:Hp) (by kernel_rfl) (dN (v':=(dV (ax 0) 2 r_17)) 0 rfl (fV hs_19.symm) (dN (v':=(dV (ax 0) 2 r_17)) 26 rfl (fV hs_19.symm) (aj ?_)))
    obtain rfl:=ah hc_12
    obtain rfl:=ah hL_13
    obtain rfl:=ah hF
    exact aB (BM (bs:=([]:List Box)) (os:=([]:List Box)) (xs:=data_1) (o:=gB 2 Run.enc r_17) (.inr rfl) [] trivial rfl rfl rfl rfl rfl (by kernel_rfl) nT rfl)
   ·refine ay rfl hc_16 (av (af (af (aa (ae (vI limit_4) wz rfl (ae (vB (limit_4 == 0)) wz rfl (aj ?_)))))))
    rcases au hc_12 with⟨hc_20,hc_12⟩ | ⟨hc_20,hc_12⟩
    ·refine aA rfl hc_20 (af (aa (ae (dV (ax 0) 2 data_1) wz rfl (ae (vI a_2) wz rfl (ae (vI b_3) wz rfl (ae (.fn 195 []) wz rfl ?_))))))
     cases hc_12
    ·refine ay rfl hc_20 (av (af (af (aa (ae (vB true) wz rfl (ae (vB false) wz rfl (aj (ay rfl rfl (av (af (aa (ae (dV (ax 0) 2 data_1) wz rfl (ae (vI a_2) wz rfl (ae (vI b_3) wz rfl (ae (.fn 195 []) wz rfl ?_)))))))))))))))
     cases hc_12
 ·rintro s_11 ho_ sl_ H_ hp_ hq_
  subst ho_
  show vQ _ _ _ _ _ _ _ _
  obtain rfl:=ah hF
  exact BO (H0:=([((ax 0),gB 2 Run.enc data_1)]:Hp)) (sl':=envS []) hq_ (BM (bs:=([]:List Box)) (os:=([]:List Box)) (xs:=data_1) (o:=gB 2 Run.enc data_1) (.inl rfl) [] trivial rfl rfl rfl rfl rfl (by kernel_rfl) nT rfl)
theorem j3 {x_1:(List Run)} {r:(List Run)} (hF:bU x_1=some r) :
  FnM Tryz.prog 194 [(dV (ax 0) 2 x_1),(.fn 195 [])] (([]:List Box)++gI 2 Run.enc x_1) (.tup []) (([]:List Box).map some++gT x_1 (gB 2 Run.enc r)):=by
 refine FnM.of_wHv ⟨Tryz.prog,14,[],[]⟩ rfl Tryz.func194 rfl rfl (Nat.le_of_ble_eq_true rfl) (by kernel_rfl) ?_
 unfold bU at hF
 refine af (aa (ae (dV (ax 0) 2 x_1) wz rfl (AB yc rfl wz (ae (vI (x_1.length:Int)) wz rfl (aj (aa (ae (dV (ax 0) 2 x_1) wz rfl (ae (vI (x_1.length:Int)) wz rfl (ae (vI (x_1.length:Int)) wz rfl (mr un3 EK rfl wz ?_))))))))))
 obtain ⟨r_3,hr_4,hF⟩:=bind_some hF
 refine aG (tX hr_4) rfl hb167 rfl rfl rfl rfl wz (ae (.fn 195 []) wz rfl ?_)
 obtain ⟨r_5,hr_6,hF⟩:=bind_some hF
 obtain ⟨_,hs_7,hF⟩:=bind_some hF
 replace hs_7:=nH hs_7
 refine mP 0 [] 0 0 il ft (lm hr_6) rfl hb263 rfl rfl rfl (by kernel_rfl) rfl (.inr (.inl rfl)) rfl (by kernel_rfl) (by kernel_rfl) (by kernel_rfl) (by kernel_rfl) rfl (by decide) (by kernel_rfl) nT (yh hs_7) wz ([((ax 0),gB 2 Run.enc r_5)]:Hp) (by kernel_rfl) (dN (v':=(dV (ax 0) 2 r_5)) 0 rfl (fV hs_7.symm) (dN (v':=(dV (ax 0) 2 r_5)) 5 rfl (fV hs_7.symm) (dN (v':=(dV (ax 0) 2 r_5)) 7 rfl (fV hs_7.symm) (aj ?_))))
 show vQ _ _ _ _ _ _ _ _
 obtain rfl:=ah hF
 exact BM (bs:=([]:List Box)) (os:=([]:List Box)) (xs:=x_1) (o:=gB 2 Run.enc r_5) (.inl rfl) [] trivial rfl rfl rfl rfl rfl (by kernel_rfl) nT rfl
theorem wE {l_1:(List Rect)} {y_2:Int} {r:(List Run)} (hF:nC l_1 y_2=some r) :
  FnM Tryz.prog 147 [(vL Rect.enc l_1),(vI y_2)] [] (vL Run.enc r) []:=by
 refine FnM.of_wH ⟨Tryz.prog,84,[],[]⟩ rfl Tryz.func147 rfl rfl (Nat.le_of_ble_eq_true rfl) (by kernel_rfl) ?_
 unfold nC at hF
 refine af (aa (ae .nil wz rfl (aj (af (aa (ae .nil wz rfl (aj (af (af (aa (ae (vL Rect.enc l_1) wz rfl (cO AA rfl wz (ae (vI 0) wz rfl (aj (mo (fun n_9 => ?_))))))))))))))))
 obtain ⟨o_14,hj_15,hF⟩:=bind_some hF
 obtain ⟨hn_7,hj_15⟩:=bv hj_15
 refine aH (β:=((List Run))×Nm) (fun p=>(fun (s_8:(List Run)) (n_11:Nm)=>([(5,(gV n_11 2 s_8))]:List (Nat×V))) p.1 p.2) (fun p=>(fun (s_8:(List Run)) (n_11:Nm)=>([(n_11,gB 2 Run.enc s_8)]:Hp)) p.1 p.2) (fun p=>o_14 = .go p.1) ?_ ?_
 ·refine aC (aV (β:=Nat×(List Rect)×((List Run))×Nm) (fun p=>(fun (k_3:Nat) (l_4:List Rect) (s_8:(List Run)) (n_11:Nm)=>([(1,(vI y_2)),(5,(gV n_11 2 s_8)),(12,(vL Rect.enc l_1)),(13,(vI (l_1.length:Int))),(14,(vI (k_3:Int)))]:List (Nat×V))) p.1 p.2.1 p.2.2.1 p.2.2.2) (fun p=>(fun (k_3:Nat) (l_4:List Rect) (s_8:(List Run)) (n_11:Nm)=>([(n_11,gB 2 Run.enc s_8)]:Hp)) p.1 p.2.1 p.2.2.1 p.2.2.2) (fun p=>forR (fun k x s=>om y_2 k x s) p.2.1 p.1 p.2.2.1=some o_14∧(l_1).drop p.1=p.2.1) (fun p=>p.2.1.length) (0,l_1,([]:List Run),n_9) ⟨hj_15,rfl⟩ rfl (aJ rfl) ?_)
  rintro ⟨k_3,l_4,s_8,n_11⟩ ⟨hL_13,hD_6⟩
  dsimp only at hL_13 hD_6
  cases l_4 with
  | nil =>
   obtain rfl:=ah hL_13
   refine af (aa (ae (vB (decide ((k_3:Int) < (l_1.length:Int)))) wz rfl (aj ?_)))
   refine af (ay rfl (drop_nil hD_6) (aQ ?_))
   exact aR (s_8,n_11) rfl rfl (aJ rfl)
  | cons x_5 l_4 =>
   obtain ⟨c_,hc_12,hL_13⟩:=bind_some hL_13
   refine af (aa (ae (vB (decide ((k_3:Int) < (l_1.length:Int)))) wz rfl (aj ?_)))
   refine af (aA rfl (bL hD_6) (av ?_))
   unfold om at hc_12
   refine af (aC (af (aa (dU F3 rfl rfl (bT hD_6) rfl wz (bN wB GL rfl (.d (.agg (Rect.enc x_5))) rfl wz (dB 0 (.inl rfl) z45 rfl wz (fun n_16=>fH 0 il ft 1 wB rfl rfl [(vI x_5.X),(vI x_5.Y),(vI x_5.W),(vI x_5.H)] rfl wz (aj (af ?_)))))))))
   obtain ⟨v_17,h_18,hc_12⟩:=bind_some hc_12
   refine aH (β:=Unit) (fun _=>([(1,(vI y_2)),(5,(gV n_11 2 s_8)),(7,(.ref n_16 0 0)),(12,(vL Rect.enc l_1)),(13,(vI (l_1.length:Int))),(14,(vI (k_3:Int))),(30,(vB v_17))]:List (Nat×V))) (fun _=>([(n_11,gB 2 Run.enc s_8),(n_16,some (.cells 4 [(vI x_5.X),(vI x_5.Y),(vI x_5.W),(vI x_5.H)]))]:Hp)) (fun _=>True) ?_ ?_
   ·refine aa (aI wZ rfl 1 rfl wz (aD 0 1 il ft sz3 ag3 rfl rfl (vI x_5.Y) rfl wz (ae (vI y_2) wz rfl (ae (vB (decide (x_5.Y≤y_2))) wz rfl ?_))))
    rcases au h_18 with⟨hc_19,h_18⟩ | ⟨hc_19,h_18⟩
    ·refine aF rfl hc_19 wz (ae (vI y_2) wa rfl (aI wZ rfl 1 rfl wa (aD 0 1 il ft sz3 ag3 rfl rfl (vI x_5.Y) rfl wa (aI Dy rfl 3 rfl wa (aD 0 1 il ft sz3 ag3 rfl rfl (vI x_5.H) rfl wa (ae (vI (w64 (x_5.Y + x_5.H))) wa rfl (ae (vB (decide (y_2 < (w64 (x_5.Y + x_5.H))))) wa rfl (ae (vB (decide (y_2 < (w64 (x_5.Y + x_5.H))))) wz rfl (aj ?_)))))))))
     obtain rfl:=ah h_18
     exact cu
    ·refine aF rfl hc_19 wz (ak wa (ak wa (ak wa (ak wa (ak wa (ak wa (ak wa (ae (vB false) wz rfl (aj ?_)))))))))
     obtain rfl:=ah h_18
     exact cu
   ·rintro ⟨⟩ _ sl_ H_ hp_ hq_
    refine aL _ hp_ hq_ ?_
    obtain ⟨v_20,h_21,hc_12⟩:=bind_some hc_12
    refine aH (β:=Nm) (fun (n_22:Nm)=>([(1,(vI y_2)),(5,(gV n_22 2 v_20)),(12,(vL Rect.enc l_1)),(13,(vI (l_1.length:Int))),(14,(vI (k_3:Int)))]:List (Nat×V))) (fun (n_22:Nm)=>([(n_22,gB 2 Run.enc v_20),(n_16,some (.cells 4 [(vI x_5.X),(vI x_5.Y),(vI x_5.W),(vI x_5.H)]))]:Hp)) (fun _=>True) ?_ ?_
    ·rcases au h_21 with⟨hc_23,h_21⟩ | ⟨hc_23,h_21⟩
     ·refine aA rfl hc_23 (aa (ae (gV n_11 2 s_8) wz rfl (aI Ad rfl 0 rfl wz (aD 0 1 il ft sz3 ag3 rfl rfl (vI x_5.X) rfl wz (aI Ad rfl 0 rfl wz (aD 0 1 il ft sz3 ag3 rfl rfl (vI x_5.X) rfl wz (aI FD rfl 2 rfl wz (aD 0 1 il ft sz3 ag3 rfl rfl (vI x_5.W) rfl wz (ae (vI (w64 (x_5.X + x_5.W))) wz rfl (ae (.d (.agg (Run.enc (⟨x_5.X,(w64 (x_5.X + x_5.W))⟩:Run)))) wz (by kernel_rfl) (eU (([(⟨x_5.X,(w64 (x_5.X + x_5.W))⟩:Run)]:List Run).map Run.enc) lH JJ rfl rfl rfl rfl rfl wz ?_)))))))))))
      obtain ⟨a_24,hz_25,h_21⟩:=bind_some h_21
      refine lJ 0 il ft (i:=0) Bh Bh nE Ja rfl (by decide) JG (by decide) (fun _=>rfl) rfl rfl rfl hz_25 wz (fun n_26=>ae (gV n_26 2 a_24) wz rfl (aj ?_))
      obtain rfl:=ah h_21
      exact aR n_26 trivial rfl (aJ rfl)
     ·refine ay rfl hc_23 (av ?_)
      obtain rfl:=ah h_21
      exact aR n_11 trivial rfl (aJ rfl)
    ·rintro n_22 _ sl_ H_ hp_ hq_
     refine aL _ hp_ hq_ (aa (fJ (bO hD_6 hn_7) wz rfl (ae (vI ((k_3 + 1:Nat):Int)) wz rfl (aj ?_))))
     obtain rfl:=ah hc_12
     exact aP (k_3 + 1,l_4,v_20,n_22) ⟨hL_13,aW hD_6⟩ (Nat.lt_succ_self _) rfl (aJ rfl)
 ·rintro ⟨s_8,n_11⟩ ho_ sl_ H_ hp_ hq_
  subst ho_
  refine aL _ hp_ hq_ (af (aa (ae (gV n_11 2 s_8) wz rfl ?_)))
  obtain ⟨r_27,hr_28,hF⟩:=bind_some hF
  obtain ⟨_,hs_29,hF⟩:=bind_some hF
  replace hs_29:=nH hs_29
  refine mP 0 [] 0 0 il ft (j3 hr_28) rfl hb194 rfl rfl rfl (by kernel_rfl) rfl (.inl rfl) rfl (by kernel_rfl) (by kernel_rfl) (by kernel_rfl) (by kernel_rfl) rfl (by decide) (by kernel_rfl) nT (yh hs_29) wz ([(n_11,gB 2 Run.enc r_27)]:Hp) (by kernel_rfl) (dN (v':=(gV n_11 2 r_27)) 43 rfl (jQ hs_29.symm) (dN (v':=(gV n_11 2 r_27)) 5 rfl (jQ hs_29.symm) (aj (af (aa (ae .nil wz rfl (aj (af (af (aa (ae (gV n_11 2 r_27) wz rfl (Ao yc rfl wz (ae (vI 0) wz rfl (aj (iK 0 rfl (eH 5 0 rfl rfl (eH 43 0 rfl rfl (eH 45 0 rfl rfl (mo (fun n_36 => ?_))))))))))))))))))))
  obtain ⟨o_41,hj_42,hF⟩:=bind_some hF
  obtain ⟨hn_34,hj_42⟩:=bv hj_42
  refine aH (β:=((List Run))×Nm) (fun p=>(fun (s_35:(List Run)) (n_38:Nm)=>([(8,(gV n_38 2 s_35))]:List (Nat×V))) p.1 p.2) (fun p=>(fun (s_35:(List Run)) (n_38:Nm)=>([(n_11,gF 2 Run.enc r_27),(n_38,gB 2 Run.enc s_35)]:Hp)) p.1 p.2) (fun p=>o_41 = .go p.1) ?_ ?_
  ·refine aC (aV (β:=Nat×(List Run)×((List Run))×Nm) (fun p=>(fun (k_30:Nat) (l_31:List Run) (s_35:(List Run)) (n_38:Nm)=>([(8,(gV n_38 2 s_35)),(45,(vL Run.enc r_27)),(46,(vI (r_27.length:Int))),(47,(vI (k_30:Int)))]:List (Nat×V))) p.1 p.2.1 p.2.2.1 p.2.2.2) (fun p=>(fun (k_30:Nat) (l_31:List Run) (s_35:(List Run)) (n_38:Nm)=>([(n_11,gF 2 Run.enc r_27),(n_38,gB 2 Run.enc s_35)]:Hp)) p.1 p.2.1 p.2.2.1 p.2.2.2) (fun p=>forR (fun k x s=>og k x s) p.2.1 p.1 p.2.2.1=some o_41∧(r_27).drop p.1=p.2.1) (fun p=>p.2.1.length) (0,r_27,([]:List Run),n_36) ⟨hj_42,rfl⟩ rfl (aJ rfl) ?_)
   rintro ⟨k_30,l_31,s_35,n_38⟩ ⟨hL_40,hD_33⟩
   dsimp only at hL_40 hD_33
   cases l_31 with
   | nil =>
    obtain rfl:=ah hL_40
    refine af (aa (ae (vB (decide ((k_30:Int) < (r_27.length:Int)))) wz rfl (aj ?_)))
    refine af (ay rfl (drop_nil hD_33) (aQ ?_))
    exact aR (s_35,n_38) rfl rfl (aJ rfl)
   | cons x_32 l_31 =>
    obtain ⟨c_,hc_39,hL_40⟩:=bind_some hL_40
    refine af (aa (ae (vB (decide ((k_30:Int) < (r_27.length:Int)))) wz rfl (aj ?_)))
    refine af (aA rfl (bL hD_33) (av ?_))
    unfold og at hc_39
    refine af (aC (af (aa (dU lH rfl rfl (bT hD_33) rfl wz (bN nE wW rfl (.d (.agg (Run.enc x_32))) rfl wz (dB 0 (.inl rfl) Ja rfl wz (fun n_43=>fH 0 il ft 2 nE rfl rfl [(vI x_32.f_from),(vI x_32.f_to)] rfl wz (aj (af (aa (ae (gV n_38 2 s_35) wz rfl (Ao yc rfl wz (ae (vI (w64 ((s_35.length:Int) - 1))) wz rfl (ae (vI (w64 ((s_35.length:Int) - 1))) wz rfl (aj (af ?_))))))))))))))))
    obtain ⟨v_44,h_45,hc_39⟩:=bind_some hc_39
    refine aH (β:=Unit) (fun _=>([(8,(gV n_38 2 s_35)),(10,(.ref n_43 0 0)),(11,(vI (w64 ((s_35.length:Int) - 1)))),(45,(vL Run.enc r_27)),(46,(vI (r_27.length:Int))),(47,(vI (k_30:Int))),(65,(vB v_44))]:List (Nat×V))) (fun _=>([(n_11,gF 2 Run.enc r_27),(n_38,gB 2 Run.enc s_35),(n_43,some (.cells 2 [(vI x_32.f_from),(vI x_32.f_to)]))]:Hp)) (fun _=>True) ?_ ?_
    ·refine bC (ae (vI (w64 ((s_35.length:Int) - 1))) wz rfl (ae (vB (decide ((w64 ((s_35.length:Int) - 1))≥0))) wz rfl ?_))
     rcases au h_45 with⟨hc_46,h_45⟩ | ⟨hc_46,h_45⟩
     ·refine aF rfl hc_46 wz (aI kX rfl 0 rfl wa (aD 4 2 (.inr (by kernel_rfl)) (fun _ _ ag=>trivial) sz3 ag3 rfl rfl (vI x_32.f_from) rfl wa (ae (gV n_38 2 s_35) wa rfl (ae (vI (w64 ((s_35.length:Int) - 1))) wa rfl ?_))))
      obtain ⟨_,hi_47,h_45⟩:=bind_some h_45
      refine vk lH rfl rfl (jf hi_47) (gm hi_47) wa (aI qz rfl 1 rfl wa ?_)
      obtain ⟨e_48,hy_49,h_45⟩:=bind_some h_45
      refine ko 9 1 (.inr (by kernel_rfl)) (fun _ _ ag=>⟨.inl ⟨rfl,rfl⟩,trivial⟩) sz3 ag3 rfl rfl hy_49 (vI e_48.f_to) rfl wa (ae (vB (decide (x_32.f_from≤e_48.f_to))) wa rfl (ae (vB (decide (x_32.f_from≤e_48.f_to))) wz rfl (aj ?_)))
      obtain rfl:=ah h_45
      exact cu
     ·refine aF rfl hc_46 wz (ak wa (ak wa (ak wa (ak wa (ak wa (ak wa (ak wa (ak wa (ae (vB false) wz rfl (aj ?_))))))))))
      obtain rfl:=ah h_45
      exact cu
    ·rintro ⟨⟩ _ sl_ H_ hp_ hq_
     refine aL _ hp_ hq_ ?_
     obtain ⟨v_50,h_51,hc_39⟩:=bind_some hc_39
     refine aH (β:=Nm) (fun (n_52:Nm)=>([(8,(gV n_52 2 v_50)),(45,(vL Run.enc r_27)),(46,(vI (r_27.length:Int))),(47,(vI (k_30:Int)))]:List (Nat×V))) (fun (n_52:Nm)=>([(n_11,gF 2 Run.enc r_27),(n_52,gB 2 Run.enc v_50),(n_43,some (.cells 2 [(vI x_32.f_from),(vI x_32.f_to)]))]:Hp)) (fun _=>True) ?_ ?_
     ·rcases au h_51 with⟨hc_53,h_51⟩ | ⟨hc_53,h_51⟩
      ·refine aA rfl hc_53 (bC (ae (gV n_38 2 s_35) wz rfl (ae (vI (w64 ((s_35.length:Int) - 1))) wz rfl (ae (gV n_38 2 s_35) wz rfl (ae (vI (w64 ((s_35.length:Int) - 1))) wz rfl ?_)))))
       obtain ⟨_,hi_54,h_51⟩:=bind_some h_51
       refine vk lH rfl rfl (jf hi_54) (gm hi_54) wz (aI qz rfl 1 rfl wz ?_)
       obtain ⟨e_55,hy_56,h_51⟩:=bind_some h_51
       refine ko 6 1 (.inr (by kernel_rfl)) (fun _ _ ag=>trivial) sz3 ag3 rfl rfl hy_56 (vI e_55.f_to) rfl wz (aI qz rfl 1 rfl wz (aD 8 2 (.inr (by kernel_rfl)) (fun _ _ ag=>⟨.inl ⟨rfl,rfl⟩,trivial⟩) sz3 ag3 rfl rfl (vI x_32.f_to) rfl wz (nS (vI (ma e_55.f_to x_32.f_to)) rfl (.inr rfl) wz ?_)))
       obtain ⟨_,hi_57,h_51⟩:=bind_some h_51
       refine vk lH rfl rfl (jf hi_57) (gm hi_57) wz (aI qz rfl 1 rfl wz ?_)
       obtain ⟨e_58,hy_59,h_51⟩:=bind_some h_51
       refine yX 12 (.inr (by kernel_rfl)) (fun _ _ ag=>⟨.inr (.inr (by kernel_rfl)),⟨.inr (.inr (by kernel_rfl)),trivial⟩⟩) 1 sz3 rfl rfl hy_59 (⟨e_58.f_from,(ma e_55.f_to x_32.f_to)⟩:Run) rfl wz (dN (v':=(gV n_38 2 (s_35.set (0 + ((w64 ((s_35.length:Int) - 1))).toNat) (⟨e_58.f_from,(ma e_55.f_to x_32.f_to)⟩:Run)))) 8 rfl (jQ (by simp)) (dN (v':=(gV n_38 2 (s_35.set (0 + ((w64 ((s_35.length:Int) - 1))).toNat) (⟨e_58.f_from,(ma e_55.f_to x_32.f_to)⟩:Run)))) 66 rfl (jQ (by simp)) (dN (v':=(gV n_38 2 (s_35.set (0 + ((w64 ((s_35.length:Int) - 1))).toNat) (⟨e_58.f_from,(ma e_55.f_to x_32.f_to)⟩:Run)))) 68 rfl (jQ (by simp)) (aj ?_))))
       obtain rfl:=ah h_51
       exact aR n_38 trivial rfl (aJ rfl)
      ·refine ay rfl hc_53 (aa (ae (gV n_38 2 s_35) wz rfl (aD 0 2 il ft nE wW rfl rfl (.d (.agg (Run.enc x_32))) rfl wz (eU (([x_32]:List Run).map Run.enc) lH JJ rfl rfl rfl rfl rfl wz ?_))))
       obtain ⟨a_60,hz_61,h_51⟩:=bind_some h_51
       refine lJ 0 il ft (i:=1) Bh Bh nE Ja rfl (by decide) JG (by decide) (fun _=>rfl) rfl rfl rfl hz_61 wz (fun n_62=>ae (gV n_62 2 a_60) wz rfl (aj ?_))
       obtain rfl:=ah h_51
       exact aR n_62 trivial rfl (aJ rfl)
     ·rintro n_52 _ sl_ H_ hp_ hq_
      refine aL _ hp_ hq_ (aa (fJ (bO hD_33 hn_34) wz rfl (ae (vI ((k_30 + 1:Nat):Int)) wz rfl (aj ?_))))
      obtain rfl:=ah hc_39
      exact aP (k_30 + 1,l_31,v_50,n_52) ⟨hL_40,aW hD_33⟩ (Nat.lt_succ_self _) rfl (aJ rfl)
  ·rintro ⟨s_35,n_38⟩ ho_ sl_ H_ hp_ hq_
   subst ho_
   refine aL _ hp_ hq_ (af (aa (ae (gV n_38 2 s_35) wz rfl (ae (gV n_38 2 s_35) wz rfl (aj (iK 1 rfl (eH 4 1 rfl rfl (eH 8 1 rfl rfl (eH 83 1 rfl rfl ?_)))))))))
   obtain rfl:=ah hF
   exact aB (aO (.inr rfl) [(vL Run.enc s_35)] ⟨rfl,trivial⟩ rfl rfl rfl)
theorem CP {l_1:(List Run)} {m_2:(List Run)} {r:(List Run)} (hF:pE l_1 m_2=some r) :
  FnM Tryz.prog 146 [(vL Run.enc l_1),(vL Run.enc m_2)] [] (vL Run.enc r) []:=by
 refine FnM.of_wH ⟨Tryz.prog,88,[],[]⟩ rfl Tryz.func146 rfl rfl (Nat.le_of_ble_eq_true rfl) (by kernel_rfl) ?_
 unfold pE at hF
 refine af (aa (ae .nil wz rfl (aj (af (aa (ae .nil wz rfl (aj (af (aa (ae (vI 0) wz rfl (aj (af (af (aa (ae (vL Run.enc l_1) wz rfl (cO yc rfl wz (ae (vI 0) wz rfl (aj (mo (fun n_9 => ?_))))))))))))))))))))
 obtain ⟨o_14,hj_15,hF⟩:=bind_some hF
 obtain ⟨hn_7,hj_15⟩:=bv hj_15
 refine aH (β:=((List Run)×Int)×Nm) (fun p=>(fun (s_8:(List Run)×Int) (n_11:Nm)=>([(5,(gV n_11 2 s_8.1))]:List (Nat×V))) p.1 p.2) (fun p=>(fun (s_8:(List Run)×Int) (n_11:Nm)=>([(n_11,gB 2 Run.enc s_8.1)]:Hp)) p.1 p.2) (fun p=>o_14 = .go p.1) ?_ ?_
 ·refine aC (aV (β:=Nat×(List Run)×((List Run)×Int)×Nm) (fun p=>(fun (k_3:Nat) (l_4:List Run) (s_8:(List Run)×Int) (n_11:Nm)=>([(1,(vL Run.enc m_2)),(5,(gV n_11 2 s_8.1)),(6,(vI s_8.2)),(10,(vL Run.enc l_1)),(11,(vI (l_1.length:Int))),(12,(vI (k_3:Int)))]:List (Nat×V))) p.1 p.2.1 p.2.2.1 p.2.2.2) (fun p=>(fun (k_3:Nat) (l_4:List Run) (s_8:(List Run)×Int) (n_11:Nm)=>([(n_11,gB 2 Run.enc s_8.1)]:Hp)) p.1 p.2.1 p.2.2.1 p.2.2.2) (fun p=>forR (fun k x s=>lC m_2 k x s) p.2.1 p.1 p.2.2.1=some o_14∧(l_1).drop p.1=p.2.1) (fun p=>p.2.1.length) (0,l_1,(([]:List Run),0),n_9) ⟨hj_15,rfl⟩ rfl (aJ rfl) ?_)
  rintro ⟨k_3,l_4,s_8,n_11⟩ ⟨hL_13,hD_6⟩
  dsimp only at hL_13 hD_6
  cases l_4 with
  | nil =>
   obtain rfl:=ah hL_13
   refine af (aa (ae (vB (decide ((k_3:Int) < (l_1.length:Int)))) wz rfl (aj ?_)))
   refine af (ay rfl (drop_nil hD_6) (aQ ?_))
   exact aR (s_8,n_11) rfl rfl (aJ rfl)
  | cons x_5 l_4 =>
   obtain ⟨c_,hc_12,hL_13⟩:=bind_some hL_13
   refine af (aa (ae (vB (decide ((k_3:Int) < (l_1.length:Int)))) wz rfl (aj ?_)))
   refine af (aA rfl (bL hD_6) (av ?_))
   unfold lC at hc_12
   refine af (aC (af (aa (dU lH rfl rfl (bT hD_6) rfl wz (bN nE wW rfl (.d (.agg (Run.enc x_5))) rfl wz (dB 0 (.inl rfl) Ja rfl wz (fun n_16=>fH 0 il ft 1 nE rfl rfl [(vI x_5.f_from),(vI x_5.f_to)] rfl wz (aj (af ?_)))))))))
   obtain ⟨o_25,hj_26,hc_12⟩:=bind_some hc_12
   obtain ⟨nq_72,hj_26⟩:=cz hj_26
   refine aH (β:=(Int)) (fun (s_22:Int)=>([(1,(vL Run.enc m_2)),(5,(gV n_11 2 s_8.1)),(6,(vI s_22)),(8,(.ref n_16 0 0)),(10,(vL Run.enc l_1)),(11,(vI (l_1.length:Int))),(12,(vI (k_3:Int)))]:List (Nat×V))) (fun (s_22:Int)=>([(n_11,gB 2 Run.enc s_8.1),(n_16,some (.cells 2 [(vI x_5.f_from),(vI x_5.f_to)]))]:Hp)) (fun p=>o_25 = .go p) ?_ ?_
   ·refine aC (aV (β:=Nat×(Int)) (fun p=>(fun (k_17:Nat) (s_22:Int)=>([(1,(vL Run.enc m_2)),(5,(gV n_11 2 s_8.1)),(6,(vI s_22)),(8,(.ref n_16 0 0)),(10,(vL Run.enc l_1)),(11,(vI (l_1.length:Int))),(12,(vI (k_3:Int)))]:List (Nat×V))) p.1 p.2) (fun p=>(fun (k_17:Nat) (s_22:Int)=>([(n_11,gB 2 Run.enc s_8.1),(n_16,some (.cells 2 [(vI x_5.f_from),(vI x_5.f_to)]))]:Hp)) p.1 p.2) (fun p=>iterN (fun s=>nO m_2 x_5 s) p.1 p.2=some o_25) (fun p=>p.1) (nq_72,s_8.2) hj_26 rfl (aJ rfl) ?_)
    rintro ⟨k_17,s_22⟩ hL_24
    dsimp only at hL_24
    cases k_17 with
    | zero=>cases hL_24
    | succ k_17 =>
     obtain ⟨c_,hc_23,hL_24⟩:=bind_some hL_24
     unfold nO at hc_23
     refine af (af ?_)
     obtain ⟨v_27,h_28,hc_23⟩:=bind_some hc_23
     refine aH (β:=Unit) (fun _=>([(1,(vL Run.enc m_2)),(5,(gV n_11 2 s_8.1)),(6,(vI s_22)),(8,(.ref n_16 0 0)),(10,(vL Run.enc l_1)),(11,(vI (l_1.length:Int))),(12,(vI (k_3:Int))),(29,(vB v_27))]:List (Nat×V))) (fun _=>([(n_11,gB 2 Run.enc s_8.1),(n_16,some (.cells 2 [(vI x_5.f_from),(vI x_5.f_to)]))]:Hp)) (fun _=>True) ?_ ?_
     ·refine bC (ae (vI s_22) wz rfl (ae (vL Run.enc m_2) wz rfl (cO yc rfl wz (ae (vB (decide (s_22 < (m_2.length:Int)))) wz rfl ?_))))
      rcases au h_28 with⟨hc_29,h_28⟩ | ⟨hc_29,h_28⟩
      ·refine aF rfl hc_29 wz (ae (vL Run.enc m_2) wa rfl (ae (vI s_22) wa rfl ?_))
       obtain ⟨y_30,hy_31,h_28⟩:=bind_some h_28
       refine dU lH rfl rfl hy_31 rfl wa (kY qz rfl [.int .i64 y_30.f_to] rfl rfl wa (bN sz3 ag3 rfl (vI y_30.f_to) rfl wa (aI kX rfl 0 rfl wa (aD 11 1 (.inr (by kernel_rfl)) (fun _ _ ag=>trivial) sz3 ag3 rfl rfl (vI x_5.f_from) rfl wa (ae (vB (decide (y_30.f_to≤x_5.f_from))) wa rfl (ae (vB (decide (y_30.f_to≤x_5.f_from))) wz rfl (aj ?_)))))))
       obtain rfl:=ah h_28
       exact cu
      ·refine aF rfl hc_29 wz (ak wa (ak wa (ak wa (ak wa (ak wa (ak wa (ak wa (ak wa (ae (vB false) wz rfl (aj ?_))))))))))
       obtain rfl:=ah h_28
       exact cu
     ·rintro ⟨⟩ _ sl_ H_ hp_ hq_
      refine aL _ hp_ hq_ ?_
      rcases au hc_23 with⟨hc_32,hc_23⟩ | ⟨hc_32,hc_23⟩
      ·refine aA rfl hc_32 (av (aC (aa (ae (vI s_22) wz rfl (ae (vI (w64 (s_22 + 1))) wz rfl (ae (vI (w64 (s_22 + 1))) wz rfl (aj ?_)))))))
       obtain rfl:=ah hc_23
       exact aP (k_17,(w64 (s_22 + 1))) hL_24 (Nat.lt_succ_self _) rfl (aJ rfl)
      ·refine ay rfl hc_32 (aQ ?_)
       obtain rfl:=ah hc_23
       obtain rfl:=ah hL_24
       exact aR (s_22) rfl rfl (aJ rfl)
   ·rintro s_22 ho_ sl_ H_ hp_ hq_
    subst ho_
    refine aL _ hp_ hq_ (af (af (aa (ae (vI s_22) wz rfl (ae (vI s_22) wz rfl (aj ?_))))))
    obtain ⟨o_43,hj_44,hc_12⟩:=bind_some hc_12
    obtain ⟨nq_71,hj_44⟩:=cz hj_44
    refine aH (β:=((List Run)×Int×Int)×Nm) (fun p=>(fun (s_38:(List Run)×Int×Int) (n_40:Nm)=>([(1,(vL Run.enc m_2)),(5,(gV n_40 2 s_38.1)),(6,(vI s_22)),(8,(.ref n_16 0 0)),(10,(vL Run.enc l_1)),(11,(vI (l_1.length:Int))),(12,(vI (k_3:Int)))]:List (Nat×V))) p.1 p.2) (fun p=>(fun (s_38:(List Run)×Int×Int) (n_40:Nm)=>([(n_40,gB 2 Run.enc s_38.1),(n_16,some (.cells 2 [(vI s_38.2.2),(vI x_5.f_to)]))]:Hp)) p.1 p.2) (fun p=>o_43 = .go p.1) ?_ ?_
    ·refine aC (aV (β:=Nat×((List Run)×Int×Int)×Nm) (fun p=>(fun (k_33:Nat) (s_38:(List Run)×Int×Int) (n_40:Nm)=>([(1,(vL Run.enc m_2)),(5,(gV n_40 2 s_38.1)),(6,(vI s_22)),(8,(.ref n_16 0 0)),(9,(vI s_38.2.1)),(10,(vL Run.enc l_1)),(11,(vI (l_1.length:Int))),(12,(vI (k_3:Int)))]:List (Nat×V))) p.1 p.2.1 p.2.2) (fun p=>(fun (k_33:Nat) (s_38:(List Run)×Int×Int) (n_40:Nm)=>([(n_40,gB 2 Run.enc s_38.1),(n_16,some (.cells 2 [(vI s_38.2.2),(vI x_5.f_to)]))]:Hp)) p.1 p.2.1 p.2.2) (fun p=>iterN (fun s=>nV m_2 x_5 s) p.1 p.2.1=some o_43) (fun p=>p.1) (nq_71,(s_8.1,s_22,x_5.f_from),n_11) hj_44 rfl (aJ rfl) ?_)
     rintro ⟨k_33,s_38,n_40⟩ hL_42
     dsimp only at hL_42
     cases k_33 with
     | zero=>cases hL_42
     | succ k_33 =>
      obtain ⟨c_,hc_41,hL_42⟩:=bind_some hL_42
      unfold nV at hc_41
      refine af (af ?_)
      obtain ⟨v_45,h_46,hc_41⟩:=bind_some hc_41
      refine aH (β:=Unit) (fun _=>([(1,(vL Run.enc m_2)),(5,(gV n_40 2 s_38.1)),(6,(vI s_22)),(8,(.ref n_16 0 0)),(9,(vI s_38.2.1)),(10,(vL Run.enc l_1)),(11,(vI (l_1.length:Int))),(12,(vI (k_3:Int))),(46,(vB v_45))]:List (Nat×V))) (fun _=>([(n_40,gB 2 Run.enc s_38.1),(n_16,some (.cells 2 [(vI s_38.2.2),(vI x_5.f_to)]))]:Hp)) (fun _=>True) ?_ ?_
      ·refine bC (ae (vI s_38.2.1) wz rfl (ae (vL Run.enc m_2) wz rfl (cO yc rfl wz (ae (vB (decide (s_38.2.1 < (m_2.length:Int)))) wz rfl ?_))))
       rcases au h_46 with⟨hc_47,h_46⟩ | ⟨hc_47,h_46⟩
       ·refine aF rfl hc_47 wz (ae (vL Run.enc m_2) wa rfl (ae (vI s_38.2.1) wa rfl ?_))
        obtain ⟨y_48,hy_49,h_46⟩:=bind_some h_46
        refine dU lH rfl rfl hy_49 rfl wa (kY kX rfl [.int .i64 y_48.f_from,.int .i64 y_48.f_to] rfl rfl wa (bN sz3 ag3 rfl (vI y_48.f_from) rfl wa (aI qz rfl 1 rfl wa (aD 11 1 (.inr (by kernel_rfl)) (fun _ _ ag=>trivial) sz3 ag3 rfl rfl (vI x_5.f_to) rfl wa (ae (vB (decide (y_48.f_from < x_5.f_to))) wa rfl (ae (vB (decide (y_48.f_from < x_5.f_to))) wz rfl (aj ?_)))))))
        obtain rfl:=ah h_46
        exact cu
       ·refine aF rfl hc_47 wz (ak wa (ak wa (ak wa (ak wa (ak wa (ak wa (ak wa (ak wa (ae (vB false) wz rfl (aj ?_))))))))))
        obtain rfl:=ah h_46
        exact cu
      ·rintro ⟨⟩ _ sl_ H_ hp_ hq_
       refine aL _ hp_ hq_ ?_
       rcases au hc_41 with⟨hc_50,hc_41⟩ | ⟨hc_50,hc_41⟩
       ·refine aA rfl hc_50 (av (af (aC (af (af (bC (ae (vL Run.enc m_2) wz rfl (ae (vI s_38.2.1) wz rfl ?_))))))))
        obtain ⟨y_51,hy_52,hc_41⟩:=bind_some hc_41
        refine dU lH rfl rfl hy_52 rfl wz (kY kX rfl [.int .i64 y_51.f_from,.int .i64 y_51.f_to] rfl rfl wz (bN sz3 ag3 rfl (vI y_51.f_from) rfl wz (aI kX rfl 0 rfl wz (aD 6 1 (.inr (by kernel_rfl)) (fun _ _ ag=>trivial) sz3 ag3 rfl rfl (vI s_38.2.2) rfl wz (ae (vB (decide (y_51.f_from > s_38.2.2))) wz rfl (aj ?_))))))
        obtain ⟨v_53,h_54,hc_41⟩:=bind_some hc_41
        refine aH (β:=Nm) (fun (n_55:Nm)=>([(1,(vL Run.enc m_2)),(5,(gV n_55 2 v_53)),(6,(vI s_22)),(8,(.ref n_16 0 0)),(9,(vI s_38.2.1)),(10,(vL Run.enc l_1)),(11,(vI (l_1.length:Int))),(12,(vI (k_3:Int)))]:List (Nat×V))) (fun (n_55:Nm)=>([(n_55,gB 2 Run.enc v_53),(n_16,some (.cells 2 [(vI s_38.2.2),(vI x_5.f_to)]))]:Hp)) (fun _=>True) ?_ ?_
        ·rcases au h_54 with⟨hc_56,h_54⟩ | ⟨hc_56,h_54⟩
         ·refine aA rfl hc_56 (bC (ae (gV n_40 2 s_38.1) wz rfl (aI kX rfl 0 rfl wz (aD 2 1 (.inr (by kernel_rfl)) (fun _ _ ag=>trivial) sz3 ag3 rfl rfl (vI s_38.2.2) rfl wz (ae (vL Run.enc m_2) wz rfl (ae (vI s_38.2.1) wz rfl ?_))))))
          obtain ⟨y_57,hy_58,h_54⟩:=bind_some h_54
          refine dU lH rfl rfl hy_58 rfl wz (kY kX rfl [.int .i64 y_57.f_from,.int .i64 y_57.f_to] rfl rfl wz (bN sz3 ag3 rfl (vI y_57.f_from) rfl wz (ae (.d (.agg (Run.enc (⟨s_38.2.2,y_57.f_from⟩:Run)))) wz (by kernel_rfl) (eU (([(⟨s_38.2.2,y_57.f_from⟩:Run)]:List Run).map Run.enc) lH JJ rfl rfl rfl rfl rfl wz ?_))))
          obtain ⟨a_59,hz_60,h_54⟩:=bind_some h_54
          refine lJ 10 (.inr (by kernel_rfl)) (fun _ _ ag=>⟨.inr (.inr (by kernel_rfl)),trivial⟩) (i:=0) Bh Bh nE Ja rfl (by decide) JG (by decide) (fun _=>rfl) rfl rfl rfl hz_60 wz (fun n_61=>ae (gV n_61 2 a_59) wz rfl (aj ?_))
          obtain rfl:=ah h_54
          exact aR n_61 trivial rfl (aJ rfl)
         ·refine ay rfl hc_56 (av ?_)
          obtain rfl:=ah h_54
          exact aR n_40 trivial rfl (aJ rfl)
        ·rintro n_55 _ sl_ H_ hp_ hq_
         refine aL _ hp_ hq_ (bC (aI kX rfl 0 rfl wz (aD 1 1 (.inr (by kernel_rfl)) (fun _ _ ag=>trivial) sz3 ag3 rfl rfl (vI s_38.2.2) rfl wz (ae (vL Run.enc m_2) wz rfl (ae (vI s_38.2.1) wz rfl ?_)))))
         obtain ⟨y_62,hy_63,hc_41⟩:=bind_some hc_41
         refine dU lH rfl rfl hy_63 rfl wz (kY qz rfl [.int .i64 y_62.f_to] rfl rfl wz (bN sz3 ag3 rfl (vI y_62.f_to) rfl wz (nS (vI (ma s_38.2.2 y_62.f_to)) rfl (.inr rfl) wz (aI kX rfl 0 rfl wz (fH 9 (.inr (by kernel_rfl)) (fun _ _ ag=>⟨.inr (.inr (by kernel_rfl)),trivial⟩) 1 sz3 rfl rfl [(vI (ma s_38.2.2 y_62.f_to)),(vI x_5.f_to)] rfl wz (aj (aa (ae (vI s_38.2.1) wz rfl (ae (vI (w64 (s_38.2.1 + 1))) wz rfl (ae (vI (w64 (s_38.2.1 + 1))) wz rfl (aj ?_)))))))))))
         obtain rfl:=ah hc_41
         exact aP (k_33,(v_53,(w64 (s_38.2.1 + 1)),(ma s_38.2.2 y_62.f_to)),n_55) hL_42 (Nat.lt_succ_self _) rfl (aJ rfl)
       ·refine ay rfl hc_50 (aQ ?_)
        obtain rfl:=ah hc_41
        obtain rfl:=ah hL_42
        exact aR ((s_38.1,s_38.2.1,s_38.2.2),n_40) rfl rfl (aJ rfl)
    ·rintro ⟨s_38,n_40⟩ ho_ sl_ H_ hp_ hq_
     subst ho_
     refine aL _ hp_ hq_ (af (aa (aI kX rfl 0 rfl wz (aD 0 1 il ft sz3 ag3 rfl rfl (vI s_38.2.2) rfl wz (aI qz rfl 1 rfl wz (aD 0 1 il ft sz3 ag3 rfl rfl (vI x_5.f_to) rfl wz (ae (vB (decide (s_38.2.2 < x_5.f_to))) wz rfl (aj ?_))))))))
     obtain ⟨v_64,h_65,hc_12⟩:=bind_some hc_12
     refine aH (β:=Nm) (fun (n_66:Nm)=>([(1,(vL Run.enc m_2)),(5,(gV n_66 2 v_64)),(6,(vI s_22)),(10,(vL Run.enc l_1)),(11,(vI (l_1.length:Int))),(12,(vI (k_3:Int)))]:List (Nat×V))) (fun (n_66:Nm)=>([(n_66,gB 2 Run.enc v_64),(n_16,some (.cells 2 [(vI s_38.2.2),(vI x_5.f_to)]))]:Hp)) (fun _=>True) ?_ ?_
     ·rcases au h_65 with⟨hc_67,h_65⟩ | ⟨hc_67,h_65⟩
      ·refine aA rfl hc_67 (aa (ae (gV n_40 2 s_38.1) wz rfl (aD 0 1 il ft nE wW rfl rfl (.d (.agg (Run.enc (⟨s_38.2.2,x_5.f_to⟩:Run)))) rfl wz (eU (([(⟨s_38.2.2,x_5.f_to⟩:Run)]:List Run).map Run.enc) lH JJ rfl rfl rfl rfl rfl wz ?_))))
       obtain ⟨a_68,hz_69,h_65⟩:=bind_some h_65
       refine lJ 0 il ft (i:=0) Bh Bh nE Ja rfl (by decide) JG (by decide) (fun _=>rfl) rfl rfl rfl hz_69 wz (fun n_70=>ae (gV n_70 2 a_68) wz rfl (aj ?_))
       obtain rfl:=ah h_65
       exact aR n_70 trivial rfl (aJ rfl)
      ·refine ay rfl hc_67 (av ?_)
       obtain rfl:=ah h_65
       exact aR n_40 trivial rfl (aJ rfl)
     ·rintro n_66 _ sl_ H_ hp_ hq_
      refine aL _ hp_ hq_ (aa (fJ (bO hD_6 hn_7) wz rfl (ae (vI ((k_3 + 1:Nat):Int)) wz rfl (aj ?_))))
      obtain rfl:=ah hc_12
      exact aP (k_3 + 1,l_4,(v_64,s_22),n_66) ⟨hL_13,aW hD_6⟩ (Nat.lt_succ_self _) rfl (aJ rfl)
 ·rintro ⟨s_8,n_11⟩ ho_ sl_ H_ hp_ hq_
  subst ho_
  refine aL _ hp_ hq_ (af (aa (ae (gV n_11 2 s_8.1) wz rfl (ae (gV n_11 2 s_8.1) wz rfl (aj (iK 0 rfl (eH 4 0 rfl rfl (eH 5 0 rfl rfl (eH 87 0 rfl rfl ?_)))))))))
  obtain rfl:=ah hF
  exact aB (aO (.inr rfl) [(vL Run.enc s_8.1)] ⟨rfl,trivial⟩ rfl rfl rfl)
theorem l5 {s1_1:(List Run)} {s2_2:(List Run)} {r:Bool} (hF:dW s1_1 s2_2=some r) :
  FnM Tryz.prog 148 [(vL Run.enc s1_1),(vL Run.enc s2_2)] [] (vB r) []:=by
 refine FnM.of_wH ⟨Tryz.prog,26,[],[]⟩ rfl Tryz.func148 rfl rfl (Nat.le_of_ble_eq_true rfl) (by kernel_rfl) ?_
 unfold dW at hF
 refine af (aa (ae (vB false) wz rfl (aj (af (af (aa (ae (vL Run.enc s1_1) wz rfl (cO yc rfl wz (ae (vL Run.enc s2_2) wz rfl (cO yc rfl wz (ae (vB ((s1_1.length:Int) != (s2_2.length:Int))) wz rfl (aj ?_))))))))))))
 rcases au hF with⟨hc_3,hF⟩ | ⟨hc_3,hF⟩
 ·refine aA rfl hc_3 (af (aa (ae (vB false) wz rfl (aj ?_))))
  obtain rfl:=ah hF
  exact aB (aO (.inr rfl) [(vB false)] ⟨rfl,trivial⟩ rfl rfl rfl)
 ·refine ay rfl hc_3 (av (af (af (aa (ae (vL Run.enc s1_1) wz rfl (cO yc rfl wz (ae (vI 0) wz rfl (aj ?_))))))))
  obtain ⟨o_12,hj_13,hF⟩:=bind_some hF
  obtain ⟨hn_8,hj_13⟩:=bv hj_13
  refine aH (β:=(Unit)) (fun (s_9:Unit)=>([]:List (Nat×V))) (fun (s_9:Unit)=>([]:Hp)) (fun p=>o_12 = .go p) ?_ ?_
  ·refine aC (aV (β:=Nat×(List Run)×(Unit)) (fun p=>(fun (k_4:Nat) (l_5:List Run) (s_9:Unit)=>([(0,(vL Run.enc s1_1)),(1,(vL Run.enc s2_2)),(12,(vI (s1_1.length:Int))),(13,(vI (k_4:Int)))]:List (Nat×V))) p.1 p.2.1 p.2.2) (fun p=>(fun (k_4:Nat) (l_5:List Run) (s_9:Unit)=>([]:Hp)) p.1 p.2.1 p.2.2) (fun p=>forR (fun k x s=>eZ s2_2 k x s) p.2.1 p.1 p.2.2=some o_12∧(s1_1).drop p.1=p.2.1) (fun p=>p.2.1.length) (0,s1_1,()) ⟨hj_13,rfl⟩ rfl (aJ rfl) ?_)
   rintro ⟨k_4,l_5,s_9⟩ ⟨hL_11,hD_7⟩
   dsimp only at hL_11 hD_7
   cases l_5 with
   | nil =>
    obtain rfl:=ah hL_11
    refine af (aa (ae (vB (decide ((k_4:Int) < (s1_1.length:Int)))) wz rfl (aj ?_)))
    refine af (ay rfl (drop_nil hD_7) (aQ ?_))
    exact aR (s_9) rfl rfl (aJ rfl)
   | cons x_6 l_5 =>
    obtain ⟨c_,hc_10,hL_11⟩:=bind_some hL_11
    refine af (aa (ae (vB (decide ((k_4:Int) < (s1_1.length:Int)))) wz rfl (aj ?_)))
    refine af (aA rfl (bL hD_7) (av ?_))
    unfold eZ at hc_10
    refine af (aC (af (aa (ae (vI (k_4:Int)) wz rfl (ae (vI (k_4:Int)) wz rfl (aj (af (bC (ae (vL Run.enc s1_1) wz rfl (ae (vI (k_4:Int)) wz rfl (dU lH rfl rfl (bT hD_7) rfl wz (bN nE wW rfl (.d (.agg (Run.enc x_6))) rfl wz (ae (vL Run.enc s2_2) wz rfl (ae (vI (k_4:Int)) wz rfl ?_))))))))))))))
    obtain ⟨y_14,hy_15,hc_10⟩:=bind_some hc_10
    refine dU lH rfl rfl hy_15 rfl wz (bN nE wW rfl (.d (.agg (Run.enc y_14))) rfl wz (ae (vB (!((x_6.f_from == y_14.f_from) && ((x_6.f_to == y_14.f_to) && true)))) wz (by kernel_rfl) (aj ?_)))
    rcases au hc_10 with⟨hc_16,hc_10⟩ | ⟨hc_16,hc_10⟩
    ·refine aA rfl hc_16 (af (aa (ae (vB false) wz rfl (aj ?_))))
     obtain rfl:=ah hc_10
     obtain rfl:=ah hL_11
     obtain rfl:=ah hF
     exact aB (aO (.inr rfl) [(vB false)] ⟨rfl,trivial⟩ rfl rfl rfl)
    ·refine ay rfl hc_16 (av (aa (fJ (bO hD_7 hn_8) wz rfl (ae (vI ((k_4 + 1:Nat):Int)) wz rfl (aj ?_)))))
     obtain rfl:=ah hc_10
     exact aP (k_4 + 1,l_5,()) ⟨hL_11,aW hD_7⟩ (Nat.lt_succ_self _) rfl (aJ rfl)
  ·rintro s_9 ho_ sl_ H_ hp_ hq_
   subst ho_
   refine aL _ hp_ hq_ (af (aa (ae (vB true) wz rfl (aj ?_))))
   obtain rfl:=ah hF
   exact aB (aO (.inr rfl) [(vB true)] ⟨rfl,trivial⟩ rfl rfl rfl)
theorem AU {l_1:(List Rect)} {m_2:(List Rect)} {r:(List Rect)} (hF:mM l_1 m_2=some r) :
  FnM Tryz.prog 69 [(vL Rect.enc l_1),(vL Rect.enc m_2)] [] (vL Rect.enc r) []:=by
 refine FnM.of_wH ⟨Tryz.prog,88,[],[]⟩ rfl Tryz.func69 rfl rfl (Nat.le_of_ble_eq_true rfl) (by kernel_rfl) ?_
 unfold mM at hF
 refine af (aa (ae .nil wz rfl (aj (af (aa (ae .nil wz rfl (aj (af (af (aa (ae (vL Rect.enc l_1) wz rfl (ae (vL Rect.enc m_2) wz rfl (eU (([l_1,m_2]:List (List Rect)).map (eL Rect.enc)) Mt ez260 rfl rfl rfl rfl rfl wz ?_)))))))))))))
 obtain ⟨r_3,hr_4,hF⟩:=bind_some hF
 refine aG (mX hr_4) rfl hb145 rfl rfl rfl rfl wz (cO AA rfl wz (ae (vI 0) wz rfl (aj (mo (fun n_11 => ?_)))))
 obtain ⟨o_16,hj_17,hF⟩:=bind_some hF
 obtain ⟨hn_9,hj_17⟩:=bv hj_17
 refine aH (β:=((List Int))×Nm) (fun p=>(fun (s_10:(List Int)) (n_13:Nm)=>([(0,(vL Rect.enc l_1)),(1,(vL Rect.enc m_2)),(5,(gV n_13 1 s_10))]:List (Nat×V))) p.1 p.2) (fun p=>(fun (s_10:(List Int)) (n_13:Nm)=>([(n_13,gB 1 eI s_10)]:Hp)) p.1 p.2) (fun p=>o_16 = .go p.1) ?_ ?_
 ·refine aC (aV (β:=Nat×(List Rect)×((List Int))×Nm) (fun p=>(fun (k_5:Nat) (l_6:List Rect) (s_10:(List Int)) (n_13:Nm)=>([(0,(vL Rect.enc l_1)),(1,(vL Rect.enc m_2)),(5,(gV n_13 1 s_10)),(19,(vL Rect.enc r_3)),(20,(vI (r_3.length:Int))),(21,(vI (k_5:Int)))]:List (Nat×V))) p.1 p.2.1 p.2.2.1 p.2.2.2) (fun p=>(fun (k_5:Nat) (l_6:List Rect) (s_10:(List Int)) (n_13:Nm)=>([(n_13,gB 1 eI s_10)]:Hp)) p.1 p.2.1 p.2.2.1 p.2.2.2) (fun p=>forR (fun k x s=>lT k x s) p.2.1 p.1 p.2.2.1=some o_16∧(r_3).drop p.1=p.2.1) (fun p=>p.2.1.length) (0,r_3,([]:List Int),n_11) ⟨hj_17,rfl⟩ rfl (aJ rfl) ?_)
  rintro ⟨k_5,l_6,s_10,n_13⟩ ⟨hL_15,hD_8⟩
  dsimp only at hL_15 hD_8
  cases l_6 with
  | nil =>
   obtain rfl:=ah hL_15
   refine af (aa (ae (vB (decide ((k_5:Int) < (r_3.length:Int)))) wz rfl (aj ?_)))
   refine af (ay rfl (drop_nil hD_8) (aQ ?_))
   exact aR (s_10,n_13) rfl rfl (aJ rfl)
  | cons x_7 l_6 =>
   obtain ⟨c_,hc_14,hL_15⟩:=bind_some hL_15
   refine af (aa (ae (vB (decide ((k_5:Int) < (r_3.length:Int)))) wz rfl (aj ?_)))
   refine af (aA rfl (bL hD_8) (av ?_))
   unfold lT at hc_14
   refine af (aC (af (aa (dU F3 rfl rfl (bT hD_8) rfl wz (bN wB GL rfl (.d (.agg (Rect.enc x_7))) rfl wz (dB 0 (.inl rfl) z45 rfl wz (fun n_18=>fH 0 il ft 1 wB rfl rfl [(vI x_7.X),(vI x_7.Y),(vI x_7.W),(vI x_7.H)] rfl wz (aj (aa (ae (gV n_13 1 s_10) wz rfl (aI wZ rfl 1 rfl wz (aD 0 1 il ft sz3 ag3 rfl rfl (vI x_7.Y) rfl wz (aI wZ rfl 1 rfl wz (aD 0 1 il ft sz3 ag3 rfl rfl (vI x_7.Y) rfl wz (aI Dy rfl 3 rfl wz (aD 0 1 il ft sz3 ag3 rfl rfl (vI x_7.H) rfl wz (ae (vI (w64 (x_7.Y + x_7.H))) wz rfl (eU (([x_7.Y,(w64 (x_7.Y + x_7.H))]:List Int).map eI) kw wQ rfl rfl rfl rfl rfl wz ?_))))))))))))))))))
   obtain ⟨a_19,hz_20,hc_14⟩:=bind_some hc_14
   refine lJ 0 il ft (i:=0) Jb Jb sz3 z3 rfl (by decide) by3 (by decide) (fun _=>rfl) rfl rfl rfl hz_20 wz (fun n_21=>ae (gV n_21 1 a_19) wz rfl (aj (aa (fJ (bO hD_8 hn_9) wz rfl (ae (vI ((k_5 + 1:Nat):Int)) wz rfl (aj ?_))))))
   obtain rfl:=ah hc_14
   exact aP (k_5 + 1,l_6,a_19,n_21) ⟨hL_15,aW hD_8⟩ (Nat.lt_succ_self _) rfl (aJ rfl)
 ·rintro ⟨s_10,n_13⟩ ho_ sl_ H_ hp_ hq_
  subst ho_
  refine aL _ hp_ hq_ (af (aa (ae (gV n_13 1 s_10) wz rfl ?_)))
  obtain ⟨r_22,hr_23,hF⟩:=bind_some hF
  obtain ⟨_,hs_24,hF⟩:=bind_some hF
  replace hs_24:=nH hs_24
  refine mP 0 [] 0 0 il ft (l8 hr_23) rfl hb90 rfl rfl rfl (by kernel_rfl) rfl (.inl rfl) rfl (by kernel_rfl) (by kernel_rfl) (by kernel_rfl) (by kernel_rfl) rfl (by decide) (by kernel_rfl) nT (yh hs_24) wz ([(n_13,gB 1 eI r_22)]:Hp) (by kernel_rfl) (dN (v':=(gV n_13 1 r_22)) 36 rfl (jQ hs_24.symm) (dN (v':=(gV n_13 1 r_22)) 5 rfl (jQ hs_24.symm) (aj (af (aa (ae (gV n_13 1 r_22) wz rfl ?_))))))
  obtain ⟨r_25,hr_26,hF⟩:=bind_some hF
  refine mP 0 [] 0 0 il ft (kE hr_26) rfl hb91 rfl rfl rfl (by kernel_rfl) rfl (.inl rfl) rfl (by kernel_rfl) (by kernel_rfl) (by kernel_rfl) (by kernel_rfl) rfl (by decide) (by kernel_rfl) zw (fun _=>rfl) wz ([(n_13,none)]:Hp) (by kernel_rfl) (ae (vL eI r_25) wz rfl (aj (af (aa (ae .nil wz rfl (aj (af (aa (ae .nil wz rfl (aj (af (aa (ae (vI 0) wz rfl (aj (af (af (aa (ae (vL eI r_25) wz rfl (cO vW rfl wz (ae (vI 0) wz rfl (aj (JL Run.enc 9 rfl (mo (fun n_33 => ?_))))))))))))))))))))))))
  obtain ⟨o_38,hj_39,hF⟩:=bind_some hF
  obtain ⟨hn_31,hj_39⟩:=bv hj_39
  refine aH (β:=((List Rect)×(List Run)×Int)×Nm) (fun p=>(fun (s_32:(List Rect)×(List Run)×Int) (n_35:Nm)=>([(8,(gV n_35 4 s_32.1))]:List (Nat×V))) p.1 p.2) (fun p=>(fun (s_32:(List Rect)×(List Run)×Int) (n_35:Nm)=>([(n_13,none),(n_35,gB 4 Rect.enc s_32.1)]:Hp)) p.1 p.2) (fun p=>o_38 = .go p.1) ?_ ?_
  ·refine aC (aV (β:=Nat×(List Int)×((List Rect)×(List Run)×Int)×Nm) (fun p=>(fun (k_27:Nat) (l_28:List Int) (s_32:(List Rect)×(List Run)×Int) (n_35:Nm)=>([(0,(vL Rect.enc l_1)),(1,(vL Rect.enc m_2)),(5,(vL eI r_25)),(8,(gV n_35 4 s_32.1)),(9,(vL Run.enc s_32.2.1)),(10,(vI s_32.2.2)),(40,(vL eI r_25)),(41,(vI (r_25.length:Int))),(42,(vI (k_27:Int)))]:List (Nat×V))) p.1 p.2.1 p.2.2.1 p.2.2.2) (fun p=>(fun (k_27:Nat) (l_28:List Int) (s_32:(List Rect)×(List Run)×Int) (n_35:Nm)=>([(n_13,none),(n_35,gB 4 Rect.enc s_32.1)]:Hp)) p.1 p.2.1 p.2.2.1 p.2.2.2) (fun p=>forR (fun k x s=>jX r_25 l_1 m_2 k x s) p.2.1 p.1 p.2.2.1=some o_38∧(r_25).drop p.1=p.2.1) (fun p=>p.2.1.length) (0,r_25,(([]:List Rect),([]:List Run),0),n_33) ⟨hj_39,rfl⟩ rfl (aJ rfl) ?_)
   rintro ⟨k_27,l_28,s_32,n_35⟩ ⟨hL_37,hD_30⟩
   dsimp only at hL_37 hD_30
   cases l_28 with
   | nil =>
    obtain rfl:=ah hL_37
    refine af (aa (ae (vB (decide ((k_27:Int) < (r_25.length:Int)))) wz rfl (aj ?_)))
    refine af (ay rfl (drop_nil hD_30) (aQ ?_))
    exact aR (s_32,n_35) rfl rfl (aJ rfl)
   | cons x_29 l_28 =>
    obtain ⟨c_,hc_36,hL_37⟩:=bind_some hL_37
    refine af (aa (ae (vB (decide ((k_27:Int) < (r_25.length:Int)))) wz rfl (aj ?_)))
    refine af (aA rfl (bL hD_30) (av ?_))
    unfold jX at hc_36
    refine af (aC (af (aa (ae (vI (k_27:Int)) wz rfl (dU kw rfl rfl (bT hD_30) rfl wz (bN sz3 ag3 rfl (vI x_29) rfl wz (ae (vI (k_27:Int)) wz rfl (ae (vI x_29) wz rfl (aj (af (aa (ae .nil wz rfl (aj (af (af (aa (ae (vI (k_27:Int)) wz rfl (ae (vI (w64 ((k_27:Int) + 1))) wz rfl (ae (vL eI r_25) wz rfl (cO vW rfl wz (ae (vB (decide ((w64 ((k_27:Int) + 1)) < (r_25.length:Int)))) wz rfl (aj (JL Run.enc 13 rfl ?_)))))))))))))))))))))))
    obtain ⟨v_42,h_43,hc_36⟩:=bind_some hc_36
    refine aH (β:=Unit) (fun _=>([(0,(vL Rect.enc l_1)),(1,(vL Rect.enc m_2)),(5,(vL eI r_25)),(8,(gV n_35 4 s_32.1)),(9,(vL Run.enc s_32.2.1)),(10,(vI s_32.2.2)),(12,(vI x_29)),(13,(vL Run.enc v_42)),(40,(vL eI r_25)),(41,(vI (r_25.length:Int))),(42,(vI (k_27:Int)))]:List (Nat×V))) (fun _=>([(n_13,none),(n_35,gB 4 Rect.enc s_32.1)]:Hp)) (fun _=>True) ?_ ?_
    ·rcases au h_43 with⟨hc_44,h_43⟩ | ⟨hc_44,h_43⟩
     ·refine aA rfl hc_44 (aa (ae (vL Rect.enc l_1) wz rfl (ae (vI x_29) wz rfl ?_)))
      obtain ⟨r_45,hr_46,h_43⟩:=bind_some h_43
      refine aG (wE hr_46) rfl hb147 rfl rfl rfl rfl wz (ae (vL Rect.enc m_2) wz rfl (ae (vI x_29) wz rfl ?_))
      obtain ⟨r_47,hr_48,h_43⟩:=bind_some h_43
      refine aG (wE hr_48) rfl hb147 rfl rfl rfl rfl wz ?_
      obtain ⟨r_49,hr_50,h_43⟩:=bind_some h_43
      refine aG (CP hr_50) rfl hb146 rfl rfl rfl rfl wz (ae (vL Run.enc r_49) wz rfl (aj ?_))
      obtain rfl:=ah h_43
      exact cu
     ·refine ay rfl hc_44 (av ?_)
      obtain rfl:=ah h_43
      exact cu
    ·rintro ⟨⟩ _ sl_ H_ hp_ hq_
     refine aL _ hp_ hq_ (af (af (aa (ae (vL Run.enc s_32.2.1) wz rfl (ae (vL Run.enc v_42) wz rfl ?_)))))
     obtain ⟨r_51,hr_52,hc_36⟩:=bind_some hc_36
     refine aG (l5 hr_52) rfl hb148 rfl rfl rfl rfl wz (aj ?_)
     rcases au hc_36 with⟨hc_53,hc_36⟩ | ⟨hc_53,hc_36⟩
     ·refine aA rfl hc_53 (aQ (aa (fJ (bO hD_30 hn_31) wz rfl (ae (vI ((k_27 + 1:Nat):Int)) wz rfl (aj ?_)))))
      obtain rfl:=ah hc_36
      exact aP (k_27 + 1,l_28,(s_32.1,s_32.2.1,s_32.2.2),n_35) ⟨hL_37,aW hD_30⟩ (Nat.lt_succ_self _) rfl (aJ rfl)
     ·refine ay rfl hc_53 (av (af (af (aa (ae (vL Run.enc s_32.2.1) wz rfl (cO yc rfl wz (ae (vI 0) wz rfl (aj ?_))))))))
      obtain ⟨o_64,hj_65,hc_36⟩:=bind_some hc_36
      obtain ⟨hn_58,hj_65⟩:=bv hj_65
      refine aH (β:=((List Rect))×Nm) (fun p=>(fun (s_59:(List Rect)) (n_61:Nm)=>([(0,(vL Rect.enc l_1)),(1,(vL Rect.enc m_2)),(5,(vL eI r_25)),(8,(gV n_61 4 s_59)),(12,(vI x_29)),(13,(vL Run.enc v_42)),(40,(vL eI r_25)),(41,(vI (r_25.length:Int))),(42,(vI (k_27:Int)))]:List (Nat×V))) p.1 p.2) (fun p=>(fun (s_59:(List Rect)) (n_61:Nm)=>([(n_13,none),(n_61,gB 4 Rect.enc s_59)]:Hp)) p.1 p.2) (fun p=>o_64 = .go p.1) ?_ ?_
      ·refine aC (aV (β:=Nat×(List Run)×((List Rect))×Nm) (fun p=>(fun (k_54:Nat) (l_55:List Run) (s_59:(List Rect)) (n_61:Nm)=>([(0,(vL Rect.enc l_1)),(1,(vL Rect.enc m_2)),(5,(vL eI r_25)),(8,(gV n_61 4 s_59)),(10,(vI s_32.2.2)),(12,(vI x_29)),(13,(vL Run.enc v_42)),(40,(vL eI r_25)),(41,(vI (r_25.length:Int))),(42,(vI (k_27:Int))),(62,(vL Run.enc s_32.2.1)),(63,(vI (s_32.2.1.length:Int))),(64,(vI (k_54:Int)))]:List (Nat×V))) p.1 p.2.1 p.2.2.1 p.2.2.2) (fun p=>(fun (k_54:Nat) (l_55:List Run) (s_59:(List Rect)) (n_61:Nm)=>([(n_13,none),(n_61,gB 4 Rect.enc s_59)]:Hp)) p.1 p.2.1 p.2.2.1 p.2.2.2) (fun p=>forR (fun k x s=>lU s_32 x_29 k x s) p.2.1 p.1 p.2.2.1=some o_64∧(s_32.2.1).drop p.1=p.2.1) (fun p=>p.2.1.length) (0,s_32.2.1,s_32.1,n_35) ⟨hj_65,rfl⟩ rfl (aJ rfl) ?_)
       rintro ⟨k_54,l_55,s_59,n_61⟩ ⟨hL_63,hD_57⟩
       dsimp only at hL_63 hD_57
       cases l_55 with
       | nil =>
        obtain rfl:=ah hL_63
        refine af (aa (ae (vB (decide ((k_54:Int) < (s_32.2.1.length:Int)))) wz rfl (aj ?_)))
        refine af (ay rfl (drop_nil hD_57) (aQ ?_))
        exact aR (s_59,n_61) rfl rfl (aJ rfl)
       | cons x_56 l_55 =>
        obtain ⟨c_,hc_62,hL_63⟩:=bind_some hL_63
        refine af (aa (ae (vB (decide ((k_54:Int) < (s_32.2.1.length:Int)))) wz rfl (aj ?_)))
        refine af (aA rfl (bL hD_57) (av ?_))
        unfold lU at hc_62
        refine af (aC (af (aa (dU lH rfl rfl (bT hD_57) rfl wz (bN nE wW rfl (.d (.agg (Run.enc x_56))) rfl wz (dB 0 (.inl rfl) Ja rfl wz (fun n_66=>fH 0 il ft 2 nE rfl rfl [(vI x_56.f_from),(vI x_56.f_to)] rfl wz (aj (aa (ae (gV n_61 4 s_59) wz rfl (aI kX rfl 0 rfl wz (aD 0 2 il ft sz3 ag3 rfl rfl (vI x_56.f_from) rfl wz (ae (vI s_32.2.2) wz rfl (aI qz rfl 1 rfl wz (aD 0 2 il ft sz3 ag3 rfl rfl (vI x_56.f_to) rfl wz (aI kX rfl 0 rfl wz (aD 0 2 il ft sz3 ag3 rfl rfl (vI x_56.f_from) rfl wz (ae (vI (w64 (x_56.f_to - x_56.f_from))) wz rfl (ae (vI x_29) wz rfl (ae (vI s_32.2.2) wz rfl (ae (vI (w64 (x_29 - s_32.2.2))) wz rfl (ae (.d (.agg (Rect.enc (⟨x_56.f_from,s_32.2.2,(w64 (x_56.f_to - x_56.f_from)),(w64 (x_29 - s_32.2.2))⟩:Rect)))) wz (by kernel_rfl) (eU (([(⟨x_56.f_from,s_32.2.2,(w64 (x_56.f_to - x_56.f_from)),(w64 (x_29 - s_32.2.2))⟩:Rect)]:List Rect).map Rect.enc) F3 ez98 rfl rfl rfl rfl rfl wz ?_)))))))))))))))))))))))
        obtain ⟨a_67,hz_68,hc_62⟩:=bind_some hc_62
        refine lJ 0 il ft (i:=1) Je Je wB z45 rfl (by decide) by45 (by decide) (fun _=>rfl) rfl rfl rfl hz_68 wz (fun n_69=>ae (gV n_69 4 a_67) wz rfl (aj (aa (fJ (bO hD_57 hn_58) wz rfl (ae (vI ((k_54 + 1:Nat):Int)) wz rfl (aj ?_))))))
        obtain rfl:=ah hc_62
        exact aP (k_54 + 1,l_55,a_67,n_69) ⟨hL_63,aW hD_57⟩ (Nat.lt_succ_self _) rfl (aJ rfl)
      ·rintro ⟨s_59,n_61⟩ ho_ sl_ H_ hp_ hq_
       subst ho_
       refine aL _ hp_ hq_ (aa (ae (vL Run.enc v_42) wz rfl (ae (vI x_29) wz rfl (ae (vL Run.enc v_42) wz rfl (ae (vI x_29) wz rfl (aj (aa (fJ (bO hD_30 hn_31) wz rfl (ae (vI ((k_27 + 1:Nat):Int)) wz rfl (aj ?_))))))))))
       obtain rfl:=ah hc_36
       exact aP (k_27 + 1,l_28,(s_59,v_42,x_29),n_61) ⟨hL_37,aW hD_30⟩ (Nat.lt_succ_self _) rfl (aJ rfl)
  ·rintro ⟨s_32,n_35⟩ ho_ sl_ H_ hp_ hq_
   subst ho_
   refine aL _ hp_ hq_ (af (aa (ae (gV n_35 4 s_32.1) wz rfl (ae (gV n_35 4 s_32.1) wz rfl (aj (iK 1 rfl (eH 4 1 rfl rfl (eH 8 1 rfl rfl (eH 87 1 rfl rfl ?_)))))))))
   obtain rfl:=ah hF
   exact aB (aO (.inr rfl) [(vL Rect.enc s_32.1)] ⟨rfl,trivial⟩ rfl rfl rfl)
theorem Co {l_1:(List Rect)} {r:Int} (hF:rO l_1=some r) :
  FnM Tryz.prog 68 [(vL Rect.enc l_1)] [] (vI r) []:=by
 refine FnM.of_wH ⟨Tryz.prog,21,[],[]⟩ rfl Tryz.func68 rfl rfl (Nat.le_of_ble_eq_true rfl) (by kernel_rfl) ?_
 unfold rO at hF
 refine af (aa (ae (vI 0) wz rfl (aj (af (aa (ae (vI 0) wz rfl (aj (af (af (aa (ae (vL Rect.enc l_1) wz rfl (cO AA rfl wz (ae (vI 0) wz rfl (aj ?_))))))))))))))
 obtain ⟨o_10,hj_11,hF⟩:=bind_some hF
 obtain ⟨hn_6,hj_11⟩:=bv hj_11
 refine aH (β:=(Int)) (fun (s_7:Int)=>([(3,(vI s_7))]:List (Nat×V))) (fun (s_7:Int)=>([]:Hp)) (fun p=>o_10 = .go p) ?_ ?_
 ·refine aC (aV (β:=Nat×(List Rect)×(Int)) (fun p=>(fun (k_2:Nat) (l_3:List Rect) (s_7:Int)=>([(3,(vI s_7)),(6,(vL Rect.enc l_1)),(7,(vI (l_1.length:Int))),(8,(vI (k_2:Int)))]:List (Nat×V))) p.1 p.2.1 p.2.2) (fun p=>(fun (k_2:Nat) (l_3:List Rect) (s_7:Int)=>([]:Hp)) p.1 p.2.1 p.2.2) (fun p=>forR (fun k x s=>rq k x s) p.2.1 p.1 p.2.2=some o_10∧(l_1).drop p.1=p.2.1) (fun p=>p.2.1.length) (0,l_1,0) ⟨hj_11,rfl⟩ rfl (aJ rfl) ?_)
  rintro ⟨k_2,l_3,s_7⟩ ⟨hL_9,hD_5⟩
  dsimp only at hL_9 hD_5
  cases l_3 with
  | nil =>
   obtain rfl:=ah hL_9
   refine af (aa (ae (vB (decide ((k_2:Int) < (l_1.length:Int)))) wz rfl (aj ?_)))
   refine af (ay rfl (drop_nil hD_5) (aQ ?_))
   exact aR (s_7) rfl rfl (aJ rfl)
  | cons x_4 l_3 =>
   obtain ⟨c_,hc_8,hL_9⟩:=bind_some hL_9
   refine af (aa (ae (vB (decide ((k_2:Int) < (l_1.length:Int)))) wz rfl (aj ?_)))
   refine af (aA rfl (bL hD_5) (av ?_))
   unfold rq at hc_8
   refine af (aC (af (aa (dU F3 rfl rfl (bT hD_5) rfl wz (bN wB GL rfl (.d (.agg (Rect.enc x_4))) rfl wz (dB 0 (.inl rfl) z45 rfl wz (fun n_12=>fH 0 il ft 0 wB rfl rfl [(vI x_4.X),(vI x_4.Y),(vI x_4.W),(vI x_4.H)] rfl wz (aj (aa (ae (vI s_7) wz rfl (aI FD rfl 2 rfl wz (aD 0 0 il ft sz3 ag3 rfl rfl (vI x_4.W) rfl wz (aI Dy rfl 3 rfl wz (aD 0 0 il ft sz3 ag3 rfl rfl (vI x_4.H) rfl wz (ae (vI (w64 (x_4.W * x_4.H))) wz rfl (ae (vI (w64 (s_7 + (w64 (x_4.W * x_4.H))))) wz rfl (ae (vI (w64 (s_7 + (w64 (x_4.W * x_4.H))))) wz rfl (aj (aa (fJ (bO hD_5 hn_6) wz rfl (ae (vI ((k_2 + 1:Nat):Int)) wz rfl (aj ?_))))))))))))))))))))))
   obtain rfl:=ah hc_8
   exact aP (k_2 + 1,l_3,(w64 (s_7 + (w64 (x_4.W * x_4.H))))) ⟨hL_9,aW hD_5⟩ (Nat.lt_succ_self _) rfl (aJ rfl)
 ·rintro s_7 ho_ sl_ H_ hp_ hq_
  subst ho_
  refine aL _ hp_ hq_ (af (aa (ae (vI s_7) wz rfl (ae (vI s_7) wz rfl (aj ?_)))))
  obtain rfl:=ah hF
  exact aB (aO (.inr rfl) [(vI s_7)] ⟨rfl,trivial⟩ rfl rfl rfl)
theorem Cz {l_1:(List Rect)} {r:Int×Int} (hF:pJ l_1=some r) :
  FnM Tryz.prog 77 [(vL Rect.enc l_1)] [] (.tup [(vI r.1),(vI r.2)]) []:=by
 refine FnM.of_wH ⟨Tryz.prog,13,[],[]⟩ rfl Tryz.func77 rfl rfl (Nat.le_of_ble_eq_true rfl) (by kernel_rfl) ?_
 unfold pJ at hF
 refine af (aa (ae (vI 0) wz rfl (ae (vI 0) wz rfl (aj (af (af (aa (ae (vL Rect.enc l_1) wz rfl ?_))))))))
 obtain ⟨r_2,hr_3,hF⟩:=bind_some hF
 refine aG (ww hr_3) rfl hb151 rfl rfl rfl rfl wz (ae (vI r_2) wz rfl (aj (af (aa (ae (vI r_2) wz rfl (ae (vB (r_2 != 0)) wz rfl (aj ?_)))))))
 rcases au hF with⟨hc_4,hF⟩ | ⟨hc_4,hF⟩
 ·refine aA rfl hc_4 (af (aa (ae (vI r_2) wz rfl (ae (vI 0) wz rfl (ae (vI r_2) wz rfl (aj ?_))))))
  obtain rfl:=ah hF
  exact aB (aO (.inr rfl) [(vI 0),(vI r_2)] ⟨rfl,⟨rfl,trivial⟩⟩ rfl rfl rfl)
 ·refine ay rfl hc_4 (av (af (aa (ae (vL Rect.enc l_1) wz rfl ?_))))
  obtain ⟨r_5,hr_6,hF⟩:=bind_some hF
  refine aG (AU hr_6) rfl hb69 rfl rfl rfl rfl wz ?_
  obtain ⟨r_7,hr_8,hF⟩:=bind_some hF
  refine aG (Co hr_8) rfl hb68 rfl rfl rfl rfl wz (ae (vI r_7) wz rfl (ae (vI 0) wz rfl (aj ?_)))
  obtain rfl:=ah hF
  exact aB (aO (.inr rfl) [(vI r_7),(vI 0)] ⟨rfl,⟨rfl,trivial⟩⟩ rfl rfl rfl)
theorem y5 {e_1:Entry} {zone_2:Int} {wv_3:Window} {r:(List Window)} (hF:fG e_1 zone_2 wv_3=some r) :
  FnM Tryz.prog 154 [(.d (.agg (Entry.enc e_1))),(vI zone_2),(.d (.agg (Window.enc wv_3)))] [] (gV (ax 0) 2 r) (([]:List Box).map some++gO 2 Window.enc r):=by
 refine FnM.of_wH ⟨Tryz.prog,72,[],[]⟩ rfl Tryz.func154 rfl rfl (Nat.le_of_ble_eq_true rfl) (by kernel_rfl) ?_
 unfold fG at hF
 refine af (aa (ek 0 (.inl rfl) [(vS e_1.Key),(vS e_1.Item),(vI e_1.Version),(vI e_1.First),(vI e_1.Last),(vI e_1.Every),(vI e_1.Days),(vL eI e_1.Except),(vI e_1.From),(vI e_1.To),(vI e_1.Prio),(vL eS e_1.Tags),(vB e_1.Gone)] rfl rfl wz (fun n_4=>ek 0 (.inl rfl) [(vI wv_3.From),(vI wv_3.To)] rfl rfl wz (fun n_5=>ae .nil wz rfl (aj (af (aa (ae .nil wz rfl (aj (af (af ?_)))))))))))
 obtain ⟨v_6,h_7,hF⟩:=bind_some hF
 refine aH (β:=Unit) (fun _=>([(1,(vI zone_2)),(3,(.ref n_4 0 0)),(5,(.ref n_5 0 0)),(7,.nil),(20,(vB v_6))]:List (Nat×V))) (fun _=>([(n_4,some (.cells 13 [(vS e_1.Key),(vS e_1.Item),(vI e_1.Version),(vI e_1.First),(vI e_1.Last),(vI e_1.Every),(vI e_1.Days),(vL eI e_1.Except),(vI e_1.From),(vI e_1.To),(vI e_1.Prio),(vL eS e_1.Tags),(vB e_1.Gone)])),(n_5,some (.cells 2 [(vI wv_3.From),(vI wv_3.To)]))]:Hp)) (fun _=>True) ?_ ?_
 ·refine aa (aI HV rfl 12 rfl wz (aD 0 0 il ft sz4 ag4 rfl rfl (vB e_1.Gone) rfl wz ?_))
  rcases au h_7 with⟨hc_8,h_7⟩ | ⟨hc_8,h_7⟩
  ·refine aF rfl hc_8 wz (ak wa (ak wa (ak wa (ak wa (ak wa (ae (vB true) wz rfl (aj ?_)))))))
   obtain rfl:=ah h_7
   exact cu
  ·refine aF rfl hc_8 wz (aI iH rfl 0 rfl wa (aD 0 1 il ft sz3 ag3 rfl rfl (vI wv_3.From) rfl wa (aI jF rfl 1 rfl wa (aD 0 1 il ft sz3 ag3 rfl rfl (vI wv_3.To) rfl wa (ae (vB (decide (wv_3.From≥wv_3.To))) wa rfl (ae (vB (decide (wv_3.From≥wv_3.To))) wz rfl (aj ?_)))))))
   obtain rfl:=ah h_7
   exact cu
 ·rintro ⟨⟩ _ sl_ H_ hp_ hq_
  refine aL _ hp_ hq_ ?_
  rcases au hF with⟨hc_9,hF⟩ | ⟨hc_9,hF⟩
  ·refine aA rfl hc_9 (af (aa (ae .nil wz rfl (aj (mo (fun n_10 => ?_))))))
   obtain rfl:=ah hF
   exact aB (finG (outs:=([]:List Box)) (.inr rfl) 2 rfl rfl rfl (by kernel_rfl) (by kernel_rfl))
  ·refine ay rfl hc_9 (av (af (aa (aI iH rfl 0 rfl wz (aD 0 1 il ft sz3 ag3 rfl rfl (vI wv_3.From) rfl wz (ae (vI zone_2) wz rfl (ae (vI (w64 (zone_2 * 60000))) wz rfl (ae (vI (w64 (wv_3.From + (w64 (zone_2 * 60000))))) wz rfl (ae (vI (w64 ((w64 (wv_3.From + (w64 (zone_2 * 60000)))).tdiv 86400000))) wz rfl (ae (vI (w64 ((w64 ((w64 (wv_3.From + (w64 (zone_2 * 60000)))).tdiv 86400000)) - 2))) wz rfl (ae (vI (w64 ((w64 ((w64 (wv_3.From + (w64 (zone_2 * 60000)))).tdiv 86400000)) - 2))) wz rfl (aj (af (aa (aI jF rfl 1 rfl wz (aD 0 1 il ft sz3 ag3 rfl rfl (vI wv_3.To) rfl wz (ae (vI zone_2) wz rfl (ae (vI (w64 (zone_2 * 60000))) wz rfl (ae (vI (w64 (wv_3.To + (w64 (zone_2 * 60000))))) wz rfl (ae (vI (w64 ((w64 (wv_3.To + (w64 (zone_2 * 60000)))).tdiv 86400000))) wz rfl (ae (vI (w64 ((w64 ((w64 (wv_3.To + (w64 (zone_2 * 60000)))).tdiv 86400000)) + 1))) wz rfl (ae (vI (w64 ((w64 ((w64 (wv_3.To + (w64 (zone_2 * 60000)))).tdiv 86400000)) + 1))) wz rfl (aj ?_)))))))))))))))))))))))
   refine af (af (aa (ae (vI (w64 ((w64 ((w64 (wv_3.From + (w64 (zone_2 * 60000)))).tdiv 86400000)) - 2))) wz rfl (aI xC rfl 3 rfl wz (aD 0 0 il ft sz3 ag3 rfl rfl (vI e_1.First) rfl wz (nS (vI (ma (w64 ((w64 ((w64 (wv_3.From + (w64 (zone_2 * 60000)))).tdiv 86400000)) - 2)) e_1.First)) rfl (.inr rfl) wz (ae (vI (ma (w64 ((w64 ((w64 (wv_3.From + (w64 (zone_2 * 60000)))).tdiv 86400000)) - 2)) e_1.First)) wz rfl (aj (mo (fun n_17 => ?_))))))))))
   obtain ⟨o_22,hj_23,hF⟩:=bind_some hF
   obtain ⟨nq_41,hj_23⟩:=cz hj_23
   refine aH (β:=((List Window)×Int)×Nm) (fun p=>(fun (s_16:(List Window)×Int) (n_19:Nm)=>([(7,(gV n_19 2 s_16.1))]:List (Nat×V))) p.1 p.2) (fun p=>(fun (s_16:(List Window)×Int) (n_19:Nm)=>([(n_4,some (.cells 13 [(vS e_1.Key),(vS e_1.Item),(vI e_1.Version),(vI e_1.First),(vI e_1.Last),(vI e_1.Every),(vI e_1.Days),(vL eI e_1.Except),(vI e_1.From),(vI e_1.To),(vI e_1.Prio),(vL eS e_1.Tags),(vB e_1.Gone)])),(n_5,some (.cells 2 [(vI wv_3.From),(vI wv_3.To)])),(n_19,gB 2 Window.enc s_16.1)]:Hp)) p.1 p.2) (fun p=>o_22 = .go p.1) ?_ ?_
   ·refine aC (aV (β:=Nat×((List Window)×Int)×Nm) (fun p=>(fun (k_11:Nat) (s_16:(List Window)×Int) (n_19:Nm)=>([(1,(vI zone_2)),(3,(.ref n_4 0 0)),(5,(.ref n_5 0 0)),(7,(gV n_19 2 s_16.1)),(9,(vI (w64 ((w64 ((w64 (wv_3.To + (w64 (zone_2 * 60000)))).tdiv 86400000)) + 1)))),(10,(vI s_16.2))]:List (Nat×V))) p.1 p.2.1 p.2.2) (fun p=>(fun (k_11:Nat) (s_16:(List Window)×Int) (n_19:Nm)=>([(n_4,some (.cells 13 [(vS e_1.Key),(vS e_1.Item),(vI e_1.Version),(vI e_1.First),(vI e_1.Last),(vI e_1.Every),(vI e_1.Days),(vL eI e_1.Except),(vI e_1.From),(vI e_1.To),(vI e_1.Prio),(vL eS e_1.Tags),(vB e_1.Gone)])),(n_5,some (.cells 2 [(vI wv_3.From),(vI wv_3.To)])),(n_19,gB 2 Window.enc s_16.1)]:Hp)) p.1 p.2.1 p.2.2) (fun p=>iterN (fun s=>dM wv_3 zone_2 e_1 s) p.1 p.2.1=some o_22) (fun p=>p.1) (nq_41,(([]:List Window),(ma (w64 ((w64 ((w64 (wv_3.From + (w64 (zone_2 * 60000)))).tdiv 86400000)) - 2)) e_1.First)),n_17) hj_23 rfl (aJ rfl) ?_)
    rintro ⟨k_11,s_16,n_19⟩ hL_21
    dsimp only at hL_21
    cases k_11 with
    | zero=>cases hL_21
    | succ k_11 =>
     obtain ⟨c_,hc_20,hL_21⟩:=bind_some hL_21
     unfold dM at hc_20
     refine af (af (aa (ae (vI s_16.2) wz rfl (ae (vI (w64 ((w64 ((w64 (wv_3.To + (w64 (zone_2 * 60000)))).tdiv 86400000)) + 1))) wz rfl (aI xx rfl 4 rfl wz (aD 0 0 il ft sz3 ag3 rfl rfl (vI e_1.Last) rfl wz (nS (vI (p9 (w64 ((w64 ((w64 (wv_3.To + (w64 (zone_2 * 60000)))).tdiv 86400000)) + 1)) e_1.Last)) rfl (.inl rfl) wz (ae (vB (decide (s_16.2≤(p9 (w64 ((w64 ((w64 (wv_3.To + (w64 (zone_2 * 60000)))).tdiv 86400000)) + 1)) e_1.Last)))) wz rfl (aj ?_)))))))))
     rcases au hc_20 with⟨hc_24,hc_20⟩ | ⟨hc_24,hc_20⟩
     ·refine aA rfl hc_24 (av (af (aC (af (af (aa (aD 0 0 il ft qo tK rfl rfl (.d (.agg (Entry.enc e_1))) rfl wz (ae (vI s_16.2) wz rfl ?_))))))))
      obtain ⟨r_25,hr_26,hc_20⟩:=bind_some hc_20
      refine aG (rY hr_26) rfl hb198 rfl rfl rfl rfl wz (ae (vB (!r_25)) wz rfl (aj ?_))
      rcases au hc_20 with⟨hc_27,hc_20⟩ | ⟨hc_27,hc_20⟩
      ·refine aA rfl hc_27 (aQ (aa (ae (vI s_16.2) wz rfl (ae (vI (w64 (s_16.2 + 1))) wz rfl (ae (vI (w64 (s_16.2 + 1))) wz rfl (aj ?_))))))
       obtain rfl:=ah hc_20
       exact aP (k_11,(s_16.1,(w64 (s_16.2 + 1))),n_19) hL_21 (Nat.lt_succ_self _) rfl (aJ rfl)
      ·refine ay rfl hc_27 (av (af (aa (aD 0 0 il ft qo tK rfl rfl (.d (.agg (Entry.enc e_1))) rfl wz (ae (vI zone_2) wz rfl (ae (vI s_16.2) wz rfl ?_))))))
       obtain ⟨r_28,hr_29,hc_20⟩:=bind_some hc_20
       refine aG (qY hr_29) rfl hb199 rfl rfl rfl rfl wz (dB 0 (.inl rfl) z60 rfl wz (fun n_30=>fH 0 il ft 3 mE rfl rfl [(vI r_28.From),(vI r_28.To)] rfl wz (aj (af ?_))))
       obtain ⟨v_31,h_32,hc_20⟩:=bind_some hc_20
       refine aH (β:=Unit) (fun _=>([(1,(vI zone_2)),(3,(.ref n_4 0 0)),(5,(.ref n_5 0 0)),(7,(gV n_19 2 s_16.1)),(9,(vI (w64 ((w64 ((w64 (wv_3.To + (w64 (zone_2 * 60000)))).tdiv 86400000)) + 1)))),(10,(vI s_16.2)),(11,(.ref n_30 0 0)),(66,(vB v_31))]:List (Nat×V))) (fun _=>([(n_4,some (.cells 13 [(vS e_1.Key),(vS e_1.Item),(vI e_1.Version),(vI e_1.First),(vI e_1.Last),(vI e_1.Every),(vI e_1.Days),(vL eI e_1.Except),(vI e_1.From),(vI e_1.To),(vI e_1.Prio),(vL eS e_1.Tags),(vB e_1.Gone)])),(n_5,some (.cells 2 [(vI wv_3.From),(vI wv_3.To)])),(n_19,gB 2 Window.enc s_16.1),(n_30,some (.cells 2 [(vI r_28.From),(vI r_28.To)]))]:Hp)) (fun _=>True) ?_ ?_
       ·refine aa (aI iH rfl 0 rfl wz (aD 0 3 il ft sz3 ag3 rfl rfl (vI r_28.From) rfl wz (aI jF rfl 1 rfl wz (aD 0 1 il ft sz3 ag3 rfl rfl (vI wv_3.To) rfl wz (ae (vB (decide (r_28.From < wv_3.To))) wz rfl ?_)))))
        rcases au h_32 with⟨hc_33,h_32⟩ | ⟨hc_33,h_32⟩
        ·refine aF rfl hc_33 wz (aI jF rfl 1 rfl wa (aD 0 3 il ft sz3 ag3 rfl rfl (vI r_28.To) rfl wa (aI iH rfl 0 rfl wa (aD 0 1 il ft sz3 ag3 rfl rfl (vI wv_3.From) rfl wa (ae (vB (decide (r_28.To > wv_3.From))) wa rfl (ae (vB (decide (r_28.To > wv_3.From))) wz rfl (aj ?_)))))))
         obtain rfl:=ah h_32
         exact cu
        ·refine aF rfl hc_33 wz (ak wa (ak wa (ak wa (ak wa (ak wa (ae (vB false) wz rfl (aj ?_)))))))
         obtain rfl:=ah h_32
         exact cu
       ·rintro ⟨⟩ _ sl_ H_ hp_ hq_
        refine aL _ hp_ hq_ ?_
        obtain ⟨v_34,h_35,hc_20⟩:=bind_some hc_20
        refine aH (β:=Nm) (fun (n_36:Nm)=>([(1,(vI zone_2)),(3,(.ref n_4 0 0)),(5,(.ref n_5 0 0)),(7,(gV n_36 2 v_34)),(9,(vI (w64 ((w64 ((w64 (wv_3.To + (w64 (zone_2 * 60000)))).tdiv 86400000)) + 1)))),(10,(vI s_16.2))]:List (Nat×V))) (fun (n_36:Nm)=>([(n_4,some (.cells 13 [(vS e_1.Key),(vS e_1.Item),(vI e_1.Version),(vI e_1.First),(vI e_1.Last),(vI e_1.Every),(vI e_1.Days),(vL eI e_1.Except),(vI e_1.From),(vI e_1.To),(vI e_1.Prio),(vL eS e_1.Tags),(vB e_1.Gone)])),(n_5,some (.cells 2 [(vI wv_3.From),(vI wv_3.To)])),(n_36,gB 2 Window.enc v_34),(n_30,some (.cells 2 [(vI r_28.From),(vI r_28.To)]))]:Hp)) (fun _=>True) ?_ ?_
        ·rcases au h_35 with⟨hc_37,h_35⟩ | ⟨hc_37,h_35⟩
         ·refine aA rfl hc_37 (aa (ae (gV n_19 2 s_16.1) wz rfl (aD 0 3 il ft mE sw rfl rfl (.d (.agg (Window.enc r_28))) rfl wz (eU (([r_28]:List Window).map Window.enc) Eu ez147 rfl rfl rfl rfl rfl wz ?_))))
          obtain ⟨a_38,hz_39,h_35⟩:=bind_some h_35
          refine lJ 0 il ft (i:=2) JU JU mE z60 rfl (by decide) by60 (by decide) (fun _=>rfl) rfl rfl rfl hz_39 wz (fun n_40=>ae (gV n_40 2 a_38) wz rfl (aj ?_))
          obtain rfl:=ah h_35
          exact aR n_40 trivial rfl (aJ rfl)
         ·refine ay rfl hc_37 (av ?_)
          obtain rfl:=ah h_35
          exact aR n_19 trivial rfl (aJ rfl)
        ·rintro n_36 _ sl_ H_ hp_ hq_
         refine aL _ hp_ hq_ (aa (ae (vI s_16.2) wz rfl (ae (vI (w64 (s_16.2 + 1))) wz rfl (ae (vI (w64 (s_16.2 + 1))) wz rfl (aj ?_)))))
         obtain rfl:=ah hc_20
         exact aP (k_11,(v_34,(w64 (s_16.2 + 1))),n_36) hL_21 (Nat.lt_succ_self _) rfl (aJ rfl)
     ·refine ay rfl hc_24 (aQ ?_)
      obtain rfl:=ah hc_20
      obtain rfl:=ah hL_21
      exact aR ((s_16.1,s_16.2),n_19) rfl rfl (aJ rfl)
   ·rintro ⟨s_16,n_19⟩ ho_ sl_ H_ hp_ hq_
    subst ho_
    refine aL _ hp_ hq_ (af (aa (ae (gV n_19 2 s_16.1) wz rfl (ae (gV n_19 2 s_16.1) wz rfl (aj ?_)))))
    obtain rfl:=ah hF
    exact aB (finG (outs:=([]:List Box)) (.inr rfl) 2 rfl rfl rfl (by kernel_rfl) (by kernel_rfl))
theorem zC {e_1:Entry} {zone_2:Int} {wv_3:Window} {r:(List Window)×Int} (hF:lq e_1 zone_2 wv_3=some r) :
  FnM Tryz.prog 78 [(.d (.agg (Entry.enc e_1))),(vI zone_2),(.d (.agg (Window.enc wv_3)))] [] (.tup [(vL Window.enc r.1),(vI r.2)]) []:=by
 refine FnM.of_wH ⟨Tryz.prog,45,[],[]⟩ rfl Tryz.func78 rfl rfl (Nat.le_of_ble_eq_true rfl) (by kernel_rfl) ?_
 unfold lq at hF
 refine af (aa (ek 0 (.inl rfl) [(vS e_1.Key),(vS e_1.Item),(vI e_1.Version),(vI e_1.First),(vI e_1.Last),(vI e_1.Every),(vI e_1.Days),(vL eI e_1.Except),(vI e_1.From),(vI e_1.To),(vI e_1.Prio),(vL eS e_1.Tags),(vB e_1.Gone)] rfl rfl wz (fun n_4=>ek 0 (.inl rfl) [(vI wv_3.From),(vI wv_3.To)] rfl rfl wz (fun n_5=>ae .nil wz rfl (ae (vI 0) wz rfl (aj (af (af (aa (aD 0 0 il ft qo tK rfl rfl (.d (.agg (Entry.enc e_1))) rfl wz (eU (([e_1]:List Entry).map Entry.enc) Ed ez77 rfl rfl rfl rfl rfl wz ?_)))))))))))
 obtain ⟨r_6,hr_7,hF⟩:=bind_some hF
 refine aG (mH hr_7) rfl hb152 rfl rfl rfl rfl wz (ae (vI r_6) wz rfl (aj (af (aa (ae (vI r_6) wz rfl (ae (vB (r_6 != 0)) wz rfl (aj ?_)))))))
 rcases au hF with⟨hc_8,hF⟩ | ⟨hc_8,hF⟩
 ·refine aA rfl hc_8 (af (aa (ae (vI r_6) wz rfl (ae .nil wz rfl (ae (vI r_6) wz rfl (aj ?_))))))
  obtain rfl:=ah hF
  exact aB (aO (.inr rfl) [.nil,(vI r_6)] ⟨rfl,⟨rfl,trivial⟩⟩ rfl rfl rfl)
 ·refine ay rfl hc_8 (av (af (af (aa (ae (vI zone_2) wz rfl ?_)))))
  obtain ⟨r_9,hr_10,hF⟩:=bind_some hF
  refine aG (bg hr_10) rfl qE rfl rfl rfl rfl wz (aj ?_)
  rcases au hF with⟨hc_11,hF⟩ | ⟨hc_11,hF⟩
  ·refine aA rfl hc_11 (af (aa (ae .nil wz rfl (ae (vI 1) wz rfl (aj ?_)))))
   obtain rfl:=ah hF
   exact aB (aO (.inr rfl) [.nil,(vI 1)] ⟨rfl,⟨rfl,trivial⟩⟩ rfl rfl rfl)
  ·refine ay rfl hc_11 (av (af (af (aa (aD 0 1 il ft mE sw rfl rfl (.d (.agg (Window.enc wv_3))) rfl wz ?_)))))
   obtain ⟨r_12,hr_13,hF⟩:=bind_some hF
   refine aG (tL hr_13) rfl hb153 rfl rfl rfl rfl wz (ae (vI r_12) wz rfl (aj (af (aa (ae (vI r_12) wz rfl (ae (vB (r_12 != 0)) wz rfl (aj ?_)))))))
   rcases au hF with⟨hc_14,hF⟩ | ⟨hc_14,hF⟩
   ·refine aA rfl hc_14 (af (aa (ae (vI r_12) wz rfl (ae .nil wz rfl (ae (vI r_12) wz rfl (aj ?_))))))
    obtain rfl:=ah hF
    exact aB (aO (.inr rfl) [.nil,(vI r_12)] ⟨rfl,⟨rfl,trivial⟩⟩ rfl rfl rfl)
   ·refine ay rfl hc_14 (av (af (aa (aD 0 0 il ft qo tK rfl rfl (.d (.agg (Entry.enc e_1))) rfl wz (ae (vI zone_2) wz rfl (aD 0 1 il ft mE sw rfl rfl (.d (.agg (Window.enc wv_3))) rfl wz ?_))))))
    obtain ⟨r_15,hr_16,hF⟩:=bind_some hF
    refine Gu [] (y5 hr_16) rfl MU rfl (by kernel_rfl) (by kernel_rfl) (by kernel_rfl) (by kernel_rfl) (by kernel_rfl) rfl (by decide) (by kernel_rfl) wz ([(n_4,some (.cells 13 [(vS e_1.Key),(vS e_1.Item),(vI e_1.Version),(vI e_1.First),(vI e_1.Last),(vI e_1.Every),(vI e_1.Days),(vL eI e_1.Except),(vI e_1.From),(vI e_1.To),(vI e_1.Prio),(vL eS e_1.Tags),(vB e_1.Gone)])),(n_5,some (.cells 2 [(vI wv_3.From),(vI wv_3.To)]))]:Hp) (fun _=>by kernel_rfl) (fun n_18=>ae (gV n_18 2 r_15) wz rfl (aj (af (af (aa (ae (gV n_18 2 r_15) wz rfl (Ao JW rfl wz (ae (vI 0) wz rfl (aj ?_)))))))))
    obtain ⟨o_27,hj_28,hF⟩:=bind_some hF
    obtain ⟨hn_23,hj_28⟩:=bv hj_28
    refine aH (β:=((List Window))) (fun (s_24:(List Window))=>([(10,(gV n_18 2 s_24))]:List (Nat×V))) (fun (s_24:(List Window))=>([(n_4,some (.cells 13 [(vS e_1.Key),(vS e_1.Item),(vI e_1.Version),(vI e_1.First),(vI e_1.Last),(vI e_1.Every),(vI e_1.Days),(vL eI e_1.Except),(vI e_1.From),(vI e_1.To),(vI e_1.Prio),(vL eS e_1.Tags),(vB e_1.Gone)])),(n_5,some (.cells 2 [(vI wv_3.From),(vI wv_3.To)])),(n_18,gB 2 Window.enc s_24)]:Hp)) (fun p=>o_27 = .go p) ?_ ?_
    ·refine aC (aV (β:=Nat×(List Nat)×((List Window))) (fun p=>(fun (k_19:Nat) (l_20:List Nat) (s_24:(List Window))=>([(5,(.ref n_5 0 0)),(10,(gV n_18 2 s_24)),(30,(gV n_18 2 s_24)),(31,(vI (r_15.length:Int))),(32,(vI (k_19:Int)))]:List (Nat×V))) p.1 p.2.1 p.2.2) (fun p=>(fun (k_19:Nat) (l_20:List Nat) (s_24:(List Window))=>([(n_4,some (.cells 13 [(vS e_1.Key),(vS e_1.Item),(vI e_1.Version),(vI e_1.First),(vI e_1.Last),(vI e_1.Every),(vI e_1.Days),(vL eI e_1.Except),(vI e_1.From),(vI e_1.To),(vI e_1.Prio),(vL eS e_1.Tags),(vB e_1.Gone)])),(n_5,some (.cells 2 [(vI wv_3.From),(vI wv_3.To)])),(n_18,gB 2 Window.enc s_24)]:Hp)) p.1 p.2.1 p.2.2) (fun p=>forR (fun k x s=>kR wv_3 k x s) p.2.1 p.1 p.2.2=some o_27∧((List.range ((r_15.length:Int)).toNat)).drop p.1=p.2.1) (fun p=>p.2.1.length) (0,(List.range ((r_15.length:Int)).toNat),r_15) ⟨hj_28,rfl⟩ rfl (aJ rfl) ?_)
     rintro ⟨k_19,l_20,s_24⟩ ⟨hL_26,hD_22⟩
     dsimp only at hL_26 hD_22
     cases l_20 with
     | nil =>
      obtain rfl:=ah hL_26
      refine af (aa (ae (vB (decide ((k_19:Int) < (r_15.length:Int)))) wz rfl (aj ?_)))
      refine af (ay rfl (xh hD_22) (aQ ?_))
      exact aR (s_24) rfl rfl (aJ rfl)
     | cons x_21 l_20 =>
      obtain ⟨c_,hc_25,hL_26⟩:=bind_some hL_26
      refine af (aa (ae (vB (decide ((k_19:Int) < (r_15.length:Int)))) wz rfl (aj ?_)))
      refine af (aA rfl (uz hD_22) (av ?_))
      unfold kR at hc_25
      refine af (aC (af (aa (ae (vI (k_19:Int)) wz rfl ?_))))
      obtain ⟨_,hi_29,hc_25⟩:=bind_some hc_25
      refine vk Eu rfl rfl (jf hi_29) (gm hi_29) wz ?_
      obtain ⟨e_30,hy_31,hc_25⟩:=bind_some hc_25
      refine ko 0 2 il ft mE sw rfl rfl hy_31 (.d (.agg (Window.enc e_30))) rfl wz (dB 0 (.inl rfl) z60 rfl wz (fun n_32=>ae (vI (k_19:Int)) wz rfl (fH 0 il ft 3 mE rfl rfl [(vI e_30.From),(vI e_30.To)] rfl wz (aj (aa (ae (gV n_18 2 s_24) wz rfl (ae (vI (k_19:Int)) wz rfl (aD 0 3 il ft mE sw rfl rfl (.d (.agg (Window.enc e_30))) rfl wz (aD 0 1 il ft mE sw rfl rfl (.d (.agg (Window.enc wv_3))) rfl wz ?_)))))))))
      obtain ⟨r_33,hr_34,hc_25⟩:=bind_some hc_25
      refine aG (vF hr_34) rfl hb155 rfl rfl rfl rfl wz ?_
      obtain ⟨_,hi_35,hc_25⟩:=bind_some hc_25
      refine vk Eu rfl rfl (jf hi_35) (gm hi_35) wz ?_
      obtain ⟨e_36,hy_37,hc_25⟩:=bind_some hc_25
      refine yX 0 il ft 2 mE rfl rfl hy_37 r_33 rfl wz (dN (v':=(gV n_18 2 (s_24.set (0 + ((k_19:Int)).toNat) r_33))) 10 rfl (jQ (by simp)) (dN (v':=(gV n_18 2 (s_24.set (0 + ((k_19:Int)).toNat) r_33))) 30 rfl (jQ (by simp)) (dN (v':=(gV n_18 2 (s_24.set (0 + ((k_19:Int)).toNat) r_33))) 37 rfl (jQ (by simp)) (aj (aa (fJ (xn hD_22 hn_23) wz rfl (ae (vI ((k_19 + 1:Nat):Int)) wz rfl (aj ?_))))))))
      obtain rfl:=ah hc_25
      exact aP (k_19 + 1,l_20,(s_24.set (0 + ((k_19:Int)).toNat) r_33)) ⟨hL_26,aW hD_22⟩ (Nat.lt_succ_self _) rfl (aJ rfl)
    ·rintro s_24 ho_ sl_ H_ hp_ hq_
     subst ho_
     refine aL _ hp_ hq_ (af (aa (ae (gV n_18 2 s_24) wz rfl (ae (gV n_18 2 s_24) wz rfl (ae (vI 0) wz rfl (aj (iK 2 rfl (eH 6 2 rfl rfl (eH 10 2 rfl rfl (eH 44 2 rfl rfl ?_))))))))))
     obtain rfl:=ah hF
     exact aB (aO (.inr rfl) [(vL Window.enc s_24),(vI 0)] ⟨rfl,⟨rfl,trivial⟩⟩ rfl rfl rfl)
theorem zV {wv_1:Window} {r:Bool} (hF:ol wv_1=some r) :
  FnM Tryz.prog 200 [(.d (.agg (Window.enc wv_1)))] [] (vB r) []:=by
 refine FnM.of_wH ⟨Tryz.prog,18,[],[]⟩ rfl Tryz.func200 rfl rfl (Nat.le_of_ble_eq_true rfl) (by kernel_rfl) ?_
 unfold ol at hF
 refine af (aa (ek 0 (.inl rfl) [(vI wv_1.From),(vI wv_1.To)] rfl rfl wz (fun n_2=>ae (vB false) wz rfl (aj (af ?_)))))
 obtain ⟨v_3,h_4,hF⟩:=bind_some hF
 refine aH (β:=Unit) (fun _=>([(2,(vB v_3))]:List (Nat×V))) (fun _=>([(n_2,some (.cells 2 [(vI wv_1.From),(vI wv_1.To)]))]:Hp)) (fun _=>True) ?_ ?_
 ·refine aa (aI iH rfl 0 rfl wz (aD 0 0 il ft sz3 ag3 rfl rfl (vI wv_1.From) rfl wz (ae (vB (decide (wv_1.From≥0))) wz rfl ?_)))
  rcases au h_4 with⟨hc_5,h_4⟩ | ⟨hc_5,h_4⟩
  ·refine aF rfl hc_5 wz (aI iH rfl 0 rfl wa (aD 0 0 il ft sz3 ag3 rfl rfl (vI wv_1.From) rfl wa (aI jF rfl 1 rfl wa (aD 0 0 il ft sz3 ag3 rfl rfl (vI wv_1.To) rfl wa (ae (vB (decide (wv_1.From < wv_1.To))) wa rfl (ae (vB (decide (wv_1.From < wv_1.To))) wz rfl ?_))))))
   rcases au h_4 with⟨hc_6,h_4⟩ | ⟨hc_6,h_4⟩
   ·refine aF rfl hc_6 wz (aI jF rfl 1 rfl wa (aD 0 0 il ft sz3 ag3 rfl rfl (vI wv_1.To) rfl wa (ae (vB (decide (wv_1.To≤345686400000))) wa rfl (ae (vB (decide (wv_1.To≤345686400000))) wz rfl (ae (vB (decide (wv_1.To≤345686400000))) wz rfl (aj ?_))))))
    obtain rfl:=ah h_4
    exact cu
   ·refine aF rfl hc_6 wz (ak wa (ak wa (ak wa (ae (vB false) wz rfl (ae (vB false) wz rfl (aj ?_))))))
    obtain rfl:=ah h_4
    exact cu
  ·refine aF rfl hc_5 wz (ak wa (ak wa (ak wa (ak wa (ak wa (ae (vB false) wz rfl (ae (vB false) wz rfl (ak wa (ak wa (ak wa (ae (vB false) wz rfl (ae (vB false) wz rfl (aj ?_)))))))))))))
   obtain rfl:=ah h_4
   exact cu
 ·rintro ⟨⟩ _ sl_ H_ hp_ hq_
  refine aL _ hp_ hq_ ?_
  obtain rfl:=ah hF
  exact aB (aO (.inr rfl) [(vB v_3)] ⟨rfl,trivial⟩ rfl rfl rfl)
end Go.Proofs.YtjhcehhmdmbleaaGreatDoor.Law

