/-
 The machine computes these plain functions (written by a program of ours).
-/
import Derived.Test.YtpojeclokolkaaaGreatDoorFacts
import Derived.Test.YtpojeclokolkaaaGreatDoorDefs
import Derived.Test.YtpojeclokolkaaaGreatDoorPf2
open Go Go.Eng Go.Proofs
namespace Go.Proofs.YtpojeclokolkaaaGreatDoor.Law
set_option maxRecDepth 100000
set_option linter.unusedVariables false
set_option maxHeartbeats 1000000
theorem slices_insertionSortCmpFunc_api_Alert_v2_ok {data_1 : (List Alert)} {a_2 : Int} {b_3 : Int} {r : (List Alert)} (hF : slices_insertionSortCmpFunc_api_Alert_v2 data_1 a_2 b_3 = some r) :
  FnM Tryz.prog 223 [(dV (extN 0) 9 data_1), (vI a_2), (vI b_3), (.fn 194 [])] (([] : List Box) ++ gI 9 Alert.enc data_1) (.tup []) (([] : List Box).map some ++ gT data_1 (gB 9 Alert.enc r)) := by
 refine FnM.of_wHv ⟨Tryz.prog, 53, [], []⟩ rfl Tryz.func223 rfl rfl (Nat.le_of_ble_eq_true rfl) (by kernel_rfl) ?_
 unfold slices_insertionSortCmpFunc_api_Alert_v2 at hF
 refine wH_seq (wH_region (h_op (vI a_2) wz rfl (h_op (vI (w64 (a_2 + 1))) wz rfl (h_op (vI (w64 (a_2 + 1))) wz rfl (h_nil ?_)))))
 obtain ⟨o_13, hj_14, hF⟩ := bind_some hF
 obtain ⟨nq_51, hj_14⟩ := loopO_iter hj_14
 refine wH_join (β := ((List Alert) × Int)) (fun (s_10 : (List Alert) × Int) => ([] : List (Nat × V))) (fun (s_10 : (List Alert) × Int) => ([((extN 0), gB 9 Alert.enc s_10.1)] : Hp)) (fun p => o_13 = .go p) ?_ ?_
 ·refine wH_block (wH_loop (β := Nat × ((List Alert) × Int)) (fun p => (fun (k_5 : Nat) (s_10 : (List Alert) × Int) => ([(0, (dV (extN 0) 9 s_10.1)), (1, (vI a_2)), (2, (vI b_3)), (3, (.fn 194 [])), (8, (vI s_10.2))] : List (Nat × V))) p.1 p.2) (fun p => (fun (k_5 : Nat) (s_10 : (List Alert) × Int) => ([((extN 0), gB 9 Alert.enc s_10.1)] : Hp)) p.1 p.2) (fun p => iterN (fun s => slices_insertionSortCmpFunc_api_Alert_v2_L2 b_3 a_2 s) p.1 p.2 = some o_13) (fun p => p.1) (nq_51, (data_1, (w64 (a_2 + 1)))) hj_14 rfl (pre_r rfl) ?_)
  rintro ⟨k_5, s_10⟩ hL_12
  dsimp only at hL_12
  cases k_5 with
  | zero => cases hL_12
  | succ k_5 =>
   obtain ⟨c_, hc_11, hL_12⟩ := bind_some hL_12
   unfold slices_insertionSortCmpFunc_api_Alert_v2_L2 at hc_11
   refine wH_seq (wH_seq (wH_region (h_op (vI s_10.2) wz rfl (h_op (vI b_3) wz rfl (h_op (vB (decide (s_10.2 < b_3))) wz rfl (h_nil ?_))))))
   rcases cond_some hc_11 with ⟨hc_15, hc_11⟩ | ⟨hc_15, hc_11⟩
   ·refine wH_ift rfl hc_15 (wH_skip (wH_seq (wH_block (wH_seq (wH_region (h_op (vI s_10.2) wz rfl (h_op (vI s_10.2) wz rfl (h_nil ?_))))))))
    obtain ⟨o_24, hj_25, hc_11⟩ := bind_some hc_11
    obtain ⟨nq_50, hj_25⟩ := loopO_iter hj_25
    refine wH_join (β := ((List Alert) × Int)) (fun (s_21 : (List Alert) × Int) => ([(0, (dV (extN 0) 9 s_21.1)), (1, (vI a_2)), (2, (vI b_3)), (3, (.fn 194 [])), (8, (vI s_10.2))] : List (Nat × V))) (fun (s_21 : (List Alert) × Int) => ([((extN 0), gB 9 Alert.enc s_21.1)] : Hp)) (fun p => o_24 = .go p) ?_ ?_
    ·refine wH_block (wH_loop (β := Nat × ((List Alert) × Int)) (fun p => (fun (k_16 : Nat) (s_21 : (List Alert) × Int) => ([(0, (dV (extN 0) 9 s_21.1)), (1, (vI a_2)), (2, (vI b_3)), (3, (.fn 194 [])), (8, (vI s_10.2)), (9, (vI s_21.2))] : List (Nat × V))) p.1 p.2) (fun p => (fun (k_16 : Nat) (s_21 : (List Alert) × Int) => ([((extN 0), gB 9 Alert.enc s_21.1)] : Hp)) p.1 p.2) (fun p => iterN (fun s => slices_insertionSortCmpFunc_api_Alert_v2_L1 a_2 s) p.1 p.2 = some o_24) (fun p => p.1) (nq_50, (s_10.1, s_10.2)) hj_25 rfl (pre_r rfl) ?_)
     rintro ⟨k_16, s_21⟩ hL_23
     dsimp only at hL_23
     cases k_16 with
     | zero => cases hL_23
     | succ k_16 =>
      obtain ⟨c_, hc_22, hL_23⟩ := bind_some hL_23
      unfold slices_insertionSortCmpFunc_api_Alert_v2_L1 at hc_22
      refine wH_seq (wH_seq ?_)
      obtain ⟨v_26, h_27, hc_22⟩ := bind_some hc_22
      refine wH_join (β := Unit) (fun _ => ([(0, (dV (extN 0) 9 s_21.1)), (1, (vI a_2)), (2, (vI b_3)), (3, (.fn 194 [])), (8, (vI s_10.2)), (9, (vI s_21.2)), (34, (vB v_26))] : List (Nat × V))) (fun _ => ([((extN 0), gB 9 Alert.enc s_21.1)] : Hp)) (fun _ => True) ?_ ?_
      ·refine wH_draws (h_op (vI s_21.2) wz rfl (h_op (vI a_2) wz rfl (h_op (vB (decide (s_21.2 > a_2))) wz rfl ?_)))
       rcases cond_some h_27 with ⟨hc_28, h_27⟩ | ⟨hc_28, h_27⟩
       ·refine h_movb rfl hc_28 wz (h_op (.fn 194 []) wa rfl (h_op (dV (extN 0) 9 s_21.1) wa rfl (h_op (vI s_21.2) wa rfl ?_)))
        obtain ⟨_, hi_29, h_27⟩ := bind_some h_27
        refine h_iavd es78 rfl rfl (inR_0 hi_29) (inR_lt hi_29) wa ?_
        obtain ⟨e_30, hy_31, h_27⟩ := bind_some h_27
        refine h_ldvg 8 0 (.inr (by kernel_rfl)) (fun _ _ ag => trivial) sz82 ag82 rfl rfl hy_31 (.d (.agg (Alert.enc e_30))) rfl wa (h_op (dV (extN 0) 9 s_21.1) wa rfl (h_op (vI s_21.2) wa rfl (h_op (vI (w64 (s_21.2 - 1))) wa rfl ?_)))
        obtain ⟨_, hi_32, h_27⟩ := bind_some h_27
        refine h_iavd es78 rfl rfl (inR_0 hi_32) (inR_lt hi_32) wa ?_
        obtain ⟨e_33, hy_34, h_27⟩ := bind_some h_27
        refine h_ldvg 13 0 (.inr (by kernel_rfl)) (fun _ _ ag => ⟨.inl ⟨rfl, rfl⟩, trivial⟩) sz82 ag82 rfl rfl hy_34 (.d (.agg (Alert.enc e_33))) rfl wa ?_
        obtain ⟨r_35, hr_36, h_27⟩ := bind_some h_27
        refine h_call0 (alert_before_ok hr_36) rfl hb194 rfl rfl rfl rfl wa (h_op (vB (decide (r_35 < 0))) wa rfl (h_op (vB (decide (r_35 < 0))) wz rfl (h_nil ?_)))
        obtain rfl := some_inj h_27
        exact cu
       ·refine h_movb rfl hc_28 wz (h_skip wa (h_skip wa (h_skip wa (h_skip wa (h_skip wa (h_skip wa (h_skip wa (h_skip wa (h_skip wa (h_skip wa (h_skip wa (h_skip wa (h_op (vB false) wz rfl (h_nil ?_))))))))))))))
        obtain rfl := some_inj h_27
        exact cu
      ·rintro ⟨⟩ _ sl_ H_ hp_ hq_
       refine wH_at _ hp_ hq_ ?_
       rcases cond_some hc_22 with ⟨hc_37, hc_22⟩ | ⟨hc_37, hc_22⟩
       ·refine wH_ift rfl hc_37 (wH_skip (wH_seq (wH_block (wH_draws (h_op (dV (extN 0) 9 s_21.1) wz rfl (h_op (vI s_21.2) wz rfl (h_op (dV (extN 0) 9 s_21.1) wz rfl (h_op (vI s_21.2) wz rfl (h_op (vI (w64 (s_21.2 - 1))) wz rfl (h_op (dV (extN 0) 9 s_21.1) wz rfl (h_op (vI s_21.2) wz rfl (h_op (vI (w64 (s_21.2 - 1))) wz rfl ?_))))))))))))
        obtain ⟨_, hi_38, hc_22⟩ := bind_some hc_22
        refine h_iavd es78 rfl rfl (inR_0 hi_38) (inR_lt hi_38) wz ?_
        obtain ⟨e_39, hy_40, hc_22⟩ := bind_some hc_22
        refine h_ldvg 9 0 (.inr (by kernel_rfl)) (fun _ _ ag => trivial) sz82 ag82 rfl rfl hy_40 (.d (.agg (Alert.enc e_39))) rfl wz (h_op (dV (extN 0) 9 s_21.1) wz rfl (h_op (vI s_21.2) wz rfl ?_))
        obtain ⟨_, hi_41, hc_22⟩ := bind_some hc_22
        refine h_iavd es78 rfl rfl (inR_0 hi_41) (inR_lt hi_41) wz ?_
        obtain ⟨e_42, hy_43, hc_22⟩ := bind_some hc_22
        refine h_ldvg 13 0 (.inr (by kernel_rfl)) (fun _ _ ag => ⟨.inl ⟨rfl, rfl⟩, trivial⟩) sz82 ag82 rfl rfl hy_43 (.d (.agg (Alert.enc e_42))) rfl wz ?_
        obtain ⟨_, hi_44, hc_22⟩ := bind_some hc_22
        refine h_iavd es78 rfl rfl (inR_0 hi_44) (inR_lt hi_44) wz ?_
        obtain ⟨e_45, hy_46, hc_22⟩ := bind_some hc_22
        refine h_stvg 15 (.inr (by kernel_rfl)) (fun _ _ ag => ⟨.inr (.inr (by kernel_rfl)), ⟨.inr (.inr (by kernel_rfl)), trivial⟩⟩) 0 sz82 rfl rfl hy_46 e_39 rfl wz (h_re (v' := (dV (extN 0) 9 (s_21.1.set (0 + (s_21.2).toNat) e_39))) 0 rfl (dV_len (by simp)) (h_re (v' := (dV (extN 0) 9 (s_21.1.set (0 + (s_21.2).toNat) e_39))) 37 rfl (dV_len (by simp)) (h_re (v' := (dV (extN 0) 9 (s_21.1.set (0 + (s_21.2).toNat) e_39))) 39 rfl (dV_len (by simp)) (h_re (v' := (dV (extN 0) 9 (s_21.1.set (0 + (s_21.2).toNat) e_39))) 42 rfl (dV_len (by simp)) (h_re (v' := (dV (extN 0) 9 (s_21.1.set (0 + (s_21.2).toNat) e_39))) 47 rfl (dV_len (by simp)) ?_)))))
        obtain ⟨_, hi_47, hc_22⟩ := bind_some hc_22
        refine h_iavd es78 rfl rfl (inR_0 hi_47) (inR_lt hi_47) wz ?_
        obtain ⟨e_48, hy_49, hc_22⟩ := bind_some hc_22
        refine h_stvg 17 (.inr (by kernel_rfl)) (fun _ _ ag => ⟨.inr (.inr (by kernel_rfl)), ⟨.inr (.inr (by kernel_rfl)), ⟨.inr (.inr (by kernel_rfl)), trivial⟩⟩⟩) 0 sz82 rfl rfl hy_49 e_42 rfl wz (h_re (v' := (dV (extN 0) 9 ((s_21.1.set (0 + (s_21.2).toNat) e_39).set (0 + ((w64 (s_21.2 - 1))).toNat) e_42))) 0 rfl (dV_len (by simp)) (h_re (v' := (dV (extN 0) 9 ((s_21.1.set (0 + (s_21.2).toNat) e_39).set (0 + ((w64 (s_21.2 - 1))).toNat) e_42))) 37 rfl (dV_len (by simp)) (h_re (v' := (dV (extN 0) 9 ((s_21.1.set (0 + (s_21.2).toNat) e_39).set (0 + ((w64 (s_21.2 - 1))).toNat) e_42))) 39 rfl (dV_len (by simp)) (h_re (v' := (dV (extN 0) 9 ((s_21.1.set (0 + (s_21.2).toNat) e_39).set (0 + ((w64 (s_21.2 - 1))).toNat) e_42))) 42 rfl (dV_len (by simp)) (h_re (v' := (dV (extN 0) 9 ((s_21.1.set (0 + (s_21.2).toNat) e_39).set (0 + ((w64 (s_21.2 - 1))).toNat) e_42))) 47 rfl (dV_len (by simp)) (h_nil (wH_region (h_op (vI s_21.2) wz rfl (h_op (vI (w64 (s_21.2 - 1))) wz rfl (h_op (vI (w64 (s_21.2 - 1))) wz rfl (h_nil ?_)))))))))))
        obtain rfl := some_inj hc_22
        exact loop_mk (k_16, (((s_21.1.set (0 + (s_21.2).toNat) e_39).set (0 + ((w64 (s_21.2 - 1))).toNat) e_42), (w64 (s_21.2 - 1)))) hL_23 (Nat.lt_succ_self _) rfl (pre_r rfl)
       ·refine wH_iff rfl hc_37 (wH_exit ?_)
        obtain rfl := some_inj hc_22
        obtain rfl := some_inj hL_23
        exact cut_mk ((s_21.1, s_21.2)) rfl rfl (pre_r rfl)
    ·rintro s_21 ho_ sl_ H_ hp_ hq_
     subst ho_
     refine wH_at _ hp_ hq_ (wH_region (h_op (vI s_10.2) wz rfl (h_op (vI (w64 (s_10.2 + 1))) wz rfl (h_op (vI (w64 (s_10.2 + 1))) wz rfl (h_nil ?_)))))
     obtain rfl := some_inj hc_11
     exact loop_mk (k_5, (s_21.1, (w64 (s_10.2 + 1)))) hL_12 (Nat.lt_succ_self _) rfl (pre_r rfl)
   ·refine wH_iff rfl hc_15 (wH_exit ?_)
    obtain rfl := some_inj hc_11
    obtain rfl := some_inj hL_12
    exact cut_mk ((s_10.1, s_10.2)) rfl rfl (pre_r rfl)
 ·rintro s_10 ho_ sl_ H_ hp_ hq_
  subst ho_
  show finH _ _ _ _ _ _ _ _
  obtain rfl := some_inj hF
  exact finH_at (H0 := ([((extN 0), gB 9 Alert.enc s_10.1)] : Hp)) (sl' := envS []) hq_ (finV (bs := ([] : List Box)) (os := ([] : List Box)) (xs := data_1) (o := gB 9 Alert.enc s_10.1) (.inl rfl) [] trivial rfl rfl rfl rfl rfl (by kernel_rfl) gB_ok rfl)
theorem slices_pdqsortCmpFunc_api_Alert_v2_ok {data_1 : (List Alert)} {a_2 : Int} {b_3 : Int} {limit_4 : Int} {r : (List Alert)} (hF : slices_pdqsortCmpFunc_api_Alert_v2 data_1 a_2 b_3 limit_4 = some r) :
  FnM Tryz.prog 188 [(dV (extN 0) 9 data_1), (vI a_2), (vI b_3), (vI limit_4), (.fn 194 [])] (([] : List Box) ++ gI 9 Alert.enc data_1) (.tup []) (([] : List Box).map some ++ gT data_1 (gB 9 Alert.enc r)) := by
 refine FnM.of_wHv ⟨Tryz.prog, 148, [], []⟩ rfl Tryz.func188 rfl rfl (Nat.le_of_ble_eq_true rfl) (by kernel_rfl) ?_
 unfold slices_pdqsortCmpFunc_api_Alert_v2 at hF
 refine wH_seq (wH_region (h_op (vB true) wz rfl (h_nil (wH_seq (wH_region (h_op (vB true) wz rfl (h_nil ?_)))))))
 obtain ⟨o_14, hj_15, hF⟩ := bind_some hF
 obtain ⟨nq_21, hj_15⟩ := loopO_iter hj_15
 refine wH_join (β := (Unit)) (fun (s_11 : Unit) => ([] : List (Nat × V))) (fun (s_11 : Unit) => ([((extN 0), gB 9 Alert.enc data_1)] : Hp)) (fun p => o_14 = .go p) ?_ ?_
 ·refine wH_block (wH_loop (β := Nat × (Unit)) (fun p => (fun (k_6 : Nat) (s_11 : Unit) => ([(0, (dV (extN 0) 9 data_1)), (1, (vI a_2)), (2, (vI b_3)), (3, (vI limit_4)), (4, (.fn 194 [])), (10, (vB true)), (11, (vB true))] : List (Nat × V))) p.1 p.2) (fun p => (fun (k_6 : Nat) (s_11 : Unit) => ([((extN 0), gB 9 Alert.enc data_1)] : Hp)) p.1 p.2) (fun p => iterN (fun s => slices_pdqsortCmpFunc_api_Alert_v2_L1 b_3 a_2 data_1 limit_4 s) p.1 p.2 = some o_14) (fun p => p.1) (nq_21, ()) hj_15 rfl (pre_r rfl) ?_)
  rintro ⟨k_6, s_11⟩ hL_13
  dsimp only at hL_13
  cases k_6 with
  | zero => cases hL_13
  | succ k_6 =>
   obtain ⟨c_, hc_12, hL_13⟩ := bind_some hL_13
   unfold slices_pdqsortCmpFunc_api_Alert_v2_L1 at hc_12
   refine wH_block (wH_seq (wH_region (h_op (vI b_3) wz rfl (h_op (vI a_2) wz rfl (h_op (vI (w64 (b_3 - a_2))) wz rfl (h_op (vI (w64 (b_3 - a_2))) wz rfl (h_nil (wH_seq (wH_seq (wH_region (h_op (vI (w64 (b_3 - a_2))) wz rfl (h_op (vB (decide ((w64 (b_3 - a_2)) ≤ 12))) wz rfl (h_nil ?_)))))))))))))
   rcases cond_some hc_12 with ⟨hc_16, hc_12⟩ | ⟨hc_16, hc_12⟩
   ·refine wH_ift rfl hc_16 (wH_seq (wH_region (h_op (dV (extN 0) 9 data_1) wz rfl (h_op (vI a_2) wz rfl (h_op (vI b_3) wz rfl (h_op (.fn 194 []) wz rfl ?_))))))
    obtain ⟨r_17, hr_18, hc_12⟩ := bind_some hc_12
    obtain ⟨_, hs_19, hc_12⟩ := bind_some hc_12
    replace hs_19 := sameL_eq hs_19
    refine h_callv 0 [] 0 0 il ft (slices_insertionSortCmpFunc_api_Alert_v2_ok hr_18) rfl hb223 rfl rfl rfl (by kernel_rfl) rfl (.inr (.inl rfl)) rfl (by kernel_rfl) (by kernel_rfl) (by kernel_rfl) (by kernel_rfl) rfl (by decide) (by kernel_rfl) gB_ok (gB_ho hs_19) wz ([((extN 0), gB 9 Alert.enc r_17)] : Hp) (by kernel_rfl) (h_re (v' := (dV (extN 0) 9 r_17)) 0 rfl (dV_len hs_19.symm) (h_re (v' := (dV (extN 0) 9 r_17)) 26 rfl (dV_len hs_19.symm) (h_nil ?_)))
    obtain rfl := some_inj hc_12
    obtain rfl := some_inj hL_13
    obtain rfl := some_inj hF
    exact wH_ret (finV (bs := ([] : List Box)) (os := ([] : List Box)) (xs := data_1) (o := gB 9 Alert.enc r_17) (.inr rfl) [] trivial rfl rfl rfl rfl rfl (by kernel_rfl) gB_ok rfl)
   ·refine wH_iff rfl hc_16 (wH_skip (wH_seq (wH_seq (wH_region (h_op (vI limit_4) wz rfl (h_op (vB (limit_4 == 0)) wz rfl (h_nil ?_)))))))
    rcases cond_some hc_12 with ⟨hc_20, hc_12⟩ | ⟨hc_20, hc_12⟩
    ·refine wH_ift rfl hc_20 (wH_seq (wH_region (h_op (dV (extN 0) 9 data_1) wz rfl (h_op (vI a_2) wz rfl (h_op (vI b_3) wz rfl (h_op (.fn 194 []) wz rfl ?_))))))
     cases hc_12
    ·refine wH_iff rfl hc_20 (wH_skip (wH_seq (wH_seq (wH_region (h_op (vB true) wz rfl (h_op (vB false) wz rfl (h_nil (wH_iff rfl rfl (wH_skip (wH_seq (wH_region (h_op (dV (extN 0) 9 data_1) wz rfl (h_op (vI a_2) wz rfl (h_op (vI b_3) wz rfl (h_op (.fn 194 []) wz rfl ?_)))))))))))))))
     cases hc_12
 ·rintro s_11 ho_ sl_ H_ hp_ hq_
  subst ho_
  show finH _ _ _ _ _ _ _ _
  obtain rfl := some_inj hF
  exact finH_at (H0 := ([((extN 0), gB 9 Alert.enc data_1)] : Hp)) (sl' := envS []) hq_ (finV (bs := ([] : List Box)) (os := ([] : List Box)) (xs := data_1) (o := gB 9 Alert.enc data_1) (.inl rfl) [] trivial rfl rfl rfl rfl rfl (by kernel_rfl) gB_ok rfl)
theorem slices_SortFunc_api_Alert_api_Alert_v2_ok {x_1 : (List Alert)} {r : (List Alert)} (hF : slices_SortFunc_api_Alert_api_Alert_v2 x_1 = some r) :
  FnM Tryz.prog 109 [(dV (extN 0) 9 x_1), (.fn 194 [])] (([] : List Box) ++ gI 9 Alert.enc x_1) (.tup []) (([] : List Box).map some ++ gT x_1 (gB 9 Alert.enc r)) := by
 refine FnM.of_wHv ⟨Tryz.prog, 14, [], []⟩ rfl Tryz.func109 rfl rfl (Nat.le_of_ble_eq_true rfl) (by kernel_rfl) ?_
 unfold slices_SortFunc_api_Alert_api_Alert_v2 at hF
 refine wH_seq (wH_region (h_op (dV (extN 0) 9 x_1) wz rfl (h_lend un78 rfl wz (h_op (vI (x_1.length : Int)) wz rfl (h_nil (wH_region (h_op (dV (extN 0) 9 x_1) wz rfl (h_op (vI (x_1.length : Int)) wz rfl (h_op (vI (x_1.length : Int)) wz rfl (h_conv un3 un268 rfl wz ?_))))))))))
 obtain ⟨r_3, hr_4, hF⟩ := bind_some hF
 refine h_call0 (math_bits_Len_ok hr_4) rfl hb189 rfl rfl rfl rfl wz (h_op (.fn 194 []) wz rfl ?_)
 obtain ⟨r_5, hr_6, hF⟩ := bind_some hF
 obtain ⟨_, hs_7, hF⟩ := bind_some hF
 replace hs_7 := sameL_eq hs_7
 refine h_callv 0 [] 0 0 il ft (slices_pdqsortCmpFunc_api_Alert_v2_ok hr_6) rfl hb188 rfl rfl rfl (by kernel_rfl) rfl (.inr (.inl rfl)) rfl (by kernel_rfl) (by kernel_rfl) (by kernel_rfl) (by kernel_rfl) rfl (by decide) (by kernel_rfl) gB_ok (gB_ho hs_7) wz ([((extN 0), gB 9 Alert.enc r_5)] : Hp) (by kernel_rfl) (h_re (v' := (dV (extN 0) 9 r_5)) 0 rfl (dV_len hs_7.symm) (h_re (v' := (dV (extN 0) 9 r_5)) 5 rfl (dV_len hs_7.symm) (h_re (v' := (dV (extN 0) 9 r_5)) 7 rfl (dV_len hs_7.symm) (h_nil ?_))))
 show finH _ _ _ _ _ _ _ _
 obtain rfl := some_inj hF
 exact finV (bs := ([] : List Box)) (os := ([] : List Box)) (xs := x_1) (o := gB 9 Alert.enc r_5) (.inl rfl) [] trivial rfl rfl rfl rfl rfl (by kernel_rfl) gB_ok rfl
theorem alert_ranked_ok {l_1 : (List Alert)} {endv_2 : (List Int)} {p_3 : Post} {atv_4 : Int} {r : (List Alert)} (hF : alert_ranked l_1 endv_2 p_3 atv_4 = some r) :
  FnM Tryz.prog 118 [(vL Alert.enc l_1), (vL eI endv_2), (.d (.agg (Post.enc p_3))), (vI atv_4)] [] (vL Alert.enc r) [] := by
 refine FnM.of_wH ⟨Tryz.prog, 39, [], []⟩ rfl Tryz.func118 rfl rfl (Nat.le_of_ble_eq_true rfl) (by kernel_rfl) ?_
 unfold alert_ranked at hF
 refine wH_seq (wH_region (h_box 0 (.inl rfl) [(vS p_3.Player), (vI p_3.X), (vI p_3.Y)] rfl rfl wz (fun n_5 => h_op .nil wz rfl (h_nil (wH_seq (wH_region (h_op .nil wz rfl (h_nil (wH_seq (wH_seq (wH_region (h_op (vL Alert.enc l_1) wz rfl (h_len un78 rfl wz (h_op (vI 0) wz rfl (h_nil (wH_new (fun n_12 => ?_)))))))))))))))))
 obtain ⟨o_17, hj_18, hF⟩ := bind_some hF
 obtain ⟨hn_10, hj_18⟩ := forL_some hj_18
 refine wH_join (β := ((List Alert)) × Nm) (fun p => (fun (s_11 : (List Alert)) (n_14 : Nm) => ([(9, (gV n_14 9 s_11))] : List (Nat × V))) p.1 p.2) (fun p => (fun (s_11 : (List Alert)) (n_14 : Nm) => ([(n_5, some (.cells 3 [(vS p_3.Player), (vI p_3.X), (vI p_3.Y)])), (n_14, gB 9 Alert.enc s_11)] : Hp)) p.1 p.2) (fun p => o_17 = .go p.1) ?_ ?_
 ·refine wH_block (wH_loop (β := Nat × (List Alert) × ((List Alert)) × Nm) (fun p => (fun (k_6 : Nat) (l_7 : List Alert) (s_11 : (List Alert)) (n_14 : Nm) => ([(1, (vL eI endv_2)), (3, (vI atv_4)), (6, (.ref n_5 0 0)), (9, (gV n_14 9 s_11)), (12, (vL Alert.enc l_1)), (13, (vI (l_1.length : Int))), (14, (vI (k_6 : Int)))] : List (Nat × V))) p.1 p.2.1 p.2.2.1 p.2.2.2) (fun p => (fun (k_6 : Nat) (l_7 : List Alert) (s_11 : (List Alert)) (n_14 : Nm) => ([(n_5, some (.cells 3 [(vS p_3.Player), (vI p_3.X), (vI p_3.Y)])), (n_14, gB 9 Alert.enc s_11)] : Hp)) p.1 p.2.1 p.2.2.1 p.2.2.2) (fun p => forR (fun k x s => alert_ranked_L1 endv_2 atv_4 p_3 k x s) p.2.1 p.1 p.2.2.1 = some o_17 ∧ (l_1).drop p.1 = p.2.1) (fun p => p.2.1.length) (0, l_1, ([] : List Alert), n_12) ⟨hj_18, rfl⟩ rfl (pre_r rfl) ?_)
  rintro ⟨k_6, l_7, s_11, n_14⟩ ⟨hL_16, hD_9⟩
  dsimp only at hL_16 hD_9
  cases l_7 with
  | nil =>
   obtain rfl := some_inj hL_16
   refine wH_seq (wH_region (h_op (vB (decide ((k_6 : Int) < (l_1.length : Int)))) wz rfl (h_nil ?_)))
   refine wH_seq (wH_iff rfl (drop_nil hD_9) (wH_exit ?_))
   exact cut_mk (s_11, n_14) rfl rfl (pre_r rfl)
  | cons x_8 l_7 =>
   obtain ⟨c_, hc_15, hL_16⟩ := bind_some hL_16
   refine wH_seq (wH_region (h_op (vB (decide ((k_6 : Int) < (l_1.length : Int)))) wz rfl (h_nil ?_)))
   refine wH_seq (wH_ift rfl (drop_cons hD_9) (wH_skip ?_))
   unfold alert_ranked_L1 at hc_15
   refine wH_seq (wH_block (wH_seq (wH_region (h_op (vI (k_6 : Int)) wz rfl (h_ia es78 rfl rfl (drop_idx hD_9) rfl wz (h_ldc sz82 ag82 rfl (.d (.agg (Alert.enc x_8))) rfl wz (h_alloc 0 (.inl rfl) z82 rfl wz (fun n_19 => h_op (vI (k_6 : Int)) wz rfl (h_str 0 il ft 2 sz82 rfl rfl [(vS x_8.Id), (vS x_8.Sender), (vI x_8.Kind), (vL eS x_8.Refs), (vI x_8.At), (vI x_8.Until), (vI x_8.Weight), (vL Rect.enc x_8.Areas), (vS x_8.Text)] rfl wz (h_nil (wH_seq ?_)))))))))))
   obtain ⟨v_20, h_21, hc_15⟩ := bind_some hc_15
   refine wH_join (β := Unit) (fun _ => ([(1, (vL eI endv_2)), (3, (vI atv_4)), (6, (.ref n_5 0 0)), (9, (gV n_14 9 s_11)), (11, (.ref n_19 0 0)), (12, (vL Alert.enc l_1)), (13, (vI (l_1.length : Int))), (14, (vI (k_6 : Int))), (30, (vB v_20))] : List (Nat × V))) (fun _ => ([(n_5, some (.cells 3 [(vS p_3.Player), (vI p_3.X), (vI p_3.Y)])), (n_14, gB 9 Alert.enc s_11), (n_19, some (.cells 9 [(vS x_8.Id), (vS x_8.Sender), (vI x_8.Kind), (vL eS x_8.Refs), (vI x_8.At), (vI x_8.Until), (vI x_8.Weight), (vL Rect.enc x_8.Areas), (vS x_8.Text)]))] : Hp)) (fun _ => True) ?_ ?_
   ·refine wH_draws (h_ldr 0 2 (.inr (by kernel_rfl)) (fun _ _ ag => trivial) sz82 ag82 rfl rfl (.d (.agg (Alert.enc x_8))) rfl wz (h_op (vL eI endv_2) wz rfl (h_op (vI (k_6 : Int)) wz rfl ?_)))
    obtain ⟨y_22, hy_23, h_21⟩ := bind_some h_21
    refine h_ia es22 rfl rfl hy_23 rfl wz (h_ldc sz3 ag3 rfl (vI y_22) rfl wz (h_op (vI atv_4) wz rfl ?_))
    obtain ⟨r_24, hr_25, h_21⟩ := bind_some h_21
    refine h_call0 (alert_isOn_ok hr_25) rfl hb133 rfl rfl rfl rfl wz ?_
    rcases cond_some h_21 with ⟨hc_26, h_21⟩ | ⟨hc_26, h_21⟩
    ·refine h_movb rfl hc_26 wz (h_ldr 8 2 (.inr (by kernel_rfl)) (fun _ _ ag => ⟨.inl ⟨rfl, rfl⟩, trivial⟩) sz82 ag82 rfl rfl (.d (.agg (Alert.enc x_8))) rfl wa (h_ldr 9 0 (.inr (by kernel_rfl)) (fun _ _ ag => ⟨.inl ⟨rfl, rfl⟩, ⟨.inl ⟨rfl, rfl⟩, trivial⟩⟩) sz77 ag77 rfl rfl (.d (.agg (Post.enc p_3))) rfl wa ?_))
     obtain ⟨r_27, hr_28, h_21⟩ := bind_some h_21
     refine h_call0 (alert_reaches_ok hr_28) rfl hb113 rfl rfl rfl rfl wa (h_op (vB r_27) wz rfl (h_nil ?_))
     obtain rfl := some_inj h_21
     exact cu
    ·refine h_movb rfl hc_26 wz (h_skip wa (h_skip wa (h_skip wa (h_op (vB false) wz rfl (h_nil ?_)))))
     obtain rfl := some_inj h_21
     exact cu
   ·rintro ⟨⟩ _ sl_ H_ hp_ hq_
    refine wH_at _ hp_ hq_ ?_
    obtain ⟨v_29, h_30, hc_15⟩ := bind_some hc_15
    refine wH_join (β := Nm) (fun (n_31 : Nm) => ([(1, (vL eI endv_2)), (3, (vI atv_4)), (6, (.ref n_5 0 0)), (9, (gV n_31 9 v_29)), (12, (vL Alert.enc l_1)), (13, (vI (l_1.length : Int))), (14, (vI (k_6 : Int)))] : List (Nat × V))) (fun (n_31 : Nm) => ([(n_5, some (.cells 3 [(vS p_3.Player), (vI p_3.X), (vI p_3.Y)])), (n_31, gB 9 Alert.enc v_29), (n_19, some (.cells 9 [(vS x_8.Id), (vS x_8.Sender), (vI x_8.Kind), (vL eS x_8.Refs), (vI x_8.At), (vI x_8.Until), (vI x_8.Weight), (vL Rect.enc x_8.Areas), (vS x_8.Text)]))] : Hp)) (fun _ => True) ?_ ?_
    ·rcases cond_some h_30 with ⟨hc_32, h_30⟩ | ⟨hc_32, h_30⟩
     ·refine wH_ift rfl hc_32 (wH_region (h_op (gV n_14 9 s_11) wz rfl (h_ldr 0 2 il ft sz82 ag82 rfl rfl (.d (.agg (Alert.enc x_8))) rfl wz (h_lit (([x_8] : List Alert).map Alert.enc) es78 ez78 rfl rfl rfl rfl rfl wz ?_))))
      obtain ⟨a_33, hz_34, h_30⟩ := bind_some h_30
      refine h_appg 0 il ft (i := 1) el78 el78 sz82 z82 rfl (by decide) by82 (by decide) (fun _ => rfl) rfl rfl rfl hz_34 wz (fun n_35 => h_op (gV n_35 9 a_33) wz rfl (h_nil ?_))
      obtain rfl := some_inj h_30
      exact cut_mk n_35 trivial rfl (pre_r rfl)
     ·refine wH_iff rfl hc_32 (wH_skip ?_)
      obtain rfl := some_inj h_30
      exact cut_mk n_14 trivial rfl (pre_r rfl)
    ·rintro n_31 _ sl_ H_ hp_ hq_
     refine wH_at _ hp_ hq_ (wH_region (h_opw (w64_next hD_9 hn_10) wz rfl (h_op (vI ((k_6 + 1 : Nat) : Int)) wz rfl (h_nil ?_))))
     obtain rfl := some_inj hc_15
     exact loop_mk (k_6 + 1, l_7, v_29, n_31) ⟨hL_16, drop_next hD_9⟩ (Nat.lt_succ_self _) rfl (pre_r rfl)
 ·rintro ⟨s_11, n_14⟩ ho_ sl_ H_ hp_ hq_
  subst ho_
  refine wH_at _ hp_ hq_ (wH_seq (wH_region (h_op (gV n_14 9 s_11) wz rfl ?_)))
  obtain ⟨r_36, hr_37, hF⟩ := bind_some hF
  obtain ⟨_, hs_38, hF⟩ := bind_some hF
  replace hs_38 := sameL_eq hs_38
  refine h_callv 0 [] 1 0 il ft (slices_SortFunc_api_Alert_api_Alert_v2_ok hr_37) rfl hb109 rfl rfl rfl (by kernel_rfl) rfl (.inl rfl) rfl (by kernel_rfl) (by kernel_rfl) (by kernel_rfl) (by kernel_rfl) rfl (by decide) (by kernel_rfl) gB_ok (gB_ho hs_38) wz ([(n_5, some (.cells 3 [(vS p_3.Player), (vI p_3.X), (vI p_3.Y)])), (n_14, gB 9 Alert.enc r_36)] : Hp) (by kernel_rfl) (h_re (v' := (gV n_14 9 r_36)) 36 rfl (gV_len hs_38.symm) (h_re (v' := (gV n_14 9 r_36)) 9 rfl (gV_len hs_38.symm) (h_nil (wH_seq (wH_region (h_op (gV n_14 9 r_36) wz rfl (h_op (gV n_14 9 r_36) wz rfl (h_nil (wH_frozg 1 rfl (wH_cog 8 1 rfl rfl (wH_cog 9 1 rfl rfl (wH_cog 36 1 rfl rfl (wH_cog 38 1 rfl rfl ?_)))))))))))))
  obtain rfl := some_inj hF
  exact wH_ret (fin0 (.inr rfl) [(vL Alert.enc r_36)] ⟨rfl, trivial⟩ rfl rfl rfl)
theorem alert_momentFault_ok {atv_1 : Int} {r : Int} (hF : alert_momentFault atv_1 = some r) :
  FnM Tryz.prog 116 [(vI atv_1)] [] (vI r) [] := by
 refine FnM.of_wH ⟨Tryz.prog, 6, [], []⟩ rfl Tryz.func116 rfl rfl (Nat.le_of_ble_eq_true rfl) (by kernel_rfl) ?_
 unfold alert_momentFault at hF
 refine wH_seq (wH_region (h_op (vI 0) wz rfl (h_nil (wH_seq (wH_seq (wH_region (h_op (vI atv_1) wz rfl ?_)))))))
 obtain ⟨r_2, hr_3, hF⟩ := bind_some hF
 refine h_call0 (kit_IsMoment_ok hr_3) rfl hb136 rfl rfl rfl rfl wz (h_op (vB (!r_2)) wz rfl (h_nil ?_))
 rcases cond_some hF with ⟨hc_4, hF⟩ | ⟨hc_4, hF⟩
 ·refine wH_ift rfl hc_4 (wH_seq (wH_region (h_op (vI 1) wz rfl (h_nil ?_))))
  obtain rfl := some_inj hF
  exact wH_ret (fin0 (.inr rfl) [(vI 1)] ⟨rfl, trivial⟩ rfl rfl rfl)
 ·refine wH_iff rfl hc_4 (wH_skip (wH_seq (wH_region (h_op (vI 0) wz rfl (h_nil ?_)))))
  obtain rfl := some_inj hF
  exact wH_ret (fin0 (.inr rfl) [(vI 0)] ⟨rfl, trivial⟩ rfl rfl rfl)
theorem alert_spotFault_ok {l_1 : (List Alert)} {p_2 : Post} {atv_3 : Int} {r : Int} (hF : alert_spotFault l_1 p_2 atv_3 = some r) :
  FnM Tryz.prog 125 [(vL Alert.enc l_1), (.d (.agg (Post.enc p_2))), (vI atv_3)] [] (vI r) [] := by
 refine FnM.of_wH ⟨Tryz.prog, 17, [], []⟩ rfl Tryz.func125 rfl rfl (Nat.le_of_ble_eq_true rfl) (by kernel_rfl) ?_
 unfold alert_spotFault at hF
 refine wH_seq (wH_region (h_box 0 (.inl rfl) [(vS p_2.Player), (vI p_2.X), (vI p_2.Y)] rfl rfl wz (fun n_4 => h_op (vI 0) wz rfl (h_nil (wH_seq (wH_seq (wH_region (h_op (vL Alert.enc l_1) wz rfl (h_ldr 0 0 il ft sz77 ag77 rfl rfl (.d (.agg (Post.enc p_2))) rfl wz (h_lit (([p_2] : List Post).map Post.enc) es86 ez86 rfl rfl rfl rfl rfl wz ?_))))))))))
 obtain ⟨r_5, hr_6, hF⟩ := bind_some hF
 refine h_call0 (alert_checkBoth_ok hr_6) rfl hb112 rfl rfl rfl rfl wz (h_op (vI r_5) wz rfl (h_nil (wH_seq (wH_region (h_op (vI r_5) wz rfl (h_op (vB (r_5 != 0)) wz rfl (h_nil ?_)))))))
 rcases cond_some hF with ⟨hc_7, hF⟩ | ⟨hc_7, hF⟩
 ·refine wH_ift rfl hc_7 (wH_seq (wH_region (h_op (vI r_5) wz rfl (h_op (vI r_5) wz rfl (h_nil ?_)))))
  obtain rfl := some_inj hF
  exact wH_ret (fin0 (.inr rfl) [(vI r_5)] ⟨rfl, trivial⟩ rfl rfl rfl)
 ·refine wH_iff rfl hc_7 (wH_skip (wH_seq (wH_region (h_op (vI atv_3) wz rfl ?_))))
  obtain ⟨r_8, hr_9, hF⟩ := bind_some hF
  refine h_call0 (alert_momentFault_ok hr_9) rfl hb116 rfl rfl rfl rfl wz (h_op (vI r_8) wz rfl (h_nil ?_))
  obtain rfl := some_inj hF
  exact wH_ret (fin0 (.inr rfl) [(vI r_8)] ⟨rfl, trivial⟩ rfl rfl rfl)
theorem alert_Shown_ok {l_1 : (List Alert)} {p_2 : Post} {atv_3 : Int} {r : ByteArray × Bool × Int} (hF : alert_Shown l_1 p_2 atv_3 = some r) :
  FnM Tryz.prog 44 [(vL Alert.enc l_1), (.d (.agg (Post.enc p_2))), (vI atv_3)] [] (.tup [(vS r.1), (vB r.2.1), (vI r.2.2)]) [] := by
 refine FnM.of_wH ⟨Tryz.prog, 31, [], []⟩ rfl Tryz.func44 rfl rfl (Nat.le_of_ble_eq_true rfl) (by kernel_rfl) ?_
 unfold alert_Shown at hF
 refine wH_seq (wH_region (h_box 0 (.inl rfl) [(vS p_2.Player), (vI p_2.X), (vI p_2.Y)] rfl rfl wz (fun n_4 => h_op (vS (⟨#[]⟩ : ByteArray)) wz rfl (h_op (vB false) wz rfl (h_op (vI 0) wz rfl (h_nil (wH_seq (wH_seq (wH_region (h_op (vL Alert.enc l_1) wz rfl (h_ldr 0 0 il ft sz77 ag77 rfl rfl (.d (.agg (Post.enc p_2))) rfl wz (h_op (vI atv_3) wz rfl ?_))))))))))))
 obtain ⟨r_5, hr_6, hF⟩ := bind_some hF
 refine h_call0 (alert_spotFault_ok hr_6) rfl hb125 rfl rfl rfl rfl wz (h_op (vI r_5) wz rfl (h_nil (wH_seq (wH_region (h_op (vI r_5) wz rfl (h_op (vB (r_5 != 0)) wz rfl (h_nil ?_)))))))
 rcases cond_some hF with ⟨hc_7, hF⟩ | ⟨hc_7, hF⟩
 ·refine wH_ift rfl hc_7 (wH_seq (wH_region (h_op (vI r_5) wz rfl (h_op (vS (⟨#[]⟩ : ByteArray)) wz rfl (h_op (vB false) wz rfl (h_op (vI r_5) wz rfl (h_nil ?_)))))))
  obtain rfl := some_inj hF
  exact wH_ret (fin0 (.inr rfl) [(vS (⟨#[]⟩ : ByteArray)), (vB false), (vI r_5)] ⟨rfl, ⟨rfl, ⟨rfl, trivial⟩⟩⟩ rfl rfl rfl)
 ·refine wH_iff rfl hc_7 (wH_skip (wH_seq (wH_draws (h_op (vL Alert.enc l_1) wz rfl (h_op (vL Alert.enc l_1) wz rfl ?_)))))
  obtain ⟨r_8, hr_9, hF⟩ := bind_some hF
  refine h_call0 (alert_ends_ok hr_9) rfl hb117 rfl rfl rfl rfl wz (h_ldr 3 0 (.inr (by kernel_rfl)) (fun _ _ ag => trivial) sz77 ag77 rfl rfl (.d (.agg (Post.enc p_2))) rfl wz (h_op (vI atv_3) wz rfl ?_))
  obtain ⟨r_10, hr_11, hF⟩ := bind_some hF
  refine h_call0 (alert_ranked_ok hr_11) rfl hb118 rfl rfl rfl rfl wz (h_op (vL Alert.enc r_10) wz rfl (h_nil (wH_seq (wH_seq (wH_region (h_op (vL Alert.enc r_10) wz rfl (h_len un78 rfl wz (h_op (vB ((r_10.length : Int) == 0)) wz rfl (h_nil ?_)))))))))
  rcases cond_some hF with ⟨hc_12, hF⟩ | ⟨hc_12, hF⟩
  ·refine wH_ift rfl hc_12 (wH_seq (wH_region (h_op (vS (⟨#[]⟩ : ByteArray)) wz rfl (h_op (vB false) wz rfl (h_op (vI 0) wz rfl (h_nil ?_))))))
   obtain rfl := some_inj hF
   exact wH_ret (fin0 (.inr rfl) [(vS (⟨#[]⟩ : ByteArray)), (vB false), (vI 0)] ⟨rfl, ⟨rfl, ⟨rfl, trivial⟩⟩⟩ rfl rfl rfl)
  ·refine wH_iff rfl hc_12 (wH_skip (wH_seq (wH_region (h_op (vL Alert.enc r_10) wz rfl ?_))))
   obtain ⟨y_13, hy_14, hF⟩ := bind_some hF
   refine h_ia es78 rfl rfl hy_14 rfl wz (h_fac pl82_0 rfl [.str y_13.Id, .str y_13.Sender, .int .i64 y_13.Kind, dl eS y_13.Refs, .int .i64 y_13.At, .int .i64 y_13.Until, .int .i64 y_13.Weight, dl Rect.enc y_13.Areas, .str y_13.Text] rfl rfl wz (h_ldc sz9 ag9 rfl (vS y_13.Id) rfl wz (h_op (vS y_13.Id) wz rfl (h_op (vB true) wz rfl (h_op (vI 0) wz rfl (h_nil ?_))))))
   obtain rfl := some_inj hF
   exact wH_ret (fin0 (.inr rfl) [(vS y_13.Id), (vB true), (vI 0)] ⟨rfl, ⟨rfl, ⟨rfl, trivial⟩⟩⟩ rfl rfl rfl)
theorem alert_Ranked_ok {l_1 : (List Alert)} {p_2 : Post} {atv_3 : Int} {r : (List ByteArray) × Int} (hF : alert_Ranked l_1 p_2 atv_3 = some r) :
  FnM Tryz.prog 43 [(vL Alert.enc l_1), (.d (.agg (Post.enc p_2))), (vI atv_3)] [] (.tup [(vL eS r.1), (vI r.2)]) [] := by
 refine FnM.of_wH ⟨Tryz.prog, 37, [], []⟩ rfl Tryz.func43 rfl rfl (Nat.le_of_ble_eq_true rfl) (by kernel_rfl) ?_
 unfold alert_Ranked at hF
 refine wH_seq (wH_region (h_box 0 (.inl rfl) [(vS p_2.Player), (vI p_2.X), (vI p_2.Y)] rfl rfl wz (fun n_4 => h_op .nil wz rfl (h_op (vI 0) wz rfl (h_nil (wH_seq (wH_seq (wH_region (h_op (vL Alert.enc l_1) wz rfl (h_ldr 0 0 il ft sz77 ag77 rfl rfl (.d (.agg (Post.enc p_2))) rfl wz (h_op (vI atv_3) wz rfl ?_)))))))))))
 obtain ⟨r_5, hr_6, hF⟩ := bind_some hF
 refine h_call0 (alert_spotFault_ok hr_6) rfl hb125 rfl rfl rfl rfl wz (h_op (vI r_5) wz rfl (h_nil (wH_seq (wH_region (h_op (vI r_5) wz rfl (h_op (vB (r_5 != 0)) wz rfl (h_nil ?_)))))))
 rcases cond_some hF with ⟨hc_7, hF⟩ | ⟨hc_7, hF⟩
 ·refine wH_ift rfl hc_7 (wH_seq (wH_region (h_op (vI r_5) wz rfl (h_op .nil wz rfl (h_op (vI r_5) wz rfl (h_nil ?_))))))
  obtain rfl := some_inj hF
  exact wH_ret (fin0 (.inr rfl) [.nil, (vI r_5)] ⟨rfl, ⟨rfl, trivial⟩⟩ rfl rfl rfl)
 ·refine wH_iff rfl hc_7 (wH_skip (wH_seq (wH_region (h_op .nil wz rfl (h_nil (wH_seq (wH_seq (wH_draws (h_op (vL Alert.enc l_1) wz rfl (h_op (vL Alert.enc l_1) wz rfl ?_))))))))))
  obtain ⟨r_8, hr_9, hF⟩ := bind_some hF
  refine h_call0 (alert_ends_ok hr_9) rfl hb117 rfl rfl rfl rfl wz (h_ldr 3 0 (.inr (by kernel_rfl)) (fun _ _ ag => trivial) sz77 ag77 rfl rfl (.d (.agg (Post.enc p_2))) rfl wz (h_op (vI atv_3) wz rfl ?_))
  obtain ⟨r_10, hr_11, hF⟩ := bind_some hF
  refine h_call0 (alert_ranked_ok hr_11) rfl hb118 rfl rfl rfl rfl wz (h_len un78 rfl wz (h_op (vI 0) wz rfl (h_nil (wH_new (fun n_18 => ?_)))))
  obtain ⟨o_23, hj_24, hF⟩ := bind_some hF
  obtain ⟨hn_16, hj_24⟩ := forL_some hj_24
  refine wH_join (β := ((List ByteArray)) × Nm) (fun p => (fun (s_17 : (List ByteArray)) (n_20 : Nm) => ([(9, (gV n_20 1 s_17))] : List (Nat × V))) p.1 p.2) (fun p => (fun (s_17 : (List ByteArray)) (n_20 : Nm) => ([(n_4, some (.cells 3 [(vS p_2.Player), (vI p_2.X), (vI p_2.Y)])), (n_20, gB 1 eS s_17)] : Hp)) p.1 p.2) (fun p => o_23 = .go p.1) ?_ ?_
  ·refine wH_block (wH_loop (β := Nat × (List Alert) × ((List ByteArray)) × Nm) (fun p => (fun (k_12 : Nat) (l_13 : List Alert) (s_17 : (List ByteArray)) (n_20 : Nm) => ([(9, (gV n_20 1 s_17)), (24, (vL Alert.enc r_10)), (25, (vI (r_10.length : Int))), (26, (vI (k_12 : Int)))] : List (Nat × V))) p.1 p.2.1 p.2.2.1 p.2.2.2) (fun p => (fun (k_12 : Nat) (l_13 : List Alert) (s_17 : (List ByteArray)) (n_20 : Nm) => ([(n_4, some (.cells 3 [(vS p_2.Player), (vI p_2.X), (vI p_2.Y)])), (n_20, gB 1 eS s_17)] : Hp)) p.1 p.2.1 p.2.2.1 p.2.2.2) (fun p => forR (fun k x s => alert_Ranked_L1 k x s) p.2.1 p.1 p.2.2.1 = some o_23 ∧ (r_10).drop p.1 = p.2.1) (fun p => p.2.1.length) (0, r_10, ([] : List ByteArray), n_18) ⟨hj_24, rfl⟩ rfl (pre_r rfl) ?_)
   rintro ⟨k_12, l_13, s_17, n_20⟩ ⟨hL_22, hD_15⟩
   dsimp only at hL_22 hD_15
   cases l_13 with
   | nil =>
    obtain rfl := some_inj hL_22
    refine wH_seq (wH_region (h_op (vB (decide ((k_12 : Int) < (r_10.length : Int)))) wz rfl (h_nil ?_)))
    refine wH_seq (wH_iff rfl (drop_nil hD_15) (wH_exit ?_))
    exact cut_mk (s_17, n_20) rfl rfl (pre_r rfl)
   | cons x_14 l_13 =>
    obtain ⟨c_, hc_21, hL_22⟩ := bind_some hL_22
    refine wH_seq (wH_region (h_op (vB (decide ((k_12 : Int) < (r_10.length : Int)))) wz rfl (h_nil ?_)))
    refine wH_seq (wH_ift rfl (drop_cons hD_15) (wH_skip ?_))
    unfold alert_Ranked_L1 at hc_21
    refine wH_seq (wH_block (wH_seq (wH_region (h_ia es78 rfl rfl (drop_idx hD_15) rfl wz (h_ldc sz82 ag82 rfl (.d (.agg (Alert.enc x_14))) rfl wz (h_alloc 0 (.inl rfl) z82 rfl wz (fun n_25 => h_str 0 il ft 2 sz82 rfl rfl [(vS x_14.Id), (vS x_14.Sender), (vI x_14.Kind), (vL eS x_14.Refs), (vI x_14.At), (vI x_14.Until), (vI x_14.Weight), (vL Rect.enc x_14.Areas), (vS x_14.Text)] rfl wz (h_nil (wH_region (h_op (gV n_20 1 s_17) wz rfl (h_far pl82_0 rfl 0 rfl wz (h_ldr 0 2 il ft sz9 ag9 rfl rfl (vS x_14.Id) rfl wz (h_lit (([x_14.Id] : List ByteArray).map eS) es80 ez80 rfl rfl rfl rfl rfl wz ?_)))))))))))))
    obtain ⟨a_26, hz_27, hc_21⟩ := bind_some hc_21
    refine h_appg 0 il ft (i := 1) el80 el80 sz9 z9 rfl (by decide) by9 (by decide) (fun _ => rfl) rfl rfl rfl hz_27 wz (fun n_28 => h_op (gV n_28 1 a_26) wz rfl (h_nil (wH_region (h_opw (w64_next hD_15 hn_16) wz rfl (h_op (vI ((k_12 + 1 : Nat) : Int)) wz rfl (h_nil ?_))))))
    obtain rfl := some_inj hc_21
    exact loop_mk (k_12 + 1, l_13, a_26, n_28) ⟨hL_22, drop_next hD_15⟩ (Nat.lt_succ_self _) rfl (pre_r rfl)
  ·rintro ⟨s_17, n_20⟩ ho_ sl_ H_ hp_ hq_
   subst ho_
   refine wH_at _ hp_ hq_ (wH_seq (wH_region (h_op (gV n_20 1 s_17) wz rfl (h_op (gV n_20 1 s_17) wz rfl (h_op (vI 0) wz rfl (h_nil (wH_frozg 1 rfl (wH_cog 6 1 rfl rfl (wH_cog 9 1 rfl rfl (wH_cog 36 1 rfl rfl ?_))))))))))
   obtain rfl := some_inj hF
   exact wH_ret (fin0 (.inr rfl) [(vL eS s_17), (vI 0)] ⟨rfl, ⟨rfl, trivial⟩⟩ rfl rfl rfl)
theorem slices_Index_string_string_ok {s_1 : (List ByteArray)} {v_2 : ByteArray} {r : Int} (hF : slices_Index_string_string s_1 v_2 = some r) :
  FnM Tryz.prog 134 [(vL eS s_1), (vS v_2)] [] (vI r) [] := by
 refine FnM.of_wH ⟨Tryz.prog, 19, [], []⟩ rfl Tryz.func134 rfl rfl (Nat.le_of_ble_eq_true rfl) (by kernel_rfl) ?_
 unfold slices_Index_string_string at hF
 refine wH_seq (wH_region (h_op (vI 0) wz rfl (h_nil (wH_seq (wH_seq (wH_region (h_op (vL eS s_1) wz rfl (h_len un80 rfl wz (h_op (vI 0) wz rfl (h_nil ?_))))))))))
 obtain ⟨o_11, hj_12, hF⟩ := bind_some hF
 obtain ⟨hn_7, hj_12⟩ := forL_some hj_12
 refine wH_join (β := (Unit)) (fun (s_8 : Unit) => ([] : List (Nat × V))) (fun (s_8 : Unit) => ([] : Hp)) (fun p => o_11 = .go p) ?_ ?_
 ·refine wH_block (wH_loop (β := Nat × (List ByteArray) × (Unit)) (fun p => (fun (k_3 : Nat) (l_4 : List ByteArray) (s_8 : Unit) => ([(0, (vL eS s_1)), (1, (vS v_2)), (7, (vI (s_1.length : Int))), (8, (vI (k_3 : Int)))] : List (Nat × V))) p.1 p.2.1 p.2.2) (fun p => (fun (k_3 : Nat) (l_4 : List ByteArray) (s_8 : Unit) => ([] : Hp)) p.1 p.2.1 p.2.2) (fun p => forR (fun k x s => slices_Index_string_string_L1 v_2 k x s) p.2.1 p.1 p.2.2 = some o_11 ∧ (s_1).drop p.1 = p.2.1) (fun p => p.2.1.length) (0, s_1, ()) ⟨hj_12, rfl⟩ rfl (pre_r rfl) ?_)
  rintro ⟨k_3, l_4, s_8⟩ ⟨hL_10, hD_6⟩
  dsimp only at hL_10 hD_6
  cases l_4 with
  | nil =>
   obtain rfl := some_inj hL_10
   refine wH_seq (wH_region (h_op (vB (decide ((k_3 : Int) < (s_1.length : Int)))) wz rfl (h_nil ?_)))
   refine wH_seq (wH_iff rfl (drop_nil hD_6) (wH_exit ?_))
   exact cut_mk (s_8) rfl rfl (pre_r rfl)
  | cons x_5 l_4 =>
   obtain ⟨c_, hc_9, hL_10⟩ := bind_some hL_10
   refine wH_seq (wH_region (h_op (vB (decide ((k_3 : Int) < (s_1.length : Int)))) wz rfl (h_nil ?_)))
   refine wH_seq (wH_ift rfl (drop_cons hD_6) (wH_skip ?_))
   unfold slices_Index_string_string_L1 at hc_9
   refine wH_seq (wH_block (wH_seq (wH_region (h_op (vI (k_3 : Int)) wz rfl (h_op (vI (k_3 : Int)) wz rfl (h_nil (wH_seq (wH_region (h_op (vS v_2) wz rfl (h_op (vL eS s_1) wz rfl (h_op (vI (k_3 : Int)) wz rfl (h_ia es80 rfl rfl (drop_idx hD_6) rfl wz (h_ldc sz9 ag9 rfl (vS x_5) rfl wz (h_op (vB (sEq v_2 x_5)) wz rfl (h_nil ?_)))))))))))))))
   rcases cond_some hc_9 with ⟨hc_13, hc_9⟩ | ⟨hc_13, hc_9⟩
   ·refine wH_ift rfl hc_13 (wH_seq (wH_region (h_op (vI (k_3 : Int)) wz rfl (h_op (vI (k_3 : Int)) wz rfl (h_nil ?_)))))
    obtain rfl := some_inj hc_9
    obtain rfl := some_inj hL_10
    obtain rfl := some_inj hF
    exact wH_ret (fin0 (.inr rfl) [(vI (k_3 : Int))] ⟨rfl, trivial⟩ rfl rfl rfl)
   ·refine wH_iff rfl hc_13 (wH_skip (wH_region (h_opw (w64_next hD_6 hn_7) wz rfl (h_op (vI ((k_3 + 1 : Nat) : Int)) wz rfl (h_nil ?_)))))
    obtain rfl := some_inj hc_9
    exact loop_mk (k_3 + 1, l_4, ()) ⟨hL_10, drop_next hD_6⟩ (Nat.lt_succ_self _) rfl (pre_r rfl)
 ·rintro s_8 ho_ sl_ H_ hp_ hq_
  subst ho_
  refine wH_at _ hp_ hq_ (wH_seq (wH_region (h_op (vI (-1)) wz rfl (h_nil ?_))))
  obtain rfl := some_inj hF
  exact wH_ret (fin0 (.inr rfl) [(vI (-1))] ⟨rfl, trivial⟩ rfl rfl rfl)
theorem slices_Contains_string_string_ok {s_1 : (List ByteArray)} {v_2 : ByteArray} {r : Bool} (hF : slices_Contains_string_string s_1 v_2 = some r) :
  FnM Tryz.prog 52 [(vL eS s_1), (vS v_2)] [] (vB r) [] := by
 refine FnM.of_wH ⟨Tryz.prog, 9, [], []⟩ rfl Tryz.func52 rfl rfl (Nat.le_of_ble_eq_true rfl) (by kernel_rfl) ?_
 unfold slices_Contains_string_string at hF
 refine wH_seq (wH_region (h_op (vB false) wz rfl (h_nil (wH_seq (wH_region (h_op (vL eS s_1) wz rfl (h_op (vS v_2) wz rfl ?_)))))))
 obtain ⟨r_3, hr_4, hF⟩ := bind_some hF
 refine h_call0 (slices_Index_string_string_ok hr_4) rfl hb134 rfl rfl rfl rfl wz (h_op (vB (decide (r_3 ≥ 0))) wz rfl (h_op (vB (decide (r_3 ≥ 0))) wz rfl (h_nil ?_)))
 obtain rfl := some_inj hF
 exact wH_ret (fin0 (.inr rfl) [(vB (decide (r_3 ≥ 0)))] ⟨rfl, trivial⟩ rfl rfl rfl)
theorem mk_Stream_RightAlerts_okb {s_1 : Stream} {most_2 : Int} {r : (List Alert) × Stream} (hF : mk_Stream_RightAlerts s_1 most_2 = some r) :
  FnM Tryz.prog 28 [(.ref (extN 0) 0 0), (vI most_2)] [(.cells 2 [(vL eI s_1.L), (vI s_1.f_at)])] (gV (extN 1) 9 r.1) (([(.cells 2 [(vL eI r.2.L), (vI r.2.f_at)])] : List Box).map some ++ gO 9 Alert.enc r.1) := by
 refine FnM.of_wH ⟨Tryz.prog, 101, [], []⟩ rfl Tryz.func28 rfl rfl (Nat.le_of_ble_eq_true rfl) (by kernel_rfl) ?_
 unfold mk_Stream_RightAlerts at hF
 refine wH_seq (wH_region (h_op .nil wz rfl (h_nil (wH_seq (wH_region (h_op .nil wz rfl (h_nil (wH_seq (wH_seq (wH_region (h_lit (([(⟨#[97, 97]⟩ : ByteArray), (⟨#[97, 98]⟩ : ByteArray), (⟨#[97, 99]⟩ : ByteArray), (⟨#[97, 100]⟩ : ByteArray), (⟨#[97, 101]⟩ : ByteArray), (⟨#[97, 102]⟩ : ByteArray)] : List ByteArray).map eS) es80 ez80 rfl rfl rfl rfl rfl wz (h_op (.ref (extN 0) 0 0) wz rfl (h_op (vI most_2) wz rfl ?_)))))))))))))
 obtain ⟨r_3, hr_4, hF⟩ := bind_some hF
 refine h_callq 0 [0] il ft (mk_Stream_Range_ok hr_4) rfl hb13 rfl (by kernel_rfl) (by kernel_rfl) (by kernel_rfl) (by kernel_rfl) (by kernel_rfl) (by kernel_rfl) (by kernel_rfl) (by decide) (by kernel_rfl) wz (vI r_3.1) (by kernel_rfl) ([((extN 0), some (.cells 2 [(vL eI r_3.2.L), (vI r_3.2.f_at)]))] : Hp) (by kernel_rfl) ?_
 obtain ⟨y_6, hy_7, hF⟩ := bind_some hF
 refine h_sublFalseTrue un80 sz9 (fun _ => rfl) rfl rfl hy_7 wz (h_len un80 rfl wz (h_op (vI 0) wz rfl (h_nil (wH_new (fun n_14 => ?_)))))
 obtain ⟨o_19, hj_20, hF⟩ := bind_some hF
 obtain ⟨hn_12, hj_20⟩ := forL_some hj_20
 refine wH_join (β := ((List Alert) × (List Int) × Int) × Nm) (fun p => (fun (s_13 : (List Alert) × (List Int) × Int) (n_16 : Nm) => ([(5, (gV n_16 9 s_13.1))] : List (Nat × V))) p.1 p.2) (fun p => (fun (s_13 : (List Alert) × (List Int) × Int) (n_16 : Nm) => ([((extN 0), some (.cells 2 [(vL eI s_13.2.1), (vI s_13.2.2)])), (n_16, gB 9 Alert.enc s_13.1)] : Hp)) p.1 p.2) (fun p => o_19 = .go p.1) ?_ ?_
 ·refine wH_block (wH_loop (β := Nat × (List ByteArray) × ((List Alert) × (List Int) × Int) × Nm) (fun p => (fun (k_8 : Nat) (l_9 : List ByteArray) (s_13 : (List Alert) × (List Int) × Int) (n_16 : Nm) => ([(0, (.ref (extN 0) 0 0)), (5, (gV n_16 9 s_13.1)), (15, (vL eS y_6)), (16, (vI (y_6.length : Int))), (17, (vI (k_8 : Int)))] : List (Nat × V))) p.1 p.2.1 p.2.2.1 p.2.2.2) (fun p => (fun (k_8 : Nat) (l_9 : List ByteArray) (s_13 : (List Alert) × (List Int) × Int) (n_16 : Nm) => ([((extN 0), some (.cells 2 [(vL eI s_13.2.1), (vI s_13.2.2)])), (n_16, gB 9 Alert.enc s_13.1)] : Hp)) p.1 p.2.1 p.2.2.1 p.2.2.2) (fun p => forR (fun k x s => mk_Stream_RightAlerts_L3 k x s) p.2.1 p.1 p.2.2.1 = some o_19 ∧ (y_6).drop p.1 = p.2.1) (fun p => p.2.1.length) (0, y_6, (([] : List Alert), r_3.2.L, r_3.2.f_at), n_14) ⟨hj_20, rfl⟩ rfl (pre_r rfl) ?_)
  rintro ⟨k_8, l_9, s_13, n_16⟩ ⟨hL_18, hD_11⟩
  dsimp only at hL_18 hD_11
  cases l_9 with
  | nil =>
   obtain rfl := some_inj hL_18
   refine wH_seq (wH_region (h_op (vB (decide ((k_8 : Int) < (y_6.length : Int)))) wz rfl (h_nil ?_)))
   refine wH_seq (wH_iff rfl (drop_nil hD_11) (wH_exit ?_))
   exact cut_mk (s_13, n_16) rfl rfl (pre_r rfl)
  | cons x_10 l_9 =>
   obtain ⟨c_, hc_17, hL_18⟩ := bind_some hL_18
   refine wH_seq (wH_region (h_op (vB (decide ((k_8 : Int) < (y_6.length : Int)))) wz rfl (h_nil ?_)))
   refine wH_seq (wH_ift rfl (drop_cons hD_11) (wH_skip ?_))
   unfold mk_Stream_RightAlerts_L3 at hc_17
   refine wH_seq (wH_block (wH_seq (wH_region (h_ia es80 rfl rfl (drop_idx hD_11) rfl wz (h_ldc sz9 ag9 rfl (vS x_10) rfl wz (h_op (vS x_10) wz rfl (h_nil (wH_seq (wH_region (h_op (vS x_10) wz rfl (h_op (.ref (extN 0) 0 0) wz rfl (h_lit (([(⟨#[119, 120]⟩ : ByteArray), (⟨#[119, 120]⟩ : ByteArray), (⟨#[102, 105, 114, 101]⟩ : ByteArray)] : List ByteArray).map eS) es80 ez80 rfl rfl rfl rfl rfl wz ?_))))))))))))
   obtain ⟨r_21, hr_22, hc_17⟩ := bind_some hc_17
   refine h_callq 0 [0] il ft (mk_Stream_Some_ok hr_22) rfl hb70 rfl (by kernel_rfl) (by kernel_rfl) (by kernel_rfl) (by kernel_rfl) (by kernel_rfl) (by kernel_rfl) (by kernel_rfl) (by decide) (by kernel_rfl) wz (vS r_21.1) (by kernel_rfl) ([((extN 0), some (.cells 2 [(vL eI r_21.2.L), (vI r_21.2.f_at)])), (n_16, gB 9 Alert.enc s_13.1)] : Hp) (by kernel_rfl) (h_op (.ref (extN 0) 0 0) wz rfl (h_lit (([1, 1, 2, 2, 3] : List Int).map eI) es22 ez22 rfl rfl rfl rfl rfl wz ?_))
   obtain ⟨r_24, hr_25, hc_17⟩ := bind_some hc_17
   refine h_callq 0 [0] il ft (mk_Stream_Pick_ok hr_25) rfl hb34 rfl (by kernel_rfl) (by kernel_rfl) (by kernel_rfl) (by kernel_rfl) (by kernel_rfl) (by kernel_rfl) (by kernel_rfl) (by decide) (by kernel_rfl) wz (vI r_24.1) (by kernel_rfl) ([((extN 0), some (.cells 2 [(vL eI r_24.2.L), (vI r_24.2.f_at)])), (n_16, gB 9 Alert.enc s_13.1)] : Hp) (by kernel_rfl) (h_op (.ref (extN 0) 0 0) wz rfl ?_)
   obtain ⟨r_27, hr_28, hc_17⟩ := bind_some hc_17
   refine h_callq 0 [0] il ft (mk_Stream_Range_ok hr_28) rfl hb13 rfl (by kernel_rfl) (by kernel_rfl) (by kernel_rfl) (by kernel_rfl) (by kernel_rfl) (by kernel_rfl) (by kernel_rfl) (by decide) (by kernel_rfl) wz (vI r_27.1) (by kernel_rfl) ([((extN 0), some (.cells 2 [(vL eI r_27.2.L), (vI r_27.2.f_at)])), (n_16, gB 9 Alert.enc s_13.1)] : Hp) (by kernel_rfl) (h_op (vI (w64 (r_27.1 * 5))) wz rfl (h_op (.ref (extN 0) 0 0) wz rfl (h_lit (([1, 5, 5, 9] : List Int).map eI) es22 ez22 rfl rfl rfl rfl rfl wz ?_)))
   obtain ⟨r_30, hr_31, hc_17⟩ := bind_some hc_17
   refine h_callq 0 [0] il ft (mk_Stream_Pick_ok hr_31) rfl hb34 rfl (by kernel_rfl) (by kernel_rfl) (by kernel_rfl) (by kernel_rfl) (by kernel_rfl) (by kernel_rfl) (by kernel_rfl) (by decide) (by kernel_rfl) wz (vI r_30.1) (by kernel_rfl) ([((extN 0), some (.cells 2 [(vL eI r_30.2.L), (vI r_30.2.f_at)])), (n_16, gB 9 Alert.enc s_13.1)] : Hp) (by kernel_rfl) (h_op (.ref (extN 0) 0 0) wz rfl (h_lit (([(⟨#[102, 108, 111, 111, 100]⟩ : ByteArray), (⟨#[102, 105, 114, 101, 32, 105, 110, 32, 116, 104, 101, 32, 109, 97, 108, 108]⟩ : ByteArray)] : List ByteArray).map eS) es80 ez80 rfl rfl rfl rfl rfl wz ?_))
   obtain ⟨r_33, hr_34, hc_17⟩ := bind_some hc_17
   refine h_callq 0 [0] il ft (mk_Stream_Some_ok hr_34) rfl hb70 rfl (by kernel_rfl) (by kernel_rfl) (by kernel_rfl) (by kernel_rfl) (by kernel_rfl) (by kernel_rfl) (by kernel_rfl) (by decide) (by kernel_rfl) wz (vS r_33.1) (by kernel_rfl) ([((extN 0), some (.cells 2 [(vL eI r_33.2.L), (vI r_33.2.f_at)])), (n_16, gB 9 Alert.enc s_13.1)] : Hp) (by kernel_rfl) (h_op (.agg [(vS x_10), (vS r_21.1), (vI r_24.1), .nil, (vI (w64 (r_27.1 * 5))), (vI 0), (vI r_30.1), .nil, (vS r_33.1)]) wz (by kernel_rfl) (h_alloc 0 (.inl rfl) z82 rfl wz (fun n_36 => h_str 0 il ft 2 sz82 rfl rfl [(vS x_10), (vS r_21.1), (vI r_24.1), .nil, (vI (w64 (r_27.1 * 5))), (vI 0), (vI r_30.1), .nil, (vS r_33.1)] rfl wz (h_nil (wH_seq (wH_draws (h_far pl82_4 rfl 4 rfl wz (h_ldr 1 2 (.inr (by kernel_rfl)) (fun _ _ ag => trivial) sz3 ag3 rfl rfl (vI (w64 (r_27.1 * 5))) rfl wz (h_op (.ref (extN 0) 0 0) wz rfl (h_lit (([1, 10, 20, 50] : List Int).map eI) es22 ez22 rfl rfl rfl rfl rfl wz ?_))))))))))
   obtain ⟨r_37, hr_38, hc_17⟩ := bind_some hc_17
   refine h_callq 4 [0] (.inr (by kernel_rfl)) (fun _ _ ag => by exact ⟨.inr (.inl (dis1 (ag_ne ag (i := 0) (j := 2) rfl rfl (by decide)))), trivial⟩) (mk_Stream_Pick_ok hr_38) rfl hb34 rfl (by kernel_rfl) (by kernel_rfl) (by kernel_rfl) (by kernel_rfl) (by kernel_rfl) (by kernel_rfl) (by kernel_rfl) (by decide) (by kernel_rfl) wz (vI r_37.1) (by kernel_rfl) ([((extN 0), some (.cells 2 [(vL eI r_37.2.L), (vI r_37.2.f_at)])), (n_16, gB 9 Alert.enc s_13.1), (n_36, some (.cells 9 [(vS x_10), (vS r_21.1), (vI r_24.1), .nil, (vI (w64 (r_27.1 * 5))), (vI 0), (vI r_30.1), .nil, (vS r_33.1)]))] : Hp) (by kernel_rfl) (h_op (vI (w64 ((w64 (r_27.1 * 5)) + r_37.1))) wz rfl (h_far pl82_5 rfl 5 rfl wz (h_str 7 (.inr (by kernel_rfl)) (fun _ _ ag => ⟨.inr (.inr (by kernel_rfl)), ⟨.inr (.inr (by kernel_rfl)), trivial⟩⟩) 2 sz3 rfl rfl [(vS x_10), (vS r_21.1), (vI r_24.1), .nil, (vI (w64 (r_27.1 * 5))), (vI (w64 ((w64 (r_27.1 * 5)) + r_37.1))), (vI r_30.1), .nil, (vS r_33.1)] rfl wz (h_nil (wH_at (H0 := ([((extN 0), some (.cells 2 [(vL eI r_37.2.L), (vI r_37.2.f_at)])), (n_16, gB 9 Alert.enc s_13.1), (n_36, some (.cells 9 [(vS x_10), (vS r_21.1), (vI r_24.1), .nil, (vI (w64 (r_27.1 * 5))), (vI (w64 ((w64 (r_27.1 * 5)) + r_37.1))), (vI r_30.1), .nil, (vS r_33.1)]))] : Hp)) ([(0, (.ref (extN 0) 0 0)), (5, (gV n_16 9 s_13.1)), (7, (vS x_10)), (8, (.ref n_36 0 0)), (15, (vL eS y_6)), (16, (vI (y_6.length : Int))), (17, (vI (k_8 : Int)))] : List (Nat × V)) (by kernel_rfl) (pre_mk (by kernel_rfl)) (wH_seq (wH_seq (wH_region (h_far pl82_2 rfl 2 rfl wz (h_ldr 0 2 il ft sz3 ag3 rfl rfl (vI r_24.1) rfl wz (h_op (vB (r_24.1 != 1)) wz rfl (h_nil ?_))))))))))))
   obtain ⟨v_42, h_43, hc_17⟩ := bind_some hc_17
   refine wH_join (β := Unit) (fun _ => ([(0, (.ref (extN 0) 0 0)), (5, (gV n_16 9 s_13.1)), (8, (.ref n_36 0 0)), (15, (vL eS y_6)), (16, (vI (y_6.length : Int))), (17, (vI (k_8 : Int)))] : List (Nat × V))) (fun _ => ([((extN 0), some (.cells 2 [(vL eI v_42.1), (vI v_42.2.1)])), (n_16, gB 9 Alert.enc s_13.1), (n_36, some (.cells 9 [(vS x_10), (vS r_21.1), (vI r_24.1), (vL eS v_42.2.2), (vI (w64 (r_27.1 * 5))), (vI (w64 ((w64 (r_27.1 * 5)) + r_37.1))), (vI r_30.1), .nil, (vS r_33.1)]))] : Hp)) (fun _ => True) ?_ ?_
   ·rcases cond_some h_43 with ⟨hc_44, h_43⟩ | ⟨hc_44, h_43⟩
    ·refine wH_ift rfl hc_44 (wH_seq (wH_seq (wH_region (h_lit (([(⟨#[97, 97]⟩ : ByteArray), (⟨#[97, 98]⟩ : ByteArray), (⟨#[97, 99]⟩ : ByteArray), (⟨#[97, 100]⟩ : ByteArray), (⟨#[122, 122]⟩ : ByteArray)] : List ByteArray).map eS) es80 ez80 rfl rfl rfl rfl rfl wz (h_len un80 rfl wz (h_op (vI 0) wz rfl (h_nil (wH_new (fun n_51 => ?_)))))))))
     obtain ⟨o_56, hj_57, h_43⟩ := bind_some h_43
     obtain ⟨hn_49, hj_57⟩ := forL_some hj_57
     refine wH_join (β := ((List ByteArray) × (List Int) × Int) × Nm) (fun p => (fun (s_50 : (List ByteArray) × (List Int) × Int) (n_53 : Nm) => ([(0, (.ref (extN 0) 0 0)), (5, (gV n_16 9 s_13.1)), (8, (.ref n_36 0 0)), (15, (vL eS y_6)), (16, (vI (y_6.length : Int))), (17, (vI (k_8 : Int)))] : List (Nat × V))) p.1 p.2) (fun p => (fun (s_50 : (List ByteArray) × (List Int) × Int) (n_53 : Nm) => ([((extN 0), some (.cells 2 [(vL eI s_50.2.1), (vI s_50.2.2)])), (n_16, gB 9 Alert.enc s_13.1), (n_36, some (.cells 9 [(vS x_10), (vS r_21.1), (vI r_24.1), (gV n_53 1 s_50.1), (vI (w64 (r_27.1 * 5))), (vI (w64 ((w64 (r_27.1 * 5)) + r_37.1))), (vI r_30.1), .nil, (vS r_33.1)])), (n_53, gB 1 eS s_50.1)] : Hp)) p.1 p.2) (fun p => o_56 = .go p.1) ?_ ?_
     ·refine wH_block (wH_loop (β := Nat × (List ByteArray) × ((List ByteArray) × (List Int) × Int) × Nm) (fun p => (fun (k_45 : Nat) (l_46 : List ByteArray) (s_50 : (List ByteArray) × (List Int) × Int) (n_53 : Nm) => ([(0, (.ref (extN 0) 0 0)), (5, (gV n_16 9 s_13.1)), (7, (vS x_10)), (8, (.ref n_36 0 0)), (15, (vL eS y_6)), (16, (vI (y_6.length : Int))), (17, (vI (k_8 : Int))), (48, (vL eS ([(⟨#[97, 97]⟩ : ByteArray), (⟨#[97, 98]⟩ : ByteArray), (⟨#[97, 99]⟩ : ByteArray), (⟨#[97, 100]⟩ : ByteArray), (⟨#[122, 122]⟩ : ByteArray)] : List ByteArray))), (49, (vI (([(⟨#[97, 97]⟩ : ByteArray), (⟨#[97, 98]⟩ : ByteArray), (⟨#[97, 99]⟩ : ByteArray), (⟨#[97, 100]⟩ : ByteArray), (⟨#[122, 122]⟩ : ByteArray)] : List ByteArray).length : Int))), (50, (vI (k_45 : Int)))] : List (Nat × V))) p.1 p.2.1 p.2.2.1 p.2.2.2) (fun p => (fun (k_45 : Nat) (l_46 : List ByteArray) (s_50 : (List ByteArray) × (List Int) × Int) (n_53 : Nm) => ([((extN 0), some (.cells 2 [(vL eI s_50.2.1), (vI s_50.2.2)])), (n_16, gB 9 Alert.enc s_13.1), (n_36, some (.cells 9 [(vS x_10), (vS r_21.1), (vI r_24.1), (gV n_53 1 s_50.1), (vI (w64 (r_27.1 * 5))), (vI (w64 ((w64 (r_27.1 * 5)) + r_37.1))), (vI r_30.1), .nil, (vS r_33.1)])), (n_53, gB 1 eS s_50.1)] : Hp)) p.1 p.2.1 p.2.2.1 p.2.2.2) (fun p => forR (fun k x s => mk_Stream_RightAlerts_L1 x_10 k x s) p.2.1 p.1 p.2.2.1 = some o_56 ∧ (([(⟨#[97, 97]⟩ : ByteArray), (⟨#[97, 98]⟩ : ByteArray), (⟨#[97, 99]⟩ : ByteArray), (⟨#[97, 100]⟩ : ByteArray), (⟨#[122, 122]⟩ : ByteArray)] : List ByteArray)).drop p.1 = p.2.1) (fun p => p.2.1.length) (0, ([(⟨#[97, 97]⟩ : ByteArray), (⟨#[97, 98]⟩ : ByteArray), (⟨#[97, 99]⟩ : ByteArray), (⟨#[97, 100]⟩ : ByteArray), (⟨#[122, 122]⟩ : ByteArray)] : List ByteArray), (([] : List ByteArray), r_37.2.L, r_37.2.f_at), n_51) ⟨hj_57, rfl⟩ rfl (pre_r rfl) ?_)
      rintro ⟨k_45, l_46, s_50, n_53⟩ ⟨hL_55, hD_48⟩
      dsimp only at hL_55 hD_48
      cases l_46 with
      | nil =>
       obtain rfl := some_inj hL_55
       refine wH_seq (wH_region (h_op (vB (decide ((k_45 : Int) < (([(⟨#[97, 97]⟩ : ByteArray), (⟨#[97, 98]⟩ : ByteArray), (⟨#[97, 99]⟩ : ByteArray), (⟨#[97, 100]⟩ : ByteArray), (⟨#[122, 122]⟩ : ByteArray)] : List ByteArray).length : Int)))) wz rfl (h_nil ?_)))
       refine wH_seq (wH_iff rfl (drop_nil hD_48) (wH_exit ?_))
       exact cut_mk (s_50, n_53) rfl rfl (pre_r rfl)
      | cons x_47 l_46 =>
       obtain ⟨c_, hc_54, hL_55⟩ := bind_some hL_55
       refine wH_seq (wH_region (h_op (vB (decide ((k_45 : Int) < (([(⟨#[97, 97]⟩ : ByteArray), (⟨#[97, 98]⟩ : ByteArray), (⟨#[97, 99]⟩ : ByteArray), (⟨#[97, 100]⟩ : ByteArray), (⟨#[122, 122]⟩ : ByteArray)] : List ByteArray).length : Int)))) wz rfl (h_nil ?_)))
       refine wH_seq (wH_ift rfl (drop_cons hD_48) (wH_skip ?_))
       unfold mk_Stream_RightAlerts_L1 at hc_54
       refine wH_seq (wH_block (wH_seq (wH_region (h_ia es80 rfl rfl (drop_idx hD_48) rfl wz (h_ldc sz9 ag9 rfl (vS x_47) rfl wz (h_op (vS x_47) wz rfl (h_nil (wH_seq ?_))))))))
       obtain ⟨v_58, h_59, hc_54⟩ := bind_some hc_54
       refine wH_join (β := Unit) (fun _ => ([(0, (.ref (extN 0) 0 0)), (5, (gV n_16 9 s_13.1)), (7, (vS x_10)), (8, (.ref n_36 0 0)), (10, (vS x_47)), (15, (vL eS y_6)), (16, (vI (y_6.length : Int))), (17, (vI (k_8 : Int))), (48, (vL eS ([(⟨#[97, 97]⟩ : ByteArray), (⟨#[97, 98]⟩ : ByteArray), (⟨#[97, 99]⟩ : ByteArray), (⟨#[97, 100]⟩ : ByteArray), (⟨#[122, 122]⟩ : ByteArray)] : List ByteArray))), (49, (vI (([(⟨#[97, 97]⟩ : ByteArray), (⟨#[97, 98]⟩ : ByteArray), (⟨#[97, 99]⟩ : ByteArray), (⟨#[97, 100]⟩ : ByteArray), (⟨#[122, 122]⟩ : ByteArray)] : List ByteArray).length : Int))), (50, (vI (k_45 : Int))), (60, (vB v_58.1))] : List (Nat × V))) (fun _ => ([((extN 0), some (.cells 2 [(vL eI v_58.2.1), (vI v_58.2.2)])), (n_16, gB 9 Alert.enc s_13.1), (n_36, some (.cells 9 [(vS x_10), (vS r_21.1), (vI r_24.1), (gV n_53 1 s_50.1), (vI (w64 (r_27.1 * 5))), (vI (w64 ((w64 (r_27.1 * 5)) + r_37.1))), (vI r_30.1), .nil, (vS r_33.1)])), (n_53, gB 1 eS s_50.1)] : Hp)) (fun _ => True) ?_ ?_
       ·refine wH_region (h_op (vS x_47) wz rfl (h_op (vS x_10) wz rfl (h_op (vB (sNe x_47 x_10)) wz rfl ?_)))
        rcases cond_some h_59 with ⟨hc_60, h_59⟩ | ⟨hc_60, h_59⟩
        ·refine h_movb rfl hc_60 wz (h_op (.ref (extN 0) 0 0) wa rfl ?_)
         obtain ⟨r_61, hr_62, h_59⟩ := bind_some h_59
         refine h_callq 0 [0] il ft (mk_Stream_Flip_ok hr_62) rfl hb56 rfl (by kernel_rfl) (by kernel_rfl) (by kernel_rfl) (by kernel_rfl) (by kernel_rfl) (by kernel_rfl) (by kernel_rfl) (by decide) (by kernel_rfl) wa (vB r_61.1) (by kernel_rfl) ([((extN 0), some (.cells 2 [(vL eI r_61.2.L), (vI r_61.2.f_at)])), (n_16, gB 9 Alert.enc s_13.1), (n_36, some (.cells 9 [(vS x_10), (vS r_21.1), (vI r_24.1), (gV n_53 1 s_50.1), (vI (w64 (r_27.1 * 5))), (vI (w64 ((w64 (r_27.1 * 5)) + r_37.1))), (vI r_30.1), .nil, (vS r_33.1)])), (n_53, gB 1 eS s_50.1)] : Hp) (by kernel_rfl) (h_op (vB r_61.1) wz rfl (h_nil ?_))
         obtain rfl := some_inj h_59
         exact cu
        ·refine h_movb rfl hc_60 wz (h_skip wa (h_skip wa (h_op (vB false) wz rfl (h_nil ?_))))
         obtain rfl := some_inj h_59
         exact cu
       ·rintro ⟨⟩ _ sl_ H_ hp_ hq_
        refine wH_at _ hp_ hq_ ?_
        obtain ⟨v_64, h_65, hc_54⟩ := bind_some hc_54
        refine wH_join (β := Nm) (fun (n_66 : Nm) => ([(0, (.ref (extN 0) 0 0)), (5, (gV n_16 9 s_13.1)), (7, (vS x_10)), (8, (.ref n_36 0 0)), (15, (vL eS y_6)), (16, (vI (y_6.length : Int))), (17, (vI (k_8 : Int))), (48, (vL eS ([(⟨#[97, 97]⟩ : ByteArray), (⟨#[97, 98]⟩ : ByteArray), (⟨#[97, 99]⟩ : ByteArray), (⟨#[97, 100]⟩ : ByteArray), (⟨#[122, 122]⟩ : ByteArray)] : List ByteArray))), (49, (vI (([(⟨#[97, 97]⟩ : ByteArray), (⟨#[97, 98]⟩ : ByteArray), (⟨#[97, 99]⟩ : ByteArray), (⟨#[97, 100]⟩ : ByteArray), (⟨#[122, 122]⟩ : ByteArray)] : List ByteArray).length : Int))), (50, (vI (k_45 : Int)))] : List (Nat × V))) (fun (n_66 : Nm) => ([((extN 0), some (.cells 2 [(vL eI v_58.2.1), (vI v_58.2.2)])), (n_16, gB 9 Alert.enc s_13.1), (n_36, some (.cells 9 [(vS x_10), (vS r_21.1), (vI r_24.1), (gV n_66 1 v_64), (vI (w64 (r_27.1 * 5))), (vI (w64 ((w64 (r_27.1 * 5)) + r_37.1))), (vI r_30.1), .nil, (vS r_33.1)])), (n_66, gB 1 eS v_64)] : Hp)) (fun _ => True) ?_ ?_
        ·rcases cond_some h_65 with ⟨hc_67, h_65⟩ | ⟨hc_67, h_65⟩
         ·refine wH_ift rfl hc_67 (wH_region (h_far pl82_3 rfl 3 rfl wz (h_ldr 0 2 il ft sz80 ag80 rfl rfl (gV n_53 1 s_50.1) rfl wz (h_op (vS x_47) wz rfl (h_lit (([x_47] : List ByteArray).map eS) es80 ez80 rfl rfl rfl rfl rfl wz ?_)))))
          obtain ⟨a_68, hz_69, h_65⟩ := bind_some h_65
          refine h_appg 0 il ft (i := 3) el80 el80 sz9 z9 rfl (by decide) by9 (by decide) (fun _ => rfl) rfl rfl rfl hz_69 wz (fun n_70 => h_far pl82_3 rfl 3 rfl wz (h_str 0 il ft 2 sz80 rfl rfl [(vS x_10), (vS r_21.1), (vI r_24.1), (gV n_70 1 a_68), (vI (w64 (r_27.1 * 5))), (vI (w64 ((w64 (r_27.1 * 5)) + r_37.1))), (vI r_30.1), .nil, (vS r_33.1)] (stC_g rfl) wz (h_nil ?_)))
          obtain rfl := some_inj h_65
          exact cut_mk n_70 trivial rfl (pre_r rfl)
         ·refine wH_iff rfl hc_67 (wH_skip ?_)
          obtain rfl := some_inj h_65
          exact cut_mk n_53 trivial rfl (pre_r rfl)
        ·rintro n_66 _ sl_ H_ hp_ hq_
         refine wH_at _ hp_ hq_ (wH_region (h_opw (w64_next hD_48 hn_49) wz rfl (h_op (vI ((k_45 + 1 : Nat) : Int)) wz rfl (h_nil ?_))))
         obtain rfl := some_inj hc_54
         exact loop_mk (k_45 + 1, l_46, (v_64, v_58.2.1, v_58.2.2), n_66) ⟨hL_55, drop_next hD_48⟩ (Nat.lt_succ_self _) rfl (pre_r rfl)
     ·rintro ⟨s_50, n_53⟩ ho_ sl_ H_ hp_ hq_
      subst ho_
      refine wH_at _ hp_ hq_ (wH_seq (wH_region (h_far pl82_3 rfl 3 rfl wz (h_ldr 0 2 il ft sz80 ag80 rfl rfl (gV n_53 1 s_50.1) rfl wz (h_leng un80 rfl wz (h_op (vB ((s_50.1.length : Int) == 0)) wz rfl (h_nil ?_)))))))
      rcases cond_some h_43 with ⟨hc_71, h_43⟩ | ⟨hc_71, h_43⟩
      ·refine wH_ift rfl hc_71 (wH_region (h_lit (([(⟨#[122, 121]⟩ : ByteArray)] : List ByteArray).map eS) es80 ez80 rfl rfl rfl rfl rfl wz (h_far pl82_3 rfl 3 rfl wz (h_str 0 il ft 2 sz80 rfl rfl [(vS x_10), (vS r_21.1), (vI r_24.1), (vL eS ([(⟨#[122, 121]⟩ : ByteArray)] : List ByteArray)), (vI (w64 (r_27.1 * 5))), (vI (w64 ((w64 (r_27.1 * 5)) + r_37.1))), (vI r_30.1), .nil, (vS r_33.1)] rfl wz (h_nil ?_)))))
       obtain rfl := some_inj h_43
       exact cu
      ·refine wH_iff rfl hc_71 (wH_frozg 3 rfl (wH_cog 69 3 rfl rfl (wH_coc3 3 2 [false, false, false, true, false, false, false, false, false] [(vS x_10), (vS r_21.1), (vI r_24.1), (vL eS s_50.1), (vI (w64 (r_27.1 * 5))), (vI (w64 ((w64 (r_27.1 * 5)) + r_37.1))), (vI r_30.1), .nil, (vS r_33.1)] rfl rfl rfl (fun S hS => cons_eq (rfl) (cons_eq (rfl) (cons_eq (rfl) (cons_eq (hS) (cons_eq (rfl) (cons_eq (rfl) (cons_eq (rfl) (cons_eq (rfl) (cons_eq (rfl) (rfl)))))))))) (wH_skip ?_))))
       obtain rfl := some_inj h_43
       exact cu
    ·refine wH_iff rfl hc_44 (wH_coc1 2 [false, false, false, true, false, false, false, false, false] [(vS x_10), (vS r_21.1), (vI r_24.1), (vL eS ([] : List ByteArray)), (vI (w64 (r_27.1 * 5))), (vI (w64 ((w64 (r_27.1 * 5)) + r_37.1))), (vI r_30.1), .nil, (vS r_33.1)] rfl rfl (fun _ => rfl) (wH_skip ?_))
     obtain rfl := some_inj h_43
     exact cu
   ·rintro ⟨⟩ _ sl_ H_ hp_ hq_
    refine wH_at _ hp_ hq_ (wH_seq (wH_seq (wH_region (h_far pl82_2 rfl 2 rfl wz (h_ldr 0 2 il ft sz3 ag3 rfl rfl (vI r_24.1) rfl wz (h_op (vB (r_24.1 == 3)) wz rfl (h_nil (wH_new (fun n_74 => ?_)))))))))
    obtain ⟨v_75, h_76, hc_17⟩ := bind_some hc_17
    refine wH_join (β := Nm) (fun (n_77 : Nm) => ([(0, (.ref (extN 0) 0 0)), (5, (gV n_16 9 s_13.1)), (8, (.ref n_36 0 0)), (15, (vL eS y_6)), (16, (vI (y_6.length : Int))), (17, (vI (k_8 : Int)))] : List (Nat × V))) (fun (n_77 : Nm) => ([((extN 0), some (.cells 2 [(vL eI v_75.2.1), (vI v_75.2.2.1)])), (n_16, gB 9 Alert.enc s_13.1), (n_36, some (.cells 9 [(vS x_10), (vS r_21.1), (vI r_24.1), (vL eS v_42.2.2), (vI (w64 (r_27.1 * 5))), (vI (w64 ((w64 (r_27.1 * 5)) + r_37.1))), (vI r_30.1), (gV n_77 4 v_75.1), (vS v_75.2.2.2)])), (n_77, gB 4 Rect.enc v_75.1)] : Hp)) (fun _ => True) ?_ ?_
    ·rcases cond_some h_76 with ⟨hc_78, h_76⟩ | ⟨hc_78, h_76⟩
     ·refine wH_ift rfl hc_78 (wH_region (h_op (.ref (extN 0) 0 0) wz rfl (h_lit (([(⟨#[]⟩ : ByteArray), (⟨#[111, 118, 101, 114]⟩ : ByteArray)] : List ByteArray).map eS) es80 ez80 rfl rfl rfl rfl rfl wz ?_)))
      obtain ⟨r_79, hr_80, h_76⟩ := bind_some h_76
      refine h_callq 0 [0] il ft (mk_Stream_Some_ok hr_80) rfl hb70 rfl (by kernel_rfl) (by kernel_rfl) (by kernel_rfl) (by kernel_rfl) (by kernel_rfl) (by kernel_rfl) (by kernel_rfl) (by decide) (by kernel_rfl) wz (vS r_79.1) (by kernel_rfl) ([((extN 0), some (.cells 2 [(vL eI r_79.2.L), (vI r_79.2.f_at)])), (n_16, gB 9 Alert.enc s_13.1), (n_36, some (.cells 9 [(vS x_10), (vS r_21.1), (vI r_24.1), (vL eS v_42.2.2), (vI (w64 (r_27.1 * 5))), (vI (w64 ((w64 (r_27.1 * 5)) + r_37.1))), (vI r_30.1), (gV n_74 4 ([] : List Rect)), (vS r_33.1)])), (n_74, gB 4 Rect.enc ([] : List Rect))] : Hp) (by kernel_rfl) (h_far pl82_8 rfl 8 rfl wz (h_str 0 il ft 2 sz9 rfl rfl [(vS x_10), (vS r_21.1), (vI r_24.1), (vL eS v_42.2.2), (vI (w64 (r_27.1 * 5))), (vI (w64 ((w64 (r_27.1 * 5)) + r_37.1))), (vI r_30.1), (gV n_74 4 ([] : List Rect)), (vS r_79.1)] rfl wz (h_nil ?_)))
      obtain rfl := some_inj h_76
      exact cut_mk n_74 trivial rfl (pre_r rfl)
     ·refine wH_iff rfl hc_78 (wH_seq (wH_region (h_op (.ref (extN 0) 0 0) wz rfl ?_)))
      obtain ⟨r_82, hr_83, h_76⟩ := bind_some h_76
      refine h_callq 0 [0] il ft (mk_Stream_Range_ok hr_83) rfl hb13 rfl (by kernel_rfl) (by kernel_rfl) (by kernel_rfl) (by kernel_rfl) (by kernel_rfl) (by kernel_rfl) (by kernel_rfl) (by decide) (by kernel_rfl) wz (vI r_82.1) (by kernel_rfl) ([((extN 0), some (.cells 2 [(vL eI r_82.2.L), (vI r_82.2.f_at)])), (n_16, gB 9 Alert.enc s_13.1), (n_36, some (.cells 9 [(vS x_10), (vS r_21.1), (vI r_24.1), (vL eS v_42.2.2), (vI (w64 (r_27.1 * 5))), (vI (w64 ((w64 (r_27.1 * 5)) + r_37.1))), (vI r_30.1), (gV n_74 4 ([] : List Rect)), (vS r_33.1)])), (n_74, gB 4 Rect.enc ([] : List Rect))] : Hp) (by kernel_rfl) (h_op (vI 0) wz rfl (h_nil ?_))
      obtain ⟨o_95, hj_96, h_76⟩ := bind_some h_76
      obtain ⟨hn_89, hj_96⟩ := forL_some hj_96
      refine wH_join (β := ((List Rect) × (List Int) × Int) × Nm) (fun p => (fun (s_90 : (List Rect) × (List Int) × Int) (n_92 : Nm) => ([(0, (.ref (extN 0) 0 0)), (5, (gV n_16 9 s_13.1)), (8, (.ref n_36 0 0)), (15, (vL eS y_6)), (16, (vI (y_6.length : Int))), (17, (vI (k_8 : Int)))] : List (Nat × V))) p.1 p.2) (fun p => (fun (s_90 : (List Rect) × (List Int) × Int) (n_92 : Nm) => ([((extN 0), some (.cells 2 [(vL eI s_90.2.1), (vI s_90.2.2)])), (n_16, gB 9 Alert.enc s_13.1), (n_36, some (.cells 9 [(vS x_10), (vS r_21.1), (vI r_24.1), (vL eS v_42.2.2), (vI (w64 (r_27.1 * 5))), (vI (w64 ((w64 (r_27.1 * 5)) + r_37.1))), (vI r_30.1), (gV n_92 4 s_90.1), (vS r_33.1)])), (n_92, gB 4 Rect.enc s_90.1)] : Hp)) p.1 p.2) (fun p => o_95 = .go p.1) ?_ ?_
      ·refine wH_block (wH_loop (β := Nat × (List Nat) × ((List Rect) × (List Int) × Int) × Nm) (fun p => (fun (k_85 : Nat) (l_86 : List Nat) (s_90 : (List Rect) × (List Int) × Int) (n_92 : Nm) => ([(0, (.ref (extN 0) 0 0)), (5, (gV n_16 9 s_13.1)), (8, (.ref n_36 0 0)), (15, (vL eS y_6)), (16, (vI (y_6.length : Int))), (17, (vI (k_8 : Int))), (82, (vI r_82.1)), (83, (vI (k_85 : Int)))] : List (Nat × V))) p.1 p.2.1 p.2.2.1 p.2.2.2) (fun p => (fun (k_85 : Nat) (l_86 : List Nat) (s_90 : (List Rect) × (List Int) × Int) (n_92 : Nm) => ([((extN 0), some (.cells 2 [(vL eI s_90.2.1), (vI s_90.2.2)])), (n_16, gB 9 Alert.enc s_13.1), (n_36, some (.cells 9 [(vS x_10), (vS r_21.1), (vI r_24.1), (vL eS v_42.2.2), (vI (w64 (r_27.1 * 5))), (vI (w64 ((w64 (r_27.1 * 5)) + r_37.1))), (vI r_30.1), (gV n_92 4 s_90.1), (vS r_33.1)])), (n_92, gB 4 Rect.enc s_90.1)] : Hp)) p.1 p.2.1 p.2.2.1 p.2.2.2) (fun p => forR (fun k x s => mk_Stream_RightAlerts_L2 k x s) p.2.1 p.1 p.2.2.1 = some o_95 ∧ ((List.range (r_82.1).toNat)).drop p.1 = p.2.1) (fun p => p.2.1.length) (0, (List.range (r_82.1).toNat), (([] : List Rect), r_82.2.L, r_82.2.f_at), n_74) ⟨hj_96, rfl⟩ rfl (pre_r rfl) ?_)
       rintro ⟨k_85, l_86, s_90, n_92⟩ ⟨hL_94, hD_88⟩
       dsimp only at hL_94 hD_88
       cases l_86 with
       | nil =>
        obtain rfl := some_inj hL_94
        refine wH_seq (wH_region (h_op (vB (decide ((k_85 : Int) < r_82.1))) wz rfl (h_nil ?_)))
        refine wH_seq (wH_iff rfl (range_nil hD_88) (wH_exit ?_))
        exact cut_mk (s_90, n_92) rfl rfl (pre_r rfl)
       | cons x_87 l_86 =>
        obtain ⟨c_, hc_93, hL_94⟩ := bind_some hL_94
        refine wH_seq (wH_region (h_op (vB (decide ((k_85 : Int) < r_82.1))) wz rfl (h_nil ?_)))
        refine wH_seq (wH_ift rfl (range_cons hD_88) (wH_skip ?_))
        unfold mk_Stream_RightAlerts_L2 at hc_93
        refine wH_seq (wH_block (wH_draws (h_far pl82_7 rfl 7 rfl wz (h_ldr 1 2 (.inr (by kernel_rfl)) (fun _ _ ag => trivial) sz50 ag50 rfl rfl (gV n_92 4 s_90.1) rfl wz (h_op (.ref (extN 0) 0 0) wz rfl ?_)))))
        obtain ⟨r_97, hr_98, hc_93⟩ := bind_some hc_93
        refine h_callq 3 [0] (.inr (by kernel_rfl)) (fun _ _ ag => by exact ⟨.inr (.inl (dis1 (ag_ne ag (i := 0) (j := 2) rfl rfl (by decide)))), trivial⟩) (mk_Stream_RightRect_ok hr_98) rfl hb18 rfl (by kernel_rfl) (by kernel_rfl) (by kernel_rfl) (by kernel_rfl) (by kernel_rfl) (by kernel_rfl) (by kernel_rfl) (by decide) (by kernel_rfl) wz (.d (.agg (Rect.enc r_97.1))) (by kernel_rfl) ([((extN 0), some (.cells 2 [(vL eI r_97.2.L), (vI r_97.2.f_at)])), (n_16, gB 9 Alert.enc s_13.1), (n_36, some (.cells 9 [(vS x_10), (vS r_21.1), (vI r_24.1), (vL eS v_42.2.2), (vI (w64 (r_27.1 * 5))), (vI (w64 ((w64 (r_27.1 * 5)) + r_37.1))), (vI r_30.1), (gV n_92 4 s_90.1), (vS r_33.1)])), (n_92, gB 4 Rect.enc s_90.1)] : Hp) (by kernel_rfl) (h_lit (([r_97.1] : List Rect).map Rect.enc) es50 ez50 rfl rfl rfl rfl rfl wz ?_)
        obtain ⟨a_100, hz_101, hc_93⟩ := bind_some hc_93
        refine h_appg 5 (.inr (by kernel_rfl)) (fun _ _ ag => ⟨.inr (.inr (by kernel_rfl)), ⟨.inr (.inr (by kernel_rfl)), trivial⟩⟩) (i := 3) el50 el50 sz45 z45 rfl (by decide) by45 (by decide) (fun _ => rfl) rfl rfl rfl hz_101 wz (fun n_102 => h_far pl82_7 rfl 7 rfl wz (h_str 7 (.inr (by kernel_rfl)) (fun _ _ ag => ⟨.inr (.inr (by kernel_rfl)), ⟨.inr (.inr (by kernel_rfl)), ⟨.inr (.inr (by kernel_rfl)), trivial⟩⟩⟩) 2 sz50 rfl rfl [(vS x_10), (vS r_21.1), (vI r_24.1), (vL eS v_42.2.2), (vI (w64 (r_27.1 * 5))), (vI (w64 ((w64 (r_27.1 * 5)) + r_37.1))), (vI r_30.1), (gV n_102 4 a_100), (vS r_33.1)] (stC_g rfl) wz (h_nil (wH_region (h_opw (w64_nextr hD_88 hn_89) wz rfl (h_op (vI ((k_85 + 1 : Nat) : Int)) wz rfl (h_nil ?_)))))))
        obtain rfl := some_inj hc_93
        exact loop_mk (k_85 + 1, l_86, (a_100, r_97.2.L, r_97.2.f_at), n_102) ⟨hL_94, drop_next hD_88⟩ (Nat.lt_succ_self _) rfl (pre_r rfl)
      ·rintro ⟨s_90, n_92⟩ ho_ sl_ H_ hp_ hq_
       subst ho_
       obtain rfl := some_inj h_76
       exact cut_mk n_92 trivial (pick_at [0, 1, 2, 3, 4, 5] hp_ rfl) (pre_at hq_ (pre_r rfl))
    ·rintro n_77 _ sl_ H_ hp_ hq_
     refine wH_at _ hp_ hq_ (wH_frozg 3 rfl (wH_coc 3 2 [(vS x_10), (vS r_21.1), (vI r_24.1), (vL eS v_42.2.2), (vI (w64 (r_27.1 * 5))), (vI (w64 ((w64 (r_27.1 * 5)) + r_37.1))), (vI r_30.1), (vL Rect.enc v_75.1), (vS v_75.2.2.2)] rfl rfl (fun S hS => cons_eq (rfl) (cons_eq (rfl) (cons_eq (rfl) (cons_eq (rfl) (cons_eq (rfl) (cons_eq (rfl) (cons_eq (rfl) (cons_eq (hS) (cons_eq (rfl) (rfl)))))))))) (wH_region (h_op (gV n_16 9 s_13.1) wz rfl (h_ldr 0 2 il ft sz82 ag82 rfl rfl (.d (.agg (Alert.enc (⟨x_10, r_21.1, r_24.1, v_42.2.2, (w64 (r_27.1 * 5)), (w64 ((w64 (r_27.1 * 5)) + r_37.1)), r_30.1, v_75.1, v_75.2.2.2⟩ : Alert)))) rfl wz (h_lit (([(⟨x_10, r_21.1, r_24.1, v_42.2.2, (w64 (r_27.1 * 5)), (w64 ((w64 (r_27.1 * 5)) + r_37.1)), r_30.1, v_75.1, v_75.2.2.2⟩ : Alert)] : List Alert).map Alert.enc) es78 ez78 rfl rfl rfl rfl rfl wz ?_))))))
     obtain ⟨a_103, hz_104, hc_17⟩ := bind_some hc_17
     refine h_appg 0 il ft (i := 1) el78 el78 sz82 z82 rfl (by decide) by82 (by decide) (fun _ => rfl) rfl rfl rfl hz_104 wz (fun n_105 => h_op (gV n_105 9 a_103) wz rfl (h_nil (wH_region (h_opw (w64_next hD_11 hn_12) wz rfl (h_op (vI ((k_8 + 1 : Nat) : Int)) wz rfl (h_nil ?_))))))
     obtain rfl := some_inj hc_17
     exact loop_mk (k_8 + 1, l_9, (a_103, v_75.2.1, v_75.2.2.1), n_105) ⟨hL_18, drop_next hD_11⟩ (Nat.lt_succ_self _) rfl (pre_r rfl)
 ·rintro ⟨s_13, n_16⟩ ho_ sl_ H_ hp_ hq_
  subst ho_
  refine wH_at _ hp_ hq_ (wH_seq (wH_region (h_op (gV n_16 9 s_13.1) wz rfl ?_)))
  obtain ⟨r_106, hr_107, hF⟩ := bind_some hF
  obtain ⟨_, hs_108, hF⟩ := bind_some hF
  replace hs_108 := sameL_eq hs_108
  refine h_callv 0 [] 1 0 il ft (slices_SortFunc_api_Alert_api_Alert_v1_ok hr_107) rfl hb109 rfl rfl rfl (by kernel_rfl) rfl (.inl rfl) rfl (by kernel_rfl) (by kernel_rfl) (by kernel_rfl) (by kernel_rfl) rfl (by decide) (by kernel_rfl) gB_ok (gB_ho hs_108) wz ([((extN 0), some (.cells 2 [(vL eI s_13.2.1), (vI s_13.2.2)])), (n_16, gB 9 Alert.enc r_106)] : Hp) (by kernel_rfl) (h_re (v' := (gV n_16 9 r_106)) 5 rfl (gV_len hs_108.symm) (h_re (v' := (gV n_16 9 r_106)) 98 rfl (gV_len hs_108.symm) (h_nil (wH_seq (wH_region (h_op (gV n_16 9 r_106) wz rfl (h_op (gV n_16 9 r_106) wz rfl (h_nil ?_))))))))
  obtain rfl := some_inj hF
  exact wH_ret (finG (outs := ([(.cells 2 [(vL eI s_13.2.1), (vI s_13.2.2)])] : List Box)) (.inr rfl) 1 rfl rfl rfl (by kernel_rfl) (by kernel_rfl))
theorem mk_Stream_Odd_ok {s_1 : Stream} {low_2 : Int} {high_3 : Int} {r : Int × Stream} (hF : mk_Stream_Odd s_1 low_2 high_3 = some r) :
  FnM Tryz.prog 114 [(.ref (extN 0) 0 0), (vI low_2), (vI high_3)] [(.cells 2 [(vL eI s_1.L), (vI s_1.f_at)])] (vI r.1) [some (.cells 2 [(vL eI r.2.L), (vI r.2.f_at)])] := by
 refine FnM.of_wH ⟨Tryz.prog, 22, [], []⟩ rfl Tryz.func114 rfl rfl (Nat.le_of_ble_eq_true rfl) (by kernel_rfl) ?_
 unfold mk_Stream_Odd at hF
 refine wH_seq (wH_region (h_op (vI 0) wz rfl (h_nil (wH_seq (wH_seq (wH_region (h_op (.ref (extN 0) 0 0) wz rfl ?_)))))))
 obtain ⟨r_4, hr_5, hF⟩ := bind_some hF
 refine h_callq 0 [0] il ft (mk_Stream_Flip_ok hr_5) rfl hb56 rfl (by kernel_rfl) (by kernel_rfl) (by kernel_rfl) (by kernel_rfl) (by kernel_rfl) (by kernel_rfl) (by kernel_rfl) (by decide) (by kernel_rfl) wz (vB r_4.1) (by kernel_rfl) ([((extN 0), some (.cells 2 [(vL eI r_4.2.L), (vI r_4.2.f_at)]))] : Hp) (by kernel_rfl) (h_nil ?_)
 rcases cond_some hF with ⟨hc_7, hF⟩ | ⟨hc_7, hF⟩
 ·refine wH_ift rfl hc_7 (wH_seq (wH_region (h_op (.ref (extN 0) 0 0) wz rfl (h_op (vI low_2) wz rfl (h_op (vI (w64 (low_2 - 1))) wz rfl (h_op (vI high_3) wz rfl (h_op (vI (w64 (high_3 + 1))) wz rfl (h_op (vI low_2) wz rfl (h_op (vI high_3) wz rfl (h_lit (([(w64 (low_2 - 1)), (w64 (high_3 + 1)), low_2, high_3, (-1099511627776), 1099511627776] : List Int).map eI) es22 ez22 rfl rfl rfl rfl rfl wz ?_))))))))))
  obtain ⟨r_8, hr_9, hF⟩ := bind_some hF
  refine h_callq 0 [0] il ft (mk_Stream_Pick_ok hr_9) rfl hb34 rfl (by kernel_rfl) (by kernel_rfl) (by kernel_rfl) (by kernel_rfl) (by kernel_rfl) (by kernel_rfl) (by kernel_rfl) (by decide) (by kernel_rfl) wz (vI r_8.1) (by kernel_rfl) ([((extN 0), some (.cells 2 [(vL eI r_8.2.L), (vI r_8.2.f_at)]))] : Hp) (by kernel_rfl) (h_op (vI r_8.1) wz rfl (h_nil ?_))
  obtain rfl := some_inj hF
  exact wH_ret (finB (.inr rfl) [(vI r_8.1)] _ [0] [extN 0] ⟨rfl, trivial⟩ (.cons (co_data rfl rfl) (.nil)) (by kernel_rfl) ⟨(by kernel_rfl), trivial⟩ (by decide) (by kernel_rfl))
 ·refine wH_iff rfl hc_7 (wH_skip (wH_seq (wH_region (h_op (.ref (extN 0) 0 0) wz rfl (h_op (vI low_2) wz rfl (h_op (vI high_3) wz rfl ?_))))))
  obtain ⟨r_11, hr_12, hF⟩ := bind_some hF
  refine h_callq 0 [0] il ft (mk_Stream_Range_ok hr_12) rfl hb13 rfl (by kernel_rfl) (by kernel_rfl) (by kernel_rfl) (by kernel_rfl) (by kernel_rfl) (by kernel_rfl) (by kernel_rfl) (by decide) (by kernel_rfl) wz (vI r_11.1) (by kernel_rfl) ([((extN 0), some (.cells 2 [(vL eI r_11.2.L), (vI r_11.2.f_at)]))] : Hp) (by kernel_rfl) (h_op (vI r_11.1) wz rfl (h_nil ?_))
  obtain rfl := some_inj hF
  exact wH_ret (finB (.inr rfl) [(vI r_11.1)] _ [0] [extN 0] ⟨rfl, trivial⟩ (.cons (co_data rfl rfl) (.nil)) (by kernel_rfl) ⟨(by kernel_rfl), trivial⟩ (by decide) (by kernel_rfl))
theorem mk_Stream_Rect_ok {s_1 : Stream} {r : Rect × Stream} (hF : mk_Stream_Rect s_1 = some r) :
  FnM Tryz.prog 192 [(.ref (extN 0) 0 0)] [(.cells 2 [(vL eI s_1.L), (vI s_1.f_at)])] (.d (.agg (Rect.enc r.1))) [some (.cells 2 [(vL eI r.2.L), (vI r.2.f_at)])] := by
 refine FnM.of_wH ⟨Tryz.prog, 32, [], []⟩ rfl Tryz.func192 rfl rfl (Nat.le_of_ble_eq_true rfl) (by kernel_rfl) ?_
 unfold mk_Stream_Rect at hF
 refine wH_seq (wH_region (h_alloc 0 (.inl rfl) z45 rfl wz (fun n_2 => h_nil (wH_seq (wH_region (h_op (.ref (extN 0) 0 0) wz rfl ?_))))))
 obtain ⟨r_3, hr_4, hF⟩ := bind_some hF
 refine h_callq 0 [0] il ft (mk_Stream_RightRect_ok hr_4) rfl hb18 rfl (by kernel_rfl) (by kernel_rfl) (by kernel_rfl) (by kernel_rfl) (by kernel_rfl) (by kernel_rfl) (by kernel_rfl) (by decide) (by kernel_rfl) wz (.d (.agg (Rect.enc r_3.1))) (by kernel_rfl) ([((extN 0), some (.cells 2 [(vL eI r_3.2.L), (vI r_3.2.f_at)])), (n_2, some (.cells 4 [(vI 0), (vI 0), (vI 0), (vI 0)]))] : Hp) (by kernel_rfl) (h_alloc 0 (.inl rfl) z45 rfl wz (fun n_6 => h_str 0 il ft 2 sz45 rfl rfl [(vI r_3.1.X), (vI r_3.1.Y), (vI r_3.1.W), (vI r_3.1.H)] rfl wz (h_nil (wH_seq (wH_seq (wH_region (h_op (.ref (extN 0) 0 0) wz rfl ?_)))))))
 obtain ⟨r_7, hr_8, hF⟩ := bind_some hF
 refine h_callq 0 [0] il ft (mk_Stream_Flip_ok hr_8) rfl hb56 rfl (by kernel_rfl) (by kernel_rfl) (by kernel_rfl) (by kernel_rfl) (by kernel_rfl) (by kernel_rfl) (by kernel_rfl) (by decide) (by kernel_rfl) wz (vB r_7.1) (by kernel_rfl) ([((extN 0), some (.cells 2 [(vL eI r_7.2.L), (vI r_7.2.f_at)])), (n_2, some (.cells 4 [(vI 0), (vI 0), (vI 0), (vI 0)])), (n_6, some (.cells 4 [(vI r_3.1.X), (vI r_3.1.Y), (vI r_3.1.W), (vI r_3.1.H)]))] : Hp) (by kernel_rfl) (h_nil ?_)
 obtain ⟨v_10, h_11, hF⟩ := bind_some hF
 refine wH_join (β := Unit) (fun _ => ([(2, (.ref n_2 0 0)), (3, (.ref n_6 0 0))] : List (Nat × V))) (fun _ => ([((extN 0), some (.cells 2 [(vL eI v_10.1), (vI v_10.2.1)])), (n_2, some (.cells 4 [(vI 0), (vI 0), (vI 0), (vI 0)])), (n_6, some (.cells 4 [(vI v_10.2.2.1), (vI v_10.2.2.2.1), (vI v_10.2.2.2.2.1), (vI v_10.2.2.2.2.2)]))] : Hp)) (fun _ => True) ?_ ?_
 ·rcases cond_some h_11 with ⟨hc_12, h_11⟩ | ⟨hc_12, h_11⟩
  ·refine wH_ift rfl hc_12 (wH_seq (wH_region (h_op (.ref (extN 0) 0 0) wz rfl ?_)))
   obtain ⟨r_13, hr_14, h_11⟩ := bind_some h_11
   refine h_callq 0 [0] il ft (mk_Stream_Next_ok hr_14) rfl hb84 rfl (by kernel_rfl) (by kernel_rfl) (by kernel_rfl) (by kernel_rfl) (by kernel_rfl) (by kernel_rfl) (by kernel_rfl) (by decide) (by kernel_rfl) wz (vI r_13.1) (by kernel_rfl) ([((extN 0), some (.cells 2 [(vL eI r_13.2.L), (vI r_13.2.f_at)])), (n_2, some (.cells 4 [(vI 0), (vI 0), (vI 0), (vI 0)])), (n_6, some (.cells 4 [(vI r_3.1.X), (vI r_3.1.Y), (vI r_3.1.W), (vI r_3.1.H)]))] : Hp) (by kernel_rfl) (h_nil (wH_block (wH_seq (wH_region (h_op (vB (r_13.1 == 0)) wz rfl (h_op (vB (r_13.1 == 0)) wz rfl (h_nil ?_)))))))
   rcases cond_some h_11 with ⟨hc_16, h_11⟩ | ⟨hc_16, h_11⟩
   ·refine wH_ift rfl hc_16 (wH_region (h_op (.ref (extN 0) 0 0) wz rfl ?_))
    obtain ⟨r_17, hr_18, h_11⟩ := bind_some h_11
    refine h_callq 0 [0] il ft (mk_Stream_Odd_ok hr_18) rfl hb114 rfl (by kernel_rfl) (by kernel_rfl) (by kernel_rfl) (by kernel_rfl) (by kernel_rfl) (by kernel_rfl) (by kernel_rfl) (by decide) (by kernel_rfl) wz (vI r_17.1) (by kernel_rfl) ([((extN 0), some (.cells 2 [(vL eI r_17.2.L), (vI r_17.2.f_at)])), (n_2, some (.cells 4 [(vI 0), (vI 0), (vI 0), (vI 0)])), (n_6, some (.cells 4 [(vI r_3.1.X), (vI r_3.1.Y), (vI r_3.1.W), (vI r_3.1.H)]))] : Hp) (by kernel_rfl) (h_far pl45_0 rfl 0 rfl wz (h_str 0 il ft 2 sz3 rfl rfl [(vI r_17.1), (vI r_3.1.Y), (vI r_3.1.W), (vI r_3.1.H)] rfl wz (h_nil ?_)))
    obtain rfl := some_inj h_11
    exact cu
   ·refine wH_iff rfl hc_16 (wH_seq (wH_region (h_op (vB (r_13.1 == 1)) wz rfl (h_op (vB (r_13.1 == 1)) wz rfl (h_nil ?_)))))
    rcases cond_some h_11 with ⟨hc_20, h_11⟩ | ⟨hc_20, h_11⟩
    ·refine wH_ift rfl hc_20 (wH_region (h_op (.ref (extN 0) 0 0) wz rfl ?_))
     obtain ⟨r_21, hr_22, h_11⟩ := bind_some h_11
     refine h_callq 0 [0] il ft (mk_Stream_Odd_ok hr_22) rfl hb114 rfl (by kernel_rfl) (by kernel_rfl) (by kernel_rfl) (by kernel_rfl) (by kernel_rfl) (by kernel_rfl) (by kernel_rfl) (by decide) (by kernel_rfl) wz (vI r_21.1) (by kernel_rfl) ([((extN 0), some (.cells 2 [(vL eI r_21.2.L), (vI r_21.2.f_at)])), (n_2, some (.cells 4 [(vI 0), (vI 0), (vI 0), (vI 0)])), (n_6, some (.cells 4 [(vI r_3.1.X), (vI r_3.1.Y), (vI r_3.1.W), (vI r_3.1.H)]))] : Hp) (by kernel_rfl) (h_op (.ref (extN 0) 0 0) wz rfl ?_)
     obtain ⟨r_24, hr_25, h_11⟩ := bind_some h_11
     refine h_callq 0 [0] il ft (mk_Stream_Odd_ok hr_25) rfl hb114 rfl (by kernel_rfl) (by kernel_rfl) (by kernel_rfl) (by kernel_rfl) (by kernel_rfl) (by kernel_rfl) (by kernel_rfl) (by decide) (by kernel_rfl) wz (vI r_24.1) (by kernel_rfl) ([((extN 0), some (.cells 2 [(vL eI r_24.2.L), (vI r_24.2.f_at)])), (n_2, some (.cells 4 [(vI 0), (vI 0), (vI 0), (vI 0)])), (n_6, some (.cells 4 [(vI r_3.1.X), (vI r_3.1.Y), (vI r_3.1.W), (vI r_3.1.H)]))] : Hp) (by kernel_rfl) (h_far pl45_2 rfl 2 rfl wz (h_str 0 il ft 2 sz3 rfl rfl [(vI r_3.1.X), (vI r_3.1.Y), (vI r_21.1), (vI r_3.1.H)] rfl wz (h_far pl45_3 rfl 3 rfl wz (h_str 0 il ft 2 sz3 rfl rfl [(vI r_3.1.X), (vI r_3.1.Y), (vI r_21.1), (vI r_24.1)] rfl wz (h_nil ?_)))))
     obtain rfl := some_inj h_11
     exact cu
    ·refine wH_iff rfl hc_20 (wH_region (h_op (.ref (extN 0) 0 0) wz rfl (h_lit (([(-100000), 99999] : List Int).map eI) es22 ez22 rfl rfl rfl rfl rfl wz ?_)))
     obtain ⟨r_27, hr_28, h_11⟩ := bind_some h_11
     refine h_callq 0 [0] il ft (mk_Stream_Pick_ok hr_28) rfl hb34 rfl (by kernel_rfl) (by kernel_rfl) (by kernel_rfl) (by kernel_rfl) (by kernel_rfl) (by kernel_rfl) (by kernel_rfl) (by decide) (by kernel_rfl) wz (vI r_27.1) (by kernel_rfl) ([((extN 0), some (.cells 2 [(vL eI r_27.2.L), (vI r_27.2.f_at)])), (n_2, some (.cells 4 [(vI 0), (vI 0), (vI 0), (vI 0)])), (n_6, some (.cells 4 [(vI r_3.1.X), (vI r_3.1.Y), (vI r_3.1.W), (vI r_3.1.H)]))] : Hp) (by kernel_rfl) (h_op (.ref (extN 0) 0 0) wz rfl (h_lit (([1, 2, 200000] : List Int).map eI) es22 ez22 rfl rfl rfl rfl rfl wz ?_))
     obtain ⟨r_30, hr_31, h_11⟩ := bind_some h_11
     refine h_callq 0 [0] il ft (mk_Stream_Pick_ok hr_31) rfl hb34 rfl (by kernel_rfl) (by kernel_rfl) (by kernel_rfl) (by kernel_rfl) (by kernel_rfl) (by kernel_rfl) (by kernel_rfl) (by decide) (by kernel_rfl) wz (vI r_30.1) (by kernel_rfl) ([((extN 0), some (.cells 2 [(vL eI r_30.2.L), (vI r_30.2.f_at)])), (n_2, some (.cells 4 [(vI 0), (vI 0), (vI 0), (vI 0)])), (n_6, some (.cells 4 [(vI r_3.1.X), (vI r_3.1.Y), (vI r_3.1.W), (vI r_3.1.H)]))] : Hp) (by kernel_rfl) (h_far pl45_1 rfl 1 rfl wz (h_str 0 il ft 2 sz3 rfl rfl [(vI r_3.1.X), (vI r_27.1), (vI r_3.1.W), (vI r_3.1.H)] rfl wz (h_far pl45_3 rfl 3 rfl wz (h_str 0 il ft 2 sz3 rfl rfl [(vI r_3.1.X), (vI r_27.1), (vI r_3.1.W), (vI r_30.1)] rfl wz (h_nil ?_)))))
     obtain rfl := some_inj h_11
     exact cu
  ·refine wH_iff rfl hc_12 (wH_skip ?_)
   obtain rfl := some_inj h_11
   exact cu
 ·rintro ⟨⟩ _ sl_ H_ hp_ hq_
  refine wH_at _ hp_ hq_ (wH_seq (wH_region (h_ldr 0 2 il ft sz45 ag45 rfl rfl (.d (.agg (Rect.enc (⟨v_10.2.2.1, v_10.2.2.2.1, v_10.2.2.2.2.1, v_10.2.2.2.2.2⟩ : Rect)))) rfl wz (h_str 0 il ft 1 sz45 rfl rfl [(vI v_10.2.2.1), (vI v_10.2.2.2.1), (vI v_10.2.2.2.2.1), (vI v_10.2.2.2.2.2)] rfl wz (h_nil ?_)))))
  obtain rfl := some_inj hF
  exact wH_ret (finB (.inr rfl) [(.d (.agg (Rect.enc (⟨v_10.2.2.1, v_10.2.2.2.1, v_10.2.2.2.2.1, v_10.2.2.2.2.2⟩ : Rect))))] _ [0] [extN 0] ⟨⟨1, _, _, _, _, _, _, _, rfl, rfl, sz45, ag45, rfl⟩, trivial⟩ (.cons (co_data rfl rfl) (.nil)) (by kernel_rfl) ⟨(by kernel_rfl), trivial⟩ (by decide) (by kernel_rfl))
theorem mk_Stream_Rects_ok {s_1 : Stream} {most_2 : Int} {r : (List Rect) × Stream} (hF : mk_Stream_Rects s_1 most_2 = some r) :
  FnM Tryz.prog 115 [(.ref (extN 0) 0 0), (vI most_2)] [(.cells 2 [(vL eI s_1.L), (vI s_1.f_at)])] (vL Rect.enc r.1) [some (.cells 2 [(vL eI r.2.L), (vI r.2.f_at)])] := by
 refine FnM.of_wH ⟨Tryz.prog, 24, [], []⟩ rfl Tryz.func115 rfl rfl (Nat.le_of_ble_eq_true rfl) (by kernel_rfl) ?_
 unfold mk_Stream_Rects at hF
 refine wH_seq (wH_region (h_op .nil wz rfl (h_nil (wH_seq (wH_region (h_op .nil wz rfl (h_nil (wH_seq (wH_seq (wH_region (h_op (.ref (extN 0) 0 0) wz rfl (h_op (vI most_2) wz rfl ?_))))))))))))
 obtain ⟨r_3, hr_4, hF⟩ := bind_some hF
 refine h_callq 0 [0] il ft (mk_Stream_Range_ok hr_4) rfl hb13 rfl (by kernel_rfl) (by kernel_rfl) (by kernel_rfl) (by kernel_rfl) (by kernel_rfl) (by kernel_rfl) (by kernel_rfl) (by decide) (by kernel_rfl) wz (vI r_3.1) (by kernel_rfl) ([((extN 0), some (.cells 2 [(vL eI r_3.2.L), (vI r_3.2.f_at)]))] : Hp) (by kernel_rfl) (h_op (vI 0) wz rfl (h_nil (wH_new (fun n_12 => ?_))))
 obtain ⟨o_17, hj_18, hF⟩ := bind_some hF
 obtain ⟨hn_10, hj_18⟩ := forL_some hj_18
 refine wH_join (β := ((List Rect) × (List Int) × Int) × Nm) (fun p => (fun (s_11 : (List Rect) × (List Int) × Int) (n_14 : Nm) => ([(5, (gV n_14 4 s_11.1))] : List (Nat × V))) p.1 p.2) (fun p => (fun (s_11 : (List Rect) × (List Int) × Int) (n_14 : Nm) => ([((extN 0), some (.cells 2 [(vL eI s_11.2.1), (vI s_11.2.2)])), (n_14, gB 4 Rect.enc s_11.1)] : Hp)) p.1 p.2) (fun p => o_17 = .go p.1) ?_ ?_
 ·refine wH_block (wH_loop (β := Nat × (List Nat) × ((List Rect) × (List Int) × Int) × Nm) (fun p => (fun (k_6 : Nat) (l_7 : List Nat) (s_11 : (List Rect) × (List Int) × Int) (n_14 : Nm) => ([(0, (.ref (extN 0) 0 0)), (5, (gV n_14 4 s_11.1)), (9, (vI r_3.1)), (10, (vI (k_6 : Int)))] : List (Nat × V))) p.1 p.2.1 p.2.2.1 p.2.2.2) (fun p => (fun (k_6 : Nat) (l_7 : List Nat) (s_11 : (List Rect) × (List Int) × Int) (n_14 : Nm) => ([((extN 0), some (.cells 2 [(vL eI s_11.2.1), (vI s_11.2.2)])), (n_14, gB 4 Rect.enc s_11.1)] : Hp)) p.1 p.2.1 p.2.2.1 p.2.2.2) (fun p => forR (fun k x s => mk_Stream_Rects_L1 k x s) p.2.1 p.1 p.2.2.1 = some o_17 ∧ ((List.range (r_3.1).toNat)).drop p.1 = p.2.1) (fun p => p.2.1.length) (0, (List.range (r_3.1).toNat), (([] : List Rect), r_3.2.L, r_3.2.f_at), n_12) ⟨hj_18, rfl⟩ rfl (pre_r rfl) ?_)
  rintro ⟨k_6, l_7, s_11, n_14⟩ ⟨hL_16, hD_9⟩
  dsimp only at hL_16 hD_9
  cases l_7 with
  | nil =>
   obtain rfl := some_inj hL_16
   refine wH_seq (wH_region (h_op (vB (decide ((k_6 : Int) < r_3.1))) wz rfl (h_nil ?_)))
   refine wH_seq (wH_iff rfl (range_nil hD_9) (wH_exit ?_))
   exact cut_mk (s_11, n_14) rfl rfl (pre_r rfl)
  | cons x_8 l_7 =>
   obtain ⟨c_, hc_15, hL_16⟩ := bind_some hL_16
   refine wH_seq (wH_region (h_op (vB (decide ((k_6 : Int) < r_3.1))) wz rfl (h_nil ?_)))
   refine wH_seq (wH_ift rfl (range_cons hD_9) (wH_skip ?_))
   unfold mk_Stream_Rects_L1 at hc_15
   refine wH_seq (wH_block (wH_seq (wH_region (h_op (.ref (extN 0) 0 0) wz rfl ?_))))
   obtain ⟨r_19, hr_20, hc_15⟩ := bind_some hc_15
   refine h_callq 0 [0] il ft (mk_Stream_RightRect_ok hr_20) rfl hb18 rfl (by kernel_rfl) (by kernel_rfl) (by kernel_rfl) (by kernel_rfl) (by kernel_rfl) (by kernel_rfl) (by kernel_rfl) (by decide) (by kernel_rfl) wz (.d (.agg (Rect.enc r_19.1))) (by kernel_rfl) ([((extN 0), some (.cells 2 [(vL eI r_19.2.L), (vI r_19.2.f_at)])), (n_14, gB 4 Rect.enc s_11.1)] : Hp) (by kernel_rfl) (h_alloc 0 (.inl rfl) z45 rfl wz (fun n_22 => h_str 0 il ft 2 sz45 rfl rfl [(vI r_19.1.X), (vI r_19.1.Y), (vI r_19.1.W), (vI r_19.1.H)] rfl wz (h_nil (wH_seq (wH_seq (wH_region (h_op (.ref (extN 0) 0 0) wz rfl ?_)))))))
   obtain ⟨r_23, hr_24, hc_15⟩ := bind_some hc_15
   refine h_callq 0 [0] il ft (mk_Stream_Flip_ok hr_24) rfl hb56 rfl (by kernel_rfl) (by kernel_rfl) (by kernel_rfl) (by kernel_rfl) (by kernel_rfl) (by kernel_rfl) (by kernel_rfl) (by decide) (by kernel_rfl) wz (vB r_23.1) (by kernel_rfl) ([((extN 0), some (.cells 2 [(vL eI r_23.2.L), (vI r_23.2.f_at)])), (n_14, gB 4 Rect.enc s_11.1), (n_22, some (.cells 4 [(vI r_19.1.X), (vI r_19.1.Y), (vI r_19.1.W), (vI r_19.1.H)]))] : Hp) (by kernel_rfl) (h_nil ?_)
   obtain ⟨v_26, h_27, hc_15⟩ := bind_some hc_15
   refine wH_join (β := Unit) (fun _ => ([(0, (.ref (extN 0) 0 0)), (5, (gV n_14 4 s_11.1)), (6, (.ref n_22 0 0)), (9, (vI r_3.1)), (10, (vI (k_6 : Int)))] : List (Nat × V))) (fun _ => ([((extN 0), some (.cells 2 [(vL eI v_26.1), (vI v_26.2.1)])), (n_14, gB 4 Rect.enc s_11.1), (n_22, some (.cells 4 [(vI v_26.2.2.1), (vI v_26.2.2.2.1), (vI v_26.2.2.2.2.1), (vI v_26.2.2.2.2.2)]))] : Hp)) (fun _ => True) ?_ ?_
   ·rcases cond_some h_27 with ⟨hc_28, h_27⟩ | ⟨hc_28, h_27⟩
    ·refine wH_ift rfl hc_28 (wH_region (h_op (.ref (extN 0) 0 0) wz rfl ?_))
     obtain ⟨r_29, hr_30, h_27⟩ := bind_some h_27
     refine h_callq 0 [0] il ft (mk_Stream_Rect_ok hr_30) rfl hb192 rfl (by kernel_rfl) (by kernel_rfl) (by kernel_rfl) (by kernel_rfl) (by kernel_rfl) (by kernel_rfl) (by kernel_rfl) (by decide) (by kernel_rfl) wz (.d (.agg (Rect.enc r_29.1))) (by kernel_rfl) ([((extN 0), some (.cells 2 [(vL eI r_29.2.L), (vI r_29.2.f_at)])), (n_14, gB 4 Rect.enc s_11.1), (n_22, some (.cells 4 [(vI r_19.1.X), (vI r_19.1.Y), (vI r_19.1.W), (vI r_19.1.H)]))] : Hp) (by kernel_rfl) (h_str 0 il ft 2 sz45 rfl rfl [(vI r_29.1.X), (vI r_29.1.Y), (vI r_29.1.W), (vI r_29.1.H)] rfl wz (h_nil ?_))
     obtain rfl := some_inj h_27
     exact cu
    ·refine wH_iff rfl hc_28 (wH_skip ?_)
     obtain rfl := some_inj h_27
     exact cu
   ·rintro ⟨⟩ _ sl_ H_ hp_ hq_
    refine wH_at _ hp_ hq_ (wH_region (h_op (gV n_14 4 s_11.1) wz rfl (h_ldr 0 2 il ft sz45 ag45 rfl rfl (.d (.agg (Rect.enc (⟨v_26.2.2.1, v_26.2.2.2.1, v_26.2.2.2.2.1, v_26.2.2.2.2.2⟩ : Rect)))) rfl wz (h_lit (([(⟨v_26.2.2.1, v_26.2.2.2.1, v_26.2.2.2.2.1, v_26.2.2.2.2.2⟩ : Rect)] : List Rect).map Rect.enc) es50 ez50 rfl rfl rfl rfl rfl wz ?_))))
    obtain ⟨a_32, hz_33, hc_15⟩ := bind_some hc_15
    refine h_appg 0 il ft (i := 1) el50 el50 sz45 z45 rfl (by decide) by45 (by decide) (fun _ => rfl) rfl rfl rfl hz_33 wz (fun n_34 => h_op (gV n_34 4 a_32) wz rfl (h_nil (wH_region (h_opw (w64_nextr hD_9 hn_10) wz rfl (h_op (vI ((k_6 + 1 : Nat) : Int)) wz rfl (h_nil ?_))))))
    obtain rfl := some_inj hc_15
    exact loop_mk (k_6 + 1, l_7, (a_32, v_26.1, v_26.2.1), n_34) ⟨hL_16, drop_next hD_9⟩ (Nat.lt_succ_self _) rfl (pre_r rfl)
 ·rintro ⟨s_11, n_14⟩ ho_ sl_ H_ hp_ hq_
  subst ho_
  refine wH_at _ hp_ hq_ (wH_seq (wH_region (h_op (gV n_14 4 s_11.1) wz rfl (h_op (gV n_14 4 s_11.1) wz rfl (h_nil (wH_frozg 1 rfl (wH_cog 4 1 rfl rfl (wH_cog 5 1 rfl rfl (wH_cog 23 1 rfl rfl ?_)))))))))
  obtain rfl := some_inj hF
  exact wH_ret (finB (.inr rfl) [(vL Rect.enc s_11.1)] _ [0] [extN 0] ⟨rfl, trivial⟩ (.cons (co_data rfl rfl) (.nil)) (by kernel_rfl) ⟨(by kernel_rfl), trivial⟩ (by decide) (by kernel_rfl))
end Go.Proofs.YtpojeclokolkaaaGreatDoor.Law

