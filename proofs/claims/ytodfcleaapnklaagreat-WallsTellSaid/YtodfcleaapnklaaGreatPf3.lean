/-
  The machine computes these plain functions (written by a program of ours).
-/
import Derived.Test.YtodfcleaapnklaaGreatFacts
import Derived.Test.YtodfcleaapnklaaGreatDefs
import Derived.Test.YtodfcleaapnklaaGreatPf2
open Go Go.Eng Go.Proofs
namespace Go.Proofs.YtodfcleaapnklaaGreat.Law
set_option maxRecDepth 100000
set_option linter.unusedVariables false
set_option maxHeartbeats 1000000
theorem slices_insertionSortCmpFunc_screen_run_v1_ok {data_1 : (List Run)} {a_2 : Int} {b_3 : Int} {r : (List Run)} (hF : slices_insertionSortCmpFunc_screen_run_v1 data_1 a_2 b_3 = some r) :
    FnM Tryz.prog 119 [(dV (extN 0) 2 data_1), (vI a_2), (vI b_3), (.fn 95 [])] (([] : List Box) ++ gI 2 Run.enc data_1) (.tup []) (([] : List Box).map some ++ gT data_1 (gB 2 Run.enc r)) := by
  refine FnM.of_wHv ⟨Tryz.prog, 53, [], []⟩ rfl Tryz.func119 rfl rfl (Nat.le_of_ble_eq_true rfl) (by kernel_rfl) ?_
  unfold slices_insertionSortCmpFunc_screen_run_v1 at hF
  refine wH_seq ?_
  refine wH_region ?_
  refine h_op (vI a_2) (wt rfl) rfl ?_
  refine h_op (vI (w64 (a_2 + 1))) (wt rfl) rfl ?_
  refine h_op (vI (w64 (a_2 + 1))) (wt rfl) rfl ?_
  refine h_nil ?_
  obtain ⟨o_13, hj_14, hF⟩ := bind_some hF
  obtain ⟨nq_51, hj_14⟩ := loopO_iter hj_14
  refine wH_join (β := ((List Run) × Int)) (fun (s_10 : (List Run) × Int) => ([] : List (Nat × V))) (fun (s_10 : (List Run) × Int) => ([((extN 0), gB 2 Run.enc s_10.1)] : Hp)) (fun p => o_13 = .go p) ?_ ?_
  · refine wH_block ?_
    refine wH_loop (β := Nat × ((List Run) × Int)) (fun p => (fun (k_5 : Nat) (s_10 : (List Run) × Int) => ([(0, (dV (extN 0) 2 s_10.1)), (1, (vI a_2)), (2, (vI b_3)), (3, (.fn 95 [])), (8, (vI s_10.2))] : List (Nat × V))) p.1 p.2) (fun p => (fun (k_5 : Nat) (s_10 : (List Run) × Int) => ([((extN 0), gB 2 Run.enc s_10.1)] : Hp)) p.1 p.2) (fun p => iterN (fun s => slices_insertionSortCmpFunc_screen_run_v1_L2 b_3 a_2 s) p.1 p.2 = some o_13) (fun p => p.1) (nq_51, (data_1, (w64 (a_2 + 1)))) hj_14 rfl (pre_r rfl) ?_
    rintro ⟨k_5, s_10⟩ hL_12
    dsimp only at hL_12
    cases k_5 with
    | zero => cases hL_12
    | succ k_5 =>
      obtain ⟨c_, hc_11, hL_12⟩ := bind_some hL_12
      unfold slices_insertionSortCmpFunc_screen_run_v1_L2 at hc_11
      refine wH_seq ?_
      refine wH_seq ?_
      refine wH_region ?_
      refine h_op (vI s_10.2) (wt rfl) rfl ?_
      refine h_op (vI b_3) (wt rfl) rfl ?_
      refine h_op (vB (decide (s_10.2 < b_3))) (wt rfl) rfl ?_
      refine h_nil ?_
      rcases cond_some hc_11 with ⟨hc_15, hc_11⟩ | ⟨hc_15, hc_11⟩
      · refine wH_ift rfl hc_15 ?_
        refine wH_skip ?_
        refine wH_seq ?_
        refine wH_block ?_
        refine wH_seq ?_
        refine wH_region ?_
        refine h_op (vI s_10.2) (wt rfl) rfl ?_
        refine h_op (vI s_10.2) (wt rfl) rfl ?_
        refine h_nil ?_
        obtain ⟨o_24, hj_25, hc_11⟩ := bind_some hc_11
        obtain ⟨nq_50, hj_25⟩ := loopO_iter hj_25
        refine wH_join (β := ((List Run) × Int)) (fun (s_21 : (List Run) × Int) => ([(0, (dV (extN 0) 2 s_21.1)), (1, (vI a_2)), (2, (vI b_3)), (3, (.fn 95 [])), (8, (vI s_10.2))] : List (Nat × V))) (fun (s_21 : (List Run) × Int) => ([((extN 0), gB 2 Run.enc s_21.1)] : Hp)) (fun p => o_24 = .go p) ?_ ?_
        · refine wH_block ?_
          refine wH_loop (β := Nat × ((List Run) × Int)) (fun p => (fun (k_16 : Nat) (s_21 : (List Run) × Int) => ([(0, (dV (extN 0) 2 s_21.1)), (1, (vI a_2)), (2, (vI b_3)), (3, (.fn 95 [])), (8, (vI s_10.2)), (9, (vI s_21.2))] : List (Nat × V))) p.1 p.2) (fun p => (fun (k_16 : Nat) (s_21 : (List Run) × Int) => ([((extN 0), gB 2 Run.enc s_21.1)] : Hp)) p.1 p.2) (fun p => iterN (fun s => slices_insertionSortCmpFunc_screen_run_v1_L1 a_2 s) p.1 p.2 = some o_24) (fun p => p.1) (nq_50, (s_10.1, s_10.2)) hj_25 rfl (pre_r rfl) ?_
          rintro ⟨k_16, s_21⟩ hL_23
          dsimp only at hL_23
          cases k_16 with
          | zero => cases hL_23
          | succ k_16 =>
            obtain ⟨c_, hc_22, hL_23⟩ := bind_some hL_23
            unfold slices_insertionSortCmpFunc_screen_run_v1_L1 at hc_22
            refine wH_seq ?_
            refine wH_seq ?_
            obtain ⟨v_26, h_27, hc_22⟩ := bind_some hc_22
            refine wH_join (β := Unit) (fun _ => ([(0, (dV (extN 0) 2 s_21.1)), (1, (vI a_2)), (2, (vI b_3)), (3, (.fn 95 [])), (8, (vI s_10.2)), (9, (vI s_21.2)), (34, (vB v_26))] : List (Nat × V))) (fun _ => ([((extN 0), gB 2 Run.enc s_21.1)] : Hp)) (fun _ => True) ?_ ?_
            · refine wH_draws ?_
              refine h_op (vI s_21.2) (wt rfl) rfl ?_
              refine h_op (vI a_2) (wt rfl) rfl ?_
              refine h_op (vB (decide (s_21.2 > a_2))) (wt rfl) rfl ?_
              rcases cond_some h_27 with ⟨hc_28, h_27⟩ | ⟨hc_28, h_27⟩
              · refine h_movb rfl hc_28 (wt rfl) ?_
                refine h_op (.fn 95 []) (wg rfl rfl rfl) rfl ?_
                refine h_op (dV (extN 0) 2 s_21.1) (wg rfl rfl rfl) rfl ?_
                refine h_op (vI s_21.2) (wg rfl rfl rfl) rfl ?_
                obtain ⟨_, hi_29, h_27⟩ := bind_some h_27
                refine h_iavd es116 rfl rfl (inR_0 hi_29) (inR_lt hi_29) (wg rfl rfl rfl) ?_
                obtain ⟨e_30, hy_31, h_27⟩ := bind_some h_27
                refine h_ldvg 8 0 (.inr (by kernel_rfl)) (fun _ _ ag => trivial) sz121 ag121 rfl rfl hy_31 (.d (.agg (Run.enc e_30))) rfl (wg rfl rfl rfl) ?_
                refine h_op (dV (extN 0) 2 s_21.1) (wg rfl rfl rfl) rfl ?_
                refine h_op (vI s_21.2) (wg rfl rfl rfl) rfl ?_
                refine h_op (vI (w64 (s_21.2 - 1))) (wg rfl rfl rfl) rfl ?_
                obtain ⟨_, hi_32, h_27⟩ := bind_some h_27
                refine h_iavd es116 rfl rfl (inR_0 hi_32) (inR_lt hi_32) (wg rfl rfl rfl) ?_
                obtain ⟨e_33, hy_34, h_27⟩ := bind_some h_27
                refine h_ldvg 13 0 (.inr (by kernel_rfl)) (fun _ _ ag => ⟨.inl ⟨rfl, rfl⟩, trivial⟩) sz121 ag121 rfl rfl hy_34 (.d (.agg (Run.enc e_33))) rfl (wg rfl rfl rfl) ?_
                obtain ⟨r_35, hr_36, h_27⟩ := bind_some h_27
                refine h_call0 (screen_runs_1_ok hr_36) rfl hb95 rfl rfl rfl rfl (wg rfl rfl rfl) ?_
                refine h_op (vB (decide (r_35 < 0))) (wg rfl rfl rfl) rfl ?_
                refine h_op (vB (decide (r_35 < 0))) (wt rfl) rfl ?_
                refine h_nil ?_
                replace h_27 := some_inj h_27
                subst h_27
                exact cut_mk () trivial rfl (pre_r rfl)
              · refine h_movb rfl hc_28 (wt rfl) ?_
                refine h_skip (wg rfl rfl rfl) ?_
                refine h_skip (wg rfl rfl rfl) ?_
                refine h_skip (wg rfl rfl rfl) ?_
                refine h_skip (wg rfl rfl rfl) ?_
                refine h_skip (wg rfl rfl rfl) ?_
                refine h_skip (wg rfl rfl rfl) ?_
                refine h_skip (wg rfl rfl rfl) ?_
                refine h_skip (wg rfl rfl rfl) ?_
                refine h_skip (wg rfl rfl rfl) ?_
                refine h_skip (wg rfl rfl rfl) ?_
                refine h_skip (wg rfl rfl rfl) ?_
                refine h_skip (wg rfl rfl rfl) ?_
                refine h_op (vB false) (wt rfl) rfl ?_
                refine h_nil ?_
                replace h_27 := some_inj h_27
                subst h_27
                exact cut_mk () trivial rfl (pre_r rfl)
            · rintro ⟨⟩ _ sl_ H_ hp_ hq_
              refine wH_at _ hp_ hq_ ?_
              rcases cond_some hc_22 with ⟨hc_37, hc_22⟩ | ⟨hc_37, hc_22⟩
              · refine wH_ift rfl hc_37 ?_
                refine wH_skip ?_
                refine wH_seq ?_
                refine wH_block ?_
                refine wH_draws ?_
                refine h_op (dV (extN 0) 2 s_21.1) (wt rfl) rfl ?_
                refine h_op (vI s_21.2) (wt rfl) rfl ?_
                refine h_op (dV (extN 0) 2 s_21.1) (wt rfl) rfl ?_
                refine h_op (vI s_21.2) (wt rfl) rfl ?_
                refine h_op (vI (w64 (s_21.2 - 1))) (wt rfl) rfl ?_
                refine h_op (dV (extN 0) 2 s_21.1) (wt rfl) rfl ?_
                refine h_op (vI s_21.2) (wt rfl) rfl ?_
                refine h_op (vI (w64 (s_21.2 - 1))) (wt rfl) rfl ?_
                obtain ⟨_, hi_38, hc_22⟩ := bind_some hc_22
                refine h_iavd es116 rfl rfl (inR_0 hi_38) (inR_lt hi_38) (wt rfl) ?_
                obtain ⟨e_39, hy_40, hc_22⟩ := bind_some hc_22
                refine h_ldvg 9 0 (.inr (by kernel_rfl)) (fun _ _ ag => trivial) sz121 ag121 rfl rfl hy_40 (.d (.agg (Run.enc e_39))) rfl (wt rfl) ?_
                refine h_op (dV (extN 0) 2 s_21.1) (wt rfl) rfl ?_
                refine h_op (vI s_21.2) (wt rfl) rfl ?_
                obtain ⟨_, hi_41, hc_22⟩ := bind_some hc_22
                refine h_iavd es116 rfl rfl (inR_0 hi_41) (inR_lt hi_41) (wt rfl) ?_
                obtain ⟨e_42, hy_43, hc_22⟩ := bind_some hc_22
                refine h_ldvg 13 0 (.inr (by kernel_rfl)) (fun _ _ ag => ⟨.inl ⟨rfl, rfl⟩, trivial⟩) sz121 ag121 rfl rfl hy_43 (.d (.agg (Run.enc e_42))) rfl (wt rfl) ?_
                obtain ⟨_, hi_44, hc_22⟩ := bind_some hc_22
                refine h_iavd es116 rfl rfl (inR_0 hi_44) (inR_lt hi_44) (wt rfl) ?_
                obtain ⟨e_45, hy_46, hc_22⟩ := bind_some hc_22
                refine h_stvg 15 (.inr (by kernel_rfl)) (fun _ _ ag => ⟨.inr (.inr (by kernel_rfl)), ⟨.inr (.inr (by kernel_rfl)), trivial⟩⟩) 0 sz121 rfl rfl hy_46 e_39 rfl (wt rfl) ?_
                refine h_re (v' := (dV (extN 0) 2 (s_21.1.set (0 + (s_21.2).toNat) e_39))) 0 rfl (dV_len (by simp)) ?_
                refine h_re (v' := (dV (extN 0) 2 (s_21.1.set (0 + (s_21.2).toNat) e_39))) 37 rfl (dV_len (by simp)) ?_
                refine h_re (v' := (dV (extN 0) 2 (s_21.1.set (0 + (s_21.2).toNat) e_39))) 39 rfl (dV_len (by simp)) ?_
                refine h_re (v' := (dV (extN 0) 2 (s_21.1.set (0 + (s_21.2).toNat) e_39))) 42 rfl (dV_len (by simp)) ?_
                refine h_re (v' := (dV (extN 0) 2 (s_21.1.set (0 + (s_21.2).toNat) e_39))) 47 rfl (dV_len (by simp)) ?_
                obtain ⟨_, hi_47, hc_22⟩ := bind_some hc_22
                refine h_iavd es116 rfl rfl (inR_0 hi_47) (inR_lt hi_47) (wt rfl) ?_
                obtain ⟨e_48, hy_49, hc_22⟩ := bind_some hc_22
                refine h_stvg 17 (.inr (by kernel_rfl)) (fun _ _ ag => ⟨.inr (.inr (by kernel_rfl)), ⟨.inr (.inr (by kernel_rfl)), ⟨.inr (.inr (by kernel_rfl)), trivial⟩⟩⟩) 0 sz121 rfl rfl hy_49 e_42 rfl (wt rfl) ?_
                refine h_re (v' := (dV (extN 0) 2 ((s_21.1.set (0 + (s_21.2).toNat) e_39).set (0 + ((w64 (s_21.2 - 1))).toNat) e_42))) 0 rfl (dV_len (by simp)) ?_
                refine h_re (v' := (dV (extN 0) 2 ((s_21.1.set (0 + (s_21.2).toNat) e_39).set (0 + ((w64 (s_21.2 - 1))).toNat) e_42))) 37 rfl (dV_len (by simp)) ?_
                refine h_re (v' := (dV (extN 0) 2 ((s_21.1.set (0 + (s_21.2).toNat) e_39).set (0 + ((w64 (s_21.2 - 1))).toNat) e_42))) 39 rfl (dV_len (by simp)) ?_
                refine h_re (v' := (dV (extN 0) 2 ((s_21.1.set (0 + (s_21.2).toNat) e_39).set (0 + ((w64 (s_21.2 - 1))).toNat) e_42))) 42 rfl (dV_len (by simp)) ?_
                refine h_re (v' := (dV (extN 0) 2 ((s_21.1.set (0 + (s_21.2).toNat) e_39).set (0 + ((w64 (s_21.2 - 1))).toNat) e_42))) 47 rfl (dV_len (by simp)) ?_
                refine h_nil ?_
                refine wH_region ?_
                refine h_op (vI s_21.2) (wt rfl) rfl ?_
                refine h_op (vI (w64 (s_21.2 - 1))) (wt rfl) rfl ?_
                refine h_op (vI (w64 (s_21.2 - 1))) (wt rfl) rfl ?_
                refine h_nil ?_
                replace hc_22 := some_inj hc_22
                subst hc_22
                exact loop_mk (k_16, (((s_21.1.set (0 + (s_21.2).toNat) e_39).set (0 + ((w64 (s_21.2 - 1))).toNat) e_42), (w64 (s_21.2 - 1)))) hL_23 (Nat.lt_succ_self _) rfl (pre_r rfl)
              · refine wH_iff rfl hc_37 ?_
                refine wH_exit ?_
                replace hc_22 := some_inj hc_22
                subst hc_22
                replace hL_23 := some_inj hL_23
                subst hL_23
                exact cut_mk ((s_21.1, s_21.2)) rfl rfl (pre_r rfl)
        · rintro s_21 ho_ sl_ H_ hp_ hq_
          subst ho_
          refine wH_at _ hp_ hq_ ?_
          refine wH_region ?_
          refine h_op (vI s_10.2) (wt rfl) rfl ?_
          refine h_op (vI (w64 (s_10.2 + 1))) (wt rfl) rfl ?_
          refine h_op (vI (w64 (s_10.2 + 1))) (wt rfl) rfl ?_
          refine h_nil ?_
          replace hc_11 := some_inj hc_11
          subst hc_11
          exact loop_mk (k_5, (s_21.1, (w64 (s_10.2 + 1)))) hL_12 (Nat.lt_succ_self _) rfl (pre_r rfl)
      · refine wH_iff rfl hc_15 ?_
        refine wH_exit ?_
        replace hc_11 := some_inj hc_11
        subst hc_11
        replace hL_12 := some_inj hL_12
        subst hL_12
        exact cut_mk ((s_10.1, s_10.2)) rfl rfl (pre_r rfl)
  · rintro s_10 ho_ sl_ H_ hp_ hq_
    subst ho_
    show finH _ _ _ _ _ _ _ _
    replace hF := some_inj hF
    subst hF
    refine finH_at (H0 := ([((extN 0), gB 2 Run.enc s_10.1)] : Hp)) (sl' := envS []) hq_ ?_
    exact finV (bs := ([] : List Box)) (os := ([] : List Box)) (xs := data_1) (o := gB 2 Run.enc s_10.1) (.inl rfl) [] trivial rfl rfl rfl rfl rfl (by kernel_rfl) gB_ok rfl
theorem slices_pdqsortCmpFunc_screen_run_v1_ok {data_1 : (List Run)} {a_2 : Int} {b_3 : Int} {limit_4 : Int} {r : (List Run)} (hF : slices_pdqsortCmpFunc_screen_run_v1 data_1 a_2 b_3 limit_4 = some r) :
    FnM Tryz.prog 110 [(dV (extN 0) 2 data_1), (vI a_2), (vI b_3), (vI limit_4), (.fn 95 [])] (([] : List Box) ++ gI 2 Run.enc data_1) (.tup []) (([] : List Box).map some ++ gT data_1 (gB 2 Run.enc r)) := by
  refine FnM.of_wHv ⟨Tryz.prog, 148, [], []⟩ rfl Tryz.func110 rfl rfl (Nat.le_of_ble_eq_true rfl) (by kernel_rfl) ?_
  unfold slices_pdqsortCmpFunc_screen_run_v1 at hF
  refine wH_seq ?_
  refine wH_region ?_
  refine h_op (vB true) (wt rfl) rfl ?_
  refine h_nil ?_
  refine wH_seq ?_
  refine wH_region ?_
  refine h_op (vB true) (wt rfl) rfl ?_
  refine h_nil ?_
  obtain ⟨o_14, hj_15, hF⟩ := bind_some hF
  obtain ⟨nq_21, hj_15⟩ := loopO_iter hj_15
  refine wH_join (β := (Unit)) (fun (s_11 : Unit) => ([] : List (Nat × V))) (fun (s_11 : Unit) => ([((extN 0), gB 2 Run.enc data_1)] : Hp)) (fun p => o_14 = .go p) ?_ ?_
  · refine wH_block ?_
    refine wH_loop (β := Nat × (Unit)) (fun p => (fun (k_6 : Nat) (s_11 : Unit) => ([(0, (dV (extN 0) 2 data_1)), (1, (vI a_2)), (2, (vI b_3)), (3, (vI limit_4)), (4, (.fn 95 [])), (10, (vB true)), (11, (vB true))] : List (Nat × V))) p.1 p.2) (fun p => (fun (k_6 : Nat) (s_11 : Unit) => ([((extN 0), gB 2 Run.enc data_1)] : Hp)) p.1 p.2) (fun p => iterN (fun s => slices_pdqsortCmpFunc_screen_run_v1_L1 b_3 a_2 data_1 limit_4 s) p.1 p.2 = some o_14) (fun p => p.1) (nq_21, ()) hj_15 rfl (pre_r rfl) ?_
    rintro ⟨k_6, s_11⟩ hL_13
    dsimp only at hL_13
    cases k_6 with
    | zero => cases hL_13
    | succ k_6 =>
      obtain ⟨c_, hc_12, hL_13⟩ := bind_some hL_13
      unfold slices_pdqsortCmpFunc_screen_run_v1_L1 at hc_12
      refine wH_block ?_
      refine wH_seq ?_
      refine wH_region ?_
      refine h_op (vI b_3) (wt rfl) rfl ?_
      refine h_op (vI a_2) (wt rfl) rfl ?_
      refine h_op (vI (w64 (b_3 - a_2))) (wt rfl) rfl ?_
      refine h_op (vI (w64 (b_3 - a_2))) (wt rfl) rfl ?_
      refine h_nil ?_
      refine wH_seq ?_
      refine wH_seq ?_
      refine wH_region ?_
      refine h_op (vI (w64 (b_3 - a_2))) (wt rfl) rfl ?_
      refine h_op (vB (decide ((w64 (b_3 - a_2)) ≤ 12))) (wt rfl) rfl ?_
      refine h_nil ?_
      rcases cond_some hc_12 with ⟨hc_16, hc_12⟩ | ⟨hc_16, hc_12⟩
      · refine wH_ift rfl hc_16 ?_
        refine wH_seq ?_
        refine wH_region ?_
        refine h_op (dV (extN 0) 2 data_1) (wt rfl) rfl ?_
        refine h_op (vI a_2) (wt rfl) rfl ?_
        refine h_op (vI b_3) (wt rfl) rfl ?_
        refine h_op (.fn 95 []) (wt rfl) rfl ?_
        obtain ⟨r_17, hr_18, hc_12⟩ := bind_some hc_12
        obtain ⟨_, hs_19, hc_12⟩ := bind_some hc_12
        replace hs_19 := sameL_eq hs_19
        refine h_callv 0 [] 0 0 (.inl rfl) (fun _ _ _ => trivial) (slices_insertionSortCmpFunc_screen_run_v1_ok hr_18) rfl hb119 rfl rfl rfl (by kernel_rfl) rfl (.inr (.inl rfl)) rfl (by kernel_rfl) (by kernel_rfl) (by kernel_rfl) (by kernel_rfl) rfl (by decide) (by kernel_rfl) gB_ok (gB_ho hs_19) (wt rfl) ([((extN 0), gB 2 Run.enc r_17)] : Hp) (by kernel_rfl) ?_
        refine h_re (v' := (dV (extN 0) 2 r_17)) 0 rfl (dV_len hs_19.symm) ?_
        refine h_re (v' := (dV (extN 0) 2 r_17)) 26 rfl (dV_len hs_19.symm) ?_
        refine h_nil ?_
        replace hc_12 := some_inj hc_12
        subst hc_12
        replace hL_13 := some_inj hL_13
        subst hL_13
        replace hF := some_inj hF
        subst hF
        refine wH_ret ?_
        exact finV (bs := ([] : List Box)) (os := ([] : List Box)) (xs := data_1) (o := gB 2 Run.enc r_17) (.inr rfl) [] trivial rfl rfl rfl rfl rfl (by kernel_rfl) gB_ok rfl
      · refine wH_iff rfl hc_16 ?_
        refine wH_skip ?_
        refine wH_seq ?_
        refine wH_seq ?_
        refine wH_region ?_
        refine h_op (vI limit_4) (wt rfl) rfl ?_
        refine h_op (vB (limit_4 == 0)) (wt rfl) rfl ?_
        refine h_nil ?_
        rcases cond_some hc_12 with ⟨hc_20, hc_12⟩ | ⟨hc_20, hc_12⟩
        · refine wH_ift rfl hc_20 ?_
          refine wH_seq ?_
          refine wH_region ?_
          refine h_op (dV (extN 0) 2 data_1) (wt rfl) rfl ?_
          refine h_op (vI a_2) (wt rfl) rfl ?_
          refine h_op (vI b_3) (wt rfl) rfl ?_
          refine h_op (.fn 95 []) (wt rfl) rfl ?_
          cases hc_12
        · refine wH_iff rfl hc_20 ?_
          refine wH_skip ?_
          refine wH_seq ?_
          refine wH_seq ?_
          refine wH_region ?_
          refine h_op (vB true) (wt rfl) rfl ?_
          refine h_op (vB false) (wt rfl) rfl ?_
          refine h_nil ?_
          refine wH_iff rfl rfl ?_
          refine wH_skip ?_
          refine wH_seq ?_
          refine wH_region ?_
          refine h_op (dV (extN 0) 2 data_1) (wt rfl) rfl ?_
          refine h_op (vI a_2) (wt rfl) rfl ?_
          refine h_op (vI b_3) (wt rfl) rfl ?_
          refine h_op (.fn 95 []) (wt rfl) rfl ?_
          cases hc_12
  · rintro s_11 ho_ sl_ H_ hp_ hq_
    subst ho_
    show finH _ _ _ _ _ _ _ _
    replace hF := some_inj hF
    subst hF
    refine finH_at (H0 := ([((extN 0), gB 2 Run.enc data_1)] : Hp)) (sl' := envS []) hq_ ?_
    exact finV (bs := ([] : List Box)) (os := ([] : List Box)) (xs := data_1) (o := gB 2 Run.enc data_1) (.inl rfl) [] trivial rfl rfl rfl rfl rfl (by kernel_rfl) gB_ok rfl
theorem slices_SortFunc_screen_run_screen_run_v1_ok {x_1 : (List Run)} {r : (List Run)} (hF : slices_SortFunc_screen_run_screen_run_v1 x_1 = some r) :
    FnM Tryz.prog 94 [(dV (extN 0) 2 x_1), (.fn 95 [])] (([] : List Box) ++ gI 2 Run.enc x_1) (.tup []) (([] : List Box).map some ++ gT x_1 (gB 2 Run.enc r)) := by
  refine FnM.of_wHv ⟨Tryz.prog, 14, [], []⟩ rfl Tryz.func94 rfl rfl (Nat.le_of_ble_eq_true rfl) (by kernel_rfl) ?_
  unfold slices_SortFunc_screen_run_screen_run_v1 at hF
  refine wH_seq ?_
  refine wH_region ?_
  refine h_op (dV (extN 0) 2 x_1) (wt rfl) rfl ?_
  refine h_lend un116 rfl (wt rfl) ?_
  refine h_op (vI (x_1.length : Int)) (wt rfl) rfl ?_
  refine h_nil ?_
  refine wH_region ?_
  refine h_op (dV (extN 0) 2 x_1) (wt rfl) rfl ?_
  refine h_op (vI (x_1.length : Int)) (wt rfl) rfl ?_
  refine h_op (vI (x_1.length : Int)) (wt rfl) rfl ?_
  refine h_conv un3 un129 rfl (wt rfl) ?_
  obtain ⟨r_3, hr_4, hF⟩ := bind_some hF
  refine h_call0 (math_bits_Len_ok hr_4) rfl hb93 rfl rfl rfl rfl (wt rfl) ?_
  refine h_op (.fn 95 []) (wt rfl) rfl ?_
  obtain ⟨r_5, hr_6, hF⟩ := bind_some hF
  obtain ⟨_, hs_7, hF⟩ := bind_some hF
  replace hs_7 := sameL_eq hs_7
  refine h_callv 0 [] 0 0 (.inl rfl) (fun _ _ _ => trivial) (slices_pdqsortCmpFunc_screen_run_v1_ok hr_6) rfl hb110 rfl rfl rfl (by kernel_rfl) rfl (.inr (.inl rfl)) rfl (by kernel_rfl) (by kernel_rfl) (by kernel_rfl) (by kernel_rfl) rfl (by decide) (by kernel_rfl) gB_ok (gB_ho hs_7) (wt rfl) ([((extN 0), gB 2 Run.enc r_5)] : Hp) (by kernel_rfl) ?_
  refine h_re (v' := (dV (extN 0) 2 r_5)) 0 rfl (dV_len hs_7.symm) ?_
  refine h_re (v' := (dV (extN 0) 2 r_5)) 5 rfl (dV_len hs_7.symm) ?_
  refine h_re (v' := (dV (extN 0) 2 r_5)) 7 rfl (dV_len hs_7.symm) ?_
  refine h_nil ?_
  show finH _ _ _ _ _ _ _ _
  replace hF := some_inj hF
  subst hF
  exact finV (bs := ([] : List Box)) (os := ([] : List Box)) (xs := x_1) (o := gB 2 Run.enc r_5) (.inl rfl) [] trivial rfl rfl rfl rfl rfl (by kernel_rfl) gB_ok rfl
theorem screen_runs_ok {l_1 : (List Rect)} {y_2 : Int} {r : (List Run)} (hF : screen_runs l_1 y_2 = some r) :
    FnM Tryz.prog 86 [(vL Rect.enc l_1), (vI y_2)] [] (vL Run.enc r) [] := by
  refine FnM.of_wH ⟨Tryz.prog, 84, [], []⟩ rfl Tryz.func86 rfl rfl (Nat.le_of_ble_eq_true rfl) (by kernel_rfl) ?_
  unfold screen_runs at hF
  refine wH_seq ?_
  refine wH_region ?_
  refine h_op .nil (wt rfl) rfl ?_
  refine h_nil ?_
  refine wH_seq ?_
  refine wH_region ?_
  refine h_op .nil (wt rfl) rfl ?_
  refine h_nil ?_
  refine wH_seq ?_
  refine wH_seq ?_
  refine wH_region ?_
  refine h_op (vL Rect.enc l_1) (wt rfl) rfl ?_
  refine h_len un62 rfl (wt rfl) ?_
  refine h_op (vI 0) (wt rfl) rfl ?_
  refine h_nil ?_
  refine wH_new (fun n_9 => ?_)
  obtain ⟨o_14, hj_15, hF⟩ := bind_some hF
  obtain ⟨hn_7, hj_15⟩ := forL_some hj_15
  refine wH_join (β := ((List Run)) × Nm) (fun p => (fun (s_8 : (List Run)) (n_11 : Nm) => ([(5, (gV n_11 2 s_8))] : List (Nat × V))) p.1 p.2) (fun p => (fun (s_8 : (List Run)) (n_11 : Nm) => ([(n_11, gB 2 Run.enc s_8)] : Hp)) p.1 p.2) (fun p => o_14 = .go p.1) ?_ ?_
  · refine wH_block ?_
    refine wH_loop (β := Nat × (List Rect) × ((List Run)) × Nm) (fun p => (fun (k_3 : Nat) (l_4 : List Rect) (s_8 : (List Run)) (n_11 : Nm) => ([(1, (vI y_2)), (5, (gV n_11 2 s_8)), (12, (vL Rect.enc l_1)), (13, (vI (l_1.length : Int))), (14, (vI (k_3 : Int)))] : List (Nat × V))) p.1 p.2.1 p.2.2.1 p.2.2.2) (fun p => (fun (k_3 : Nat) (l_4 : List Rect) (s_8 : (List Run)) (n_11 : Nm) => ([(n_11, gB 2 Run.enc s_8)] : Hp)) p.1 p.2.1 p.2.2.1 p.2.2.2) (fun p => forR (fun k x s => screen_runs_L1 y_2 k x s) p.2.1 p.1 p.2.2.1 = some o_14 ∧ (l_1).drop p.1 = p.2.1) (fun p => p.2.1.length) (0, l_1, ([] : List Run), n_9) ⟨hj_15, rfl⟩ rfl (pre_r rfl) ?_
    rintro ⟨k_3, l_4, s_8, n_11⟩ ⟨hL_13, hD_6⟩
    dsimp only at hL_13 hD_6
    cases l_4 with
    | nil =>
      replace hL_13 := some_inj hL_13
      subst hL_13
      refine wH_seq (wH_region (h_op (vB (decide ((k_3 : Int) < (l_1.length : Int)))) (wt rfl) rfl (h_nil ?_)))
      refine wH_seq (wH_iff rfl (drop_nil hD_6) (wH_exit ?_))
      exact cut_mk (s_8, n_11) rfl rfl (pre_r rfl)
    | cons x_5 l_4 =>
      obtain ⟨c_, hc_12, hL_13⟩ := bind_some hL_13
      refine wH_seq (wH_region (h_op (vB (decide ((k_3 : Int) < (l_1.length : Int)))) (wt rfl) rfl (h_nil ?_)))
      refine wH_seq (wH_ift rfl (drop_cons hD_6) (wH_skip ?_))
      unfold screen_runs_L1 at hc_12
      refine wH_seq ?_
      refine wH_block ?_
      refine wH_seq ?_
      refine wH_region ?_
      refine h_ia es62 rfl rfl (drop_idx hD_6) rfl (wt rfl) ?_
      refine h_ldc sz49 ag49 rfl (.d (.agg (Rect.enc x_5))) rfl (wt rfl) ?_
      refine h_alloc 0 (.inl rfl) z49 rfl (wt rfl) (fun n_16 => ?_)
      refine h_str 0 (.inl rfl) (fun _ _ _ => trivial) 1 sz49 rfl rfl [(vI x_5.X), (vI x_5.Y), (vI x_5.W), (vI x_5.H)] rfl (wt rfl) ?_
      refine h_nil ?_
      refine wH_seq ?_
      obtain ⟨v_17, h_18, hc_12⟩ := bind_some hc_12
      refine wH_join (β := Unit) (fun _ => ([(1, (vI y_2)), (5, (gV n_11 2 s_8)), (7, (.ref n_16 0 0)), (12, (vL Rect.enc l_1)), (13, (vI (l_1.length : Int))), (14, (vI (k_3 : Int))), (30, (vB v_17))] : List (Nat × V))) (fun _ => ([(n_11, gB 2 Run.enc s_8), (n_16, some (.cells 4 [(vI x_5.X), (vI x_5.Y), (vI x_5.W), (vI x_5.H)]))] : Hp)) (fun _ => True) ?_ ?_
      · refine wH_region ?_
        refine h_far pl49_1 rfl 1 rfl (wt rfl) ?_
        refine h_ldr 0 1 (.inl rfl) (fun _ _ _ => trivial) sz3 ag3 rfl rfl (vI x_5.Y) rfl (wt rfl) ?_
        refine h_op (vI y_2) (wt rfl) rfl ?_
        refine h_op (vB (decide (x_5.Y ≤ y_2))) (wt rfl) rfl ?_
        rcases cond_some h_18 with ⟨hc_19, h_18⟩ | ⟨hc_19, h_18⟩
        · refine h_movb rfl hc_19 (wt rfl) ?_
          refine h_op (vI y_2) (wg rfl rfl rfl) rfl ?_
          refine h_far pl49_1 rfl 1 rfl (wg rfl rfl rfl) ?_
          refine h_ldr 0 1 (.inl rfl) (fun _ _ _ => trivial) sz3 ag3 rfl rfl (vI x_5.Y) rfl (wg rfl rfl rfl) ?_
          refine h_far pl49_3 rfl 3 rfl (wg rfl rfl rfl) ?_
          refine h_ldr 0 1 (.inl rfl) (fun _ _ _ => trivial) sz3 ag3 rfl rfl (vI x_5.H) rfl (wg rfl rfl rfl) ?_
          refine h_op (vI (w64 (x_5.Y + x_5.H))) (wg rfl rfl rfl) rfl ?_
          refine h_op (vB (decide (y_2 < (w64 (x_5.Y + x_5.H))))) (wg rfl rfl rfl) rfl ?_
          refine h_op (vB (decide (y_2 < (w64 (x_5.Y + x_5.H))))) (wt rfl) rfl ?_
          refine h_nil ?_
          replace h_18 := some_inj h_18
          subst h_18
          exact cut_mk () trivial rfl (pre_r rfl)
        · refine h_movb rfl hc_19 (wt rfl) ?_
          refine h_skip (wg rfl rfl rfl) ?_
          refine h_skip (wg rfl rfl rfl) ?_
          refine h_skip (wg rfl rfl rfl) ?_
          refine h_skip (wg rfl rfl rfl) ?_
          refine h_skip (wg rfl rfl rfl) ?_
          refine h_skip (wg rfl rfl rfl) ?_
          refine h_skip (wg rfl rfl rfl) ?_
          refine h_op (vB false) (wt rfl) rfl ?_
          refine h_nil ?_
          replace h_18 := some_inj h_18
          subst h_18
          exact cut_mk () trivial rfl (pre_r rfl)
      · rintro ⟨⟩ _ sl_ H_ hp_ hq_
        refine wH_at _ hp_ hq_ ?_
        obtain ⟨v_20, h_21, hc_12⟩ := bind_some hc_12
        refine wH_join (β := Nm) (fun (n_22 : Nm) => ([(1, (vI y_2)), (5, (gV n_22 2 v_20)), (12, (vL Rect.enc l_1)), (13, (vI (l_1.length : Int))), (14, (vI (k_3 : Int)))] : List (Nat × V))) (fun (n_22 : Nm) => ([(n_22, gB 2 Run.enc v_20), (n_16, some (.cells 4 [(vI x_5.X), (vI x_5.Y), (vI x_5.W), (vI x_5.H)]))] : Hp)) (fun _ => True) ?_ ?_
        · rcases cond_some h_21 with ⟨hc_23, h_21⟩ | ⟨hc_23, h_21⟩
          · refine wH_ift rfl hc_23 ?_
            refine wH_region ?_
            refine h_op (gV n_11 2 s_8) (wt rfl) rfl ?_
            refine h_far pl49_0 rfl 0 rfl (wt rfl) ?_
            refine h_ldr 0 1 (.inl rfl) (fun _ _ _ => trivial) sz3 ag3 rfl rfl (vI x_5.X) rfl (wt rfl) ?_
            refine h_far pl49_0 rfl 0 rfl (wt rfl) ?_
            refine h_ldr 0 1 (.inl rfl) (fun _ _ _ => trivial) sz3 ag3 rfl rfl (vI x_5.X) rfl (wt rfl) ?_
            refine h_far pl49_2 rfl 2 rfl (wt rfl) ?_
            refine h_ldr 0 1 (.inl rfl) (fun _ _ _ => trivial) sz3 ag3 rfl rfl (vI x_5.W) rfl (wt rfl) ?_
            refine h_op (vI (w64 (x_5.X + x_5.W))) (wt rfl) rfl ?_
            refine h_op (.d (.agg (Run.enc (⟨x_5.X, (w64 (x_5.X + x_5.W))⟩ : Run)))) (wt rfl) (by kernel_rfl) ?_
            refine h_lit (([(⟨x_5.X, (w64 (x_5.X + x_5.W))⟩ : Run)] : List Run).map Run.enc) es116 ez116 rfl rfl rfl rfl rfl (wt rfl) ?_
            obtain ⟨a_24, hz_25, h_21⟩ := bind_some h_21
            refine h_appg 0 (.inl rfl) (fun _ _ _ => trivial) (i := 0) el116 el116 sz121 z121 rfl (by decide) by121 (by decide) (fun _ => rfl) rfl rfl rfl hz_25 (wt rfl) (fun n_26 => ?_)
            refine h_op (gV n_26 2 a_24) (wt rfl) rfl ?_
            refine h_nil ?_
            replace h_21 := some_inj h_21
            subst h_21
            exact cut_mk n_26 trivial rfl (pre_r rfl)
          · refine wH_iff rfl hc_23 ?_
            refine wH_skip ?_
            replace h_21 := some_inj h_21
            subst h_21
            exact cut_mk n_11 trivial rfl (pre_r rfl)
        · rintro n_22 _ sl_ H_ hp_ hq_
          refine wH_at _ hp_ hq_ ?_
          refine wH_region ?_
          refine h_opw (w64_next hD_6 hn_7) (wt rfl) rfl ?_
          refine h_op (vI ((k_3 + 1 : Nat) : Int)) (wt rfl) rfl ?_
          refine h_nil ?_
          replace hc_12 := some_inj hc_12
          subst hc_12
          exact loop_mk (k_3 + 1, l_4, v_20, n_22) ⟨hL_13, drop_next hD_6⟩ (Nat.lt_succ_self _) rfl (pre_r rfl)
  · rintro ⟨s_8, n_11⟩ ho_ sl_ H_ hp_ hq_
    subst ho_
    refine wH_at _ hp_ hq_ ?_
    refine wH_seq ?_
    refine wH_region ?_
    refine h_op (gV n_11 2 s_8) (wt rfl) rfl ?_
    obtain ⟨r_27, hr_28, hF⟩ := bind_some hF
    obtain ⟨_, hs_29, hF⟩ := bind_some hF
    replace hs_29 := sameL_eq hs_29
    refine h_callv 0 [] 0 0 (.inl rfl) (fun _ _ _ => trivial) (slices_SortFunc_screen_run_screen_run_v1_ok hr_28) rfl hb94 rfl rfl rfl (by kernel_rfl) rfl (.inl rfl) rfl (by kernel_rfl) (by kernel_rfl) (by kernel_rfl) (by kernel_rfl) rfl (by decide) (by kernel_rfl) gB_ok (gB_ho hs_29) (wt rfl) ([(n_11, gB 2 Run.enc r_27)] : Hp) (by kernel_rfl) ?_
    refine h_re (v' := (gV n_11 2 r_27)) 43 rfl (gV_len hs_29.symm) ?_
    refine h_re (v' := (gV n_11 2 r_27)) 5 rfl (gV_len hs_29.symm) ?_
    refine h_nil ?_
    refine wH_seq ?_
    refine wH_region ?_
    refine h_op .nil (wt rfl) rfl ?_
    refine h_nil ?_
    refine wH_seq ?_
    refine wH_seq ?_
    refine wH_region ?_
    refine h_op (gV n_11 2 r_27) (wt rfl) rfl ?_
    refine h_leng un116 rfl (wt rfl) ?_
    refine h_op (vI 0) (wt rfl) rfl ?_
    refine h_nil ?_
    refine wH_frozg 0 rfl ?_
    refine wH_cog 5 0 rfl rfl ?_
    refine wH_cog 43 0 rfl rfl ?_
    refine wH_cog 45 0 rfl rfl ?_
    refine wH_new (fun n_36 => ?_)
    obtain ⟨o_41, hj_42, hF⟩ := bind_some hF
    obtain ⟨hn_34, hj_42⟩ := forL_some hj_42
    refine wH_join (β := ((List Run)) × Nm) (fun p => (fun (s_35 : (List Run)) (n_38 : Nm) => ([(8, (gV n_38 2 s_35))] : List (Nat × V))) p.1 p.2) (fun p => (fun (s_35 : (List Run)) (n_38 : Nm) => ([(n_11, gF 2 Run.enc r_27), (n_38, gB 2 Run.enc s_35)] : Hp)) p.1 p.2) (fun p => o_41 = .go p.1) ?_ ?_
    · refine wH_block ?_
      refine wH_loop (β := Nat × (List Run) × ((List Run)) × Nm) (fun p => (fun (k_30 : Nat) (l_31 : List Run) (s_35 : (List Run)) (n_38 : Nm) => ([(8, (gV n_38 2 s_35)), (45, (vL Run.enc r_27)), (46, (vI (r_27.length : Int))), (47, (vI (k_30 : Int)))] : List (Nat × V))) p.1 p.2.1 p.2.2.1 p.2.2.2) (fun p => (fun (k_30 : Nat) (l_31 : List Run) (s_35 : (List Run)) (n_38 : Nm) => ([(n_11, gF 2 Run.enc r_27), (n_38, gB 2 Run.enc s_35)] : Hp)) p.1 p.2.1 p.2.2.1 p.2.2.2) (fun p => forR (fun k x s => screen_runs_L2 k x s) p.2.1 p.1 p.2.2.1 = some o_41 ∧ (r_27).drop p.1 = p.2.1) (fun p => p.2.1.length) (0, r_27, ([] : List Run), n_36) ⟨hj_42, rfl⟩ rfl (pre_r rfl) ?_
      rintro ⟨k_30, l_31, s_35, n_38⟩ ⟨hL_40, hD_33⟩
      dsimp only at hL_40 hD_33
      cases l_31 with
      | nil =>
        replace hL_40 := some_inj hL_40
        subst hL_40
        refine wH_seq (wH_region (h_op (vB (decide ((k_30 : Int) < (r_27.length : Int)))) (wt rfl) rfl (h_nil ?_)))
        refine wH_seq (wH_iff rfl (drop_nil hD_33) (wH_exit ?_))
        exact cut_mk (s_35, n_38) rfl rfl (pre_r rfl)
      | cons x_32 l_31 =>
        obtain ⟨c_, hc_39, hL_40⟩ := bind_some hL_40
        refine wH_seq (wH_region (h_op (vB (decide ((k_30 : Int) < (r_27.length : Int)))) (wt rfl) rfl (h_nil ?_)))
        refine wH_seq (wH_ift rfl (drop_cons hD_33) (wH_skip ?_))
        unfold screen_runs_L2 at hc_39
        refine wH_seq ?_
        refine wH_block ?_
        refine wH_seq ?_
        refine wH_region ?_
        refine h_ia es116 rfl rfl (drop_idx hD_33) rfl (wt rfl) ?_
        refine h_ldc sz121 ag121 rfl (.d (.agg (Run.enc x_32))) rfl (wt rfl) ?_
        refine h_alloc 0 (.inl rfl) z121 rfl (wt rfl) (fun n_43 => ?_)
        refine h_str 0 (.inl rfl) (fun _ _ _ => trivial) 2 sz121 rfl rfl [(vI x_32.f_from), (vI x_32.f_to)] rfl (wt rfl) ?_
        refine h_nil ?_
        refine wH_seq ?_
        refine wH_region ?_
        refine h_op (gV n_38 2 s_35) (wt rfl) rfl ?_
        refine h_leng un116 rfl (wt rfl) ?_
        refine h_op (vI (w64 ((s_35.length : Int) - 1))) (wt rfl) rfl ?_
        refine h_op (vI (w64 ((s_35.length : Int) - 1))) (wt rfl) rfl ?_
        refine h_nil ?_
        refine wH_seq ?_
        obtain ⟨v_44, h_45, hc_39⟩ := bind_some hc_39
        refine wH_join (β := Unit) (fun _ => ([(8, (gV n_38 2 s_35)), (10, (.ref n_43 0 0)), (11, (vI (w64 ((s_35.length : Int) - 1)))), (45, (vL Run.enc r_27)), (46, (vI (r_27.length : Int))), (47, (vI (k_30 : Int))), (65, (vB v_44))] : List (Nat × V))) (fun _ => ([(n_11, gF 2 Run.enc r_27), (n_38, gB 2 Run.enc s_35), (n_43, some (.cells 2 [(vI x_32.f_from), (vI x_32.f_to)]))] : Hp)) (fun _ => True) ?_ ?_
        · refine wH_draws ?_
          refine h_op (vI (w64 ((s_35.length : Int) - 1))) (wt rfl) rfl ?_
          refine h_op (vB (decide ((w64 ((s_35.length : Int) - 1)) ≥ 0))) (wt rfl) rfl ?_
          rcases cond_some h_45 with ⟨hc_46, h_45⟩ | ⟨hc_46, h_45⟩
          · refine h_movb rfl hc_46 (wt rfl) ?_
            refine h_far pl121_0 rfl 0 rfl (wg rfl rfl rfl) ?_
            refine h_ldr 4 2 (.inr (by kernel_rfl)) (fun _ _ ag => trivial) sz3 ag3 rfl rfl (vI x_32.f_from) rfl (wg rfl rfl rfl) ?_
            refine h_op (gV n_38 2 s_35) (wg rfl rfl rfl) rfl ?_
            refine h_op (vI (w64 ((s_35.length : Int) - 1))) (wg rfl rfl rfl) rfl ?_
            obtain ⟨_, hi_47, h_45⟩ := bind_some h_45
            refine h_iavg es116 rfl rfl (inR_0 hi_47) (inR_lt hi_47) (wg rfl rfl rfl) ?_
            refine h_far pl121_1 rfl 1 rfl (wg rfl rfl rfl) ?_
            obtain ⟨e_48, hy_49, h_45⟩ := bind_some h_45
            refine h_ldvg 9 1 (.inr (by kernel_rfl)) (fun _ _ ag => ⟨.inl ⟨rfl, rfl⟩, trivial⟩) sz3 ag3 rfl rfl hy_49 (vI e_48.f_to) rfl (wg rfl rfl rfl) ?_
            refine h_op (vB (decide (x_32.f_from ≤ e_48.f_to))) (wg rfl rfl rfl) rfl ?_
            refine h_op (vB (decide (x_32.f_from ≤ e_48.f_to))) (wt rfl) rfl ?_
            refine h_nil ?_
            replace h_45 := some_inj h_45
            subst h_45
            exact cut_mk () trivial rfl (pre_r rfl)
          · refine h_movb rfl hc_46 (wt rfl) ?_
            refine h_skip (wg rfl rfl rfl) ?_
            refine h_skip (wg rfl rfl rfl) ?_
            refine h_skip (wg rfl rfl rfl) ?_
            refine h_skip (wg rfl rfl rfl) ?_
            refine h_skip (wg rfl rfl rfl) ?_
            refine h_skip (wg rfl rfl rfl) ?_
            refine h_skip (wg rfl rfl rfl) ?_
            refine h_skip (wg rfl rfl rfl) ?_
            refine h_op (vB false) (wt rfl) rfl ?_
            refine h_nil ?_
            replace h_45 := some_inj h_45
            subst h_45
            exact cut_mk () trivial rfl (pre_r rfl)
        · rintro ⟨⟩ _ sl_ H_ hp_ hq_
          refine wH_at _ hp_ hq_ ?_
          obtain ⟨v_50, h_51, hc_39⟩ := bind_some hc_39
          refine wH_join (β := Nm) (fun (n_52 : Nm) => ([(8, (gV n_52 2 v_50)), (45, (vL Run.enc r_27)), (46, (vI (r_27.length : Int))), (47, (vI (k_30 : Int)))] : List (Nat × V))) (fun (n_52 : Nm) => ([(n_11, gF 2 Run.enc r_27), (n_52, gB 2 Run.enc v_50), (n_43, some (.cells 2 [(vI x_32.f_from), (vI x_32.f_to)]))] : Hp)) (fun _ => True) ?_ ?_
          · rcases cond_some h_51 with ⟨hc_53, h_51⟩ | ⟨hc_53, h_51⟩
            · refine wH_ift rfl hc_53 ?_
              refine wH_draws ?_
              refine h_op (gV n_38 2 s_35) (wt rfl) rfl ?_
              refine h_op (vI (w64 ((s_35.length : Int) - 1))) (wt rfl) rfl ?_
              refine h_op (gV n_38 2 s_35) (wt rfl) rfl ?_
              refine h_op (vI (w64 ((s_35.length : Int) - 1))) (wt rfl) rfl ?_
              obtain ⟨_, hi_54, h_51⟩ := bind_some h_51
              refine h_iavg es116 rfl rfl (inR_0 hi_54) (inR_lt hi_54) (wt rfl) ?_
              refine h_far pl121_1 rfl 1 rfl (wt rfl) ?_
              obtain ⟨e_55, hy_56, h_51⟩ := bind_some h_51
              refine h_ldvg 6 1 (.inr (by kernel_rfl)) (fun _ _ ag => trivial) sz3 ag3 rfl rfl hy_56 (vI e_55.f_to) rfl (wt rfl) ?_
              refine h_far pl121_1 rfl 1 rfl (wt rfl) ?_
              refine h_ldr 8 2 (.inr (by kernel_rfl)) (fun _ _ ag => ⟨.inl ⟨rfl, rfl⟩, trivial⟩) sz3 ag3 rfl rfl (vI x_32.f_to) rfl (wt rfl) ?_
              refine h_minmax (vI (maxI e_55.f_to x_32.f_to)) rfl (.inr rfl) (wt rfl) ?_
              obtain ⟨_, hi_57, h_51⟩ := bind_some h_51
              refine h_iavg es116 rfl rfl (inR_0 hi_57) (inR_lt hi_57) (wt rfl) ?_
              refine h_far pl121_1 rfl 1 rfl (wt rfl) ?_
              obtain ⟨e_58, hy_59, h_51⟩ := bind_some h_51
              refine h_stvg 12 (.inr (by kernel_rfl)) (fun _ _ ag => ⟨.inr (.inr (by kernel_rfl)), ⟨.inr (.inr (by kernel_rfl)), trivial⟩⟩) 1 sz3 rfl rfl hy_59 (⟨e_58.f_from, (maxI e_55.f_to x_32.f_to)⟩ : Run) rfl (wt rfl) ?_
              refine h_re (v' := (gV n_38 2 (s_35.set (0 + ((w64 ((s_35.length : Int) - 1))).toNat) (⟨e_58.f_from, (maxI e_55.f_to x_32.f_to)⟩ : Run)))) 8 rfl (gV_len (by simp)) ?_
              refine h_re (v' := (gV n_38 2 (s_35.set (0 + ((w64 ((s_35.length : Int) - 1))).toNat) (⟨e_58.f_from, (maxI e_55.f_to x_32.f_to)⟩ : Run)))) 66 rfl (gV_len (by simp)) ?_
              refine h_re (v' := (gV n_38 2 (s_35.set (0 + ((w64 ((s_35.length : Int) - 1))).toNat) (⟨e_58.f_from, (maxI e_55.f_to x_32.f_to)⟩ : Run)))) 68 rfl (gV_len (by simp)) ?_
              refine h_nil ?_
              replace h_51 := some_inj h_51
              subst h_51
              exact cut_mk n_38 trivial rfl (pre_r rfl)
            · refine wH_iff rfl hc_53 ?_
              refine wH_region ?_
              refine h_op (gV n_38 2 s_35) (wt rfl) rfl ?_
              refine h_ldr 0 2 (.inl rfl) (fun _ _ _ => trivial) sz121 ag121 rfl rfl (.d (.agg (Run.enc x_32))) rfl (wt rfl) ?_
              refine h_lit (([x_32] : List Run).map Run.enc) es116 ez116 rfl rfl rfl rfl rfl (wt rfl) ?_
              obtain ⟨a_60, hz_61, h_51⟩ := bind_some h_51
              refine h_appg 0 (.inl rfl) (fun _ _ _ => trivial) (i := 1) el116 el116 sz121 z121 rfl (by decide) by121 (by decide) (fun _ => rfl) rfl rfl rfl hz_61 (wt rfl) (fun n_62 => ?_)
              refine h_op (gV n_62 2 a_60) (wt rfl) rfl ?_
              refine h_nil ?_
              replace h_51 := some_inj h_51
              subst h_51
              exact cut_mk n_62 trivial rfl (pre_r rfl)
          · rintro n_52 _ sl_ H_ hp_ hq_
            refine wH_at _ hp_ hq_ ?_
            refine wH_region ?_
            refine h_opw (w64_next hD_33 hn_34) (wt rfl) rfl ?_
            refine h_op (vI ((k_30 + 1 : Nat) : Int)) (wt rfl) rfl ?_
            refine h_nil ?_
            replace hc_39 := some_inj hc_39
            subst hc_39
            exact loop_mk (k_30 + 1, l_31, v_50, n_52) ⟨hL_40, drop_next hD_33⟩ (Nat.lt_succ_self _) rfl (pre_r rfl)
    · rintro ⟨s_35, n_38⟩ ho_ sl_ H_ hp_ hq_
      subst ho_
      refine wH_at _ hp_ hq_ ?_
      refine wH_seq ?_
      refine wH_region ?_
      refine h_op (gV n_38 2 s_35) (wt rfl) rfl ?_
      refine h_op (gV n_38 2 s_35) (wt rfl) rfl ?_
      refine h_nil ?_
      refine wH_frozg 1 rfl ?_
      refine wH_cog 4 1 rfl rfl ?_
      refine wH_cog 8 1 rfl rfl ?_
      refine wH_cog 83 1 rfl rfl ?_
      replace hF := some_inj hF
      subst hF
      refine wH_ret ?_
      exact fin0 (.inr rfl) [(vL Run.enc s_35)] ⟨rfl, trivial⟩ rfl rfl rfl
theorem screen_less_ok {l_1 : (List Run)} {m_2 : (List Run)} {r : (List Run)} (hF : screen_less l_1 m_2 = some r) :
    FnM Tryz.prog 85 [(vL Run.enc l_1), (vL Run.enc m_2)] [] (vL Run.enc r) [] := by
  refine FnM.of_wH ⟨Tryz.prog, 88, [], []⟩ rfl Tryz.func85 rfl rfl (Nat.le_of_ble_eq_true rfl) (by kernel_rfl) ?_
  unfold screen_less at hF
  refine wH_seq ?_
  refine wH_region ?_
  refine h_op .nil (wt rfl) rfl ?_
  refine h_nil ?_
  refine wH_seq ?_
  refine wH_region ?_
  refine h_op .nil (wt rfl) rfl ?_
  refine h_nil ?_
  refine wH_seq ?_
  refine wH_region ?_
  refine h_op (vI 0) (wt rfl) rfl ?_
  refine h_nil ?_
  refine wH_seq ?_
  refine wH_seq ?_
  refine wH_region ?_
  refine h_op (vL Run.enc l_1) (wt rfl) rfl ?_
  refine h_len un116 rfl (wt rfl) ?_
  refine h_op (vI 0) (wt rfl) rfl ?_
  refine h_nil ?_
  refine wH_new (fun n_9 => ?_)
  obtain ⟨o_14, hj_15, hF⟩ := bind_some hF
  obtain ⟨hn_7, hj_15⟩ := forL_some hj_15
  refine wH_join (β := ((List Run) × Int) × Nm) (fun p => (fun (s_8 : (List Run) × Int) (n_11 : Nm) => ([(5, (gV n_11 2 s_8.1))] : List (Nat × V))) p.1 p.2) (fun p => (fun (s_8 : (List Run) × Int) (n_11 : Nm) => ([(n_11, gB 2 Run.enc s_8.1)] : Hp)) p.1 p.2) (fun p => o_14 = .go p.1) ?_ ?_
  · refine wH_block ?_
    refine wH_loop (β := Nat × (List Run) × ((List Run) × Int) × Nm) (fun p => (fun (k_3 : Nat) (l_4 : List Run) (s_8 : (List Run) × Int) (n_11 : Nm) => ([(1, (vL Run.enc m_2)), (5, (gV n_11 2 s_8.1)), (6, (vI s_8.2)), (10, (vL Run.enc l_1)), (11, (vI (l_1.length : Int))), (12, (vI (k_3 : Int)))] : List (Nat × V))) p.1 p.2.1 p.2.2.1 p.2.2.2) (fun p => (fun (k_3 : Nat) (l_4 : List Run) (s_8 : (List Run) × Int) (n_11 : Nm) => ([(n_11, gB 2 Run.enc s_8.1)] : Hp)) p.1 p.2.1 p.2.2.1 p.2.2.2) (fun p => forR (fun k x s => screen_less_L3 m_2 k x s) p.2.1 p.1 p.2.2.1 = some o_14 ∧ (l_1).drop p.1 = p.2.1) (fun p => p.2.1.length) (0, l_1, (([] : List Run), 0), n_9) ⟨hj_15, rfl⟩ rfl (pre_r rfl) ?_
    rintro ⟨k_3, l_4, s_8, n_11⟩ ⟨hL_13, hD_6⟩
    dsimp only at hL_13 hD_6
    cases l_4 with
    | nil =>
      replace hL_13 := some_inj hL_13
      subst hL_13
      refine wH_seq (wH_region (h_op (vB (decide ((k_3 : Int) < (l_1.length : Int)))) (wt rfl) rfl (h_nil ?_)))
      refine wH_seq (wH_iff rfl (drop_nil hD_6) (wH_exit ?_))
      exact cut_mk (s_8, n_11) rfl rfl (pre_r rfl)
    | cons x_5 l_4 =>
      obtain ⟨c_, hc_12, hL_13⟩ := bind_some hL_13
      refine wH_seq (wH_region (h_op (vB (decide ((k_3 : Int) < (l_1.length : Int)))) (wt rfl) rfl (h_nil ?_)))
      refine wH_seq (wH_ift rfl (drop_cons hD_6) (wH_skip ?_))
      unfold screen_less_L3 at hc_12
      refine wH_seq ?_
      refine wH_block ?_
      refine wH_seq ?_
      refine wH_region ?_
      refine h_ia es116 rfl rfl (drop_idx hD_6) rfl (wt rfl) ?_
      refine h_ldc sz121 ag121 rfl (.d (.agg (Run.enc x_5))) rfl (wt rfl) ?_
      refine h_alloc 0 (.inl rfl) z121 rfl (wt rfl) (fun n_16 => ?_)
      refine h_str 0 (.inl rfl) (fun _ _ _ => trivial) 1 sz121 rfl rfl [(vI x_5.f_from), (vI x_5.f_to)] rfl (wt rfl) ?_
      refine h_nil ?_
      refine wH_seq ?_
      obtain ⟨o_25, hj_26, hc_12⟩ := bind_some hc_12
      obtain ⟨nq_72, hj_26⟩ := loopO_iter hj_26
      refine wH_join (β := (Int)) (fun (s_22 : Int) => ([(1, (vL Run.enc m_2)), (5, (gV n_11 2 s_8.1)), (6, (vI s_22)), (8, (.ref n_16 0 0)), (10, (vL Run.enc l_1)), (11, (vI (l_1.length : Int))), (12, (vI (k_3 : Int)))] : List (Nat × V))) (fun (s_22 : Int) => ([(n_11, gB 2 Run.enc s_8.1), (n_16, some (.cells 2 [(vI x_5.f_from), (vI x_5.f_to)]))] : Hp)) (fun p => o_25 = .go p) ?_ ?_
      · refine wH_block ?_
        refine wH_loop (β := Nat × (Int)) (fun p => (fun (k_17 : Nat) (s_22 : Int) => ([(1, (vL Run.enc m_2)), (5, (gV n_11 2 s_8.1)), (6, (vI s_22)), (8, (.ref n_16 0 0)), (10, (vL Run.enc l_1)), (11, (vI (l_1.length : Int))), (12, (vI (k_3 : Int)))] : List (Nat × V))) p.1 p.2) (fun p => (fun (k_17 : Nat) (s_22 : Int) => ([(n_11, gB 2 Run.enc s_8.1), (n_16, some (.cells 2 [(vI x_5.f_from), (vI x_5.f_to)]))] : Hp)) p.1 p.2) (fun p => iterN (fun s => screen_less_L1 m_2 x_5 s) p.1 p.2 = some o_25) (fun p => p.1) (nq_72, s_8.2) hj_26 rfl (pre_r rfl) ?_
        rintro ⟨k_17, s_22⟩ hL_24
        dsimp only at hL_24
        cases k_17 with
        | zero => cases hL_24
        | succ k_17 =>
          obtain ⟨c_, hc_23, hL_24⟩ := bind_some hL_24
          unfold screen_less_L1 at hc_23
          refine wH_seq ?_
          refine wH_seq ?_
          obtain ⟨v_27, h_28, hc_23⟩ := bind_some hc_23
          refine wH_join (β := Unit) (fun _ => ([(1, (vL Run.enc m_2)), (5, (gV n_11 2 s_8.1)), (6, (vI s_22)), (8, (.ref n_16 0 0)), (10, (vL Run.enc l_1)), (11, (vI (l_1.length : Int))), (12, (vI (k_3 : Int))), (29, (vB v_27))] : List (Nat × V))) (fun _ => ([(n_11, gB 2 Run.enc s_8.1), (n_16, some (.cells 2 [(vI x_5.f_from), (vI x_5.f_to)]))] : Hp)) (fun _ => True) ?_ ?_
          · refine wH_draws ?_
            refine h_op (vI s_22) (wt rfl) rfl ?_
            refine h_op (vL Run.enc m_2) (wt rfl) rfl ?_
            refine h_len un116 rfl (wt rfl) ?_
            refine h_op (vB (decide (s_22 < (m_2.length : Int)))) (wt rfl) rfl ?_
            rcases cond_some h_28 with ⟨hc_29, h_28⟩ | ⟨hc_29, h_28⟩
            · refine h_movb rfl hc_29 (wt rfl) ?_
              refine h_op (vL Run.enc m_2) (wg rfl rfl rfl) rfl ?_
              refine h_op (vI s_22) (wg rfl rfl rfl) rfl ?_
              obtain ⟨y_30, hy_31, h_28⟩ := bind_some h_28
              refine h_ia es116 rfl rfl hy_31 rfl (wg rfl rfl rfl) ?_
              refine h_fac pl121_1 rfl [.int .i64 y_30.f_to] rfl rfl (wg rfl rfl rfl) ?_
              refine h_ldc sz3 ag3 rfl (vI y_30.f_to) rfl (wg rfl rfl rfl) ?_
              refine h_far pl121_0 rfl 0 rfl (wg rfl rfl rfl) ?_
              refine h_ldr 11 1 (.inr (by kernel_rfl)) (fun _ _ ag => trivial) sz3 ag3 rfl rfl (vI x_5.f_from) rfl (wg rfl rfl rfl) ?_
              refine h_op (vB (decide (y_30.f_to ≤ x_5.f_from))) (wg rfl rfl rfl) rfl ?_
              refine h_op (vB (decide (y_30.f_to ≤ x_5.f_from))) (wt rfl) rfl ?_
              refine h_nil ?_
              replace h_28 := some_inj h_28
              subst h_28
              exact cut_mk () trivial rfl (pre_r rfl)
            · refine h_movb rfl hc_29 (wt rfl) ?_
              refine h_skip (wg rfl rfl rfl) ?_
              refine h_skip (wg rfl rfl rfl) ?_
              refine h_skip (wg rfl rfl rfl) ?_
              refine h_skip (wg rfl rfl rfl) ?_
              refine h_skip (wg rfl rfl rfl) ?_
              refine h_skip (wg rfl rfl rfl) ?_
              refine h_skip (wg rfl rfl rfl) ?_
              refine h_skip (wg rfl rfl rfl) ?_
              refine h_op (vB false) (wt rfl) rfl ?_
              refine h_nil ?_
              replace h_28 := some_inj h_28
              subst h_28
              exact cut_mk () trivial rfl (pre_r rfl)
          · rintro ⟨⟩ _ sl_ H_ hp_ hq_
            refine wH_at _ hp_ hq_ ?_
            rcases cond_some hc_23 with ⟨hc_32, hc_23⟩ | ⟨hc_32, hc_23⟩
            · refine wH_ift rfl hc_32 ?_
              refine wH_skip ?_
              refine wH_block ?_
              refine wH_region ?_
              refine h_op (vI s_22) (wt rfl) rfl ?_
              refine h_op (vI (w64 (s_22 + 1))) (wt rfl) rfl ?_
              refine h_op (vI (w64 (s_22 + 1))) (wt rfl) rfl ?_
              refine h_nil ?_
              replace hc_23 := some_inj hc_23
              subst hc_23
              exact loop_mk (k_17, (w64 (s_22 + 1))) hL_24 (Nat.lt_succ_self _) rfl (pre_r rfl)
            · refine wH_iff rfl hc_32 ?_
              refine wH_exit ?_
              replace hc_23 := some_inj hc_23
              subst hc_23
              replace hL_24 := some_inj hL_24
              subst hL_24
              exact cut_mk (s_22) rfl rfl (pre_r rfl)
      · rintro s_22 ho_ sl_ H_ hp_ hq_
        subst ho_
        refine wH_at _ hp_ hq_ ?_
        refine wH_seq ?_
        refine wH_seq ?_
        refine wH_region ?_
        refine h_op (vI s_22) (wt rfl) rfl ?_
        refine h_op (vI s_22) (wt rfl) rfl ?_
        refine h_nil ?_
        obtain ⟨o_43, hj_44, hc_12⟩ := bind_some hc_12
        obtain ⟨nq_71, hj_44⟩ := loopO_iter hj_44
        refine wH_join (β := ((List Run) × Int × Int) × Nm) (fun p => (fun (s_38 : (List Run) × Int × Int) (n_40 : Nm) => ([(1, (vL Run.enc m_2)), (5, (gV n_40 2 s_38.1)), (6, (vI s_22)), (8, (.ref n_16 0 0)), (10, (vL Run.enc l_1)), (11, (vI (l_1.length : Int))), (12, (vI (k_3 : Int)))] : List (Nat × V))) p.1 p.2) (fun p => (fun (s_38 : (List Run) × Int × Int) (n_40 : Nm) => ([(n_40, gB 2 Run.enc s_38.1), (n_16, some (.cells 2 [(vI s_38.2.2), (vI x_5.f_to)]))] : Hp)) p.1 p.2) (fun p => o_43 = .go p.1) ?_ ?_
        · refine wH_block ?_
          refine wH_loop (β := Nat × ((List Run) × Int × Int) × Nm) (fun p => (fun (k_33 : Nat) (s_38 : (List Run) × Int × Int) (n_40 : Nm) => ([(1, (vL Run.enc m_2)), (5, (gV n_40 2 s_38.1)), (6, (vI s_22)), (8, (.ref n_16 0 0)), (9, (vI s_38.2.1)), (10, (vL Run.enc l_1)), (11, (vI (l_1.length : Int))), (12, (vI (k_3 : Int)))] : List (Nat × V))) p.1 p.2.1 p.2.2) (fun p => (fun (k_33 : Nat) (s_38 : (List Run) × Int × Int) (n_40 : Nm) => ([(n_40, gB 2 Run.enc s_38.1), (n_16, some (.cells 2 [(vI s_38.2.2), (vI x_5.f_to)]))] : Hp)) p.1 p.2.1 p.2.2) (fun p => iterN (fun s => screen_less_L2 m_2 x_5 s) p.1 p.2.1 = some o_43) (fun p => p.1) (nq_71, (s_8.1, s_22, x_5.f_from), n_11) hj_44 rfl (pre_r rfl) ?_
          rintro ⟨k_33, s_38, n_40⟩ hL_42
          dsimp only at hL_42
          cases k_33 with
          | zero => cases hL_42
          | succ k_33 =>
            obtain ⟨c_, hc_41, hL_42⟩ := bind_some hL_42
            unfold screen_less_L2 at hc_41
            refine wH_seq ?_
            refine wH_seq ?_
            obtain ⟨v_45, h_46, hc_41⟩ := bind_some hc_41
            refine wH_join (β := Unit) (fun _ => ([(1, (vL Run.enc m_2)), (5, (gV n_40 2 s_38.1)), (6, (vI s_22)), (8, (.ref n_16 0 0)), (9, (vI s_38.2.1)), (10, (vL Run.enc l_1)), (11, (vI (l_1.length : Int))), (12, (vI (k_3 : Int))), (46, (vB v_45))] : List (Nat × V))) (fun _ => ([(n_40, gB 2 Run.enc s_38.1), (n_16, some (.cells 2 [(vI s_38.2.2), (vI x_5.f_to)]))] : Hp)) (fun _ => True) ?_ ?_
            · refine wH_draws ?_
              refine h_op (vI s_38.2.1) (wt rfl) rfl ?_
              refine h_op (vL Run.enc m_2) (wt rfl) rfl ?_
              refine h_len un116 rfl (wt rfl) ?_
              refine h_op (vB (decide (s_38.2.1 < (m_2.length : Int)))) (wt rfl) rfl ?_
              rcases cond_some h_46 with ⟨hc_47, h_46⟩ | ⟨hc_47, h_46⟩
              · refine h_movb rfl hc_47 (wt rfl) ?_
                refine h_op (vL Run.enc m_2) (wg rfl rfl rfl) rfl ?_
                refine h_op (vI s_38.2.1) (wg rfl rfl rfl) rfl ?_
                obtain ⟨y_48, hy_49, h_46⟩ := bind_some h_46
                refine h_ia es116 rfl rfl hy_49 rfl (wg rfl rfl rfl) ?_
                refine h_fac pl121_0 rfl [.int .i64 y_48.f_from, .int .i64 y_48.f_to] rfl rfl (wg rfl rfl rfl) ?_
                refine h_ldc sz3 ag3 rfl (vI y_48.f_from) rfl (wg rfl rfl rfl) ?_
                refine h_far pl121_1 rfl 1 rfl (wg rfl rfl rfl) ?_
                refine h_ldr 11 1 (.inr (by kernel_rfl)) (fun _ _ ag => trivial) sz3 ag3 rfl rfl (vI x_5.f_to) rfl (wg rfl rfl rfl) ?_
                refine h_op (vB (decide (y_48.f_from < x_5.f_to))) (wg rfl rfl rfl) rfl ?_
                refine h_op (vB (decide (y_48.f_from < x_5.f_to))) (wt rfl) rfl ?_
                refine h_nil ?_
                replace h_46 := some_inj h_46
                subst h_46
                exact cut_mk () trivial rfl (pre_r rfl)
              · refine h_movb rfl hc_47 (wt rfl) ?_
                refine h_skip (wg rfl rfl rfl) ?_
                refine h_skip (wg rfl rfl rfl) ?_
                refine h_skip (wg rfl rfl rfl) ?_
                refine h_skip (wg rfl rfl rfl) ?_
                refine h_skip (wg rfl rfl rfl) ?_
                refine h_skip (wg rfl rfl rfl) ?_
                refine h_skip (wg rfl rfl rfl) ?_
                refine h_skip (wg rfl rfl rfl) ?_
                refine h_op (vB false) (wt rfl) rfl ?_
                refine h_nil ?_
                replace h_46 := some_inj h_46
                subst h_46
                exact cut_mk () trivial rfl (pre_r rfl)
            · rintro ⟨⟩ _ sl_ H_ hp_ hq_
              refine wH_at _ hp_ hq_ ?_
              rcases cond_some hc_41 with ⟨hc_50, hc_41⟩ | ⟨hc_50, hc_41⟩
              · refine wH_ift rfl hc_50 ?_
                refine wH_skip ?_
                refine wH_seq ?_
                refine wH_block ?_
                refine wH_seq ?_
                refine wH_seq ?_
                refine wH_draws ?_
                refine h_op (vL Run.enc m_2) (wt rfl) rfl ?_
                refine h_op (vI s_38.2.1) (wt rfl) rfl ?_
                obtain ⟨y_51, hy_52, hc_41⟩ := bind_some hc_41
                refine h_ia es116 rfl rfl hy_52 rfl (wt rfl) ?_
                refine h_fac pl121_0 rfl [.int .i64 y_51.f_from, .int .i64 y_51.f_to] rfl rfl (wt rfl) ?_
                refine h_ldc sz3 ag3 rfl (vI y_51.f_from) rfl (wt rfl) ?_
                refine h_far pl121_0 rfl 0 rfl (wt rfl) ?_
                refine h_ldr 6 1 (.inr (by kernel_rfl)) (fun _ _ ag => trivial) sz3 ag3 rfl rfl (vI s_38.2.2) rfl (wt rfl) ?_
                refine h_op (vB (decide (y_51.f_from > s_38.2.2))) (wt rfl) rfl ?_
                refine h_nil ?_
                obtain ⟨v_53, h_54, hc_41⟩ := bind_some hc_41
                refine wH_join (β := Nm) (fun (n_55 : Nm) => ([(1, (vL Run.enc m_2)), (5, (gV n_55 2 v_53)), (6, (vI s_22)), (8, (.ref n_16 0 0)), (9, (vI s_38.2.1)), (10, (vL Run.enc l_1)), (11, (vI (l_1.length : Int))), (12, (vI (k_3 : Int)))] : List (Nat × V))) (fun (n_55 : Nm) => ([(n_55, gB 2 Run.enc v_53), (n_16, some (.cells 2 [(vI s_38.2.2), (vI x_5.f_to)]))] : Hp)) (fun _ => True) ?_ ?_
                · rcases cond_some h_54 with ⟨hc_56, h_54⟩ | ⟨hc_56, h_54⟩
                  · refine wH_ift rfl hc_56 ?_
                    refine wH_draws ?_
                    refine h_op (gV n_40 2 s_38.1) (wt rfl) rfl ?_
                    refine h_far pl121_0 rfl 0 rfl (wt rfl) ?_
                    refine h_ldr 2 1 (.inr (by kernel_rfl)) (fun _ _ ag => trivial) sz3 ag3 rfl rfl (vI s_38.2.2) rfl (wt rfl) ?_
                    refine h_op (vL Run.enc m_2) (wt rfl) rfl ?_
                    refine h_op (vI s_38.2.1) (wt rfl) rfl ?_
                    obtain ⟨y_57, hy_58, h_54⟩ := bind_some h_54
                    refine h_ia es116 rfl rfl hy_58 rfl (wt rfl) ?_
                    refine h_fac pl121_0 rfl [.int .i64 y_57.f_from, .int .i64 y_57.f_to] rfl rfl (wt rfl) ?_
                    refine h_ldc sz3 ag3 rfl (vI y_57.f_from) rfl (wt rfl) ?_
                    refine h_op (.d (.agg (Run.enc (⟨s_38.2.2, y_57.f_from⟩ : Run)))) (wt rfl) (by kernel_rfl) ?_
                    refine h_lit (([(⟨s_38.2.2, y_57.f_from⟩ : Run)] : List Run).map Run.enc) es116 ez116 rfl rfl rfl rfl rfl (wt rfl) ?_
                    obtain ⟨a_59, hz_60, h_54⟩ := bind_some h_54
                    refine h_appg 10 (.inr (by kernel_rfl)) (fun _ _ ag => ⟨.inr (.inr (by kernel_rfl)), trivial⟩) (i := 0) el116 el116 sz121 z121 rfl (by decide) by121 (by decide) (fun _ => rfl) rfl rfl rfl hz_60 (wt rfl) (fun n_61 => ?_)
                    refine h_op (gV n_61 2 a_59) (wt rfl) rfl ?_
                    refine h_nil ?_
                    replace h_54 := some_inj h_54
                    subst h_54
                    exact cut_mk n_61 trivial rfl (pre_r rfl)
                  · refine wH_iff rfl hc_56 ?_
                    refine wH_skip ?_
                    replace h_54 := some_inj h_54
                    subst h_54
                    exact cut_mk n_40 trivial rfl (pre_r rfl)
                · rintro n_55 _ sl_ H_ hp_ hq_
                  refine wH_at _ hp_ hq_ ?_
                  refine wH_draws ?_
                  refine h_far pl121_0 rfl 0 rfl (wt rfl) ?_
                  refine h_ldr 1 1 (.inr (by kernel_rfl)) (fun _ _ ag => trivial) sz3 ag3 rfl rfl (vI s_38.2.2) rfl (wt rfl) ?_
                  refine h_op (vL Run.enc m_2) (wt rfl) rfl ?_
                  refine h_op (vI s_38.2.1) (wt rfl) rfl ?_
                  obtain ⟨y_62, hy_63, hc_41⟩ := bind_some hc_41
                  refine h_ia es116 rfl rfl hy_63 rfl (wt rfl) ?_
                  refine h_fac pl121_1 rfl [.int .i64 y_62.f_to] rfl rfl (wt rfl) ?_
                  refine h_ldc sz3 ag3 rfl (vI y_62.f_to) rfl (wt rfl) ?_
                  refine h_minmax (vI (maxI s_38.2.2 y_62.f_to)) rfl (.inr rfl) (wt rfl) ?_
                  refine h_far pl121_0 rfl 0 rfl (wt rfl) ?_
                  refine h_str 9 (.inr (by kernel_rfl)) (fun _ _ ag => ⟨.inr (.inr (by kernel_rfl)), trivial⟩) 1 sz3 rfl rfl [(vI (maxI s_38.2.2 y_62.f_to)), (vI x_5.f_to)] rfl (wt rfl) ?_
                  refine h_nil ?_
                  refine wH_region ?_
                  refine h_op (vI s_38.2.1) (wt rfl) rfl ?_
                  refine h_op (vI (w64 (s_38.2.1 + 1))) (wt rfl) rfl ?_
                  refine h_op (vI (w64 (s_38.2.1 + 1))) (wt rfl) rfl ?_
                  refine h_nil ?_
                  replace hc_41 := some_inj hc_41
                  subst hc_41
                  exact loop_mk (k_33, (v_53, (w64 (s_38.2.1 + 1)), (maxI s_38.2.2 y_62.f_to)), n_55) hL_42 (Nat.lt_succ_self _) rfl (pre_r rfl)
              · refine wH_iff rfl hc_50 ?_
                refine wH_exit ?_
                replace hc_41 := some_inj hc_41
                subst hc_41
                replace hL_42 := some_inj hL_42
                subst hL_42
                exact cut_mk ((s_38.1, s_38.2.1, s_38.2.2), n_40) rfl rfl (pre_r rfl)
        · rintro ⟨s_38, n_40⟩ ho_ sl_ H_ hp_ hq_
          subst ho_
          refine wH_at _ hp_ hq_ ?_
          refine wH_seq ?_
          refine wH_region ?_
          refine h_far pl121_0 rfl 0 rfl (wt rfl) ?_
          refine h_ldr 0 1 (.inl rfl) (fun _ _ _ => trivial) sz3 ag3 rfl rfl (vI s_38.2.2) rfl (wt rfl) ?_
          refine h_far pl121_1 rfl 1 rfl (wt rfl) ?_
          refine h_ldr 0 1 (.inl rfl) (fun _ _ _ => trivial) sz3 ag3 rfl rfl (vI x_5.f_to) rfl (wt rfl) ?_
          refine h_op (vB (decide (s_38.2.2 < x_5.f_to))) (wt rfl) rfl ?_
          refine h_nil ?_
          obtain ⟨v_64, h_65, hc_12⟩ := bind_some hc_12
          refine wH_join (β := Nm) (fun (n_66 : Nm) => ([(1, (vL Run.enc m_2)), (5, (gV n_66 2 v_64)), (6, (vI s_22)), (10, (vL Run.enc l_1)), (11, (vI (l_1.length : Int))), (12, (vI (k_3 : Int)))] : List (Nat × V))) (fun (n_66 : Nm) => ([(n_66, gB 2 Run.enc v_64), (n_16, some (.cells 2 [(vI s_38.2.2), (vI x_5.f_to)]))] : Hp)) (fun _ => True) ?_ ?_
          · rcases cond_some h_65 with ⟨hc_67, h_65⟩ | ⟨hc_67, h_65⟩
            · refine wH_ift rfl hc_67 ?_
              refine wH_region ?_
              refine h_op (gV n_40 2 s_38.1) (wt rfl) rfl ?_
              refine h_ldr 0 1 (.inl rfl) (fun _ _ _ => trivial) sz121 ag121 rfl rfl (.d (.agg (Run.enc (⟨s_38.2.2, x_5.f_to⟩ : Run)))) rfl (wt rfl) ?_
              refine h_lit (([(⟨s_38.2.2, x_5.f_to⟩ : Run)] : List Run).map Run.enc) es116 ez116 rfl rfl rfl rfl rfl (wt rfl) ?_
              obtain ⟨a_68, hz_69, h_65⟩ := bind_some h_65
              refine h_appg 0 (.inl rfl) (fun _ _ _ => trivial) (i := 0) el116 el116 sz121 z121 rfl (by decide) by121 (by decide) (fun _ => rfl) rfl rfl rfl hz_69 (wt rfl) (fun n_70 => ?_)
              refine h_op (gV n_70 2 a_68) (wt rfl) rfl ?_
              refine h_nil ?_
              replace h_65 := some_inj h_65
              subst h_65
              exact cut_mk n_70 trivial rfl (pre_r rfl)
            · refine wH_iff rfl hc_67 ?_
              refine wH_skip ?_
              replace h_65 := some_inj h_65
              subst h_65
              exact cut_mk n_40 trivial rfl (pre_r rfl)
          · rintro n_66 _ sl_ H_ hp_ hq_
            refine wH_at _ hp_ hq_ ?_
            refine wH_region ?_
            refine h_opw (w64_next hD_6 hn_7) (wt rfl) rfl ?_
            refine h_op (vI ((k_3 + 1 : Nat) : Int)) (wt rfl) rfl ?_
            refine h_nil ?_
            replace hc_12 := some_inj hc_12
            subst hc_12
            exact loop_mk (k_3 + 1, l_4, (v_64, s_22), n_66) ⟨hL_13, drop_next hD_6⟩ (Nat.lt_succ_self _) rfl (pre_r rfl)
  · rintro ⟨s_8, n_11⟩ ho_ sl_ H_ hp_ hq_
    subst ho_
    refine wH_at _ hp_ hq_ ?_
    refine wH_seq ?_
    refine wH_region ?_
    refine h_op (gV n_11 2 s_8.1) (wt rfl) rfl ?_
    refine h_op (gV n_11 2 s_8.1) (wt rfl) rfl ?_
    refine h_nil ?_
    refine wH_frozg 0 rfl ?_
    refine wH_cog 4 0 rfl rfl ?_
    refine wH_cog 5 0 rfl rfl ?_
    refine wH_cog 87 0 rfl rfl ?_
    replace hF := some_inj hF
    subst hF
    refine wH_ret ?_
    exact fin0 (.inr rfl) [(vL Run.enc s_8.1)] ⟨rfl, trivial⟩ rfl rfl rfl
theorem slices_Equal_screen_run_screen_run_ok {s1_1 : (List Run)} {s2_2 : (List Run)} {r : Bool} (hF : slices_Equal_screen_run_screen_run s1_1 s2_2 = some r) :
    FnM Tryz.prog 87 [(vL Run.enc s1_1), (vL Run.enc s2_2)] [] (vB r) [] := by
  refine FnM.of_wH ⟨Tryz.prog, 26, [], []⟩ rfl Tryz.func87 rfl rfl (Nat.le_of_ble_eq_true rfl) (by kernel_rfl) ?_
  unfold slices_Equal_screen_run_screen_run at hF
  refine wH_seq ?_
  refine wH_region ?_
  refine h_op (vB false) (wt rfl) rfl ?_
  refine h_nil ?_
  refine wH_seq ?_
  refine wH_seq ?_
  refine wH_region ?_
  refine h_op (vL Run.enc s1_1) (wt rfl) rfl ?_
  refine h_len un116 rfl (wt rfl) ?_
  refine h_op (vL Run.enc s2_2) (wt rfl) rfl ?_
  refine h_len un116 rfl (wt rfl) ?_
  refine h_op (vB ((s1_1.length : Int) != (s2_2.length : Int))) (wt rfl) rfl ?_
  refine h_nil ?_
  rcases cond_some hF with ⟨hc_3, hF⟩ | ⟨hc_3, hF⟩
  · refine wH_ift rfl hc_3 ?_
    refine wH_seq ?_
    refine wH_region ?_
    refine h_op (vB false) (wt rfl) rfl ?_
    refine h_nil ?_
    replace hF := some_inj hF
    subst hF
    refine wH_ret ?_
    exact fin0 (.inr rfl) [(vB false)] ⟨rfl, trivial⟩ rfl rfl rfl
  · refine wH_iff rfl hc_3 ?_
    refine wH_skip ?_
    refine wH_seq ?_
    refine wH_seq ?_
    refine wH_region ?_
    refine h_op (vL Run.enc s1_1) (wt rfl) rfl ?_
    refine h_len un116 rfl (wt rfl) ?_
    refine h_op (vI 0) (wt rfl) rfl ?_
    refine h_nil ?_
    obtain ⟨o_12, hj_13, hF⟩ := bind_some hF
    obtain ⟨hn_8, hj_13⟩ := forL_some hj_13
    refine wH_join (β := (Unit)) (fun (s_9 : Unit) => ([] : List (Nat × V))) (fun (s_9 : Unit) => ([] : Hp)) (fun p => o_12 = .go p) ?_ ?_
    · refine wH_block ?_
      refine wH_loop (β := Nat × (List Run) × (Unit)) (fun p => (fun (k_4 : Nat) (l_5 : List Run) (s_9 : Unit) => ([(0, (vL Run.enc s1_1)), (1, (vL Run.enc s2_2)), (12, (vI (s1_1.length : Int))), (13, (vI (k_4 : Int)))] : List (Nat × V))) p.1 p.2.1 p.2.2) (fun p => (fun (k_4 : Nat) (l_5 : List Run) (s_9 : Unit) => ([] : Hp)) p.1 p.2.1 p.2.2) (fun p => forR (fun k x s => slices_Equal_screen_run_screen_run_L1 s2_2 k x s) p.2.1 p.1 p.2.2 = some o_12 ∧ (s1_1).drop p.1 = p.2.1) (fun p => p.2.1.length) (0, s1_1, ()) ⟨hj_13, rfl⟩ rfl (pre_r rfl) ?_
      rintro ⟨k_4, l_5, s_9⟩ ⟨hL_11, hD_7⟩
      dsimp only at hL_11 hD_7
      cases l_5 with
      | nil =>
        replace hL_11 := some_inj hL_11
        subst hL_11
        refine wH_seq (wH_region (h_op (vB (decide ((k_4 : Int) < (s1_1.length : Int)))) (wt rfl) rfl (h_nil ?_)))
        refine wH_seq (wH_iff rfl (drop_nil hD_7) (wH_exit ?_))
        exact cut_mk (s_9) rfl rfl (pre_r rfl)
      | cons x_6 l_5 =>
        obtain ⟨c_, hc_10, hL_11⟩ := bind_some hL_11
        refine wH_seq (wH_region (h_op (vB (decide ((k_4 : Int) < (s1_1.length : Int)))) (wt rfl) rfl (h_nil ?_)))
        refine wH_seq (wH_ift rfl (drop_cons hD_7) (wH_skip ?_))
        unfold slices_Equal_screen_run_screen_run_L1 at hc_10
        refine wH_seq ?_
        refine wH_block ?_
        refine wH_seq ?_
        refine wH_region ?_
        refine h_op (vI (k_4 : Int)) (wt rfl) rfl ?_
        refine h_op (vI (k_4 : Int)) (wt rfl) rfl ?_
        refine h_nil ?_
        refine wH_seq ?_
        refine wH_draws ?_
        refine h_op (vL Run.enc s1_1) (wt rfl) rfl ?_
        refine h_op (vI (k_4 : Int)) (wt rfl) rfl ?_
        refine h_ia es116 rfl rfl (drop_idx hD_7) rfl (wt rfl) ?_
        refine h_ldc sz121 ag121 rfl (.d (.agg (Run.enc x_6))) rfl (wt rfl) ?_
        refine h_op (vL Run.enc s2_2) (wt rfl) rfl ?_
        refine h_op (vI (k_4 : Int)) (wt rfl) rfl ?_
        obtain ⟨y_14, hy_15, hc_10⟩ := bind_some hc_10
        refine h_ia es116 rfl rfl hy_15 rfl (wt rfl) ?_
        refine h_ldc sz121 ag121 rfl (.d (.agg (Run.enc y_14))) rfl (wt rfl) ?_
        refine h_op (vB (!((x_6.f_from == y_14.f_from) && ((x_6.f_to == y_14.f_to) && true)))) (wt rfl) (by kernel_rfl) ?_
        refine h_nil ?_
        rcases cond_some hc_10 with ⟨hc_16, hc_10⟩ | ⟨hc_16, hc_10⟩
        · refine wH_ift rfl hc_16 ?_
          refine wH_seq ?_
          refine wH_region ?_
          refine h_op (vB false) (wt rfl) rfl ?_
          refine h_nil ?_
          replace hc_10 := some_inj hc_10
          subst hc_10
          replace hL_11 := some_inj hL_11
          subst hL_11
          replace hF := some_inj hF
          subst hF
          refine wH_ret ?_
          exact fin0 (.inr rfl) [(vB false)] ⟨rfl, trivial⟩ rfl rfl rfl
        · refine wH_iff rfl hc_16 ?_
          refine wH_skip ?_
          refine wH_region ?_
          refine h_opw (w64_next hD_7 hn_8) (wt rfl) rfl ?_
          refine h_op (vI ((k_4 + 1 : Nat) : Int)) (wt rfl) rfl ?_
          refine h_nil ?_
          replace hc_10 := some_inj hc_10
          subst hc_10
          exact loop_mk (k_4 + 1, l_5, ()) ⟨hL_11, drop_next hD_7⟩ (Nat.lt_succ_self _) rfl (pre_r rfl)
    · rintro s_9 ho_ sl_ H_ hp_ hq_
      subst ho_
      refine wH_at _ hp_ hq_ ?_
      refine wH_seq ?_
      refine wH_region ?_
      refine h_op (vB true) (wt rfl) rfl ?_
      refine h_nil ?_
      replace hF := some_inj hF
      subst hF
      refine wH_ret ?_
      exact fin0 (.inr rfl) [(vB true)] ⟨rfl, trivial⟩ rfl rfl rfl
theorem screen_region_ok {l_1 : (List Rect)} {m_2 : (List Rect)} {r : (List Rect)} (hF : screen_region l_1 m_2 = some r) :
    FnM Tryz.prog 64 [(vL Rect.enc l_1), (vL Rect.enc m_2)] [] (vL Rect.enc r) [] := by
  refine FnM.of_wH ⟨Tryz.prog, 88, [], []⟩ rfl Tryz.func64 rfl rfl (Nat.le_of_ble_eq_true rfl) (by kernel_rfl) ?_
  unfold screen_region at hF
  refine wH_seq ?_
  refine wH_region ?_
  refine h_op .nil (wt rfl) rfl ?_
  refine h_nil ?_
  refine wH_seq ?_
  refine wH_region ?_
  refine h_op .nil (wt rfl) rfl ?_
  refine h_nil ?_
  refine wH_seq ?_
  refine wH_seq ?_
  refine wH_region ?_
  refine h_op (vL Rect.enc l_1) (wt rfl) rfl ?_
  refine h_op (vL Rect.enc m_2) (wt rfl) rfl ?_
  refine h_lit (([l_1, m_2] : List (List Rect)).map (eL Rect.enc)) es125 ez125 rfl rfl rfl rfl rfl (wt rfl) ?_
  obtain ⟨r_3, hr_4, hF⟩ := bind_some hF
  refine h_call0 (slices_Concat_api_Rect_api_Rect_ok hr_4) rfl hb82 rfl rfl rfl rfl (wt rfl) ?_
  refine h_len un62 rfl (wt rfl) ?_
  refine h_op (vI 0) (wt rfl) rfl ?_
  refine h_nil ?_
  refine wH_new (fun n_11 => ?_)
  obtain ⟨o_16, hj_17, hF⟩ := bind_some hF
  obtain ⟨hn_9, hj_17⟩ := forL_some hj_17
  refine wH_join (β := ((List Int)) × Nm) (fun p => (fun (s_10 : (List Int)) (n_13 : Nm) => ([(0, (vL Rect.enc l_1)), (1, (vL Rect.enc m_2)), (5, (gV n_13 1 s_10))] : List (Nat × V))) p.1 p.2) (fun p => (fun (s_10 : (List Int)) (n_13 : Nm) => ([(n_13, gB 1 eI s_10)] : Hp)) p.1 p.2) (fun p => o_16 = .go p.1) ?_ ?_
  · refine wH_block ?_
    refine wH_loop (β := Nat × (List Rect) × ((List Int)) × Nm) (fun p => (fun (k_5 : Nat) (l_6 : List Rect) (s_10 : (List Int)) (n_13 : Nm) => ([(0, (vL Rect.enc l_1)), (1, (vL Rect.enc m_2)), (5, (gV n_13 1 s_10)), (19, (vL Rect.enc r_3)), (20, (vI (r_3.length : Int))), (21, (vI (k_5 : Int)))] : List (Nat × V))) p.1 p.2.1 p.2.2.1 p.2.2.2) (fun p => (fun (k_5 : Nat) (l_6 : List Rect) (s_10 : (List Int)) (n_13 : Nm) => ([(n_13, gB 1 eI s_10)] : Hp)) p.1 p.2.1 p.2.2.1 p.2.2.2) (fun p => forR (fun k x s => screen_region_L1 k x s) p.2.1 p.1 p.2.2.1 = some o_16 ∧ (r_3).drop p.1 = p.2.1) (fun p => p.2.1.length) (0, r_3, ([] : List Int), n_11) ⟨hj_17, rfl⟩ rfl (pre_r rfl) ?_
    rintro ⟨k_5, l_6, s_10, n_13⟩ ⟨hL_15, hD_8⟩
    dsimp only at hL_15 hD_8
    cases l_6 with
    | nil =>
      replace hL_15 := some_inj hL_15
      subst hL_15
      refine wH_seq (wH_region (h_op (vB (decide ((k_5 : Int) < (r_3.length : Int)))) (wt rfl) rfl (h_nil ?_)))
      refine wH_seq (wH_iff rfl (drop_nil hD_8) (wH_exit ?_))
      exact cut_mk (s_10, n_13) rfl rfl (pre_r rfl)
    | cons x_7 l_6 =>
      obtain ⟨c_, hc_14, hL_15⟩ := bind_some hL_15
      refine wH_seq (wH_region (h_op (vB (decide ((k_5 : Int) < (r_3.length : Int)))) (wt rfl) rfl (h_nil ?_)))
      refine wH_seq (wH_ift rfl (drop_cons hD_8) (wH_skip ?_))
      unfold screen_region_L1 at hc_14
      refine wH_seq ?_
      refine wH_block ?_
      refine wH_seq ?_
      refine wH_region ?_
      refine h_ia es62 rfl rfl (drop_idx hD_8) rfl (wt rfl) ?_
      refine h_ldc sz49 ag49 rfl (.d (.agg (Rect.enc x_7))) rfl (wt rfl) ?_
      refine h_alloc 0 (.inl rfl) z49 rfl (wt rfl) (fun n_18 => ?_)
      refine h_str 0 (.inl rfl) (fun _ _ _ => trivial) 1 sz49 rfl rfl [(vI x_7.X), (vI x_7.Y), (vI x_7.W), (vI x_7.H)] rfl (wt rfl) ?_
      refine h_nil ?_
      refine wH_region ?_
      refine h_op (gV n_13 1 s_10) (wt rfl) rfl ?_
      refine h_far pl49_1 rfl 1 rfl (wt rfl) ?_
      refine h_ldr 0 1 (.inl rfl) (fun _ _ _ => trivial) sz3 ag3 rfl rfl (vI x_7.Y) rfl (wt rfl) ?_
      refine h_far pl49_1 rfl 1 rfl (wt rfl) ?_
      refine h_ldr 0 1 (.inl rfl) (fun _ _ _ => trivial) sz3 ag3 rfl rfl (vI x_7.Y) rfl (wt rfl) ?_
      refine h_far pl49_3 rfl 3 rfl (wt rfl) ?_
      refine h_ldr 0 1 (.inl rfl) (fun _ _ _ => trivial) sz3 ag3 rfl rfl (vI x_7.H) rfl (wt rfl) ?_
      refine h_op (vI (w64 (x_7.Y + x_7.H))) (wt rfl) rfl ?_
      refine h_lit (([x_7.Y, (w64 (x_7.Y + x_7.H))] : List Int).map eI) es22 ez22 rfl rfl rfl rfl rfl (wt rfl) ?_
      obtain ⟨a_19, hz_20, hc_14⟩ := bind_some hc_14
      refine h_appg 0 (.inl rfl) (fun _ _ _ => trivial) (i := 0) el22 el22 sz3 z3 rfl (by decide) by3 (by decide) (fun _ => rfl) rfl rfl rfl hz_20 (wt rfl) (fun n_21 => ?_)
      refine h_op (gV n_21 1 a_19) (wt rfl) rfl ?_
      refine h_nil ?_
      refine wH_region ?_
      refine h_opw (w64_next hD_8 hn_9) (wt rfl) rfl ?_
      refine h_op (vI ((k_5 + 1 : Nat) : Int)) (wt rfl) rfl ?_
      refine h_nil ?_
      replace hc_14 := some_inj hc_14
      subst hc_14
      exact loop_mk (k_5 + 1, l_6, a_19, n_21) ⟨hL_15, drop_next hD_8⟩ (Nat.lt_succ_self _) rfl (pre_r rfl)
  · rintro ⟨s_10, n_13⟩ ho_ sl_ H_ hp_ hq_
    subst ho_
    refine wH_at _ hp_ hq_ ?_
    refine wH_seq ?_
    refine wH_region ?_
    refine h_op (gV n_13 1 s_10) (wt rfl) rfl ?_
    obtain ⟨r_22, hr_23, hF⟩ := bind_some hF
    obtain ⟨_, hs_24, hF⟩ := bind_some hF
    replace hs_24 := sameL_eq hs_24
    refine h_callv 0 [] 0 0 (.inl rfl) (fun _ _ _ => trivial) (slices_Sort_int_int_v1_ok hr_23) rfl hb83 rfl rfl rfl (by kernel_rfl) rfl (.inl rfl) rfl (by kernel_rfl) (by kernel_rfl) (by kernel_rfl) (by kernel_rfl) rfl (by decide) (by kernel_rfl) gB_ok (gB_ho hs_24) (wt rfl) ([(n_13, gB 1 eI r_22)] : Hp) (by kernel_rfl) ?_
    refine h_re (v' := (gV n_13 1 r_22)) 36 rfl (gV_len hs_24.symm) ?_
    refine h_re (v' := (gV n_13 1 r_22)) 5 rfl (gV_len hs_24.symm) ?_
    refine h_nil ?_
    refine wH_seq ?_
    refine wH_region ?_
    refine h_op (gV n_13 1 r_22) (wt rfl) rfl ?_
    obtain ⟨r_25, hr_26, hF⟩ := bind_some hF
    refine h_callv 0 [] 0 0 (.inl rfl) (fun _ _ _ => trivial) (slices_Compact_int_int_v1_ok hr_26) rfl hb84 rfl rfl rfl (by kernel_rfl) rfl (.inl rfl) rfl (by kernel_rfl) (by kernel_rfl) (by kernel_rfl) (by kernel_rfl) rfl (by decide) (by kernel_rfl) none_ok (fun _ => rfl) (wt rfl) ([(n_13, none)] : Hp) (by kernel_rfl) ?_
    refine h_op (vL eI r_25) (wt rfl) rfl ?_
    refine h_nil ?_
    refine wH_seq ?_
    refine wH_region ?_
    refine h_op .nil (wt rfl) rfl ?_
    refine h_nil ?_
    refine wH_seq ?_
    refine wH_region ?_
    refine h_op .nil (wt rfl) rfl ?_
    refine h_nil ?_
    refine wH_seq ?_
    refine wH_region ?_
    refine h_op (vI 0) (wt rfl) rfl ?_
    refine h_nil ?_
    refine wH_seq ?_
    refine wH_seq ?_
    refine wH_region ?_
    refine h_op (vL eI r_25) (wt rfl) rfl ?_
    refine h_len un22 rfl (wt rfl) ?_
    refine h_op (vI 0) (wt rfl) rfl ?_
    refine h_nil ?_
    refine wH_nilL Run.enc 9 rfl ?_
    refine wH_new (fun n_33 => ?_)
    obtain ⟨o_38, hj_39, hF⟩ := bind_some hF
    obtain ⟨hn_31, hj_39⟩ := forL_some hj_39
    refine wH_join (β := ((List Rect) × (List Run) × Int) × Nm) (fun p => (fun (s_32 : (List Rect) × (List Run) × Int) (n_35 : Nm) => ([(8, (gV n_35 4 s_32.1))] : List (Nat × V))) p.1 p.2) (fun p => (fun (s_32 : (List Rect) × (List Run) × Int) (n_35 : Nm) => ([(n_13, none), (n_35, gB 4 Rect.enc s_32.1)] : Hp)) p.1 p.2) (fun p => o_38 = .go p.1) ?_ ?_
    · refine wH_block ?_
      refine wH_loop (β := Nat × (List Int) × ((List Rect) × (List Run) × Int) × Nm) (fun p => (fun (k_27 : Nat) (l_28 : List Int) (s_32 : (List Rect) × (List Run) × Int) (n_35 : Nm) => ([(0, (vL Rect.enc l_1)), (1, (vL Rect.enc m_2)), (5, (vL eI r_25)), (8, (gV n_35 4 s_32.1)), (9, (vL Run.enc s_32.2.1)), (10, (vI s_32.2.2)), (40, (vL eI r_25)), (41, (vI (r_25.length : Int))), (42, (vI (k_27 : Int)))] : List (Nat × V))) p.1 p.2.1 p.2.2.1 p.2.2.2) (fun p => (fun (k_27 : Nat) (l_28 : List Int) (s_32 : (List Rect) × (List Run) × Int) (n_35 : Nm) => ([(n_13, none), (n_35, gB 4 Rect.enc s_32.1)] : Hp)) p.1 p.2.1 p.2.2.1 p.2.2.2) (fun p => forR (fun k x s => screen_region_L3 r_25 l_1 m_2 k x s) p.2.1 p.1 p.2.2.1 = some o_38 ∧ (r_25).drop p.1 = p.2.1) (fun p => p.2.1.length) (0, r_25, (([] : List Rect), ([] : List Run), 0), n_33) ⟨hj_39, rfl⟩ rfl (pre_r rfl) ?_
      rintro ⟨k_27, l_28, s_32, n_35⟩ ⟨hL_37, hD_30⟩
      dsimp only at hL_37 hD_30
      cases l_28 with
      | nil =>
        replace hL_37 := some_inj hL_37
        subst hL_37
        refine wH_seq (wH_region (h_op (vB (decide ((k_27 : Int) < (r_25.length : Int)))) (wt rfl) rfl (h_nil ?_)))
        refine wH_seq (wH_iff rfl (drop_nil hD_30) (wH_exit ?_))
        exact cut_mk (s_32, n_35) rfl rfl (pre_r rfl)
      | cons x_29 l_28 =>
        obtain ⟨c_, hc_36, hL_37⟩ := bind_some hL_37
        refine wH_seq (wH_region (h_op (vB (decide ((k_27 : Int) < (r_25.length : Int)))) (wt rfl) rfl (h_nil ?_)))
        refine wH_seq (wH_ift rfl (drop_cons hD_30) (wH_skip ?_))
        unfold screen_region_L3 at hc_36
        refine wH_seq ?_
        refine wH_block ?_
        refine wH_seq ?_
        refine wH_region ?_
        refine h_op (vI (k_27 : Int)) (wt rfl) rfl ?_
        refine h_ia es22 rfl rfl (drop_idx hD_30) rfl (wt rfl) ?_
        refine h_ldc sz3 ag3 rfl (vI x_29) rfl (wt rfl) ?_
        refine h_op (vI (k_27 : Int)) (wt rfl) rfl ?_
        refine h_op (vI x_29) (wt rfl) rfl ?_
        refine h_nil ?_
        refine wH_seq ?_
        refine wH_region ?_
        refine h_op .nil (wt rfl) rfl ?_
        refine h_nil ?_
        refine wH_seq ?_
        refine wH_seq ?_
        refine wH_region ?_
        refine h_op (vI (k_27 : Int)) (wt rfl) rfl ?_
        refine h_op (vI (w64 ((k_27 : Int) + 1))) (wt rfl) rfl ?_
        refine h_op (vL eI r_25) (wt rfl) rfl ?_
        refine h_len un22 rfl (wt rfl) ?_
        refine h_op (vB (decide ((w64 ((k_27 : Int) + 1)) < (r_25.length : Int)))) (wt rfl) rfl ?_
        refine h_nil ?_
        refine wH_nilL Run.enc 13 rfl ?_
        obtain ⟨v_42, h_43, hc_36⟩ := bind_some hc_36
        refine wH_join (β := Unit) (fun _ => ([(0, (vL Rect.enc l_1)), (1, (vL Rect.enc m_2)), (5, (vL eI r_25)), (8, (gV n_35 4 s_32.1)), (9, (vL Run.enc s_32.2.1)), (10, (vI s_32.2.2)), (12, (vI x_29)), (13, (vL Run.enc v_42)), (40, (vL eI r_25)), (41, (vI (r_25.length : Int))), (42, (vI (k_27 : Int)))] : List (Nat × V))) (fun _ => ([(n_13, none), (n_35, gB 4 Rect.enc s_32.1)] : Hp)) (fun _ => True) ?_ ?_
        · rcases cond_some h_43 with ⟨hc_44, h_43⟩ | ⟨hc_44, h_43⟩
          · refine wH_ift rfl hc_44 ?_
            refine wH_region ?_
            refine h_op (vL Rect.enc l_1) (wt rfl) rfl ?_
            refine h_op (vI x_29) (wt rfl) rfl ?_
            obtain ⟨r_45, hr_46, h_43⟩ := bind_some h_43
            refine h_call0 (screen_runs_ok hr_46) rfl hb86 rfl rfl rfl rfl (wt rfl) ?_
            refine h_op (vL Rect.enc m_2) (wt rfl) rfl ?_
            refine h_op (vI x_29) (wt rfl) rfl ?_
            obtain ⟨r_47, hr_48, h_43⟩ := bind_some h_43
            refine h_call0 (screen_runs_ok hr_48) rfl hb86 rfl rfl rfl rfl (wt rfl) ?_
            obtain ⟨r_49, hr_50, h_43⟩ := bind_some h_43
            refine h_call0 (screen_less_ok hr_50) rfl hb85 rfl rfl rfl rfl (wt rfl) ?_
            refine h_op (vL Run.enc r_49) (wt rfl) rfl ?_
            refine h_nil ?_
            replace h_43 := some_inj h_43
            subst h_43
            exact cut_mk () trivial rfl (pre_r rfl)
          · refine wH_iff rfl hc_44 ?_
            refine wH_skip ?_
            replace h_43 := some_inj h_43
            subst h_43
            exact cut_mk () trivial rfl (pre_r rfl)
        · rintro ⟨⟩ _ sl_ H_ hp_ hq_
          refine wH_at _ hp_ hq_ ?_
          refine wH_seq ?_
          refine wH_seq ?_
          refine wH_region ?_
          refine h_op (vL Run.enc s_32.2.1) (wt rfl) rfl ?_
          refine h_op (vL Run.enc v_42) (wt rfl) rfl ?_
          obtain ⟨r_51, hr_52, hc_36⟩ := bind_some hc_36
          refine h_call0 (slices_Equal_screen_run_screen_run_ok hr_52) rfl hb87 rfl rfl rfl rfl (wt rfl) ?_
          refine h_nil ?_
          rcases cond_some hc_36 with ⟨hc_53, hc_36⟩ | ⟨hc_53, hc_36⟩
          · refine wH_ift rfl hc_53 ?_
            refine wH_exit ?_
            refine wH_region ?_
            refine h_opw (w64_next hD_30 hn_31) (wt rfl) rfl ?_
            refine h_op (vI ((k_27 + 1 : Nat) : Int)) (wt rfl) rfl ?_
            refine h_nil ?_
            replace hc_36 := some_inj hc_36
            subst hc_36
            exact loop_mk (k_27 + 1, l_28, (s_32.1, s_32.2.1, s_32.2.2), n_35) ⟨hL_37, drop_next hD_30⟩ (Nat.lt_succ_self _) rfl (pre_r rfl)
          · refine wH_iff rfl hc_53 ?_
            refine wH_skip ?_
            refine wH_seq ?_
            refine wH_seq ?_
            refine wH_region ?_
            refine h_op (vL Run.enc s_32.2.1) (wt rfl) rfl ?_
            refine h_len un116 rfl (wt rfl) ?_
            refine h_op (vI 0) (wt rfl) rfl ?_
            refine h_nil ?_
            obtain ⟨o_64, hj_65, hc_36⟩ := bind_some hc_36
            obtain ⟨hn_58, hj_65⟩ := forL_some hj_65
            refine wH_join (β := ((List Rect)) × Nm) (fun p => (fun (s_59 : (List Rect)) (n_61 : Nm) => ([(0, (vL Rect.enc l_1)), (1, (vL Rect.enc m_2)), (5, (vL eI r_25)), (8, (gV n_61 4 s_59)), (12, (vI x_29)), (13, (vL Run.enc v_42)), (40, (vL eI r_25)), (41, (vI (r_25.length : Int))), (42, (vI (k_27 : Int)))] : List (Nat × V))) p.1 p.2) (fun p => (fun (s_59 : (List Rect)) (n_61 : Nm) => ([(n_13, none), (n_61, gB 4 Rect.enc s_59)] : Hp)) p.1 p.2) (fun p => o_64 = .go p.1) ?_ ?_
            · refine wH_block ?_
              refine wH_loop (β := Nat × (List Run) × ((List Rect)) × Nm) (fun p => (fun (k_54 : Nat) (l_55 : List Run) (s_59 : (List Rect)) (n_61 : Nm) => ([(0, (vL Rect.enc l_1)), (1, (vL Rect.enc m_2)), (5, (vL eI r_25)), (8, (gV n_61 4 s_59)), (10, (vI s_32.2.2)), (12, (vI x_29)), (13, (vL Run.enc v_42)), (40, (vL eI r_25)), (41, (vI (r_25.length : Int))), (42, (vI (k_27 : Int))), (62, (vL Run.enc s_32.2.1)), (63, (vI (s_32.2.1.length : Int))), (64, (vI (k_54 : Int)))] : List (Nat × V))) p.1 p.2.1 p.2.2.1 p.2.2.2) (fun p => (fun (k_54 : Nat) (l_55 : List Run) (s_59 : (List Rect)) (n_61 : Nm) => ([(n_13, none), (n_61, gB 4 Rect.enc s_59)] : Hp)) p.1 p.2.1 p.2.2.1 p.2.2.2) (fun p => forR (fun k x s => screen_region_L2 s_32 x_29 k x s) p.2.1 p.1 p.2.2.1 = some o_64 ∧ (s_32.2.1).drop p.1 = p.2.1) (fun p => p.2.1.length) (0, s_32.2.1, s_32.1, n_35) ⟨hj_65, rfl⟩ rfl (pre_r rfl) ?_
              rintro ⟨k_54, l_55, s_59, n_61⟩ ⟨hL_63, hD_57⟩
              dsimp only at hL_63 hD_57
              cases l_55 with
              | nil =>
                replace hL_63 := some_inj hL_63
                subst hL_63
                refine wH_seq (wH_region (h_op (vB (decide ((k_54 : Int) < (s_32.2.1.length : Int)))) (wt rfl) rfl (h_nil ?_)))
                refine wH_seq (wH_iff rfl (drop_nil hD_57) (wH_exit ?_))
                exact cut_mk (s_59, n_61) rfl rfl (pre_r rfl)
              | cons x_56 l_55 =>
                obtain ⟨c_, hc_62, hL_63⟩ := bind_some hL_63
                refine wH_seq (wH_region (h_op (vB (decide ((k_54 : Int) < (s_32.2.1.length : Int)))) (wt rfl) rfl (h_nil ?_)))
                refine wH_seq (wH_ift rfl (drop_cons hD_57) (wH_skip ?_))
                unfold screen_region_L2 at hc_62
                refine wH_seq ?_
                refine wH_block ?_
                refine wH_seq ?_
                refine wH_region ?_
                refine h_ia es116 rfl rfl (drop_idx hD_57) rfl (wt rfl) ?_
                refine h_ldc sz121 ag121 rfl (.d (.agg (Run.enc x_56))) rfl (wt rfl) ?_
                refine h_alloc 0 (.inl rfl) z121 rfl (wt rfl) (fun n_66 => ?_)
                refine h_str 0 (.inl rfl) (fun _ _ _ => trivial) 2 sz121 rfl rfl [(vI x_56.f_from), (vI x_56.f_to)] rfl (wt rfl) ?_
                refine h_nil ?_
                refine wH_region ?_
                refine h_op (gV n_61 4 s_59) (wt rfl) rfl ?_
                refine h_far pl121_0 rfl 0 rfl (wt rfl) ?_
                refine h_ldr 0 2 (.inl rfl) (fun _ _ _ => trivial) sz3 ag3 rfl rfl (vI x_56.f_from) rfl (wt rfl) ?_
                refine h_op (vI s_32.2.2) (wt rfl) rfl ?_
                refine h_far pl121_1 rfl 1 rfl (wt rfl) ?_
                refine h_ldr 0 2 (.inl rfl) (fun _ _ _ => trivial) sz3 ag3 rfl rfl (vI x_56.f_to) rfl (wt rfl) ?_
                refine h_far pl121_0 rfl 0 rfl (wt rfl) ?_
                refine h_ldr 0 2 (.inl rfl) (fun _ _ _ => trivial) sz3 ag3 rfl rfl (vI x_56.f_from) rfl (wt rfl) ?_
                refine h_op (vI (w64 (x_56.f_to - x_56.f_from))) (wt rfl) rfl ?_
                refine h_op (vI x_29) (wt rfl) rfl ?_
                refine h_op (vI s_32.2.2) (wt rfl) rfl ?_
                refine h_op (vI (w64 (x_29 - s_32.2.2))) (wt rfl) rfl ?_
                refine h_op (.d (.agg (Rect.enc (⟨x_56.f_from, s_32.2.2, (w64 (x_56.f_to - x_56.f_from)), (w64 (x_29 - s_32.2.2))⟩ : Rect)))) (wt rfl) (by kernel_rfl) ?_
                refine h_lit (([(⟨x_56.f_from, s_32.2.2, (w64 (x_56.f_to - x_56.f_from)), (w64 (x_29 - s_32.2.2))⟩ : Rect)] : List Rect).map Rect.enc) es62 ez62 rfl rfl rfl rfl rfl (wt rfl) ?_
                obtain ⟨a_67, hz_68, hc_62⟩ := bind_some hc_62
                refine h_appg 0 (.inl rfl) (fun _ _ _ => trivial) (i := 1) el62 el62 sz49 z49 rfl (by decide) by49 (by decide) (fun _ => rfl) rfl rfl rfl hz_68 (wt rfl) (fun n_69 => ?_)
                refine h_op (gV n_69 4 a_67) (wt rfl) rfl ?_
                refine h_nil ?_
                refine wH_region ?_
                refine h_opw (w64_next hD_57 hn_58) (wt rfl) rfl ?_
                refine h_op (vI ((k_54 + 1 : Nat) : Int)) (wt rfl) rfl ?_
                refine h_nil ?_
                replace hc_62 := some_inj hc_62
                subst hc_62
                exact loop_mk (k_54 + 1, l_55, a_67, n_69) ⟨hL_63, drop_next hD_57⟩ (Nat.lt_succ_self _) rfl (pre_r rfl)
            · rintro ⟨s_59, n_61⟩ ho_ sl_ H_ hp_ hq_
              subst ho_
              refine wH_at _ hp_ hq_ ?_
              refine wH_region ?_
              refine h_op (vL Run.enc v_42) (wt rfl) rfl ?_
              refine h_op (vI x_29) (wt rfl) rfl ?_
              refine h_op (vL Run.enc v_42) (wt rfl) rfl ?_
              refine h_op (vI x_29) (wt rfl) rfl ?_
              refine h_nil ?_
              refine wH_region ?_
              refine h_opw (w64_next hD_30 hn_31) (wt rfl) rfl ?_
              refine h_op (vI ((k_27 + 1 : Nat) : Int)) (wt rfl) rfl ?_
              refine h_nil ?_
              replace hc_36 := some_inj hc_36
              subst hc_36
              exact loop_mk (k_27 + 1, l_28, (s_59, v_42, x_29), n_61) ⟨hL_37, drop_next hD_30⟩ (Nat.lt_succ_self _) rfl (pre_r rfl)
    · rintro ⟨s_32, n_35⟩ ho_ sl_ H_ hp_ hq_
      subst ho_
      refine wH_at _ hp_ hq_ ?_
      refine wH_seq ?_
      refine wH_region ?_
      refine h_op (gV n_35 4 s_32.1) (wt rfl) rfl ?_
      refine h_op (gV n_35 4 s_32.1) (wt rfl) rfl ?_
      refine h_nil ?_
      refine wH_frozg 1 rfl ?_
      refine wH_cog 4 1 rfl rfl ?_
      refine wH_cog 8 1 rfl rfl ?_
      refine wH_cog 87 1 rfl rfl ?_
      replace hF := some_inj hF
      subst hF
      refine wH_ret ?_
      exact fin0 (.inr rfl) [(vL Rect.enc s_32.1)] ⟨rfl, trivial⟩ rfl rfl rfl
theorem screen_bounded_ok {l_1 : (List Rect)} {r : (List Rect) × Int} (hF : screen_bounded l_1 = some r) :
    FnM Tryz.prog 63 [(vL Rect.enc l_1)] [] (.tup [(vL Rect.enc r.1), (vI r.2)]) [] := by
  refine FnM.of_wH ⟨Tryz.prog, 8, [], []⟩ rfl Tryz.func63 rfl rfl (Nat.le_of_ble_eq_true rfl) (by kernel_rfl) ?_
  unfold screen_bounded at hF
  refine wH_seq ?_
  refine wH_region ?_
  refine h_op .nil (wt rfl) rfl ?_
  refine h_op (vI 0) (wt rfl) rfl ?_
  refine h_nil ?_
  refine wH_seq ?_
  refine wH_seq ?_
  refine wH_region ?_
  refine h_op (vL Rect.enc l_1) (wt rfl) rfl ?_
  refine h_len un62 rfl (wt rfl) ?_
  refine h_op (vB (decide ((l_1.length : Int) > 2000))) (wt rfl) rfl ?_
  refine h_nil ?_
  rcases cond_some hF with ⟨hc_2, hF⟩ | ⟨hc_2, hF⟩
  · refine wH_ift rfl hc_2 ?_
    refine wH_seq ?_
    refine wH_region ?_
    refine h_op .nil (wt rfl) rfl ?_
    refine h_op (vI 2) (wt rfl) rfl ?_
    refine h_nil ?_
    replace hF := some_inj hF
    subst hF
    refine wH_ret ?_
    exact fin0 (.inr rfl) [.nil, (vI 2)] ⟨rfl, ⟨rfl, trivial⟩⟩ rfl rfl rfl
  · refine wH_iff rfl hc_2 ?_
    refine wH_skip ?_
    refine wH_seq ?_
    refine wH_region ?_
    refine h_op (vL Rect.enc l_1) (wt rfl) rfl ?_
    refine h_op (vL Rect.enc l_1) (wt rfl) rfl ?_
    refine h_op (vI 0) (wt rfl) rfl ?_
    refine h_nil ?_
    replace hF := some_inj hF
    subst hF
    refine wH_ret ?_
    exact fin0 (.inr rfl) [(vL Rect.enc l_1), (vI 0)] ⟨rfl, ⟨rfl, trivial⟩⟩ rfl rfl rfl
theorem screen_Dark_ok {wv_1 : Wall} {r : (List Rect) × Int} (hF : screen_Dark wv_1 = some r) :
    FnM Tryz.prog 25 [(.d (.agg (Wall.enc wv_1)))] [] (.tup [(vL Rect.enc r.1), (vI r.2)]) [] := by
  refine FnM.of_wH ⟨Tryz.prog, 22, [], []⟩ rfl Tryz.func25 rfl rfl (Nat.le_of_ble_eq_true rfl) (by kernel_rfl) ?_
  unfold screen_Dark at hF
  refine wH_seq ?_
  refine wH_region ?_
  refine h_box 0 (.inl rfl) [(vS wv_1.Key), (vI wv_1.W), (vI wv_1.H), (vL Screen.enc wv_1.Screens)] rfl rfl (wt rfl) (fun n_2 => ?_)
  refine h_op .nil (wt rfl) rfl ?_
  refine h_op (vI 0) (wt rfl) rfl ?_
  refine h_nil ?_
  refine wH_seq ?_
  refine wH_seq ?_
  refine wH_region ?_
  refine h_ldr 0 0 (.inl rfl) (fun _ _ _ => trivial) sz58 ag58 rfl rfl (.d (.agg (Wall.enc wv_1))) rfl (wt rfl) ?_
  obtain ⟨r_3, hr_4, hF⟩ := bind_some hF
  refine h_call0 (screen_CheckWall_ok hr_4) rfl hb28 rfl rfl rfl rfl (wt rfl) ?_
  refine h_op (vI r_3) (wt rfl) rfl ?_
  refine h_nil ?_
  refine wH_seq ?_
  refine wH_region ?_
  refine h_op (vI r_3) (wt rfl) rfl ?_
  refine h_op (vB (r_3 != 0)) (wt rfl) rfl ?_
  refine h_nil ?_
  rcases cond_some hF with ⟨hc_5, hF⟩ | ⟨hc_5, hF⟩
  · refine wH_ift rfl hc_5 ?_
    refine wH_seq ?_
    refine wH_region ?_
    refine h_op (vI r_3) (wt rfl) rfl ?_
    refine h_op .nil (wt rfl) rfl ?_
    refine h_op (vI r_3) (wt rfl) rfl ?_
    refine h_nil ?_
    replace hF := some_inj hF
    subst hF
    refine wH_ret ?_
    exact fin0 (.inr rfl) [.nil, (vI r_3)] ⟨rfl, ⟨rfl, trivial⟩⟩ rfl rfl rfl
  · refine wH_iff rfl hc_5 ?_
    refine wH_skip ?_
    refine wH_seq ?_
    refine wH_draws ?_
    refine h_far pl58_1 rfl 1 rfl (wt rfl) ?_
    refine h_ldr 1 0 (.inr (by kernel_rfl)) (fun _ _ ag => trivial) sz3 ag3 rfl rfl (vI wv_1.W) rfl (wt rfl) ?_
    refine h_far pl58_2 rfl 2 rfl (wt rfl) ?_
    refine h_ldr 3 0 (.inr (by kernel_rfl)) (fun _ _ ag => ⟨.inl ⟨rfl, rfl⟩, trivial⟩) sz3 ag3 rfl rfl (vI wv_1.H) rfl (wt rfl) ?_
    refine h_op (.d (.agg (Rect.enc (⟨0, 0, wv_1.W, wv_1.H⟩ : Rect)))) (wt rfl) (by kernel_rfl) ?_
    refine h_lit (([(⟨0, 0, wv_1.W, wv_1.H⟩ : Rect)] : List Rect).map Rect.enc) es62 ez62 rfl rfl rfl rfl rfl (wt rfl) ?_
    refine h_ldr 6 0 (.inr (by kernel_rfl)) (fun _ _ ag => ⟨.inl ⟨rfl, rfl⟩, ⟨.inl ⟨rfl, rfl⟩, trivial⟩⟩) sz58 ag58 rfl rfl (.d (.agg (Wall.enc wv_1))) rfl (wt rfl) ?_
    obtain ⟨r_6, hr_7, hF⟩ := bind_some hF
    refine h_call0 (screen_lit_ok hr_7) rfl hb65 rfl rfl rfl rfl (wt rfl) ?_
    obtain ⟨r_8, hr_9, hF⟩ := bind_some hF
    refine h_call0 (screen_region_ok hr_9) rfl hb64 rfl rfl rfl rfl (wt rfl) ?_
    obtain ⟨r_10, hr_11, hF⟩ := bind_some hF
    refine h_call0 (screen_bounded_ok hr_11) rfl hb63 rfl rfl rfl rfl (wt rfl) ?_
    refine h_op (vL Rect.enc r_10.1) (wt rfl) rfl ?_
    refine h_op (vI r_10.2) (wt rfl) rfl ?_
    refine h_op (vL Rect.enc r_10.1) (wt rfl) rfl ?_
    refine h_op (vI r_10.2) (wt rfl) rfl ?_
    refine h_nil ?_
    replace hF := some_inj hF
    subst hF
    refine wH_ret ?_
    exact fin0 (.inr rfl) [(vL Rect.enc r_10.1), (vI r_10.2)] ⟨rfl, ⟨rfl, trivial⟩⟩ rfl rfl rfl
theorem screen_moved_ok {r_1 : Rect} {byv_2 : Rect} {r : Rect} (hF : screen_moved r_1 byv_2 = some r) :
    FnM Tryz.prog 67 [(.d (.agg (Rect.enc r_1))), (.d (.agg (Rect.enc byv_2)))] [] (.d (.agg (Rect.enc r))) [] := by
  refine FnM.of_wH ⟨Tryz.prog, 20, [], []⟩ rfl Tryz.func67 rfl rfl (Nat.le_of_ble_eq_true rfl) (by kernel_rfl) ?_
  unfold screen_moved at hF
  refine wH_seq ?_
  refine wH_region ?_
  refine h_box 0 (.inl rfl) [(vI r_1.X), (vI r_1.Y), (vI r_1.W), (vI r_1.H)] rfl rfl (wt rfl) (fun n_3 => ?_)
  refine h_box 0 (.inl rfl) [(vI byv_2.X), (vI byv_2.Y), (vI byv_2.W), (vI byv_2.H)] rfl rfl (wt rfl) (fun n_4 => ?_)
  refine h_alloc 0 (.inl rfl) z49 rfl (wt rfl) (fun n_5 => ?_)
  refine h_nil ?_
  refine wH_seq ?_
  refine wH_region ?_
  refine h_far pl49_0 rfl 0 rfl (wt rfl) ?_
  refine h_ldr 0 0 (.inl rfl) (fun _ _ _ => trivial) sz3 ag3 rfl rfl (vI r_1.X) rfl (wt rfl) ?_
  refine h_far pl49_0 rfl 0 rfl (wt rfl) ?_
  refine h_ldr 0 1 (.inl rfl) (fun _ _ _ => trivial) sz3 ag3 rfl rfl (vI byv_2.X) rfl (wt rfl) ?_
  refine h_op (vI (w64 (r_1.X - byv_2.X))) (wt rfl) rfl ?_
  refine h_far pl49_1 rfl 1 rfl (wt rfl) ?_
  refine h_ldr 0 0 (.inl rfl) (fun _ _ _ => trivial) sz3 ag3 rfl rfl (vI r_1.Y) rfl (wt rfl) ?_
  refine h_far pl49_1 rfl 1 rfl (wt rfl) ?_
  refine h_ldr 0 1 (.inl rfl) (fun _ _ _ => trivial) sz3 ag3 rfl rfl (vI byv_2.Y) rfl (wt rfl) ?_
  refine h_op (vI (w64 (r_1.Y - byv_2.Y))) (wt rfl) rfl ?_
  refine h_far pl49_2 rfl 2 rfl (wt rfl) ?_
  refine h_ldr 0 0 (.inl rfl) (fun _ _ _ => trivial) sz3 ag3 rfl rfl (vI r_1.W) rfl (wt rfl) ?_
  refine h_far pl49_3 rfl 3 rfl (wt rfl) ?_
  refine h_ldr 0 0 (.inl rfl) (fun _ _ _ => trivial) sz3 ag3 rfl rfl (vI r_1.H) rfl (wt rfl) ?_
  refine h_op (.d (.agg (Rect.enc (⟨(w64 (r_1.X - byv_2.X)), (w64 (r_1.Y - byv_2.Y)), r_1.W, r_1.H⟩ : Rect)))) (wt rfl) (by kernel_rfl) ?_
  refine h_str 0 (.inl rfl) (fun _ _ _ => trivial) 2 sz49 rfl rfl [(vI (w64 (r_1.X - byv_2.X))), (vI (w64 (r_1.Y - byv_2.Y))), (vI r_1.W), (vI r_1.H)] rfl (wt rfl) ?_
  refine h_nil ?_
  replace hF := some_inj hF
  subst hF
  refine wH_ret ?_
  exact fin0 (.inr rfl) [(.d (.agg (Rect.enc (⟨(w64 (r_1.X - byv_2.X)), (w64 (r_1.Y - byv_2.Y)), r_1.W, r_1.H⟩ : Rect))))] ⟨⟨2, _, _, _, _, _, _, _, rfl, rfl, sz49, ag49, rfl⟩, trivial⟩ rfl rfl rfl
theorem screen_Parts_ok {wv_1 : Wall} {r_2 : Rect} {r : (List Patch) × Int} (hF : screen_Parts wv_1 r_2 = some r) :
    FnM Tryz.prog 26 [(.d (.agg (Wall.enc wv_1))), (.d (.agg (Rect.enc r_2)))] [] (.tup [(vL Patch.enc r.1), (vI r.2)]) [] := by
  refine FnM.of_wH ⟨Tryz.prog, 53, [], []⟩ rfl Tryz.func26 rfl rfl (Nat.le_of_ble_eq_true rfl) (by kernel_rfl) ?_
  unfold screen_Parts at hF
  refine wH_seq ?_
  refine wH_region ?_
  refine h_box 0 (.inl rfl) [(vS wv_1.Key), (vI wv_1.W), (vI wv_1.H), (vL Screen.enc wv_1.Screens)] rfl rfl (wt rfl) (fun n_3 => ?_)
  refine h_box 0 (.inl rfl) [(vI r_2.X), (vI r_2.Y), (vI r_2.W), (vI r_2.H)] rfl rfl (wt rfl) (fun n_4 => ?_)
  refine h_op .nil (wt rfl) rfl ?_
  refine h_op (vI 0) (wt rfl) rfl ?_
  refine h_nil ?_
  refine wH_seq ?_
  refine wH_seq ?_
  refine wH_region ?_
  refine h_ldr 0 0 (.inl rfl) (fun _ _ _ => trivial) sz58 ag58 rfl rfl (.d (.agg (Wall.enc wv_1))) rfl (wt rfl) ?_
  obtain ⟨r_5, hr_6, hF⟩ := bind_some hF
  refine h_call0 (screen_CheckWall_ok hr_6) rfl hb28 rfl rfl rfl rfl (wt rfl) ?_
  refine h_op (vI r_5) (wt rfl) rfl ?_
  refine h_nil ?_
  refine wH_seq ?_
  refine wH_region ?_
  refine h_op (vI r_5) (wt rfl) rfl ?_
  refine h_op (vB (r_5 != 0)) (wt rfl) rfl ?_
  refine h_nil ?_
  rcases cond_some hF with ⟨hc_7, hF⟩ | ⟨hc_7, hF⟩
  · refine wH_ift rfl hc_7 ?_
    refine wH_seq ?_
    refine wH_region ?_
    refine h_op (vI r_5) (wt rfl) rfl ?_
    refine h_op .nil (wt rfl) rfl ?_
    refine h_op (vI r_5) (wt rfl) rfl ?_
    refine h_nil ?_
    replace hF := some_inj hF
    subst hF
    refine wH_ret ?_
    exact fin0 (.inr rfl) [.nil, (vI r_5)] ⟨rfl, ⟨rfl, trivial⟩⟩ rfl rfl rfl
  · refine wH_iff rfl hc_7 ?_
    refine wH_skip ?_
    refine wH_seq ?_
    refine wH_seq ?_
    refine wH_region ?_
    refine h_ldr 0 1 (.inl rfl) (fun _ _ _ => trivial) sz49 ag49 rfl rfl (.d (.agg (Rect.enc r_2))) rfl (wt rfl) ?_
    obtain ⟨r_8, hr_9, hF⟩ := bind_some hF
    refine h_call0 (screen_CheckRect_ok hr_9) rfl hb51 rfl rfl rfl rfl (wt rfl) ?_
    refine h_op (vI r_8) (wt rfl) rfl ?_
    refine h_nil ?_
    refine wH_seq ?_
    refine wH_region ?_
    refine h_op (vI r_8) (wt rfl) rfl ?_
    refine h_op (vB (r_8 != 0)) (wt rfl) rfl ?_
    refine h_nil ?_
    rcases cond_some hF with ⟨hc_10, hF⟩ | ⟨hc_10, hF⟩
    · refine wH_ift rfl hc_10 ?_
      refine wH_seq ?_
      refine wH_region ?_
      refine h_op (vI r_8) (wt rfl) rfl ?_
      refine h_op .nil (wt rfl) rfl ?_
      refine h_op (vI r_8) (wt rfl) rfl ?_
      refine h_nil ?_
      replace hF := some_inj hF
      subst hF
      refine wH_ret ?_
      exact fin0 (.inr rfl) [.nil, (vI r_8)] ⟨rfl, ⟨rfl, trivial⟩⟩ rfl rfl rfl
    · refine wH_iff rfl hc_10 ?_
      refine wH_skip ?_
      refine wH_seq ?_
      refine wH_region ?_
      refine h_op .nil (wt rfl) rfl ?_
      refine h_nil ?_
      refine wH_seq ?_
      refine wH_seq ?_
      refine wH_region ?_
      refine h_far pl58_3 rfl 3 rfl (wt rfl) ?_
      refine h_ldr 0 0 (.inl rfl) (fun _ _ _ => trivial) sz56 ag56 rfl rfl (vL Screen.enc wv_1.Screens) rfl (wt rfl) ?_
      refine h_len un56 rfl (wt rfl) ?_
      refine h_op (vI 0) (wt rfl) rfl ?_
      refine h_nil ?_
      refine wH_new (fun n_17 => ?_)
      obtain ⟨o_22, hj_23, hF⟩ := bind_some hF
      obtain ⟨hn_15, hj_23⟩ := forL_some hj_23
      refine wH_join (β := ((List Patch)) × Nm) (fun p => (fun (s_16 : (List Patch)) (n_19 : Nm) => ([(8, (gV n_19 9 s_16))] : List (Nat × V))) p.1 p.2) (fun p => (fun (s_16 : (List Patch)) (n_19 : Nm) => ([(n_3, some (.cells 4 [(vS wv_1.Key), (vI wv_1.W), (vI wv_1.H), (vL Screen.enc wv_1.Screens)])), (n_4, some (.cells 4 [(vI r_2.X), (vI r_2.Y), (vI r_2.W), (vI r_2.H)])), (n_19, gB 9 Patch.enc s_16)] : Hp)) p.1 p.2) (fun p => o_22 = .go p.1) ?_ ?_
      · refine wH_block ?_
        refine wH_loop (β := Nat × (List Screen) × ((List Patch)) × Nm) (fun p => (fun (k_11 : Nat) (l_12 : List Screen) (s_16 : (List Patch)) (n_19 : Nm) => ([(3, (.ref n_4 0 0)), (8, (gV n_19 9 s_16)), (24, (vL Screen.enc wv_1.Screens)), (25, (vI (wv_1.Screens.length : Int))), (26, (vI (k_11 : Int)))] : List (Nat × V))) p.1 p.2.1 p.2.2.1 p.2.2.2) (fun p => (fun (k_11 : Nat) (l_12 : List Screen) (s_16 : (List Patch)) (n_19 : Nm) => ([(n_3, some (.cells 4 [(vS wv_1.Key), (vI wv_1.W), (vI wv_1.H), (vL Screen.enc wv_1.Screens)])), (n_4, some (.cells 4 [(vI r_2.X), (vI r_2.Y), (vI r_2.W), (vI r_2.H)])), (n_19, gB 9 Patch.enc s_16)] : Hp)) p.1 p.2.1 p.2.2.1 p.2.2.2) (fun p => forR (fun k x s => screen_Parts_L1 r_2 k x s) p.2.1 p.1 p.2.2.1 = some o_22 ∧ (wv_1.Screens).drop p.1 = p.2.1) (fun p => p.2.1.length) (0, wv_1.Screens, ([] : List Patch), n_17) ⟨hj_23, rfl⟩ rfl (pre_r rfl) ?_
        rintro ⟨k_11, l_12, s_16, n_19⟩ ⟨hL_21, hD_14⟩
        dsimp only at hL_21 hD_14
        cases l_12 with
        | nil =>
          replace hL_21 := some_inj hL_21
          subst hL_21
          refine wH_seq (wH_region (h_op (vB (decide ((k_11 : Int) < (wv_1.Screens.length : Int)))) (wt rfl) rfl (h_nil ?_)))
          refine wH_seq (wH_iff rfl (drop_nil hD_14) (wH_exit ?_))
          exact cut_mk (s_16, n_19) rfl rfl (pre_r rfl)
        | cons x_13 l_12 =>
          obtain ⟨c_, hc_20, hL_21⟩ := bind_some hL_21
          refine wH_seq (wH_region (h_op (vB (decide ((k_11 : Int) < (wv_1.Screens.length : Int)))) (wt rfl) rfl (h_nil ?_)))
          refine wH_seq (wH_ift rfl (drop_cons hD_14) (wH_skip ?_))
          unfold screen_Parts_L1 at hc_20
          refine wH_seq ?_
          refine wH_block ?_
          refine wH_seq ?_
          refine wH_region ?_
          refine h_ia es56 rfl rfl (drop_idx hD_14) rfl (wt rfl) ?_
          refine h_ldc sz99 ag99 rfl (.d (.agg (Screen.enc x_13))) rfl (wt rfl) ?_
          refine h_alloc 0 (.inl rfl) z99 rfl (wt rfl) (fun n_24 => ?_)
          refine h_str 0 (.inl rfl) (fun _ _ _ => trivial) 3 sz99 rfl rfl [(vS x_13.Key), (vI x_13.On.X), (vI x_13.On.Y), (vI x_13.On.W), (vI x_13.On.H)] rfl (wt rfl) ?_
          refine h_nil ?_
          refine wH_seq ?_
          refine wH_region ?_
          refine h_far pl99_1 rfl 1 rfl (wt rfl) ?_
          refine h_ldr 0 3 (.inl rfl) (fun _ _ _ => trivial) sz49 ag49 rfl rfl (.d (.agg (Rect.enc x_13.On))) rfl (wt rfl) ?_
          refine h_ldr 0 1 (.inl rfl) (fun _ _ _ => trivial) sz49 ag49 rfl rfl (.d (.agg (Rect.enc r_2))) rfl (wt rfl) ?_
          obtain ⟨r_25, hr_26, hc_20⟩ := bind_some hc_20
          refine h_call0 (screen_meet_ok hr_26) rfl hb66 rfl rfl rfl rfl (wt rfl) ?_
          refine h_op (.tup [(.d (.agg (Rect.enc r_25.1))), (vB r_25.2)]) (wt rfl) rfl ?_
          refine h_op (.d (.agg (Rect.enc r_25.1))) (wt rfl) rfl ?_
          refine h_op (vB r_25.2) (wt rfl) rfl ?_
          refine h_alloc 0 (.inl rfl) z49 rfl (wt rfl) (fun n_27 => ?_)
          refine h_str 0 (.inl rfl) (fun _ _ _ => trivial) 4 sz49 rfl rfl [(vI r_25.1.X), (vI r_25.1.Y), (vI r_25.1.W), (vI r_25.1.H)] rfl (wt rfl) ?_
          refine h_op (vB r_25.2) (wt rfl) rfl ?_
          refine h_nil ?_
          refine wH_seq ?_
          refine wH_region ?_
          refine h_op (vB r_25.2) (wt rfl) rfl ?_
          refine h_nil ?_
          obtain ⟨v_28, h_29, hc_20⟩ := bind_some hc_20
          refine wH_join (β := Nm) (fun (n_30 : Nm) => ([(3, (.ref n_4 0 0)), (8, (gV n_30 9 v_28)), (24, (vL Screen.enc wv_1.Screens)), (25, (vI (wv_1.Screens.length : Int))), (26, (vI (k_11 : Int)))] : List (Nat × V))) (fun (n_30 : Nm) => ([(n_3, some (.cells 4 [(vS wv_1.Key), (vI wv_1.W), (vI wv_1.H), (vL Screen.enc wv_1.Screens)])), (n_4, some (.cells 4 [(vI r_2.X), (vI r_2.Y), (vI r_2.W), (vI r_2.H)])), (n_30, gB 9 Patch.enc v_28), (n_24, some (.cells 5 [(vS x_13.Key), (vI x_13.On.X), (vI x_13.On.Y), (vI x_13.On.W), (vI x_13.On.H)])), (n_27, some (.cells 4 [(vI r_25.1.X), (vI r_25.1.Y), (vI r_25.1.W), (vI r_25.1.H)]))] : Hp)) (fun _ => True) ?_ ?_
          · rcases cond_some h_29 with ⟨hc_31, h_29⟩ | ⟨hc_31, h_29⟩
            · refine wH_ift rfl hc_31 ?_
              refine wH_draws ?_
              refine h_op (gV n_19 9 s_16) (wt rfl) rfl ?_
              refine h_far pl99_0 rfl 0 rfl (wt rfl) ?_
              refine h_ldr 2 3 (.inr (by kernel_rfl)) (fun _ _ ag => trivial) sz9 ag9 rfl rfl (vS x_13.Key) rfl (wt rfl) ?_
              refine h_ldr 3 4 (.inr (by kernel_rfl)) (fun _ _ ag => ⟨.inl ⟨rfl, rfl⟩, trivial⟩) sz49 ag49 rfl rfl (.d (.agg (Rect.enc r_25.1))) rfl (wt rfl) ?_
              refine h_far pl99_1 rfl 1 rfl (wt rfl) ?_
              refine h_ldr 5 3 (.inr (by kernel_rfl)) (fun _ _ ag => ⟨.inl ⟨rfl, rfl⟩, ⟨.inl ⟨rfl, rfl⟩, trivial⟩⟩) sz49 ag49 rfl rfl (.d (.agg (Rect.enc x_13.On))) rfl (wt rfl) ?_
              obtain ⟨r_32, hr_33, h_29⟩ := bind_some h_29
              refine h_call0 (screen_moved_ok hr_33) rfl hb67 rfl rfl rfl rfl (wt rfl) ?_
              refine h_ldr 7 4 (.inr (by kernel_rfl)) (fun _ _ ag => ⟨.inl ⟨rfl, rfl⟩, ⟨.inl ⟨rfl, rfl⟩, ⟨.inl ⟨rfl, rfl⟩, trivial⟩⟩⟩) sz49 ag49 rfl rfl (.d (.agg (Rect.enc r_25.1))) rfl (wt rfl) ?_
              refine h_ldr 8 1 (.inr (by kernel_rfl)) (fun _ _ ag => ⟨.inl ⟨rfl, rfl⟩, ⟨.inl ⟨rfl, rfl⟩, ⟨.inl ⟨rfl, rfl⟩, ⟨.inl ⟨rfl, rfl⟩, trivial⟩⟩⟩⟩) sz49 ag49 rfl rfl (.d (.agg (Rect.enc r_2))) rfl (wt rfl) ?_
              obtain ⟨r_34, hr_35, h_29⟩ := bind_some h_29
              refine h_call0 (screen_moved_ok hr_35) rfl hb67 rfl rfl rfl rfl (wt rfl) ?_
              refine h_op (.d (.agg (Patch.enc (⟨x_13.Key, r_32, r_34⟩ : Patch)))) (wt rfl) (by kernel_rfl) ?_
              refine h_lit (([(⟨x_13.Key, r_32, r_34⟩ : Patch)] : List Patch).map Patch.enc) es65 ez65 rfl rfl rfl rfl rfl (wt rfl) ?_
              obtain ⟨a_36, hz_37, h_29⟩ := bind_some h_29
              refine h_appg 12 (.inr (by kernel_rfl)) (fun _ _ ag => ⟨.inr (.inr (by kernel_rfl)), ⟨.inr (.inr (by kernel_rfl)), ⟨.inr (.inr (by kernel_rfl)), ⟨.inr (.inr (by kernel_rfl)), ⟨.inr (.inr (by kernel_rfl)), trivial⟩⟩⟩⟩⟩) (i := 2) el65 el65 sz76 z76 rfl (by decide) by76 (by decide) (fun _ => rfl) rfl rfl rfl hz_37 (wt rfl) (fun n_38 => ?_)
              refine h_op (gV n_38 9 a_36) (wt rfl) rfl ?_
              refine h_nil ?_
              replace h_29 := some_inj h_29
              subst h_29
              exact cut_mk n_38 trivial rfl (pre_r rfl)
            · refine wH_iff rfl hc_31 ?_
              refine wH_skip ?_
              replace h_29 := some_inj h_29
              subst h_29
              exact cut_mk n_19 trivial rfl (pre_r rfl)
          · rintro n_30 _ sl_ H_ hp_ hq_
            refine wH_at _ hp_ hq_ ?_
            refine wH_region ?_
            refine h_opw (w64_next hD_14 hn_15) (wt rfl) rfl ?_
            refine h_op (vI ((k_11 + 1 : Nat) : Int)) (wt rfl) rfl ?_
            refine h_nil ?_
            replace hc_20 := some_inj hc_20
            subst hc_20
            exact loop_mk (k_11 + 1, l_12, v_28, n_30) ⟨hL_21, drop_next hD_14⟩ (Nat.lt_succ_self _) rfl (pre_r rfl)
      · rintro ⟨s_16, n_19⟩ ho_ sl_ H_ hp_ hq_
        subst ho_
        refine wH_at _ hp_ hq_ ?_
        refine wH_seq ?_
        refine wH_region ?_
        refine h_op (gV n_19 9 s_16) (wt rfl) rfl ?_
        refine h_op (gV n_19 9 s_16) (wt rfl) rfl ?_
        refine h_op (vI 0) (wt rfl) rfl ?_
        refine h_nil ?_
        refine wH_frozg 2 rfl ?_
        refine wH_cog 4 2 rfl rfl ?_
        refine wH_cog 8 2 rfl rfl ?_
        refine wH_cog 52 2 rfl rfl ?_
        replace hF := some_inj hF
        subst hF
        refine wH_ret ?_
        exact fin0 (.inr rfl) [(vL Patch.enc s_16), (vI 0)] ⟨rfl, ⟨rfl, trivial⟩⟩ rfl rfl rfl
theorem law_when_ok {is_1 : Bool} {e_2 : Int} {r : Int} (hF : law_when is_1 e_2 = some r) :
    FnM Tryz.prog 15 [(vB is_1), (vI e_2)] [] (vI r) [] := by
  refine FnM.of_wH ⟨Tryz.prog, 7, [], []⟩ rfl Tryz.func15 rfl rfl (Nat.le_of_ble_eq_true rfl) (by kernel_rfl) ?_
  unfold law_when at hF
  refine wH_seq ?_
  refine wH_region ?_
  refine h_op (vI 0) (wt rfl) rfl ?_
  refine h_nil ?_
  refine wH_seq ?_
  refine wH_seq ?_
  refine wH_region ?_
  refine h_op (vB is_1) (wt rfl) rfl ?_
  refine h_nil ?_
  rcases cond_some hF with ⟨hc_3, hF⟩ | ⟨hc_3, hF⟩
  · refine wH_ift rfl hc_3 ?_
    refine wH_seq ?_
    refine wH_region ?_
    refine h_op (vI e_2) (wt rfl) rfl ?_
    refine h_op (vI e_2) (wt rfl) rfl ?_
    refine h_nil ?_
    replace hF := some_inj hF
    subst hF
    refine wH_ret ?_
    exact fin0 (.inr rfl) [(vI e_2)] ⟨rfl, trivial⟩ rfl rfl rfl
  · refine wH_iff rfl hc_3 ?_
    refine wH_skip ?_
    refine wH_seq ?_
    refine wH_region ?_
    refine h_op (vI 0) (wt rfl) rfl ?_
    refine h_nil ?_
    replace hF := some_inj hF
    subst hF
    refine wH_ret ?_
    exact fin0 (.inr rfl) [(vI 0)] ⟨rfl, trivial⟩ rfl rfl rfl
theorem law_errs_ok {l_1 : (List Int)} {r : Int} (hF : law_errs l_1 = some r) :
    FnM Tryz.prog 14 [(vL eI l_1)] [] (vI r) [] := by
  refine FnM.of_wH ⟨Tryz.prog, 15, [], []⟩ rfl Tryz.func14 rfl rfl (Nat.le_of_ble_eq_true rfl) (by kernel_rfl) ?_
  unfold law_errs at hF
  refine wH_seq ?_
  refine wH_region ?_
  refine h_op (vI 0) (wt rfl) rfl ?_
  refine h_nil ?_
  refine wH_seq ?_
  refine wH_seq ?_
  refine wH_region ?_
  refine h_op (vL eI l_1) (wt rfl) rfl ?_
  refine h_len un90 rfl (wt rfl) ?_
  refine h_op (vI 0) (wt rfl) rfl ?_
  refine h_nil ?_
  obtain ⟨o_10, hj_11, hF⟩ := bind_some hF
  obtain ⟨hn_6, hj_11⟩ := forL_some hj_11
  refine wH_join (β := (Unit)) (fun (s_7 : Unit) => ([] : List (Nat × V))) (fun (s_7 : Unit) => ([] : Hp)) (fun p => o_10 = .go p) ?_ ?_
  · refine wH_block ?_
    refine wH_loop (β := Nat × (List Int) × (Unit)) (fun p => (fun (k_2 : Nat) (l_3 : List Int) (s_7 : Unit) => ([(5, (vL eI l_1)), (6, (vI (l_1.length : Int))), (7, (vI (k_2 : Int)))] : List (Nat × V))) p.1 p.2.1 p.2.2) (fun p => (fun (k_2 : Nat) (l_3 : List Int) (s_7 : Unit) => ([] : Hp)) p.1 p.2.1 p.2.2) (fun p => forR (fun k x s => law_errs_L1 k x s) p.2.1 p.1 p.2.2 = some o_10 ∧ (l_1).drop p.1 = p.2.1) (fun p => p.2.1.length) (0, l_1, ()) ⟨hj_11, rfl⟩ rfl (pre_r rfl) ?_
    rintro ⟨k_2, l_3, s_7⟩ ⟨hL_9, hD_5⟩
    dsimp only at hL_9 hD_5
    cases l_3 with
    | nil =>
      replace hL_9 := some_inj hL_9
      subst hL_9
      refine wH_seq (wH_region (h_op (vB (decide ((k_2 : Int) < (l_1.length : Int)))) (wt rfl) rfl (h_nil ?_)))
      refine wH_seq (wH_iff rfl (drop_nil hD_5) (wH_exit ?_))
      exact cut_mk (s_7) rfl rfl (pre_r rfl)
    | cons x_4 l_3 =>
      obtain ⟨c_, hc_8, hL_9⟩ := bind_some hL_9
      refine wH_seq (wH_region (h_op (vB (decide ((k_2 : Int) < (l_1.length : Int)))) (wt rfl) rfl (h_nil ?_)))
      refine wH_seq (wH_ift rfl (drop_cons hD_5) (wH_skip ?_))
      unfold law_errs_L1 at hc_8
      refine wH_seq ?_
      refine wH_block ?_
      refine wH_seq ?_
      refine wH_region ?_
      refine h_ia es90 rfl rfl (drop_idx hD_5) rfl (wt rfl) ?_
      refine h_ldc sz32 ag32 rfl (vI x_4) rfl (wt rfl) ?_
      refine h_op (vI x_4) (wt rfl) rfl ?_
      refine h_nil ?_
      refine wH_seq ?_
      refine wH_region ?_
      refine h_op (vI x_4) (wt rfl) rfl ?_
      refine h_op (vB (x_4 != 0)) (wt rfl) rfl ?_
      refine h_nil ?_
      rcases cond_some hc_8 with ⟨hc_12, hc_8⟩ | ⟨hc_12, hc_8⟩
      · refine wH_ift rfl hc_12 ?_
        refine wH_seq ?_
        refine wH_region ?_
        refine h_op (vI x_4) (wt rfl) rfl ?_
        refine h_op (vI x_4) (wt rfl) rfl ?_
        refine h_nil ?_
        replace hc_8 := some_inj hc_8
        subst hc_8
        replace hL_9 := some_inj hL_9
        subst hL_9
        replace hF := some_inj hF
        subst hF
        refine wH_ret ?_
        exact fin0 (.inr rfl) [(vI x_4)] ⟨rfl, trivial⟩ rfl rfl rfl
      · refine wH_iff rfl hc_12 ?_
        refine wH_skip ?_
        refine wH_region ?_
        refine h_opw (w64_next hD_5 hn_6) (wt rfl) rfl ?_
        refine h_op (vI ((k_2 + 1 : Nat) : Int)) (wt rfl) rfl ?_
        refine h_nil ?_
        replace hc_8 := some_inj hc_8
        subst hc_8
        exact loop_mk (k_2 + 1, l_3, ()) ⟨hL_9, drop_next hD_5⟩ (Nat.lt_succ_self _) rfl (pre_r rfl)
  · rintro s_7 ho_ sl_ H_ hp_ hq_
    subst ho_
    refine wH_at _ hp_ hq_ ?_
    refine wH_seq ?_
    refine wH_region ?_
    refine h_op (vI 0) (wt rfl) rfl ?_
    refine h_nil ?_
    replace hF := some_inj hF
    subst hF
    refine wH_ret ?_
    exact fin0 (.inr rfl) [(vI 0)] ⟨rfl, trivial⟩ rfl rfl rfl
theorem ref_has_ok {r_1 : Rect} {x_2 : Int} {y_3 : Int} {r : Bool} (hF : ref_has r_1 x_2 y_3 = some r) :
    FnM Tryz.prog 54 [(.d (.agg (Rect.enc r_1))), (vI x_2), (vI y_3)] [] (vB r) [] := by
  refine FnM.of_wH ⟨Tryz.prog, 29, [], []⟩ rfl Tryz.func54 rfl rfl (Nat.le_of_ble_eq_true rfl) (by kernel_rfl) ?_
  unfold ref_has at hF
  refine wH_seq ?_
  refine wH_region ?_
  refine h_box 0 (.inl rfl) [(vI r_1.X), (vI r_1.Y), (vI r_1.W), (vI r_1.H)] rfl rfl (wt rfl) (fun n_4 => ?_)
  refine h_op (vB false) (wt rfl) rfl ?_
  refine h_nil ?_
  refine wH_seq ?_
  obtain ⟨v_5, h_6, hF⟩ := bind_some hF
  refine wH_join (β := Unit) (fun _ => ([(6, (vB v_5))] : List (Nat × V))) (fun _ => ([(n_4, some (.cells 4 [(vI r_1.X), (vI r_1.Y), (vI r_1.W), (vI r_1.H)]))] : Hp)) (fun _ => True) ?_ ?_
  · refine wH_region ?_
    refine h_op (vI x_2) (wt rfl) rfl ?_
    refine h_far pl49_0 rfl 0 rfl (wt rfl) ?_
    refine h_ldr 0 0 (.inl rfl) (fun _ _ _ => trivial) sz3 ag3 rfl rfl (vI r_1.X) rfl (wt rfl) ?_
    refine h_far pl49_0 rfl 0 rfl (wt rfl) ?_
    refine h_ldr 0 0 (.inl rfl) (fun _ _ _ => trivial) sz3 ag3 rfl rfl (vI r_1.X) rfl (wt rfl) ?_
    refine h_far pl49_2 rfl 2 rfl (wt rfl) ?_
    refine h_ldr 0 0 (.inl rfl) (fun _ _ _ => trivial) sz3 ag3 rfl rfl (vI r_1.W) rfl (wt rfl) ?_
    refine h_op (vI (w64 (r_1.X + r_1.W))) (wt rfl) rfl ?_
    refine h_op (vI (w64 ((w64 (r_1.X + r_1.W)) - 1))) (wt rfl) rfl ?_
    obtain ⟨r_7, hr_8, h_6⟩ := bind_some h_6
    refine h_call0 (ref_in_ok hr_8) rfl hb48 rfl rfl rfl rfl (wt rfl) ?_
    rcases cond_some h_6 with ⟨hc_9, h_6⟩ | ⟨hc_9, h_6⟩
    · refine h_movb rfl hc_9 (wt rfl) ?_
      refine h_op (vI y_3) (wg rfl rfl rfl) rfl ?_
      refine h_far pl49_1 rfl 1 rfl (wg rfl rfl rfl) ?_
      refine h_ldr 0 0 (.inl rfl) (fun _ _ _ => trivial) sz3 ag3 rfl rfl (vI r_1.Y) rfl (wg rfl rfl rfl) ?_
      refine h_far pl49_1 rfl 1 rfl (wg rfl rfl rfl) ?_
      refine h_ldr 0 0 (.inl rfl) (fun _ _ _ => trivial) sz3 ag3 rfl rfl (vI r_1.Y) rfl (wg rfl rfl rfl) ?_
      refine h_far pl49_3 rfl 3 rfl (wg rfl rfl rfl) ?_
      refine h_ldr 0 0 (.inl rfl) (fun _ _ _ => trivial) sz3 ag3 rfl rfl (vI r_1.H) rfl (wg rfl rfl rfl) ?_
      refine h_op (vI (w64 (r_1.Y + r_1.H))) (wg rfl rfl rfl) rfl ?_
      refine h_op (vI (w64 ((w64 (r_1.Y + r_1.H)) - 1))) (wg rfl rfl rfl) rfl ?_
      obtain ⟨r_10, hr_11, h_6⟩ := bind_some h_6
      refine h_call0 (ref_in_ok hr_11) rfl hb48 rfl rfl rfl rfl (wg rfl rfl rfl) ?_
      refine h_op (vB r_10) (wt rfl) rfl ?_
      refine h_op (vB r_10) (wt rfl) rfl ?_
      refine h_nil ?_
      replace h_6 := some_inj h_6
      subst h_6
      exact cut_mk () trivial rfl (pre_r rfl)
    · refine h_movb rfl hc_9 (wt rfl) ?_
      refine h_skip (wg rfl rfl rfl) ?_
      refine h_skip (wg rfl rfl rfl) ?_
      refine h_skip (wg rfl rfl rfl) ?_
      refine h_skip (wg rfl rfl rfl) ?_
      refine h_skip (wg rfl rfl rfl) ?_
      refine h_skip (wg rfl rfl rfl) ?_
      refine h_skip (wg rfl rfl rfl) ?_
      refine h_skip (wg rfl rfl rfl) ?_
      refine h_skip (wg rfl rfl rfl) ?_
      refine h_skip (wg rfl rfl rfl) ?_
      refine h_op (vB false) (wt rfl) rfl ?_
      refine h_op (vB false) (wt rfl) rfl ?_
      refine h_nil ?_
      replace h_6 := some_inj h_6
      subst h_6
      exact cut_mk () trivial rfl (pre_r rfl)
  · rintro ⟨⟩ _ sl_ H_ hp_ hq_
    refine wH_at _ hp_ hq_ ?_
    replace hF := some_inj hF
    subst hF
    refine wH_ret ?_
    exact fin0 (.inr rfl) [(vB v_5)] ⟨rfl, trivial⟩ rfl rfl rfl
theorem ref_ScreenOf_ok {wv_1 : Wall} {x_2 : Int} {y_3 : Int} {r : ByteArray × Bool} (hF : ref_ScreenOf wv_1 x_2 y_3 = some r) :
    FnM Tryz.prog 30 [(.d (.agg (Wall.enc wv_1))), (vI x_2), (vI y_3)] [] (.tup [(vS r.1), (vB r.2)]) [] := by
  refine FnM.of_wH ⟨Tryz.prog, 25, [], []⟩ rfl Tryz.func30 rfl rfl (Nat.le_of_ble_eq_true rfl) (by kernel_rfl) ?_
  unfold ref_ScreenOf at hF
  refine wH_seq ?_
  refine wH_region ?_
  refine h_box 0 (.inl rfl) [(vS wv_1.Key), (vI wv_1.W), (vI wv_1.H), (vL Screen.enc wv_1.Screens)] rfl rfl (wt rfl) (fun n_4 => ?_)
  refine h_op (vS (⟨#[]⟩ : ByteArray)) (wt rfl) rfl ?_
  refine h_op (vB false) (wt rfl) rfl ?_
  refine h_nil ?_
  refine wH_seq ?_
  refine wH_seq ?_
  refine wH_region ?_
  refine h_far pl58_3 rfl 3 rfl (wt rfl) ?_
  refine h_ldr 0 0 (.inl rfl) (fun _ _ _ => trivial) sz56 ag56 rfl rfl (vL Screen.enc wv_1.Screens) rfl (wt rfl) ?_
  refine h_len un56 rfl (wt rfl) ?_
  refine h_op (vI 0) (wt rfl) rfl ?_
  refine h_nil ?_
  obtain ⟨o_13, hj_14, hF⟩ := bind_some hF
  obtain ⟨hn_9, hj_14⟩ := forL_some hj_14
  refine wH_join (β := (Unit)) (fun (s_10 : Unit) => ([] : List (Nat × V))) (fun (s_10 : Unit) => ([(n_4, some (.cells 4 [(vS wv_1.Key), (vI wv_1.W), (vI wv_1.H), (vL Screen.enc wv_1.Screens)]))] : Hp)) (fun p => o_13 = .go p) ?_ ?_
  · refine wH_block ?_
    refine wH_loop (β := Nat × (List Screen) × (Unit)) (fun p => (fun (k_5 : Nat) (l_6 : List Screen) (s_10 : Unit) => ([(1, (vI x_2)), (2, (vI y_3)), (11, (vL Screen.enc wv_1.Screens)), (12, (vI (wv_1.Screens.length : Int))), (13, (vI (k_5 : Int)))] : List (Nat × V))) p.1 p.2.1 p.2.2) (fun p => (fun (k_5 : Nat) (l_6 : List Screen) (s_10 : Unit) => ([(n_4, some (.cells 4 [(vS wv_1.Key), (vI wv_1.W), (vI wv_1.H), (vL Screen.enc wv_1.Screens)]))] : Hp)) p.1 p.2.1 p.2.2) (fun p => forR (fun k x s => ref_ScreenOf_L1 x_2 y_3 k x s) p.2.1 p.1 p.2.2 = some o_13 ∧ (wv_1.Screens).drop p.1 = p.2.1) (fun p => p.2.1.length) (0, wv_1.Screens, ()) ⟨hj_14, rfl⟩ rfl (pre_r rfl) ?_
    rintro ⟨k_5, l_6, s_10⟩ ⟨hL_12, hD_8⟩
    dsimp only at hL_12 hD_8
    cases l_6 with
    | nil =>
      replace hL_12 := some_inj hL_12
      subst hL_12
      refine wH_seq (wH_region (h_op (vB (decide ((k_5 : Int) < (wv_1.Screens.length : Int)))) (wt rfl) rfl (h_nil ?_)))
      refine wH_seq (wH_iff rfl (drop_nil hD_8) (wH_exit ?_))
      exact cut_mk (s_10) rfl rfl (pre_r rfl)
    | cons x_7 l_6 =>
      obtain ⟨c_, hc_11, hL_12⟩ := bind_some hL_12
      refine wH_seq (wH_region (h_op (vB (decide ((k_5 : Int) < (wv_1.Screens.length : Int)))) (wt rfl) rfl (h_nil ?_)))
      refine wH_seq (wH_ift rfl (drop_cons hD_8) (wH_skip ?_))
      unfold ref_ScreenOf_L1 at hc_11
      refine wH_seq ?_
      refine wH_block ?_
      refine wH_seq ?_
      refine wH_region ?_
      refine h_ia es56 rfl rfl (drop_idx hD_8) rfl (wt rfl) ?_
      refine h_ldc sz99 ag99 rfl (.d (.agg (Screen.enc x_7))) rfl (wt rfl) ?_
      refine h_alloc 0 (.inl rfl) z99 rfl (wt rfl) (fun n_15 => ?_)
      refine h_str 0 (.inl rfl) (fun _ _ _ => trivial) 1 sz99 rfl rfl [(vS x_7.Key), (vI x_7.On.X), (vI x_7.On.Y), (vI x_7.On.W), (vI x_7.On.H)] rfl (wt rfl) ?_
      refine h_nil ?_
      refine wH_seq ?_
      refine wH_region ?_
      refine h_far pl99_1 rfl 1 rfl (wt rfl) ?_
      refine h_ldr 0 1 (.inl rfl) (fun _ _ _ => trivial) sz49 ag49 rfl rfl (.d (.agg (Rect.enc x_7.On))) rfl (wt rfl) ?_
      refine h_op (vI x_2) (wt rfl) rfl ?_
      refine h_op (vI y_3) (wt rfl) rfl ?_
      obtain ⟨r_16, hr_17, hc_11⟩ := bind_some hc_11
      refine h_call0 (ref_has_ok hr_17) rfl hb54 rfl rfl rfl rfl (wt rfl) ?_
      refine h_nil ?_
      rcases cond_some hc_11 with ⟨hc_18, hc_11⟩ | ⟨hc_18, hc_11⟩
      · refine wH_ift rfl hc_18 ?_
        refine wH_seq ?_
        refine wH_region ?_
        refine h_far pl99_0 rfl 0 rfl (wt rfl) ?_
        refine h_ldr 0 1 (.inl rfl) (fun _ _ _ => trivial) sz9 ag9 rfl rfl (vS x_7.Key) rfl (wt rfl) ?_
        refine h_op (vS x_7.Key) (wt rfl) rfl ?_
        refine h_op (vB true) (wt rfl) rfl ?_
        refine h_nil ?_
        replace hc_11 := some_inj hc_11
        subst hc_11
        replace hL_12 := some_inj hL_12
        subst hL_12
        replace hF := some_inj hF
        subst hF
        refine wH_ret ?_
        exact fin0 (.inr rfl) [(vS x_7.Key), (vB true)] ⟨rfl, ⟨rfl, trivial⟩⟩ rfl rfl rfl
      · refine wH_iff rfl hc_18 ?_
        refine wH_skip ?_
        refine wH_region ?_
        refine h_opw (w64_next hD_8 hn_9) (wt rfl) rfl ?_
        refine h_op (vI ((k_5 + 1 : Nat) : Int)) (wt rfl) rfl ?_
        refine h_nil ?_
        replace hc_11 := some_inj hc_11
        subst hc_11
        exact loop_mk (k_5 + 1, l_6, ()) ⟨hL_12, drop_next hD_8⟩ (Nat.lt_succ_self _) rfl (pre_r rfl)
  · rintro s_10 ho_ sl_ H_ hp_ hq_
    subst ho_
    refine wH_at _ hp_ hq_ ?_
    refine wH_seq ?_
    refine wH_region ?_
    refine h_op (vS (⟨#[]⟩ : ByteArray)) (wt rfl) rfl ?_
    refine h_op (vB false) (wt rfl) rfl ?_
    refine h_nil ?_
    replace hF := some_inj hF
    subst hF
    refine wH_ret ?_
    exact fin0 (.inr rfl) [(vS (⟨#[]⟩ : ByteArray)), (vB false)] ⟨rfl, ⟨rfl, trivial⟩⟩ rfl rfl rfl
theorem ref_rects_ok {wv_1 : Wall} {r : (List Rect)} (hF : ref_rects wv_1 = some r) :
    FnM Tryz.prog 70 [(.d (.agg (Wall.enc wv_1)))] [] (vL Rect.enc r) [] := by
  refine FnM.of_wH ⟨Tryz.prog, 20, [], []⟩ rfl Tryz.func70 rfl rfl (Nat.le_of_ble_eq_true rfl) (by kernel_rfl) ?_
  unfold ref_rects at hF
  refine wH_seq ?_
  refine wH_region ?_
  refine h_box 0 (.inl rfl) [(vS wv_1.Key), (vI wv_1.W), (vI wv_1.H), (vL Screen.enc wv_1.Screens)] rfl rfl (wt rfl) (fun n_2 => ?_)
  refine h_op .nil (wt rfl) rfl ?_
  refine h_nil ?_
  refine wH_seq ?_
  refine wH_region ?_
  refine h_op .nil (wt rfl) rfl ?_
  refine h_nil ?_
  refine wH_seq ?_
  refine wH_seq ?_
  refine wH_region ?_
  refine h_far pl58_3 rfl 3 rfl (wt rfl) ?_
  refine h_ldr 0 0 (.inl rfl) (fun _ _ _ => trivial) sz56 ag56 rfl rfl (vL Screen.enc wv_1.Screens) rfl (wt rfl) ?_
  refine h_len un56 rfl (wt rfl) ?_
  refine h_op (vI 0) (wt rfl) rfl ?_
  refine h_nil ?_
  refine wH_new (fun n_9 => ?_)
  obtain ⟨o_14, hj_15, hF⟩ := bind_some hF
  obtain ⟨hn_7, hj_15⟩ := forL_some hj_15
  refine wH_join (β := ((List Rect)) × Nm) (fun p => (fun (s_8 : (List Rect)) (n_11 : Nm) => ([(3, (gV n_11 4 s_8))] : List (Nat × V))) p.1 p.2) (fun p => (fun (s_8 : (List Rect)) (n_11 : Nm) => ([(n_2, some (.cells 4 [(vS wv_1.Key), (vI wv_1.W), (vI wv_1.H), (vL Screen.enc wv_1.Screens)])), (n_11, gB 4 Rect.enc s_8)] : Hp)) p.1 p.2) (fun p => o_14 = .go p.1) ?_ ?_
  · refine wH_block ?_
    refine wH_loop (β := Nat × (List Screen) × ((List Rect)) × Nm) (fun p => (fun (k_3 : Nat) (l_4 : List Screen) (s_8 : (List Rect)) (n_11 : Nm) => ([(3, (gV n_11 4 s_8)), (7, (vL Screen.enc wv_1.Screens)), (8, (vI (wv_1.Screens.length : Int))), (9, (vI (k_3 : Int)))] : List (Nat × V))) p.1 p.2.1 p.2.2.1 p.2.2.2) (fun p => (fun (k_3 : Nat) (l_4 : List Screen) (s_8 : (List Rect)) (n_11 : Nm) => ([(n_2, some (.cells 4 [(vS wv_1.Key), (vI wv_1.W), (vI wv_1.H), (vL Screen.enc wv_1.Screens)])), (n_11, gB 4 Rect.enc s_8)] : Hp)) p.1 p.2.1 p.2.2.1 p.2.2.2) (fun p => forR (fun k x s => ref_rects_L1 k x s) p.2.1 p.1 p.2.2.1 = some o_14 ∧ (wv_1.Screens).drop p.1 = p.2.1) (fun p => p.2.1.length) (0, wv_1.Screens, ([] : List Rect), n_9) ⟨hj_15, rfl⟩ rfl (pre_r rfl) ?_
    rintro ⟨k_3, l_4, s_8, n_11⟩ ⟨hL_13, hD_6⟩
    dsimp only at hL_13 hD_6
    cases l_4 with
    | nil =>
      replace hL_13 := some_inj hL_13
      subst hL_13
      refine wH_seq (wH_region (h_op (vB (decide ((k_3 : Int) < (wv_1.Screens.length : Int)))) (wt rfl) rfl (h_nil ?_)))
      refine wH_seq (wH_iff rfl (drop_nil hD_6) (wH_exit ?_))
      exact cut_mk (s_8, n_11) rfl rfl (pre_r rfl)
    | cons x_5 l_4 =>
      obtain ⟨c_, hc_12, hL_13⟩ := bind_some hL_13
      refine wH_seq (wH_region (h_op (vB (decide ((k_3 : Int) < (wv_1.Screens.length : Int)))) (wt rfl) rfl (h_nil ?_)))
      refine wH_seq (wH_ift rfl (drop_cons hD_6) (wH_skip ?_))
      unfold ref_rects_L1 at hc_12
      refine wH_seq ?_
      refine wH_block ?_
      refine wH_seq ?_
      refine wH_region ?_
      refine h_ia es56 rfl rfl (drop_idx hD_6) rfl (wt rfl) ?_
      refine h_ldc sz99 ag99 rfl (.d (.agg (Screen.enc x_5))) rfl (wt rfl) ?_
      refine h_alloc 0 (.inl rfl) z99 rfl (wt rfl) (fun n_16 => ?_)
      refine h_str 0 (.inl rfl) (fun _ _ _ => trivial) 2 sz99 rfl rfl [(vS x_5.Key), (vI x_5.On.X), (vI x_5.On.Y), (vI x_5.On.W), (vI x_5.On.H)] rfl (wt rfl) ?_
      refine h_nil ?_
      refine wH_region ?_
      refine h_op (gV n_11 4 s_8) (wt rfl) rfl ?_
      refine h_far pl99_1 rfl 1 rfl (wt rfl) ?_
      refine h_ldr 0 2 (.inl rfl) (fun _ _ _ => trivial) sz49 ag49 rfl rfl (.d (.agg (Rect.enc x_5.On))) rfl (wt rfl) ?_
      refine h_lit (([x_5.On] : List Rect).map Rect.enc) es62 ez62 rfl rfl rfl rfl rfl (wt rfl) ?_
      obtain ⟨a_17, hz_18, hc_12⟩ := bind_some hc_12
      refine h_appg 0 (.inl rfl) (fun _ _ _ => trivial) (i := 1) el62 el62 sz49 z49 rfl (by decide) by49 (by decide) (fun _ => rfl) rfl rfl rfl hz_18 (wt rfl) (fun n_19 => ?_)
      refine h_op (gV n_19 4 a_17) (wt rfl) rfl ?_
      refine h_nil ?_
      refine wH_region ?_
      refine h_opw (w64_next hD_6 hn_7) (wt rfl) rfl ?_
      refine h_op (vI ((k_3 + 1 : Nat) : Int)) (wt rfl) rfl ?_
      refine h_nil ?_
      replace hc_12 := some_inj hc_12
      subst hc_12
      exact loop_mk (k_3 + 1, l_4, a_17, n_19) ⟨hL_13, drop_next hD_6⟩ (Nat.lt_succ_self _) rfl (pre_r rfl)
  · rintro ⟨s_8, n_11⟩ ho_ sl_ H_ hp_ hq_
    subst ho_
    refine wH_at _ hp_ hq_ ?_
    refine wH_seq ?_
    refine wH_region ?_
    refine h_op (gV n_11 4 s_8) (wt rfl) rfl ?_
    refine h_op (gV n_11 4 s_8) (wt rfl) rfl ?_
    refine h_nil ?_
    refine wH_frozg 1 rfl ?_
    refine wH_cog 2 1 rfl rfl ?_
    refine wH_cog 3 1 rfl rfl ?_
    refine wH_cog 19 1 rfl rfl ?_
    replace hF := some_inj hF
    subst hF
    refine wH_ret ?_
    exact fin0 (.inr rfl) [(vL Rect.enc s_8)] ⟨rfl, trivial⟩ rfl rfl rfl
theorem ref_some_1_ok {r_1 : Rect} {p_2 : Int} {p_3 : Int} {r : Bool} (hF : ref_some_1 r_1 p_2 p_3 = some r) :
    FnM Tryz.prog 97 [(.d (.agg (Rect.enc r_1))), (.ref (extN 0) 0 0), (.ref (extN 1) 0 0)] [(.cells 1 [(vI p_2)]), (.cells 1 [(vI p_3)])] (vB r) [some (.cells 1 [(vI p_2)]), some (.cells 1 [(vI p_3)])] := by
  refine FnM.of_wH ⟨Tryz.prog, 9, [], []⟩ rfl Tryz.func97 rfl rfl (Nat.le_of_ble_eq_true rfl) (by kernel_rfl) ?_
  unfold ref_some_1 at hF
  refine wH_seq ?_
  refine wH_region ?_
  refine h_box 0 (.inl rfl) [(vI r_1.X), (vI r_1.Y), (vI r_1.W), (vI r_1.H)] rfl rfl (wt rfl) (fun n_4 => ?_)
  refine h_op (vB false) (wt rfl) rfl ?_
  refine h_nil ?_
  refine wH_seq ?_
  refine wH_region ?_
  refine h_ldr 0 2 (.inl rfl) (fun _ _ _ => trivial) sz49 ag49 rfl rfl (.d (.agg (Rect.enc r_1))) rfl (wt rfl) ?_
  refine h_ldr 0 0 (.inl rfl) (fun _ _ _ => trivial) sz3 ag3 rfl rfl (vI p_2) rfl (wt rfl) ?_
  refine h_ldr 0 1 (.inl rfl) (fun _ _ _ => trivial) sz3 ag3 rfl rfl (vI p_3) rfl (wt rfl) ?_
  obtain ⟨r_5, hr_6, hF⟩ := bind_some hF
  refine h_call0 (ref_has_ok hr_6) rfl hb54 rfl rfl rfl rfl (wt rfl) ?_
  refine h_op (vB r_5) (wt rfl) rfl ?_
  refine h_nil ?_
  replace hF := some_inj hF
  subst hF
  refine wH_ret ?_
  exact finB (.inr rfl) [(vB r_5)] _ [0, 1] [extN 0, extN 1] ⟨rfl, trivial⟩ (.cons (co_data rfl rfl) (.nil)) (by kernel_rfl) ⟨(by kernel_rfl), ⟨(by kernel_rfl), trivial⟩⟩ (by decide) (by kernel_rfl)
theorem slices_IndexFunc_api_Rect_api_Rect_ok {s_1 : (List Rect)} {f_2 : Rect → Option Bool} {r : Int} {gid : FuncId} {caps : List V} {Sin : List Box} (hfn : ∀ x0 r, f_2 x0 = some r → FnM Tryz.prog gid ([(.d (.agg (Rect.enc x0)))] ++ caps) Sin (vB r) (Sin.map some)) (hbF : hasBody Tryz.prog gid = true) (hcapF : caps.flatMap frz = [] ∧ caps.map co0 = caps) (hokF : okL Sin.length caps = true) (hsF : ∀ b ∈ Sin, b.ok Sin.length = true) (hmF : ∀ b ∈ Sin, b.mut = true) (hF : slices_IndexFunc_api_Rect_api_Rect s_1 f_2 = some r) :
    FnM Tryz.prog 111 [(vL Rect.enc s_1), (.fn gid caps)] Sin (vI r) (Sin.map some) := by
  refine FnM.of_wH ⟨Tryz.prog, 19, [], []⟩ rfl Tryz.func111 rfl rfl (Nat.le_of_ble_eq_true rfl) (by kernel_rfl) ?_
  unfold slices_IndexFunc_api_Rect_api_Rect at hF
  refine wH_seq ?_
  refine wH_region ?_
  refine h_op (vI 0) (wt rfl) rfl ?_
  refine h_nil ?_
  refine wH_seq ?_
  refine wH_seq ?_
  refine wH_region ?_
  refine h_op (vL Rect.enc s_1) (wt rfl) rfl ?_
  refine h_len un62 rfl (wt rfl) ?_
  refine h_op (vI 0) (wt rfl) rfl ?_
  refine h_nil ?_
  obtain ⟨o_11, hj_12, hF⟩ := bind_some hF
  obtain ⟨hn_7, hj_12⟩ := forL_some hj_12
  refine wH_join (β := (Unit)) (fun (s_8 : Unit) => ([] : List (Nat × V))) (fun (s_8 : Unit) => (initH 0 Sin)) (fun p => o_11 = .go p) ?_ ?_
  · refine wH_block ?_
    refine wH_loop (β := Nat × (List Rect) × (Unit)) (fun p => (fun (k_3 : Nat) (l_4 : List Rect) (s_8 : Unit) => ([(0, (vL Rect.enc s_1)), (1, (.fn gid caps)), (7, (vI (s_1.length : Int))), (8, (vI (k_3 : Int)))] : List (Nat × V))) p.1 p.2.1 p.2.2) (fun p => (fun (k_3 : Nat) (l_4 : List Rect) (s_8 : Unit) => (initH 0 Sin)) p.1 p.2.1 p.2.2) (fun p => forR (fun k x s => slices_IndexFunc_api_Rect_api_Rect_L1 f_2 k x s) p.2.1 p.1 p.2.2 = some o_11 ∧ (s_1).drop p.1 = p.2.1) (fun p => p.2.1.length) (0, s_1, ()) ⟨hj_12, rfl⟩ rfl (pre_self _) ?_
    rintro ⟨k_3, l_4, s_8⟩ ⟨hL_10, hD_6⟩
    dsimp only at hL_10 hD_6
    cases l_4 with
    | nil =>
      replace hL_10 := some_inj hL_10
      subst hL_10
      refine wH_seq (wH_region (h_op (vB (decide ((k_3 : Int) < (s_1.length : Int)))) (wt rfl) rfl (h_nil ?_)))
      refine wH_seq (wH_iff rfl (drop_nil hD_6) (wH_exit ?_))
      exact cut_mk (s_8) rfl rfl (pre_self _)
    | cons x_5 l_4 =>
      obtain ⟨c_, hc_9, hL_10⟩ := bind_some hL_10
      refine wH_seq (wH_region (h_op (vB (decide ((k_3 : Int) < (s_1.length : Int)))) (wt rfl) rfl (h_nil ?_)))
      refine wH_seq (wH_ift rfl (drop_cons hD_6) (wH_skip ?_))
      unfold slices_IndexFunc_api_Rect_api_Rect_L1 at hc_9
      refine wH_seq ?_
      refine wH_block ?_
      refine wH_seq ?_
      refine wH_region ?_
      refine h_op (vI (k_3 : Int)) (wt rfl) rfl ?_
      refine h_op (vI (k_3 : Int)) (wt rfl) rfl ?_
      refine h_nil ?_
      refine wH_seq ?_
      refine wH_region ?_
      refine h_op (.fn gid caps) (wt rfl) rfl ?_
      refine h_op (vL Rect.enc s_1) (wt rfl) rfl ?_
      refine h_op (vI (k_3 : Int)) (wt rfl) rfl ?_
      refine h_ia es62 rfl rfl (drop_idx hD_6) rfl (wt rfl) ?_
      refine h_ldc sz49 ag49 rfl (.d (.agg (Rect.enc x_5))) rfl (wt rfl) ?_
      obtain ⟨r_13, hr_14, hc_9⟩ := bind_some hc_9
      refine h_callS (hfn _ _ hr_14) rfl hbF rfl rfl hcapF hokF hsF hmF rfl (wt rfl) rfl ?_
      refine h_nil ?_
      rcases cond_some hc_9 with ⟨hc_15, hc_9⟩ | ⟨hc_15, hc_9⟩
      · refine wH_ift rfl hc_15 ?_
        refine wH_seq ?_
        refine wH_region ?_
        refine h_op (vI (k_3 : Int)) (wt rfl) rfl ?_
        refine h_op (vI (k_3 : Int)) (wt rfl) rfl ?_
        refine h_nil ?_
        replace hc_9 := some_inj hc_9
        subst hc_9
        replace hL_10 := some_inj hL_10
        subst hL_10
        replace hF := some_inj hF
        subst hF
        refine wH_ret ?_
        exact finS hsF (.inr rfl) [(vI (k_3 : Int))] ⟨rfl, trivial⟩ rfl rfl rfl
      · refine wH_iff rfl hc_15 ?_
        refine wH_skip ?_
        refine wH_region ?_
        refine h_opw (w64_next hD_6 hn_7) (wt rfl) rfl ?_
        refine h_op (vI ((k_3 + 1 : Nat) : Int)) (wt rfl) rfl ?_
        refine h_nil ?_
        replace hc_9 := some_inj hc_9
        subst hc_9
        exact loop_mk (k_3 + 1, l_4, ()) ⟨hL_10, drop_next hD_6⟩ (Nat.lt_succ_self _) rfl (pre_self _)
  · rintro s_8 ho_ sl_ H_ hp_ hq_
    subst ho_
    refine wH_at _ hp_ hq_ ?_
    refine wH_seq ?_
    refine wH_region ?_
    refine h_op (vI (-1)) (wt rfl) rfl ?_
    refine h_nil ?_
    replace hF := some_inj hF
    subst hF
    refine wH_ret ?_
    exact finS hsF (.inr rfl) [(vI (-1))] ⟨rfl, trivial⟩ rfl rfl rfl
theorem slices_ContainsFunc_api_Rect_api_Rect_ok {s_1 : (List Rect)} {f_2 : Rect → Option Bool} {r : Bool} {gid : FuncId} {caps : List V} {Sin : List Box} (hfn : ∀ x0 r, f_2 x0 = some r → FnM Tryz.prog gid ([(.d (.agg (Rect.enc x0)))] ++ caps) Sin (vB r) (Sin.map some)) (hbF : hasBody Tryz.prog gid = true) (hcapF : caps.flatMap frz = [] ∧ caps.map co0 = caps) (hokF : okL Sin.length caps = true) (hsF : ∀ b ∈ Sin, b.ok Sin.length = true) (hmF : ∀ b ∈ Sin, b.mut = true) (hF : slices_ContainsFunc_api_Rect_api_Rect s_1 f_2 = some r) :
    FnM Tryz.prog 96 [(vL Rect.enc s_1), (.fn gid caps)] Sin (vB r) (Sin.map some) := by
  refine FnM.of_wH ⟨Tryz.prog, 9, [], []⟩ rfl Tryz.func96 rfl rfl (Nat.le_of_ble_eq_true rfl) (by kernel_rfl) ?_
  unfold slices_ContainsFunc_api_Rect_api_Rect at hF
  refine wH_seq ?_
  refine wH_region ?_
  refine h_op (vB false) (wt rfl) rfl ?_
  refine h_nil ?_
  refine wH_seq ?_
  refine wH_region ?_
  refine h_op (vL Rect.enc s_1) (wt rfl) rfl ?_
  refine h_op (.fn gid caps) (wt rfl) rfl ?_
  obtain ⟨r_3, hr_4, hF⟩ := bind_some hF
  refine h_callS (slices_IndexFunc_api_Rect_api_Rect_ok (gid := gid) (caps := caps) (Sin := Sin) hfn hbF hcapF hokF hsF hmF hr_4) rfl hb111 rfl rfl ⟨rfl, rfl⟩ (by simp [okL, okV, hokF]) hsF hmF rfl (wt rfl) rfl ?_
  refine h_op (vB (decide (r_3 ≥ 0))) (wt rfl) rfl ?_
  refine h_op (vB (decide (r_3 ≥ 0))) (wt rfl) rfl ?_
  refine h_nil ?_
  replace hF := some_inj hF
  subst hF
  refine wH_ret ?_
  exact finS hsF (.inr rfl) [(vB (decide (r_3 ≥ 0)))] ⟨rfl, trivial⟩ rfl rfl rfl
theorem ref_some_ok {l_1 : (List Rect)} {x_2 : Int} {y_3 : Int} {r : Bool} (hF : ref_some l_1 x_2 y_3 = some r) :
    FnM Tryz.prog 89 [(vL Rect.enc l_1), (vI x_2), (vI y_3)] [] (vB r) [] := by
  refine FnM.of_wH ⟨Tryz.prog, 10, [], []⟩ rfl Tryz.func89 rfl rfl (Nat.le_of_ble_eq_true rfl) (by kernel_rfl) ?_
  unfold ref_some at hF
  refine wH_seq ?_
  refine wH_region ?_
  refine h_box 0 (.inl rfl) [(vI x_2)] rfl rfl (wt rfl) (fun n_4 => ?_)
  refine h_box 0 (.inl rfl) [(vI y_3)] rfl rfl (wt rfl) (fun n_5 => ?_)
  refine h_op (vB false) (wt rfl) rfl ?_
  refine h_nil ?_
  refine wH_seq ?_
  refine wH_region ?_
  refine h_op (vL Rect.enc l_1) (wt rfl) rfl ?_
  refine h_op (.fn 97 [(.ref n_4 0 0), (.ref n_5 0 0)]) (wt rfl) rfl ?_
  obtain ⟨r_6, hr_7, hF⟩ := bind_some hF
  refine h_callq 0 [0, 1] (.inl rfl) (fun _ _ _ => trivial) (slices_ContainsFunc_api_Rect_api_Rect_ok (gid := 97) (caps := [.ref (extN 0) 0 0, .ref (extN 1) 0 0]) (Sin := [(.cells 1 [(vI x_2)]), (.cells 1 [(vI y_3)])]) (fun _ _ h_ => ref_some_1_ok h_) hb97 ⟨rfl, rfl⟩ (by kernel_rfl) (all_ok (by kernel_rfl)) (all_mut (by kernel_rfl)) hr_7) rfl hb96 rfl (by kernel_rfl) (by kernel_rfl) (by kernel_rfl) (by kernel_rfl) (by kernel_rfl) (by kernel_rfl) (by kernel_rfl) (by decide) (by kernel_rfl) (wt rfl) (vB r_6) (by kernel_rfl) ([(n_4, some (.cells 1 [(vI x_2)])), (n_5, some (.cells 1 [(vI y_3)]))] : Hp) (by kernel_rfl) ?_
  refine h_op (vB r_6) (wt rfl) rfl ?_
  refine h_nil ?_
  replace hF := some_inj hF
  subst hF
  refine wH_ret ?_
  exact fin0 (.inr rfl) [(vB r_6)] ⟨rfl, trivial⟩ rfl rfl rfl
end Go.Proofs.YtodfcleaapnklaaGreat.Law
