/-
  The machine computes these plain functions (written by a program of ours).
-/
import Derived.Test.YtodfcleaapnklaaFacts
import Derived.Test.YtodfcleaapnklaaDefs
import Derived.Test.YtodfcleaapnklaaPf1
open Go Go.Eng Go.Proofs
namespace Go.Proofs.Ytodfcleaapnklaa.Law
set_option maxRecDepth 100000
set_option linter.unusedVariables false
set_option maxHeartbeats 1000000
theorem screen_runs_ok {l_1 : (List Rect)} {y_2 : Int} {r : (List Run)} (hF : screen_runs l_1 y_2 = some r) :
    FnM Try.prog 172 [(vL Rect.enc l_1), (vI y_2)] [] (vL Run.enc r) [] := by
  refine FnM.of_wH ⟨Try.prog, 84, [], []⟩ rfl Try.func172 rfl rfl (Nat.le_of_ble_eq_true rfl) (by kernel_rfl) ?_
  unfold screen_runs at hF
  refine wH_seq ?_
  refine wH_region ?_
  refine h_op .nil (wt rfl) rfl ?_
  refine h_nil ?_
  refine wH_seq ?_
  refine wH_region ?_
  refine h_op .nil (wt rfl) rfl ?_
  refine h_nil ?_
  refine wH_seq ?_
  refine wH_seq ?_
  refine wH_region ?_
  refine h_op (vL Rect.enc l_1) (wt rfl) rfl ?_
  refine h_len un94 rfl (wt rfl) ?_
  refine h_op (vI 0) (wt rfl) rfl ?_
  refine h_nil ?_
  refine wH_new (fun n_9 => ?_)
  obtain ⟨o_14, hj_15, hF⟩ := bind_some hF
  obtain ⟨hn_7, hj_15⟩ := forL_some hj_15
  refine wH_join (β := ((List Run)) × Nm) (fun p => (fun (s_8 : (List Run)) (n_11 : Nm) => ([(5, (gV n_11 2 s_8))] : List (Nat × V))) p.1 p.2) (fun p => (fun (s_8 : (List Run)) (n_11 : Nm) => ([(n_11, gB 2 Run.enc s_8)] : Hp)) p.1 p.2) (fun p => o_14 = .go p.1) ?_ ?_
  · refine wH_block ?_
    refine wH_loop (β := Nat × (List Rect) × ((List Run)) × Nm) (fun p => (fun (k_3 : Nat) (l_4 : List Rect) (s_8 : (List Run)) (n_11 : Nm) => ([(1, (vI y_2)), (5, (gV n_11 2 s_8)), (12, (vL Rect.enc l_1)), (13, (vI (l_1.length : Int))), (14, (vI (k_3 : Int)))] : List (Nat × V))) p.1 p.2.1 p.2.2.1 p.2.2.2) (fun p => (fun (k_3 : Nat) (l_4 : List Rect) (s_8 : (List Run)) (n_11 : Nm) => ([(n_11, gB 2 Run.enc s_8)] : Hp)) p.1 p.2.1 p.2.2.1 p.2.2.2) (fun p => forR (fun k x s => screen_runs_L1 y_2 k x s) p.2.1 p.1 p.2.2.1 = some o_14 ∧ (l_1).drop p.1 = p.2.1) (fun p => p.2.1.length) (0, l_1, ([] : List Run), n_9) ⟨hj_15, rfl⟩ rfl (pre_r rfl) ?_
    rintro ⟨k_3, l_4, s_8, n_11⟩ ⟨hL_13, hD_6⟩
    dsimp only at hL_13 hD_6
    cases l_4 with
    | nil =>
      replace hL_13 := some_inj hL_13
      subst hL_13
      refine wH_seq (wH_region (h_op (vB (decide ((k_3 : Int) < (l_1.length : Int)))) (wt rfl) rfl (h_nil ?_)))
      refine wH_seq (wH_iff rfl (drop_nil hD_6) (wH_exit ?_))
      exact cut_mk (s_8, n_11) rfl rfl (pre_r rfl)
    | cons x_5 l_4 =>
      obtain ⟨c_, hc_12, hL_13⟩ := bind_some hL_13
      refine wH_seq (wH_region (h_op (vB (decide ((k_3 : Int) < (l_1.length : Int)))) (wt rfl) rfl (h_nil ?_)))
      refine wH_seq (wH_ift rfl (drop_cons hD_6) (wH_skip ?_))
      unfold screen_runs_L1 at hc_12
      refine wH_seq ?_
      refine wH_block ?_
      refine wH_seq ?_
      refine wH_region ?_
      refine h_ia es94 rfl rfl (drop_idx hD_6) rfl (wt rfl) ?_
      refine h_ldc sz92 ag92 rfl (.d (.agg (Rect.enc x_5))) rfl (wt rfl) ?_
      refine h_alloc 0 (.inl rfl) z92 rfl (wt rfl) (fun n_16 => ?_)
      refine h_str 0 (.inl rfl) (fun _ _ _ => trivial) 1 sz92 rfl rfl [(vI x_5.X), (vI x_5.Y), (vI x_5.W), (vI x_5.H)] rfl (wt rfl) ?_
      refine h_nil ?_
      refine wH_seq ?_
      obtain ⟨v_17, h_18, hc_12⟩ := bind_some hc_12
      refine wH_join (β := Unit) (fun _ => ([(1, (vI y_2)), (5, (gV n_11 2 s_8)), (7, (.ref n_16 0 0)), (12, (vL Rect.enc l_1)), (13, (vI (l_1.length : Int))), (14, (vI (k_3 : Int))), (30, (vB v_17))] : List (Nat × V))) (fun _ => ([(n_11, gB 2 Run.enc s_8), (n_16, some (.cells 4 [(vI x_5.X), (vI x_5.Y), (vI x_5.W), (vI x_5.H)]))] : Hp)) (fun _ => True) ?_ ?_
      · refine wH_region ?_
        refine h_far pl92_1 rfl 1 rfl (wt rfl) ?_
        refine h_ldr 0 1 (.inl rfl) (fun _ _ _ => trivial) sz3 ag3 rfl rfl (vI x_5.Y) rfl (wt rfl) ?_
        refine h_op (vI y_2) (wt rfl) rfl ?_
        refine h_op (vB (decide (x_5.Y ≤ y_2))) (wt rfl) rfl ?_
        rcases cond_some h_18 with ⟨hc_19, h_18⟩ | ⟨hc_19, h_18⟩
        · refine h_movb rfl hc_19 (wt rfl) ?_
          refine h_op (vI y_2) (wg rfl rfl rfl) rfl ?_
          refine h_far pl92_1 rfl 1 rfl (wg rfl rfl rfl) ?_
          refine h_ldr 0 1 (.inl rfl) (fun _ _ _ => trivial) sz3 ag3 rfl rfl (vI x_5.Y) rfl (wg rfl rfl rfl) ?_
          refine h_far pl92_3 rfl 3 rfl (wg rfl rfl rfl) ?_
          refine h_ldr 0 1 (.inl rfl) (fun _ _ _ => trivial) sz3 ag3 rfl rfl (vI x_5.H) rfl (wg rfl rfl rfl) ?_
          refine h_op (vI (w64 (x_5.Y + x_5.H))) (wg rfl rfl rfl) rfl ?_
          refine h_op (vB (decide (y_2 < (w64 (x_5.Y + x_5.H))))) (wg rfl rfl rfl) rfl ?_
          refine h_op (vB (decide (y_2 < (w64 (x_5.Y + x_5.H))))) (wt rfl) rfl ?_
          refine h_nil ?_
          replace h_18 := some_inj h_18
          subst h_18
          exact cut_mk () trivial rfl (pre_r rfl)
        · refine h_movb rfl hc_19 (wt rfl) ?_
          refine h_skip (wg rfl rfl rfl) ?_
          refine h_skip (wg rfl rfl rfl) ?_
          refine h_skip (wg rfl rfl rfl) ?_
          refine h_skip (wg rfl rfl rfl) ?_
          refine h_skip (wg rfl rfl rfl) ?_
          refine h_skip (wg rfl rfl rfl) ?_
          refine h_skip (wg rfl rfl rfl) ?_
          refine h_op (vB false) (wt rfl) rfl ?_
          refine h_nil ?_
          replace h_18 := some_inj h_18
          subst h_18
          exact cut_mk () trivial rfl (pre_r rfl)
      · rintro ⟨⟩ _ sl_ H_ hp_ hq_
        refine wH_at _ hp_ hq_ ?_
        obtain ⟨v_20, h_21, hc_12⟩ := bind_some hc_12
        refine wH_join (β := Nm) (fun (n_22 : Nm) => ([(1, (vI y_2)), (5, (gV n_22 2 v_20)), (12, (vL Rect.enc l_1)), (13, (vI (l_1.length : Int))), (14, (vI (k_3 : Int)))] : List (Nat × V))) (fun (n_22 : Nm) => ([(n_22, gB 2 Run.enc v_20), (n_16, some (.cells 4 [(vI x_5.X), (vI x_5.Y), (vI x_5.W), (vI x_5.H)]))] : Hp)) (fun _ => True) ?_ ?_
        · rcases cond_some h_21 with ⟨hc_23, h_21⟩ | ⟨hc_23, h_21⟩
          · refine wH_ift rfl hc_23 ?_
            refine wH_region ?_
            refine h_op (gV n_11 2 s_8) (wt rfl) rfl ?_
            refine h_far pl92_0 rfl 0 rfl (wt rfl) ?_
            refine h_ldr 0 1 (.inl rfl) (fun _ _ _ => trivial) sz3 ag3 rfl rfl (vI x_5.X) rfl (wt rfl) ?_
            refine h_far pl92_0 rfl 0 rfl (wt rfl) ?_
            refine h_ldr 0 1 (.inl rfl) (fun _ _ _ => trivial) sz3 ag3 rfl rfl (vI x_5.X) rfl (wt rfl) ?_
            refine h_far pl92_2 rfl 2 rfl (wt rfl) ?_
            refine h_ldr 0 1 (.inl rfl) (fun _ _ _ => trivial) sz3 ag3 rfl rfl (vI x_5.W) rfl (wt rfl) ?_
            refine h_op (vI (w64 (x_5.X + x_5.W))) (wt rfl) rfl ?_
            refine h_op (.d (.agg (Run.enc (⟨x_5.X, (w64 (x_5.X + x_5.W))⟩ : Run)))) (wt rfl) (by kernel_rfl) ?_
            refine h_lit (([(⟨x_5.X, (w64 (x_5.X + x_5.W))⟩ : Run)] : List Run).map Run.enc) es184 ez184 rfl rfl rfl rfl rfl (wt rfl) ?_
            obtain ⟨a_24, hz_25, h_21⟩ := bind_some h_21
            refine h_appg 0 (.inl rfl) (fun _ _ _ => trivial) (i := 0) el184 el184 sz189 z189 rfl (by decide) by189 (by decide) (fun _ => rfl) rfl rfl rfl hz_25 (wt rfl) (fun n_26 => ?_)
            refine h_op (gV n_26 2 a_24) (wt rfl) rfl ?_
            refine h_nil ?_
            replace h_21 := some_inj h_21
            subst h_21
            exact cut_mk n_26 trivial rfl (pre_r rfl)
          · refine wH_iff rfl hc_23 ?_
            refine wH_skip ?_
            replace h_21 := some_inj h_21
            subst h_21
            exact cut_mk n_11 trivial rfl (pre_r rfl)
        · rintro n_22 _ sl_ H_ hp_ hq_
          refine wH_at _ hp_ hq_ ?_
          refine wH_region ?_
          refine h_opw (w64_next hD_6 hn_7) (wt rfl) rfl ?_
          refine h_op (vI ((k_3 + 1 : Nat) : Int)) (wt rfl) rfl ?_
          refine h_nil ?_
          replace hc_12 := some_inj hc_12
          subst hc_12
          exact loop_mk (k_3 + 1, l_4, v_20, n_22) ⟨hL_13, drop_next hD_6⟩ (Nat.lt_succ_self _) rfl (pre_r rfl)
  · rintro ⟨s_8, n_11⟩ ho_ sl_ H_ hp_ hq_
    subst ho_
    refine wH_at _ hp_ hq_ ?_
    refine wH_seq ?_
    refine wH_region ?_
    refine h_op (gV n_11 2 s_8) (wt rfl) rfl ?_
    obtain ⟨r_27, hr_28, hF⟩ := bind_some hF
    obtain ⟨_, hs_29, hF⟩ := bind_some hF
    replace hs_29 := sameL_eq hs_29
    refine h_callv 0 [] 0 0 (.inl rfl) (fun _ _ _ => trivial) (slices_SortFunc_screen_run_screen_run_v1_ok hr_28) rfl hb203 rfl rfl rfl (by kernel_rfl) rfl (.inl rfl) rfl (by kernel_rfl) (by kernel_rfl) (by kernel_rfl) (by kernel_rfl) rfl (by decide) (by kernel_rfl) gB_ok (gB_ho hs_29) (wt rfl) ([(n_11, gB 2 Run.enc r_27)] : Hp) (by kernel_rfl) ?_
    refine h_re (v' := (gV n_11 2 r_27)) 43 rfl (gV_len hs_29.symm) ?_
    refine h_re (v' := (gV n_11 2 r_27)) 5 rfl (gV_len hs_29.symm) ?_
    refine h_nil ?_
    refine wH_seq ?_
    refine wH_region ?_
    refine h_op .nil (wt rfl) rfl ?_
    refine h_nil ?_
    refine wH_seq ?_
    refine wH_seq ?_
    refine wH_region ?_
    refine h_op (gV n_11 2 r_27) (wt rfl) rfl ?_
    refine h_leng un184 rfl (wt rfl) ?_
    refine h_op (vI 0) (wt rfl) rfl ?_
    refine h_nil ?_
    refine wH_frozg 0 rfl ?_
    refine wH_cog 5 0 rfl rfl ?_
    refine wH_cog 43 0 rfl rfl ?_
    refine wH_cog 45 0 rfl rfl ?_
    refine wH_new (fun n_36 => ?_)
    obtain ⟨o_41, hj_42, hF⟩ := bind_some hF
    obtain ⟨hn_34, hj_42⟩ := forL_some hj_42
    refine wH_join (β := ((List Run)) × Nm) (fun p => (fun (s_35 : (List Run)) (n_38 : Nm) => ([(8, (gV n_38 2 s_35))] : List (Nat × V))) p.1 p.2) (fun p => (fun (s_35 : (List Run)) (n_38 : Nm) => ([(n_11, gF 2 Run.enc r_27), (n_38, gB 2 Run.enc s_35)] : Hp)) p.1 p.2) (fun p => o_41 = .go p.1) ?_ ?_
    · refine wH_block ?_
      refine wH_loop (β := Nat × (List Run) × ((List Run)) × Nm) (fun p => (fun (k_30 : Nat) (l_31 : List Run) (s_35 : (List Run)) (n_38 : Nm) => ([(8, (gV n_38 2 s_35)), (45, (vL Run.enc r_27)), (46, (vI (r_27.length : Int))), (47, (vI (k_30 : Int)))] : List (Nat × V))) p.1 p.2.1 p.2.2.1 p.2.2.2) (fun p => (fun (k_30 : Nat) (l_31 : List Run) (s_35 : (List Run)) (n_38 : Nm) => ([(n_11, gF 2 Run.enc r_27), (n_38, gB 2 Run.enc s_35)] : Hp)) p.1 p.2.1 p.2.2.1 p.2.2.2) (fun p => forR (fun k x s => screen_runs_L2 k x s) p.2.1 p.1 p.2.2.1 = some o_41 ∧ (r_27).drop p.1 = p.2.1) (fun p => p.2.1.length) (0, r_27, ([] : List Run), n_36) ⟨hj_42, rfl⟩ rfl (pre_r rfl) ?_
      rintro ⟨k_30, l_31, s_35, n_38⟩ ⟨hL_40, hD_33⟩
      dsimp only at hL_40 hD_33
      cases l_31 with
      | nil =>
        replace hL_40 := some_inj hL_40
        subst hL_40
        refine wH_seq (wH_region (h_op (vB (decide ((k_30 : Int) < (r_27.length : Int)))) (wt rfl) rfl (h_nil ?_)))
        refine wH_seq (wH_iff rfl (drop_nil hD_33) (wH_exit ?_))
        exact cut_mk (s_35, n_38) rfl rfl (pre_r rfl)
      | cons x_32 l_31 =>
        obtain ⟨c_, hc_39, hL_40⟩ := bind_some hL_40
        refine wH_seq (wH_region (h_op (vB (decide ((k_30 : Int) < (r_27.length : Int)))) (wt rfl) rfl (h_nil ?_)))
        refine wH_seq (wH_ift rfl (drop_cons hD_33) (wH_skip ?_))
        unfold screen_runs_L2 at hc_39
        refine wH_seq ?_
        refine wH_block ?_
        refine wH_seq ?_
        refine wH_region ?_
        refine h_ia es184 rfl rfl (drop_idx hD_33) rfl (wt rfl) ?_
        refine h_ldc sz189 ag189 rfl (.d (.agg (Run.enc x_32))) rfl (wt rfl) ?_
        refine h_alloc 0 (.inl rfl) z189 rfl (wt rfl) (fun n_43 => ?_)
        refine h_str 0 (.inl rfl) (fun _ _ _ => trivial) 2 sz189 rfl rfl [(vI x_32.f_from), (vI x_32.f_to)] rfl (wt rfl) ?_
        refine h_nil ?_
        refine wH_seq ?_
        refine wH_region ?_
        refine h_op (gV n_38 2 s_35) (wt rfl) rfl ?_
        refine h_leng un184 rfl (wt rfl) ?_
        refine h_op (vI (w64 ((s_35.length : Int) - 1))) (wt rfl) rfl ?_
        refine h_op (vI (w64 ((s_35.length : Int) - 1))) (wt rfl) rfl ?_
        refine h_nil ?_
        refine wH_seq ?_
        obtain ⟨v_44, h_45, hc_39⟩ := bind_some hc_39
        refine wH_join (β := Unit) (fun _ => ([(8, (gV n_38 2 s_35)), (10, (.ref n_43 0 0)), (11, (vI (w64 ((s_35.length : Int) - 1)))), (45, (vL Run.enc r_27)), (46, (vI (r_27.length : Int))), (47, (vI (k_30 : Int))), (65, (vB v_44))] : List (Nat × V))) (fun _ => ([(n_11, gF 2 Run.enc r_27), (n_38, gB 2 Run.enc s_35), (n_43, some (.cells 2 [(vI x_32.f_from), (vI x_32.f_to)]))] : Hp)) (fun _ => True) ?_ ?_
        · refine wH_draws ?_
          refine h_op (vI (w64 ((s_35.length : Int) - 1))) (wt rfl) rfl ?_
          refine h_op (vB (decide ((w64 ((s_35.length : Int) - 1)) ≥ 0))) (wt rfl) rfl ?_
          rcases cond_some h_45 with ⟨hc_46, h_45⟩ | ⟨hc_46, h_45⟩
          · refine h_movb rfl hc_46 (wt rfl) ?_
            refine h_far pl189_0 rfl 0 rfl (wg rfl rfl rfl) ?_
            refine h_ldr 4 2 (.inr (by kernel_rfl)) (fun _ _ ag => trivial) sz3 ag3 rfl rfl (vI x_32.f_from) rfl (wg rfl rfl rfl) ?_
            refine h_op (gV n_38 2 s_35) (wg rfl rfl rfl) rfl ?_
            refine h_op (vI (w64 ((s_35.length : Int) - 1))) (wg rfl rfl rfl) rfl ?_
            obtain ⟨_, hi_47, h_45⟩ := bind_some h_45
            refine h_iavg es184 rfl rfl (inR_0 hi_47) (inR_lt hi_47) (wg rfl rfl rfl) ?_
            refine h_far pl189_1 rfl 1 rfl (wg rfl rfl rfl) ?_
            obtain ⟨e_48, hy_49, h_45⟩ := bind_some h_45
            refine h_ldvg 9 1 (.inr (by kernel_rfl)) (fun _ _ ag => ⟨.inl ⟨rfl, rfl⟩, trivial⟩) sz3 ag3 rfl rfl hy_49 (vI e_48.f_to) rfl (wg rfl rfl rfl) ?_
            refine h_op (vB (decide (x_32.f_from ≤ e_48.f_to))) (wg rfl rfl rfl) rfl ?_
            refine h_op (vB (decide (x_32.f_from ≤ e_48.f_to))) (wt rfl) rfl ?_
            refine h_nil ?_
            replace h_45 := some_inj h_45
            subst h_45
            exact cut_mk () trivial rfl (pre_r rfl)
          · refine h_movb rfl hc_46 (wt rfl) ?_
            refine h_skip (wg rfl rfl rfl) ?_
            refine h_skip (wg rfl rfl rfl) ?_
            refine h_skip (wg rfl rfl rfl) ?_
            refine h_skip (wg rfl rfl rfl) ?_
            refine h_skip (wg rfl rfl rfl) ?_
            refine h_skip (wg rfl rfl rfl) ?_
            refine h_skip (wg rfl rfl rfl) ?_
            refine h_skip (wg rfl rfl rfl) ?_
            refine h_op (vB false) (wt rfl) rfl ?_
            refine h_nil ?_
            replace h_45 := some_inj h_45
            subst h_45
            exact cut_mk () trivial rfl (pre_r rfl)
        · rintro ⟨⟩ _ sl_ H_ hp_ hq_
          refine wH_at _ hp_ hq_ ?_
          obtain ⟨v_50, h_51, hc_39⟩ := bind_some hc_39
          refine wH_join (β := Nm) (fun (n_52 : Nm) => ([(8, (gV n_52 2 v_50)), (45, (vL Run.enc r_27)), (46, (vI (r_27.length : Int))), (47, (vI (k_30 : Int)))] : List (Nat × V))) (fun (n_52 : Nm) => ([(n_11, gF 2 Run.enc r_27), (n_52, gB 2 Run.enc v_50), (n_43, some (.cells 2 [(vI x_32.f_from), (vI x_32.f_to)]))] : Hp)) (fun _ => True) ?_ ?_
          · rcases cond_some h_51 with ⟨hc_53, h_51⟩ | ⟨hc_53, h_51⟩
            · refine wH_ift rfl hc_53 ?_
              refine wH_draws ?_
              refine h_op (gV n_38 2 s_35) (wt rfl) rfl ?_
              refine h_op (vI (w64 ((s_35.length : Int) - 1))) (wt rfl) rfl ?_
              refine h_op (gV n_38 2 s_35) (wt rfl) rfl ?_
              refine h_op (vI (w64 ((s_35.length : Int) - 1))) (wt rfl) rfl ?_
              obtain ⟨_, hi_54, h_51⟩ := bind_some h_51
              refine h_iavg es184 rfl rfl (inR_0 hi_54) (inR_lt hi_54) (wt rfl) ?_
              refine h_far pl189_1 rfl 1 rfl (wt rfl) ?_
              obtain ⟨e_55, hy_56, h_51⟩ := bind_some h_51
              refine h_ldvg 6 1 (.inr (by kernel_rfl)) (fun _ _ ag => trivial) sz3 ag3 rfl rfl hy_56 (vI e_55.f_to) rfl (wt rfl) ?_
              refine h_far pl189_1 rfl 1 rfl (wt rfl) ?_
              refine h_ldr 8 2 (.inr (by kernel_rfl)) (fun _ _ ag => ⟨.inl ⟨rfl, rfl⟩, trivial⟩) sz3 ag3 rfl rfl (vI x_32.f_to) rfl (wt rfl) ?_
              refine h_minmax (vI (maxI e_55.f_to x_32.f_to)) rfl (.inr rfl) (wt rfl) ?_
              obtain ⟨_, hi_57, h_51⟩ := bind_some h_51
              refine h_iavg es184 rfl rfl (inR_0 hi_57) (inR_lt hi_57) (wt rfl) ?_
              refine h_far pl189_1 rfl 1 rfl (wt rfl) ?_
              obtain ⟨e_58, hy_59, h_51⟩ := bind_some h_51
              refine h_stvg 12 (.inr (by kernel_rfl)) (fun _ _ ag => ⟨.inr (.inr (by kernel_rfl)), ⟨.inr (.inr (by kernel_rfl)), trivial⟩⟩) 1 sz3 rfl rfl hy_59 (⟨e_58.f_from, (maxI e_55.f_to x_32.f_to)⟩ : Run) rfl (wt rfl) ?_
              refine h_re (v' := (gV n_38 2 (s_35.set (0 + ((w64 ((s_35.length : Int) - 1))).toNat) (⟨e_58.f_from, (maxI e_55.f_to x_32.f_to)⟩ : Run)))) 8 rfl (gV_len (by simp)) ?_
              refine h_re (v' := (gV n_38 2 (s_35.set (0 + ((w64 ((s_35.length : Int) - 1))).toNat) (⟨e_58.f_from, (maxI e_55.f_to x_32.f_to)⟩ : Run)))) 66 rfl (gV_len (by simp)) ?_
              refine h_re (v' := (gV n_38 2 (s_35.set (0 + ((w64 ((s_35.length : Int) - 1))).toNat) (⟨e_58.f_from, (maxI e_55.f_to x_32.f_to)⟩ : Run)))) 68 rfl (gV_len (by simp)) ?_
              refine h_nil ?_
              replace h_51 := some_inj h_51
              subst h_51
              exact cut_mk n_38 trivial rfl (pre_r rfl)
            · refine wH_iff rfl hc_53 ?_
              refine wH_region ?_
              refine h_op (gV n_38 2 s_35) (wt rfl) rfl ?_
              refine h_ldr 0 2 (.inl rfl) (fun _ _ _ => trivial) sz189 ag189 rfl rfl (.d (.agg (Run.enc x_32))) rfl (wt rfl) ?_
              refine h_lit (([x_32] : List Run).map Run.enc) es184 ez184 rfl rfl rfl rfl rfl (wt rfl) ?_
              obtain ⟨a_60, hz_61, h_51⟩ := bind_some h_51
              refine h_appg 0 (.inl rfl) (fun _ _ _ => trivial) (i := 1) el184 el184 sz189 z189 rfl (by decide) by189 (by decide) (fun _ => rfl) rfl rfl rfl hz_61 (wt rfl) (fun n_62 => ?_)
              refine h_op (gV n_62 2 a_60) (wt rfl) rfl ?_
              refine h_nil ?_
              replace h_51 := some_inj h_51
              subst h_51
              exact cut_mk n_62 trivial rfl (pre_r rfl)
          · rintro n_52 _ sl_ H_ hp_ hq_
            refine wH_at _ hp_ hq_ ?_
            refine wH_region ?_
            refine h_opw (w64_next hD_33 hn_34) (wt rfl) rfl ?_
            refine h_op (vI ((k_30 + 1 : Nat) : Int)) (wt rfl) rfl ?_
            refine h_nil ?_
            replace hc_39 := some_inj hc_39
            subst hc_39
            exact loop_mk (k_30 + 1, l_31, v_50, n_52) ⟨hL_40, drop_next hD_33⟩ (Nat.lt_succ_self _) rfl (pre_r rfl)
    · rintro ⟨s_35, n_38⟩ ho_ sl_ H_ hp_ hq_
      subst ho_
      refine wH_at _ hp_ hq_ ?_
      refine wH_seq ?_
      refine wH_region ?_
      refine h_op (gV n_38 2 s_35) (wt rfl) rfl ?_
      refine h_op (gV n_38 2 s_35) (wt rfl) rfl ?_
      refine h_nil ?_
      refine wH_frozg 1 rfl ?_
      refine wH_cog 4 1 rfl rfl ?_
      refine wH_cog 8 1 rfl rfl ?_
      refine wH_cog 83 1 rfl rfl ?_
      replace hF := some_inj hF
      subst hF
      refine wH_ret ?_
      exact fin0 (.inr rfl) [(vL Run.enc s_35)] ⟨rfl, trivial⟩ rfl rfl rfl
theorem screen_less_ok {l_1 : (List Run)} {m_2 : (List Run)} {r : (List Run)} (hF : screen_less l_1 m_2 = some r) :
    FnM Try.prog 171 [(vL Run.enc l_1), (vL Run.enc m_2)] [] (vL Run.enc r) [] := by
  refine FnM.of_wH ⟨Try.prog, 88, [], []⟩ rfl Try.func171 rfl rfl (Nat.le_of_ble_eq_true rfl) (by kernel_rfl) ?_
  unfold screen_less at hF
  refine wH_seq ?_
  refine wH_region ?_
  refine h_op .nil (wt rfl) rfl ?_
  refine h_nil ?_
  refine wH_seq ?_
  refine wH_region ?_
  refine h_op .nil (wt rfl) rfl ?_
  refine h_nil ?_
  refine wH_seq ?_
  refine wH_region ?_
  refine h_op (vI 0) (wt rfl) rfl ?_
  refine h_nil ?_
  refine wH_seq ?_
  refine wH_seq ?_
  refine wH_region ?_
  refine h_op (vL Run.enc l_1) (wt rfl) rfl ?_
  refine h_len un184 rfl (wt rfl) ?_
  refine h_op (vI 0) (wt rfl) rfl ?_
  refine h_nil ?_
  refine wH_new (fun n_9 => ?_)
  obtain ⟨o_14, hj_15, hF⟩ := bind_some hF
  obtain ⟨hn_7, hj_15⟩ := forL_some hj_15
  refine wH_join (β := ((List Run) × Int) × Nm) (fun p => (fun (s_8 : (List Run) × Int) (n_11 : Nm) => ([(5, (gV n_11 2 s_8.1))] : List (Nat × V))) p.1 p.2) (fun p => (fun (s_8 : (List Run) × Int) (n_11 : Nm) => ([(n_11, gB 2 Run.enc s_8.1)] : Hp)) p.1 p.2) (fun p => o_14 = .go p.1) ?_ ?_
  · refine wH_block ?_
    refine wH_loop (β := Nat × (List Run) × ((List Run) × Int) × Nm) (fun p => (fun (k_3 : Nat) (l_4 : List Run) (s_8 : (List Run) × Int) (n_11 : Nm) => ([(1, (vL Run.enc m_2)), (5, (gV n_11 2 s_8.1)), (6, (vI s_8.2)), (10, (vL Run.enc l_1)), (11, (vI (l_1.length : Int))), (12, (vI (k_3 : Int)))] : List (Nat × V))) p.1 p.2.1 p.2.2.1 p.2.2.2) (fun p => (fun (k_3 : Nat) (l_4 : List Run) (s_8 : (List Run) × Int) (n_11 : Nm) => ([(n_11, gB 2 Run.enc s_8.1)] : Hp)) p.1 p.2.1 p.2.2.1 p.2.2.2) (fun p => forR (fun k x s => screen_less_L3 m_2 k x s) p.2.1 p.1 p.2.2.1 = some o_14 ∧ (l_1).drop p.1 = p.2.1) (fun p => p.2.1.length) (0, l_1, (([] : List Run), 0), n_9) ⟨hj_15, rfl⟩ rfl (pre_r rfl) ?_
    rintro ⟨k_3, l_4, s_8, n_11⟩ ⟨hL_13, hD_6⟩
    dsimp only at hL_13 hD_6
    cases l_4 with
    | nil =>
      replace hL_13 := some_inj hL_13
      subst hL_13
      refine wH_seq (wH_region (h_op (vB (decide ((k_3 : Int) < (l_1.length : Int)))) (wt rfl) rfl (h_nil ?_)))
      refine wH_seq (wH_iff rfl (drop_nil hD_6) (wH_exit ?_))
      exact cut_mk (s_8, n_11) rfl rfl (pre_r rfl)
    | cons x_5 l_4 =>
      obtain ⟨c_, hc_12, hL_13⟩ := bind_some hL_13
      refine wH_seq (wH_region (h_op (vB (decide ((k_3 : Int) < (l_1.length : Int)))) (wt rfl) rfl (h_nil ?_)))
      refine wH_seq (wH_ift rfl (drop_cons hD_6) (wH_skip ?_))
      unfold screen_less_L3 at hc_12
      refine wH_seq ?_
      refine wH_block ?_
      refine wH_seq ?_
      refine wH_region ?_
      refine h_ia es184 rfl rfl (drop_idx hD_6) rfl (wt rfl) ?_
      refine h_ldc sz189 ag189 rfl (.d (.agg (Run.enc x_5))) rfl (wt rfl) ?_
      refine h_alloc 0 (.inl rfl) z189 rfl (wt rfl) (fun n_16 => ?_)
      refine h_str 0 (.inl rfl) (fun _ _ _ => trivial) 1 sz189 rfl rfl [(vI x_5.f_from), (vI x_5.f_to)] rfl (wt rfl) ?_
      refine h_nil ?_
      refine wH_seq ?_
      obtain ⟨o_25, hj_26, hc_12⟩ := bind_some hc_12
      obtain ⟨nq_72, hj_26⟩ := loopO_iter hj_26
      refine wH_join (β := (Int)) (fun (s_22 : Int) => ([(1, (vL Run.enc m_2)), (5, (gV n_11 2 s_8.1)), (6, (vI s_22)), (8, (.ref n_16 0 0)), (10, (vL Run.enc l_1)), (11, (vI (l_1.length : Int))), (12, (vI (k_3 : Int)))] : List (Nat × V))) (fun (s_22 : Int) => ([(n_11, gB 2 Run.enc s_8.1), (n_16, some (.cells 2 [(vI x_5.f_from), (vI x_5.f_to)]))] : Hp)) (fun p => o_25 = .go p) ?_ ?_
      · refine wH_block ?_
        refine wH_loop (β := Nat × (Int)) (fun p => (fun (k_17 : Nat) (s_22 : Int) => ([(1, (vL Run.enc m_2)), (5, (gV n_11 2 s_8.1)), (6, (vI s_22)), (8, (.ref n_16 0 0)), (10, (vL Run.enc l_1)), (11, (vI (l_1.length : Int))), (12, (vI (k_3 : Int)))] : List (Nat × V))) p.1 p.2) (fun p => (fun (k_17 : Nat) (s_22 : Int) => ([(n_11, gB 2 Run.enc s_8.1), (n_16, some (.cells 2 [(vI x_5.f_from), (vI x_5.f_to)]))] : Hp)) p.1 p.2) (fun p => iterN (fun s => screen_less_L1 m_2 x_5 s) p.1 p.2 = some o_25) (fun p => p.1) (nq_72, s_8.2) hj_26 rfl (pre_r rfl) ?_
        rintro ⟨k_17, s_22⟩ hL_24
        dsimp only at hL_24
        cases k_17 with
        | zero => cases hL_24
        | succ k_17 =>
          obtain ⟨c_, hc_23, hL_24⟩ := bind_some hL_24
          unfold screen_less_L1 at hc_23
          refine wH_seq ?_
          refine wH_seq ?_
          obtain ⟨v_27, h_28, hc_23⟩ := bind_some hc_23
          refine wH_join (β := Unit) (fun _ => ([(1, (vL Run.enc m_2)), (5, (gV n_11 2 s_8.1)), (6, (vI s_22)), (8, (.ref n_16 0 0)), (10, (vL Run.enc l_1)), (11, (vI (l_1.length : Int))), (12, (vI (k_3 : Int))), (29, (vB v_27))] : List (Nat × V))) (fun _ => ([(n_11, gB 2 Run.enc s_8.1), (n_16, some (.cells 2 [(vI x_5.f_from), (vI x_5.f_to)]))] : Hp)) (fun _ => True) ?_ ?_
          · refine wH_draws ?_
            refine h_op (vI s_22) (wt rfl) rfl ?_
            refine h_op (vL Run.enc m_2) (wt rfl) rfl ?_
            refine h_len un184 rfl (wt rfl) ?_
            refine h_op (vB (decide (s_22 < (m_2.length : Int)))) (wt rfl) rfl ?_
            rcases cond_some h_28 with ⟨hc_29, h_28⟩ | ⟨hc_29, h_28⟩
            · refine h_movb rfl hc_29 (wt rfl) ?_
              refine h_op (vL Run.enc m_2) (wg rfl rfl rfl) rfl ?_
              refine h_op (vI s_22) (wg rfl rfl rfl) rfl ?_
              obtain ⟨y_30, hy_31, h_28⟩ := bind_some h_28
              refine h_ia es184 rfl rfl hy_31 rfl (wg rfl rfl rfl) ?_
              refine h_fac pl189_1 rfl [.int .i64 y_30.f_to] rfl rfl (wg rfl rfl rfl) ?_
              refine h_ldc sz3 ag3 rfl (vI y_30.f_to) rfl (wg rfl rfl rfl) ?_
              refine h_far pl189_0 rfl 0 rfl (wg rfl rfl rfl) ?_
              refine h_ldr 11 1 (.inr (by kernel_rfl)) (fun _ _ ag => trivial) sz3 ag3 rfl rfl (vI x_5.f_from) rfl (wg rfl rfl rfl) ?_
              refine h_op (vB (decide (y_30.f_to ≤ x_5.f_from))) (wg rfl rfl rfl) rfl ?_
              refine h_op (vB (decide (y_30.f_to ≤ x_5.f_from))) (wt rfl) rfl ?_
              refine h_nil ?_
              replace h_28 := some_inj h_28
              subst h_28
              exact cut_mk () trivial rfl (pre_r rfl)
            · refine h_movb rfl hc_29 (wt rfl) ?_
              refine h_skip (wg rfl rfl rfl) ?_
              refine h_skip (wg rfl rfl rfl) ?_
              refine h_skip (wg rfl rfl rfl) ?_
              refine h_skip (wg rfl rfl rfl) ?_
              refine h_skip (wg rfl rfl rfl) ?_
              refine h_skip (wg rfl rfl rfl) ?_
              refine h_skip (wg rfl rfl rfl) ?_
              refine h_skip (wg rfl rfl rfl) ?_
              refine h_op (vB false) (wt rfl) rfl ?_
              refine h_nil ?_
              replace h_28 := some_inj h_28
              subst h_28
              exact cut_mk () trivial rfl (pre_r rfl)
          · rintro ⟨⟩ _ sl_ H_ hp_ hq_
            refine wH_at _ hp_ hq_ ?_
            rcases cond_some hc_23 with ⟨hc_32, hc_23⟩ | ⟨hc_32, hc_23⟩
            · refine wH_ift rfl hc_32 ?_
              refine wH_skip ?_
              refine wH_block ?_
              refine wH_region ?_
              refine h_op (vI s_22) (wt rfl) rfl ?_
              refine h_op (vI (w64 (s_22 + 1))) (wt rfl) rfl ?_
              refine h_op (vI (w64 (s_22 + 1))) (wt rfl) rfl ?_
              refine h_nil ?_
              replace hc_23 := some_inj hc_23
              subst hc_23
              exact loop_mk (k_17, (w64 (s_22 + 1))) hL_24 (Nat.lt_succ_self _) rfl (pre_r rfl)
            · refine wH_iff rfl hc_32 ?_
              refine wH_exit ?_
              replace hc_23 := some_inj hc_23
              subst hc_23
              replace hL_24 := some_inj hL_24
              subst hL_24
              exact cut_mk (s_22) rfl rfl (pre_r rfl)
      · rintro s_22 ho_ sl_ H_ hp_ hq_
        subst ho_
        refine wH_at _ hp_ hq_ ?_
        refine wH_seq ?_
        refine wH_seq ?_
        refine wH_region ?_
        refine h_op (vI s_22) (wt rfl) rfl ?_
        refine h_op (vI s_22) (wt rfl) rfl ?_
        refine h_nil ?_
        obtain ⟨o_43, hj_44, hc_12⟩ := bind_some hc_12
        obtain ⟨nq_71, hj_44⟩ := loopO_iter hj_44
        refine wH_join (β := ((List Run) × Int × Int) × Nm) (fun p => (fun (s_38 : (List Run) × Int × Int) (n_40 : Nm) => ([(1, (vL Run.enc m_2)), (5, (gV n_40 2 s_38.1)), (6, (vI s_22)), (8, (.ref n_16 0 0)), (10, (vL Run.enc l_1)), (11, (vI (l_1.length : Int))), (12, (vI (k_3 : Int)))] : List (Nat × V))) p.1 p.2) (fun p => (fun (s_38 : (List Run) × Int × Int) (n_40 : Nm) => ([(n_40, gB 2 Run.enc s_38.1), (n_16, some (.cells 2 [(vI s_38.2.2), (vI x_5.f_to)]))] : Hp)) p.1 p.2) (fun p => o_43 = .go p.1) ?_ ?_
        · refine wH_block ?_
          refine wH_loop (β := Nat × ((List Run) × Int × Int) × Nm) (fun p => (fun (k_33 : Nat) (s_38 : (List Run) × Int × Int) (n_40 : Nm) => ([(1, (vL Run.enc m_2)), (5, (gV n_40 2 s_38.1)), (6, (vI s_22)), (8, (.ref n_16 0 0)), (9, (vI s_38.2.1)), (10, (vL Run.enc l_1)), (11, (vI (l_1.length : Int))), (12, (vI (k_3 : Int)))] : List (Nat × V))) p.1 p.2.1 p.2.2) (fun p => (fun (k_33 : Nat) (s_38 : (List Run) × Int × Int) (n_40 : Nm) => ([(n_40, gB 2 Run.enc s_38.1), (n_16, some (.cells 2 [(vI s_38.2.2), (vI x_5.f_to)]))] : Hp)) p.1 p.2.1 p.2.2) (fun p => iterN (fun s => screen_less_L2 m_2 x_5 s) p.1 p.2.1 = some o_43) (fun p => p.1) (nq_71, (s_8.1, s_22, x_5.f_from), n_11) hj_44 rfl (pre_r rfl) ?_
          rintro ⟨k_33, s_38, n_40⟩ hL_42
          dsimp only at hL_42
          cases k_33 with
          | zero => cases hL_42
          | succ k_33 =>
            obtain ⟨c_, hc_41, hL_42⟩ := bind_some hL_42
            unfold screen_less_L2 at hc_41
            refine wH_seq ?_
            refine wH_seq ?_
            obtain ⟨v_45, h_46, hc_41⟩ := bind_some hc_41
            refine wH_join (β := Unit) (fun _ => ([(1, (vL Run.enc m_2)), (5, (gV n_40 2 s_38.1)), (6, (vI s_22)), (8, (.ref n_16 0 0)), (9, (vI s_38.2.1)), (10, (vL Run.enc l_1)), (11, (vI (l_1.length : Int))), (12, (vI (k_3 : Int))), (46, (vB v_45))] : List (Nat × V))) (fun _ => ([(n_40, gB 2 Run.enc s_38.1), (n_16, some (.cells 2 [(vI s_38.2.2), (vI x_5.f_to)]))] : Hp)) (fun _ => True) ?_ ?_
            · refine wH_draws ?_
              refine h_op (vI s_38.2.1) (wt rfl) rfl ?_
              refine h_op (vL Run.enc m_2) (wt rfl) rfl ?_
              refine h_len un184 rfl (wt rfl) ?_
              refine h_op (vB (decide (s_38.2.1 < (m_2.length : Int)))) (wt rfl) rfl ?_
              rcases cond_some h_46 with ⟨hc_47, h_46⟩ | ⟨hc_47, h_46⟩
              · refine h_movb rfl hc_47 (wt rfl) ?_
                refine h_op (vL Run.enc m_2) (wg rfl rfl rfl) rfl ?_
                refine h_op (vI s_38.2.1) (wg rfl rfl rfl) rfl ?_
                obtain ⟨y_48, hy_49, h_46⟩ := bind_some h_46
                refine h_ia es184 rfl rfl hy_49 rfl (wg rfl rfl rfl) ?_
                refine h_fac pl189_0 rfl [.int .i64 y_48.f_from, .int .i64 y_48.f_to] rfl rfl (wg rfl rfl rfl) ?_
                refine h_ldc sz3 ag3 rfl (vI y_48.f_from) rfl (wg rfl rfl rfl) ?_
                refine h_far pl189_1 rfl 1 rfl (wg rfl rfl rfl) ?_
                refine h_ldr 11 1 (.inr (by kernel_rfl)) (fun _ _ ag => trivial) sz3 ag3 rfl rfl (vI x_5.f_to) rfl (wg rfl rfl rfl) ?_
                refine h_op (vB (decide (y_48.f_from < x_5.f_to))) (wg rfl rfl rfl) rfl ?_
                refine h_op (vB (decide (y_48.f_from < x_5.f_to))) (wt rfl) rfl ?_
                refine h_nil ?_
                replace h_46 := some_inj h_46
                subst h_46
                exact cut_mk () trivial rfl (pre_r rfl)
              · refine h_movb rfl hc_47 (wt rfl) ?_
                refine h_skip (wg rfl rfl rfl) ?_
                refine h_skip (wg rfl rfl rfl) ?_
                refine h_skip (wg rfl rfl rfl) ?_
                refine h_skip (wg rfl rfl rfl) ?_
                refine h_skip (wg rfl rfl rfl) ?_
                refine h_skip (wg rfl rfl rfl) ?_
                refine h_skip (wg rfl rfl rfl) ?_
                refine h_skip (wg rfl rfl rfl) ?_
                refine h_op (vB false) (wt rfl) rfl ?_
                refine h_nil ?_
                replace h_46 := some_inj h_46
                subst h_46
                exact cut_mk () trivial rfl (pre_r rfl)
            · rintro ⟨⟩ _ sl_ H_ hp_ hq_
              refine wH_at _ hp_ hq_ ?_
              rcases cond_some hc_41 with ⟨hc_50, hc_41⟩ | ⟨hc_50, hc_41⟩
              · refine wH_ift rfl hc_50 ?_
                refine wH_skip ?_
                refine wH_seq ?_
                refine wH_block ?_
                refine wH_seq ?_
                refine wH_seq ?_
                refine wH_draws ?_
                refine h_op (vL Run.enc m_2) (wt rfl) rfl ?_
                refine h_op (vI s_38.2.1) (wt rfl) rfl ?_
                obtain ⟨y_51, hy_52, hc_41⟩ := bind_some hc_41
                refine h_ia es184 rfl rfl hy_52 rfl (wt rfl) ?_
                refine h_fac pl189_0 rfl [.int .i64 y_51.f_from, .int .i64 y_51.f_to] rfl rfl (wt rfl) ?_
                refine h_ldc sz3 ag3 rfl (vI y_51.f_from) rfl (wt rfl) ?_
                refine h_far pl189_0 rfl 0 rfl (wt rfl) ?_
                refine h_ldr 6 1 (.inr (by kernel_rfl)) (fun _ _ ag => trivial) sz3 ag3 rfl rfl (vI s_38.2.2) rfl (wt rfl) ?_
                refine h_op (vB (decide (y_51.f_from > s_38.2.2))) (wt rfl) rfl ?_
                refine h_nil ?_
                obtain ⟨v_53, h_54, hc_41⟩ := bind_some hc_41
                refine wH_join (β := Nm) (fun (n_55 : Nm) => ([(1, (vL Run.enc m_2)), (5, (gV n_55 2 v_53)), (6, (vI s_22)), (8, (.ref n_16 0 0)), (9, (vI s_38.2.1)), (10, (vL Run.enc l_1)), (11, (vI (l_1.length : Int))), (12, (vI (k_3 : Int)))] : List (Nat × V))) (fun (n_55 : Nm) => ([(n_55, gB 2 Run.enc v_53), (n_16, some (.cells 2 [(vI s_38.2.2), (vI x_5.f_to)]))] : Hp)) (fun _ => True) ?_ ?_
                · rcases cond_some h_54 with ⟨hc_56, h_54⟩ | ⟨hc_56, h_54⟩
                  · refine wH_ift rfl hc_56 ?_
                    refine wH_draws ?_
                    refine h_op (gV n_40 2 s_38.1) (wt rfl) rfl ?_
                    refine h_far pl189_0 rfl 0 rfl (wt rfl) ?_
                    refine h_ldr 2 1 (.inr (by kernel_rfl)) (fun _ _ ag => trivial) sz3 ag3 rfl rfl (vI s_38.2.2) rfl (wt rfl) ?_
                    refine h_op (vL Run.enc m_2) (wt rfl) rfl ?_
                    refine h_op (vI s_38.2.1) (wt rfl) rfl ?_
                    obtain ⟨y_57, hy_58, h_54⟩ := bind_some h_54
                    refine h_ia es184 rfl rfl hy_58 rfl (wt rfl) ?_
                    refine h_fac pl189_0 rfl [.int .i64 y_57.f_from, .int .i64 y_57.f_to] rfl rfl (wt rfl) ?_
                    refine h_ldc sz3 ag3 rfl (vI y_57.f_from) rfl (wt rfl) ?_
                    refine h_op (.d (.agg (Run.enc (⟨s_38.2.2, y_57.f_from⟩ : Run)))) (wt rfl) (by kernel_rfl) ?_
                    refine h_lit (([(⟨s_38.2.2, y_57.f_from⟩ : Run)] : List Run).map Run.enc) es184 ez184 rfl rfl rfl rfl rfl (wt rfl) ?_
                    obtain ⟨a_59, hz_60, h_54⟩ := bind_some h_54
                    refine h_appg 10 (.inr (by kernel_rfl)) (fun _ _ ag => ⟨.inr (.inr (by kernel_rfl)), trivial⟩) (i := 0) el184 el184 sz189 z189 rfl (by decide) by189 (by decide) (fun _ => rfl) rfl rfl rfl hz_60 (wt rfl) (fun n_61 => ?_)
                    refine h_op (gV n_61 2 a_59) (wt rfl) rfl ?_
                    refine h_nil ?_
                    replace h_54 := some_inj h_54
                    subst h_54
                    exact cut_mk n_61 trivial rfl (pre_r rfl)
                  · refine wH_iff rfl hc_56 ?_
                    refine wH_skip ?_
                    replace h_54 := some_inj h_54
                    subst h_54
                    exact cut_mk n_40 trivial rfl (pre_r rfl)
                · rintro n_55 _ sl_ H_ hp_ hq_
                  refine wH_at _ hp_ hq_ ?_
                  refine wH_draws ?_
                  refine h_far pl189_0 rfl 0 rfl (wt rfl) ?_
                  refine h_ldr 1 1 (.inr (by kernel_rfl)) (fun _ _ ag => trivial) sz3 ag3 rfl rfl (vI s_38.2.2) rfl (wt rfl) ?_
                  refine h_op (vL Run.enc m_2) (wt rfl) rfl ?_
                  refine h_op (vI s_38.2.1) (wt rfl) rfl ?_
                  obtain ⟨y_62, hy_63, hc_41⟩ := bind_some hc_41
                  refine h_ia es184 rfl rfl hy_63 rfl (wt rfl) ?_
                  refine h_fac pl189_1 rfl [.int .i64 y_62.f_to] rfl rfl (wt rfl) ?_
                  refine h_ldc sz3 ag3 rfl (vI y_62.f_to) rfl (wt rfl) ?_
                  refine h_minmax (vI (maxI s_38.2.2 y_62.f_to)) rfl (.inr rfl) (wt rfl) ?_
                  refine h_far pl189_0 rfl 0 rfl (wt rfl) ?_
                  refine h_str 9 (.inr (by kernel_rfl)) (fun _ _ ag => ⟨.inr (.inr (by kernel_rfl)), trivial⟩) 1 sz3 rfl rfl [(vI (maxI s_38.2.2 y_62.f_to)), (vI x_5.f_to)] rfl (wt rfl) ?_
                  refine h_nil ?_
                  refine wH_region ?_
                  refine h_op (vI s_38.2.1) (wt rfl) rfl ?_
                  refine h_op (vI (w64 (s_38.2.1 + 1))) (wt rfl) rfl ?_
                  refine h_op (vI (w64 (s_38.2.1 + 1))) (wt rfl) rfl ?_
                  refine h_nil ?_
                  replace hc_41 := some_inj hc_41
                  subst hc_41
                  exact loop_mk (k_33, (v_53, (w64 (s_38.2.1 + 1)), (maxI s_38.2.2 y_62.f_to)), n_55) hL_42 (Nat.lt_succ_self _) rfl (pre_r rfl)
              · refine wH_iff rfl hc_50 ?_
                refine wH_exit ?_
                replace hc_41 := some_inj hc_41
                subst hc_41
                replace hL_42 := some_inj hL_42
                subst hL_42
                exact cut_mk ((s_38.1, s_38.2.1, s_38.2.2), n_40) rfl rfl (pre_r rfl)
        · rintro ⟨s_38, n_40⟩ ho_ sl_ H_ hp_ hq_
          subst ho_
          refine wH_at _ hp_ hq_ ?_
          refine wH_seq ?_
          refine wH_region ?_
          refine h_far pl189_0 rfl 0 rfl (wt rfl) ?_
          refine h_ldr 0 1 (.inl rfl) (fun _ _ _ => trivial) sz3 ag3 rfl rfl (vI s_38.2.2) rfl (wt rfl) ?_
          refine h_far pl189_1 rfl 1 rfl (wt rfl) ?_
          refine h_ldr 0 1 (.inl rfl) (fun _ _ _ => trivial) sz3 ag3 rfl rfl (vI x_5.f_to) rfl (wt rfl) ?_
          refine h_op (vB (decide (s_38.2.2 < x_5.f_to))) (wt rfl) rfl ?_
          refine h_nil ?_
          obtain ⟨v_64, h_65, hc_12⟩ := bind_some hc_12
          refine wH_join (β := Nm) (fun (n_66 : Nm) => ([(1, (vL Run.enc m_2)), (5, (gV n_66 2 v_64)), (6, (vI s_22)), (10, (vL Run.enc l_1)), (11, (vI (l_1.length : Int))), (12, (vI (k_3 : Int)))] : List (Nat × V))) (fun (n_66 : Nm) => ([(n_66, gB 2 Run.enc v_64), (n_16, some (.cells 2 [(vI s_38.2.2), (vI x_5.f_to)]))] : Hp)) (fun _ => True) ?_ ?_
          · rcases cond_some h_65 with ⟨hc_67, h_65⟩ | ⟨hc_67, h_65⟩
            · refine wH_ift rfl hc_67 ?_
              refine wH_region ?_
              refine h_op (gV n_40 2 s_38.1) (wt rfl) rfl ?_
              refine h_ldr 0 1 (.inl rfl) (fun _ _ _ => trivial) sz189 ag189 rfl rfl (.d (.agg (Run.enc (⟨s_38.2.2, x_5.f_to⟩ : Run)))) rfl (wt rfl) ?_
              refine h_lit (([(⟨s_38.2.2, x_5.f_to⟩ : Run)] : List Run).map Run.enc) es184 ez184 rfl rfl rfl rfl rfl (wt rfl) ?_
              obtain ⟨a_68, hz_69, h_65⟩ := bind_some h_65
              refine h_appg 0 (.inl rfl) (fun _ _ _ => trivial) (i := 0) el184 el184 sz189 z189 rfl (by decide) by189 (by decide) (fun _ => rfl) rfl rfl rfl hz_69 (wt rfl) (fun n_70 => ?_)
              refine h_op (gV n_70 2 a_68) (wt rfl) rfl ?_
              refine h_nil ?_
              replace h_65 := some_inj h_65
              subst h_65
              exact cut_mk n_70 trivial rfl (pre_r rfl)
            · refine wH_iff rfl hc_67 ?_
              refine wH_skip ?_
              replace h_65 := some_inj h_65
              subst h_65
              exact cut_mk n_40 trivial rfl (pre_r rfl)
          · rintro n_66 _ sl_ H_ hp_ hq_
            refine wH_at _ hp_ hq_ ?_
            refine wH_region ?_
            refine h_opw (w64_next hD_6 hn_7) (wt rfl) rfl ?_
            refine h_op (vI ((k_3 + 1 : Nat) : Int)) (wt rfl) rfl ?_
            refine h_nil ?_
            replace hc_12 := some_inj hc_12
            subst hc_12
            exact loop_mk (k_3 + 1, l_4, (v_64, s_22), n_66) ⟨hL_13, drop_next hD_6⟩ (Nat.lt_succ_self _) rfl (pre_r rfl)
  · rintro ⟨s_8, n_11⟩ ho_ sl_ H_ hp_ hq_
    subst ho_
    refine wH_at _ hp_ hq_ ?_
    refine wH_seq ?_
    refine wH_region ?_
    refine h_op (gV n_11 2 s_8.1) (wt rfl) rfl ?_
    refine h_op (gV n_11 2 s_8.1) (wt rfl) rfl ?_
    refine h_nil ?_
    refine wH_frozg 0 rfl ?_
    refine wH_cog 4 0 rfl rfl ?_
    refine wH_cog 5 0 rfl rfl ?_
    refine wH_cog 87 0 rfl rfl ?_
    replace hF := some_inj hF
    subst hF
    refine wH_ret ?_
    exact fin0 (.inr rfl) [(vL Run.enc s_8.1)] ⟨rfl, trivial⟩ rfl rfl rfl
theorem slices_Equal_screen_run_screen_run_ok {s1_1 : (List Run)} {s2_2 : (List Run)} {r : Bool} (hF : slices_Equal_screen_run_screen_run s1_1 s2_2 = some r) :
    FnM Try.prog 173 [(vL Run.enc s1_1), (vL Run.enc s2_2)] [] (vB r) [] := by
  refine FnM.of_wH ⟨Try.prog, 26, [], []⟩ rfl Try.func173 rfl rfl (Nat.le_of_ble_eq_true rfl) (by kernel_rfl) ?_
  unfold slices_Equal_screen_run_screen_run at hF
  refine wH_seq ?_
  refine wH_region ?_
  refine h_op (vB false) (wt rfl) rfl ?_
  refine h_nil ?_
  refine wH_seq ?_
  refine wH_seq ?_
  refine wH_region ?_
  refine h_op (vL Run.enc s1_1) (wt rfl) rfl ?_
  refine h_len un184 rfl (wt rfl) ?_
  refine h_op (vL Run.enc s2_2) (wt rfl) rfl ?_
  refine h_len un184 rfl (wt rfl) ?_
  refine h_op (vB ((s1_1.length : Int) != (s2_2.length : Int))) (wt rfl) rfl ?_
  refine h_nil ?_
  rcases cond_some hF with ⟨hc_3, hF⟩ | ⟨hc_3, hF⟩
  · refine wH_ift rfl hc_3 ?_
    refine wH_seq ?_
    refine wH_region ?_
    refine h_op (vB false) (wt rfl) rfl ?_
    refine h_nil ?_
    replace hF := some_inj hF
    subst hF
    refine wH_ret ?_
    exact fin0 (.inr rfl) [(vB false)] ⟨rfl, trivial⟩ rfl rfl rfl
  · refine wH_iff rfl hc_3 ?_
    refine wH_skip ?_
    refine wH_seq ?_
    refine wH_seq ?_
    refine wH_region ?_
    refine h_op (vL Run.enc s1_1) (wt rfl) rfl ?_
    refine h_len un184 rfl (wt rfl) ?_
    refine h_op (vI 0) (wt rfl) rfl ?_
    refine h_nil ?_
    obtain ⟨o_12, hj_13, hF⟩ := bind_some hF
    obtain ⟨hn_8, hj_13⟩ := forL_some hj_13
    refine wH_join (β := (Unit)) (fun (s_9 : Unit) => ([] : List (Nat × V))) (fun (s_9 : Unit) => ([] : Hp)) (fun p => o_12 = .go p) ?_ ?_
    · refine wH_block ?_
      refine wH_loop (β := Nat × (List Run) × (Unit)) (fun p => (fun (k_4 : Nat) (l_5 : List Run) (s_9 : Unit) => ([(0, (vL Run.enc s1_1)), (1, (vL Run.enc s2_2)), (12, (vI (s1_1.length : Int))), (13, (vI (k_4 : Int)))] : List (Nat × V))) p.1 p.2.1 p.2.2) (fun p => (fun (k_4 : Nat) (l_5 : List Run) (s_9 : Unit) => ([] : Hp)) p.1 p.2.1 p.2.2) (fun p => forR (fun k x s => slices_Equal_screen_run_screen_run_L1 s2_2 k x s) p.2.1 p.1 p.2.2 = some o_12 ∧ (s1_1).drop p.1 = p.2.1) (fun p => p.2.1.length) (0, s1_1, ()) ⟨hj_13, rfl⟩ rfl (pre_r rfl) ?_
      rintro ⟨k_4, l_5, s_9⟩ ⟨hL_11, hD_7⟩
      dsimp only at hL_11 hD_7
      cases l_5 with
      | nil =>
        replace hL_11 := some_inj hL_11
        subst hL_11
        refine wH_seq (wH_region (h_op (vB (decide ((k_4 : Int) < (s1_1.length : Int)))) (wt rfl) rfl (h_nil ?_)))
        refine wH_seq (wH_iff rfl (drop_nil hD_7) (wH_exit ?_))
        exact cut_mk (s_9) rfl rfl (pre_r rfl)
      | cons x_6 l_5 =>
        obtain ⟨c_, hc_10, hL_11⟩ := bind_some hL_11
        refine wH_seq (wH_region (h_op (vB (decide ((k_4 : Int) < (s1_1.length : Int)))) (wt rfl) rfl (h_nil ?_)))
        refine wH_seq (wH_ift rfl (drop_cons hD_7) (wH_skip ?_))
        unfold slices_Equal_screen_run_screen_run_L1 at hc_10
        refine wH_seq ?_
        refine wH_block ?_
        refine wH_seq ?_
        refine wH_region ?_
        refine h_op (vI (k_4 : Int)) (wt rfl) rfl ?_
        refine h_op (vI (k_4 : Int)) (wt rfl) rfl ?_
        refine h_nil ?_
        refine wH_seq ?_
        refine wH_draws ?_
        refine h_op (vL Run.enc s1_1) (wt rfl) rfl ?_
        refine h_op (vI (k_4 : Int)) (wt rfl) rfl ?_
        refine h_ia es184 rfl rfl (drop_idx hD_7) rfl (wt rfl) ?_
        refine h_ldc sz189 ag189 rfl (.d (.agg (Run.enc x_6))) rfl (wt rfl) ?_
        refine h_op (vL Run.enc s2_2) (wt rfl) rfl ?_
        refine h_op (vI (k_4 : Int)) (wt rfl) rfl ?_
        obtain ⟨y_14, hy_15, hc_10⟩ := bind_some hc_10
        refine h_ia es184 rfl rfl hy_15 rfl (wt rfl) ?_
        refine h_ldc sz189 ag189 rfl (.d (.agg (Run.enc y_14))) rfl (wt rfl) ?_
        refine h_op (vB (!((x_6.f_from == y_14.f_from) && ((x_6.f_to == y_14.f_to) && true)))) (wt rfl) (by kernel_rfl) ?_
        refine h_nil ?_
        rcases cond_some hc_10 with ⟨hc_16, hc_10⟩ | ⟨hc_16, hc_10⟩
        · refine wH_ift rfl hc_16 ?_
          refine wH_seq ?_
          refine wH_region ?_
          refine h_op (vB false) (wt rfl) rfl ?_
          refine h_nil ?_
          replace hc_10 := some_inj hc_10
          subst hc_10
          replace hL_11 := some_inj hL_11
          subst hL_11
          replace hF := some_inj hF
          subst hF
          refine wH_ret ?_
          exact fin0 (.inr rfl) [(vB false)] ⟨rfl, trivial⟩ rfl rfl rfl
        · refine wH_iff rfl hc_16 ?_
          refine wH_skip ?_
          refine wH_region ?_
          refine h_opw (w64_next hD_7 hn_8) (wt rfl) rfl ?_
          refine h_op (vI ((k_4 + 1 : Nat) : Int)) (wt rfl) rfl ?_
          refine h_nil ?_
          replace hc_10 := some_inj hc_10
          subst hc_10
          exact loop_mk (k_4 + 1, l_5, ()) ⟨hL_11, drop_next hD_7⟩ (Nat.lt_succ_self _) rfl (pre_r rfl)
    · rintro s_9 ho_ sl_ H_ hp_ hq_
      subst ho_
      refine wH_at _ hp_ hq_ ?_
      refine wH_seq ?_
      refine wH_region ?_
      refine h_op (vB true) (wt rfl) rfl ?_
      refine h_nil ?_
      replace hF := some_inj hF
      subst hF
      refine wH_ret ?_
      exact fin0 (.inr rfl) [(vB true)] ⟨rfl, trivial⟩ rfl rfl rfl
theorem screen_region_ok {l_1 : (List Rect)} {m_2 : (List Rect)} {r : (List Rect)} (hF : screen_region l_1 m_2 = some r) :
    FnM Try.prog 131 [(vL Rect.enc l_1), (vL Rect.enc m_2)] [] (vL Rect.enc r) [] := by
  refine FnM.of_wH ⟨Try.prog, 88, [], []⟩ rfl Try.func131 rfl rfl (Nat.le_of_ble_eq_true rfl) (by kernel_rfl) ?_
  unfold screen_region at hF
  refine wH_seq ?_
  refine wH_region ?_
  refine h_op .nil (wt rfl) rfl ?_
  refine h_nil ?_
  refine wH_seq ?_
  refine wH_region ?_
  refine h_op .nil (wt rfl) rfl ?_
  refine h_nil ?_
  refine wH_seq ?_
  refine wH_seq ?_
  refine wH_region ?_
  refine h_op (vL Rect.enc l_1) (wt rfl) rfl ?_
  refine h_op (vL Rect.enc m_2) (wt rfl) rfl ?_
  refine h_lit (([l_1, m_2] : List (List Rect)).map (eL Rect.enc)) es196 ez196 rfl rfl rfl rfl rfl (wt rfl) ?_
  obtain ⟨r_3, hr_4, hF⟩ := bind_some hF
  refine h_call0 (slices_Concat_api_Rect_api_Rect_ok hr_4) rfl hb136 rfl rfl rfl rfl (wt rfl) ?_
  refine h_len un94 rfl (wt rfl) ?_
  refine h_op (vI 0) (wt rfl) rfl ?_
  refine h_nil ?_
  refine wH_new (fun n_11 => ?_)
  obtain ⟨o_16, hj_17, hF⟩ := bind_some hF
  obtain ⟨hn_9, hj_17⟩ := forL_some hj_17
  refine wH_join (β := ((List Int)) × Nm) (fun p => (fun (s_10 : (List Int)) (n_13 : Nm) => ([(0, (vL Rect.enc l_1)), (1, (vL Rect.enc m_2)), (5, (gV n_13 1 s_10))] : List (Nat × V))) p.1 p.2) (fun p => (fun (s_10 : (List Int)) (n_13 : Nm) => ([(n_13, gB 1 eI s_10)] : Hp)) p.1 p.2) (fun p => o_16 = .go p.1) ?_ ?_
  · refine wH_block ?_
    refine wH_loop (β := Nat × (List Rect) × ((List Int)) × Nm) (fun p => (fun (k_5 : Nat) (l_6 : List Rect) (s_10 : (List Int)) (n_13 : Nm) => ([(0, (vL Rect.enc l_1)), (1, (vL Rect.enc m_2)), (5, (gV n_13 1 s_10)), (19, (vL Rect.enc r_3)), (20, (vI (r_3.length : Int))), (21, (vI (k_5 : Int)))] : List (Nat × V))) p.1 p.2.1 p.2.2.1 p.2.2.2) (fun p => (fun (k_5 : Nat) (l_6 : List Rect) (s_10 : (List Int)) (n_13 : Nm) => ([(n_13, gB 1 eI s_10)] : Hp)) p.1 p.2.1 p.2.2.1 p.2.2.2) (fun p => forR (fun k x s => screen_region_L1 k x s) p.2.1 p.1 p.2.2.1 = some o_16 ∧ (r_3).drop p.1 = p.2.1) (fun p => p.2.1.length) (0, r_3, ([] : List Int), n_11) ⟨hj_17, rfl⟩ rfl (pre_r rfl) ?_
    rintro ⟨k_5, l_6, s_10, n_13⟩ ⟨hL_15, hD_8⟩
    dsimp only at hL_15 hD_8
    cases l_6 with
    | nil =>
      replace hL_15 := some_inj hL_15
      subst hL_15
      refine wH_seq (wH_region (h_op (vB (decide ((k_5 : Int) < (r_3.length : Int)))) (wt rfl) rfl (h_nil ?_)))
      refine wH_seq (wH_iff rfl (drop_nil hD_8) (wH_exit ?_))
      exact cut_mk (s_10, n_13) rfl rfl (pre_r rfl)
    | cons x_7 l_6 =>
      obtain ⟨c_, hc_14, hL_15⟩ := bind_some hL_15
      refine wH_seq (wH_region (h_op (vB (decide ((k_5 : Int) < (r_3.length : Int)))) (wt rfl) rfl (h_nil ?_)))
      refine wH_seq (wH_ift rfl (drop_cons hD_8) (wH_skip ?_))
      unfold screen_region_L1 at hc_14
      refine wH_seq ?_
      refine wH_block ?_
      refine wH_seq ?_
      refine wH_region ?_
      refine h_ia es94 rfl rfl (drop_idx hD_8) rfl (wt rfl) ?_
      refine h_ldc sz92 ag92 rfl (.d (.agg (Rect.enc x_7))) rfl (wt rfl) ?_
      refine h_alloc 0 (.inl rfl) z92 rfl (wt rfl) (fun n_18 => ?_)
      refine h_str 0 (.inl rfl) (fun _ _ _ => trivial) 1 sz92 rfl rfl [(vI x_7.X), (vI x_7.Y), (vI x_7.W), (vI x_7.H)] rfl (wt rfl) ?_
      refine h_nil ?_
      refine wH_region ?_
      refine h_op (gV n_13 1 s_10) (wt rfl) rfl ?_
      refine h_far pl92_1 rfl 1 rfl (wt rfl) ?_
      refine h_ldr 0 1 (.inl rfl) (fun _ _ _ => trivial) sz3 ag3 rfl rfl (vI x_7.Y) rfl (wt rfl) ?_
      refine h_far pl92_1 rfl 1 rfl (wt rfl) ?_
      refine h_ldr 0 1 (.inl rfl) (fun _ _ _ => trivial) sz3 ag3 rfl rfl (vI x_7.Y) rfl (wt rfl) ?_
      refine h_far pl92_3 rfl 3 rfl (wt rfl) ?_
      refine h_ldr 0 1 (.inl rfl) (fun _ _ _ => trivial) sz3 ag3 rfl rfl (vI x_7.H) rfl (wt rfl) ?_
      refine h_op (vI (w64 (x_7.Y + x_7.H))) (wt rfl) rfl ?_
      refine h_lit (([x_7.Y, (w64 (x_7.Y + x_7.H))] : List Int).map eI) es22 ez22 rfl rfl rfl rfl rfl (wt rfl) ?_
      obtain ⟨a_19, hz_20, hc_14⟩ := bind_some hc_14
      refine h_appg 0 (.inl rfl) (fun _ _ _ => trivial) (i := 0) el22 el22 sz3 z3 rfl (by decide) by3 (by decide) (fun _ => rfl) rfl rfl rfl hz_20 (wt rfl) (fun n_21 => ?_)
      refine h_op (gV n_21 1 a_19) (wt rfl) rfl ?_
      refine h_nil ?_
      refine wH_region ?_
      refine h_opw (w64_next hD_8 hn_9) (wt rfl) rfl ?_
      refine h_op (vI ((k_5 + 1 : Nat) : Int)) (wt rfl) rfl ?_
      refine h_nil ?_
      replace hc_14 := some_inj hc_14
      subst hc_14
      exact loop_mk (k_5 + 1, l_6, a_19, n_21) ⟨hL_15, drop_next hD_8⟩ (Nat.lt_succ_self _) rfl (pre_r rfl)
  · rintro ⟨s_10, n_13⟩ ho_ sl_ H_ hp_ hq_
    subst ho_
    refine wH_at _ hp_ hq_ ?_
    refine wH_seq ?_
    refine wH_region ?_
    refine h_op (gV n_13 1 s_10) (wt rfl) rfl ?_
    obtain ⟨r_22, hr_23, hF⟩ := bind_some hF
    obtain ⟨_, hs_24, hF⟩ := bind_some hF
    replace hs_24 := sameL_eq hs_24
    refine h_callv 0 [] 0 0 (.inl rfl) (fun _ _ _ => trivial) (slices_Sort_int_int_v1_ok hr_23) rfl hb169 rfl rfl rfl (by kernel_rfl) rfl (.inl rfl) rfl (by kernel_rfl) (by kernel_rfl) (by kernel_rfl) (by kernel_rfl) rfl (by decide) (by kernel_rfl) gB_ok (gB_ho hs_24) (wt rfl) ([(n_13, gB 1 eI r_22)] : Hp) (by kernel_rfl) ?_
    refine h_re (v' := (gV n_13 1 r_22)) 36 rfl (gV_len hs_24.symm) ?_
    refine h_re (v' := (gV n_13 1 r_22)) 5 rfl (gV_len hs_24.symm) ?_
    refine h_nil ?_
    refine wH_seq ?_
    refine wH_region ?_
    refine h_op (gV n_13 1 r_22) (wt rfl) rfl ?_
    obtain ⟨r_25, hr_26, hF⟩ := bind_some hF
    refine h_callv 0 [] 0 0 (.inl rfl) (fun _ _ _ => trivial) (slices_Compact_int_int_v1_ok hr_26) rfl hb170 rfl rfl rfl (by kernel_rfl) rfl (.inl rfl) rfl (by kernel_rfl) (by kernel_rfl) (by kernel_rfl) (by kernel_rfl) rfl (by decide) (by kernel_rfl) none_ok (fun _ => rfl) (wt rfl) ([(n_13, none)] : Hp) (by kernel_rfl) ?_
    refine h_op (vL eI r_25) (wt rfl) rfl ?_
    refine h_nil ?_
    refine wH_seq ?_
    refine wH_region ?_
    refine h_op .nil (wt rfl) rfl ?_
    refine h_nil ?_
    refine wH_seq ?_
    refine wH_region ?_
    refine h_op .nil (wt rfl) rfl ?_
    refine h_nil ?_
    refine wH_seq ?_
    refine wH_region ?_
    refine h_op (vI 0) (wt rfl) rfl ?_
    refine h_nil ?_
    refine wH_seq ?_
    refine wH_seq ?_
    refine wH_region ?_
    refine h_op (vL eI r_25) (wt rfl) rfl ?_
    refine h_len un22 rfl (wt rfl) ?_
    refine h_op (vI 0) (wt rfl) rfl ?_
    refine h_nil ?_
    refine wH_nilL Run.enc 9 rfl ?_
    refine wH_new (fun n_33 => ?_)
    obtain ⟨o_38, hj_39, hF⟩ := bind_some hF
    obtain ⟨hn_31, hj_39⟩ := forL_some hj_39
    refine wH_join (β := ((List Rect) × (List Run) × Int) × Nm) (fun p => (fun (s_32 : (List Rect) × (List Run) × Int) (n_35 : Nm) => ([(8, (gV n_35 4 s_32.1))] : List (Nat × V))) p.1 p.2) (fun p => (fun (s_32 : (List Rect) × (List Run) × Int) (n_35 : Nm) => ([(n_13, none), (n_35, gB 4 Rect.enc s_32.1)] : Hp)) p.1 p.2) (fun p => o_38 = .go p.1) ?_ ?_
    · refine wH_block ?_
      refine wH_loop (β := Nat × (List Int) × ((List Rect) × (List Run) × Int) × Nm) (fun p => (fun (k_27 : Nat) (l_28 : List Int) (s_32 : (List Rect) × (List Run) × Int) (n_35 : Nm) => ([(0, (vL Rect.enc l_1)), (1, (vL Rect.enc m_2)), (5, (vL eI r_25)), (8, (gV n_35 4 s_32.1)), (9, (vL Run.enc s_32.2.1)), (10, (vI s_32.2.2)), (40, (vL eI r_25)), (41, (vI (r_25.length : Int))), (42, (vI (k_27 : Int)))] : List (Nat × V))) p.1 p.2.1 p.2.2.1 p.2.2.2) (fun p => (fun (k_27 : Nat) (l_28 : List Int) (s_32 : (List Rect) × (List Run) × Int) (n_35 : Nm) => ([(n_13, none), (n_35, gB 4 Rect.enc s_32.1)] : Hp)) p.1 p.2.1 p.2.2.1 p.2.2.2) (fun p => forR (fun k x s => screen_region_L3 r_25 l_1 m_2 k x s) p.2.1 p.1 p.2.2.1 = some o_38 ∧ (r_25).drop p.1 = p.2.1) (fun p => p.2.1.length) (0, r_25, (([] : List Rect), ([] : List Run), 0), n_33) ⟨hj_39, rfl⟩ rfl (pre_r rfl) ?_
      rintro ⟨k_27, l_28, s_32, n_35⟩ ⟨hL_37, hD_30⟩
      dsimp only at hL_37 hD_30
      cases l_28 with
      | nil =>
        replace hL_37 := some_inj hL_37
        subst hL_37
        refine wH_seq (wH_region (h_op (vB (decide ((k_27 : Int) < (r_25.length : Int)))) (wt rfl) rfl (h_nil ?_)))
        refine wH_seq (wH_iff rfl (drop_nil hD_30) (wH_exit ?_))
        exact cut_mk (s_32, n_35) rfl rfl (pre_r rfl)
      | cons x_29 l_28 =>
        obtain ⟨c_, hc_36, hL_37⟩ := bind_some hL_37
        refine wH_seq (wH_region (h_op (vB (decide ((k_27 : Int) < (r_25.length : Int)))) (wt rfl) rfl (h_nil ?_)))
        refine wH_seq (wH_ift rfl (drop_cons hD_30) (wH_skip ?_))
        unfold screen_region_L3 at hc_36
        refine wH_seq ?_
        refine wH_block ?_
        refine wH_seq ?_
        refine wH_region ?_
        refine h_op (vI (k_27 : Int)) (wt rfl) rfl ?_
        refine h_ia es22 rfl rfl (drop_idx hD_30) rfl (wt rfl) ?_
        refine h_ldc sz3 ag3 rfl (vI x_29) rfl (wt rfl) ?_
        refine h_op (vI (k_27 : Int)) (wt rfl) rfl ?_
        refine h_op (vI x_29) (wt rfl) rfl ?_
        refine h_nil ?_
        refine wH_seq ?_
        refine wH_region ?_
        refine h_op .nil (wt rfl) rfl ?_
        refine h_nil ?_
        refine wH_seq ?_
        refine wH_seq ?_
        refine wH_region ?_
        refine h_op (vI (k_27 : Int)) (wt rfl) rfl ?_
        refine h_op (vI (w64 ((k_27 : Int) + 1))) (wt rfl) rfl ?_
        refine h_op (vL eI r_25) (wt rfl) rfl ?_
        refine h_len un22 rfl (wt rfl) ?_
        refine h_op (vB (decide ((w64 ((k_27 : Int) + 1)) < (r_25.length : Int)))) (wt rfl) rfl ?_
        refine h_nil ?_
        refine wH_nilL Run.enc 13 rfl ?_
        obtain ⟨v_42, h_43, hc_36⟩ := bind_some hc_36
        refine wH_join (β := Unit) (fun _ => ([(0, (vL Rect.enc l_1)), (1, (vL Rect.enc m_2)), (5, (vL eI r_25)), (8, (gV n_35 4 s_32.1)), (9, (vL Run.enc s_32.2.1)), (10, (vI s_32.2.2)), (12, (vI x_29)), (13, (vL Run.enc v_42)), (40, (vL eI r_25)), (41, (vI (r_25.length : Int))), (42, (vI (k_27 : Int)))] : List (Nat × V))) (fun _ => ([(n_13, none), (n_35, gB 4 Rect.enc s_32.1)] : Hp)) (fun _ => True) ?_ ?_
        · rcases cond_some h_43 with ⟨hc_44, h_43⟩ | ⟨hc_44, h_43⟩
          · refine wH_ift rfl hc_44 ?_
            refine wH_region ?_
            refine h_op (vL Rect.enc l_1) (wt rfl) rfl ?_
            refine h_op (vI x_29) (wt rfl) rfl ?_
            obtain ⟨r_45, hr_46, h_43⟩ := bind_some h_43
            refine h_call0 (screen_runs_ok hr_46) rfl hb172 rfl rfl rfl rfl (wt rfl) ?_
            refine h_op (vL Rect.enc m_2) (wt rfl) rfl ?_
            refine h_op (vI x_29) (wt rfl) rfl ?_
            obtain ⟨r_47, hr_48, h_43⟩ := bind_some h_43
            refine h_call0 (screen_runs_ok hr_48) rfl hb172 rfl rfl rfl rfl (wt rfl) ?_
            obtain ⟨r_49, hr_50, h_43⟩ := bind_some h_43
            refine h_call0 (screen_less_ok hr_50) rfl hb171 rfl rfl rfl rfl (wt rfl) ?_
            refine h_op (vL Run.enc r_49) (wt rfl) rfl ?_
            refine h_nil ?_
            replace h_43 := some_inj h_43
            subst h_43
            exact cut_mk () trivial rfl (pre_r rfl)
          · refine wH_iff rfl hc_44 ?_
            refine wH_skip ?_
            replace h_43 := some_inj h_43
            subst h_43
            exact cut_mk () trivial rfl (pre_r rfl)
        · rintro ⟨⟩ _ sl_ H_ hp_ hq_
          refine wH_at _ hp_ hq_ ?_
          refine wH_seq ?_
          refine wH_seq ?_
          refine wH_region ?_
          refine h_op (vL Run.enc s_32.2.1) (wt rfl) rfl ?_
          refine h_op (vL Run.enc v_42) (wt rfl) rfl ?_
          obtain ⟨r_51, hr_52, hc_36⟩ := bind_some hc_36
          refine h_call0 (slices_Equal_screen_run_screen_run_ok hr_52) rfl hb173 rfl rfl rfl rfl (wt rfl) ?_
          refine h_nil ?_
          rcases cond_some hc_36 with ⟨hc_53, hc_36⟩ | ⟨hc_53, hc_36⟩
          · refine wH_ift rfl hc_53 ?_
            refine wH_exit ?_
            refine wH_region ?_
            refine h_opw (w64_next hD_30 hn_31) (wt rfl) rfl ?_
            refine h_op (vI ((k_27 + 1 : Nat) : Int)) (wt rfl) rfl ?_
            refine h_nil ?_
            replace hc_36 := some_inj hc_36
            subst hc_36
            exact loop_mk (k_27 + 1, l_28, (s_32.1, s_32.2.1, s_32.2.2), n_35) ⟨hL_37, drop_next hD_30⟩ (Nat.lt_succ_self _) rfl (pre_r rfl)
          · refine wH_iff rfl hc_53 ?_
            refine wH_skip ?_
            refine wH_seq ?_
            refine wH_seq ?_
            refine wH_region ?_
            refine h_op (vL Run.enc s_32.2.1) (wt rfl) rfl ?_
            refine h_len un184 rfl (wt rfl) ?_
            refine h_op (vI 0) (wt rfl) rfl ?_
            refine h_nil ?_
            obtain ⟨o_64, hj_65, hc_36⟩ := bind_some hc_36
            obtain ⟨hn_58, hj_65⟩ := forL_some hj_65
            refine wH_join (β := ((List Rect)) × Nm) (fun p => (fun (s_59 : (List Rect)) (n_61 : Nm) => ([(0, (vL Rect.enc l_1)), (1, (vL Rect.enc m_2)), (5, (vL eI r_25)), (8, (gV n_61 4 s_59)), (12, (vI x_29)), (13, (vL Run.enc v_42)), (40, (vL eI r_25)), (41, (vI (r_25.length : Int))), (42, (vI (k_27 : Int)))] : List (Nat × V))) p.1 p.2) (fun p => (fun (s_59 : (List Rect)) (n_61 : Nm) => ([(n_13, none), (n_61, gB 4 Rect.enc s_59)] : Hp)) p.1 p.2) (fun p => o_64 = .go p.1) ?_ ?_
            · refine wH_block ?_
              refine wH_loop (β := Nat × (List Run) × ((List Rect)) × Nm) (fun p => (fun (k_54 : Nat) (l_55 : List Run) (s_59 : (List Rect)) (n_61 : Nm) => ([(0, (vL Rect.enc l_1)), (1, (vL Rect.enc m_2)), (5, (vL eI r_25)), (8, (gV n_61 4 s_59)), (10, (vI s_32.2.2)), (12, (vI x_29)), (13, (vL Run.enc v_42)), (40, (vL eI r_25)), (41, (vI (r_25.length : Int))), (42, (vI (k_27 : Int))), (62, (vL Run.enc s_32.2.1)), (63, (vI (s_32.2.1.length : Int))), (64, (vI (k_54 : Int)))] : List (Nat × V))) p.1 p.2.1 p.2.2.1 p.2.2.2) (fun p => (fun (k_54 : Nat) (l_55 : List Run) (s_59 : (List Rect)) (n_61 : Nm) => ([(n_13, none), (n_61, gB 4 Rect.enc s_59)] : Hp)) p.1 p.2.1 p.2.2.1 p.2.2.2) (fun p => forR (fun k x s => screen_region_L2 s_32 x_29 k x s) p.2.1 p.1 p.2.2.1 = some o_64 ∧ (s_32.2.1).drop p.1 = p.2.1) (fun p => p.2.1.length) (0, s_32.2.1, s_32.1, n_35) ⟨hj_65, rfl⟩ rfl (pre_r rfl) ?_
              rintro ⟨k_54, l_55, s_59, n_61⟩ ⟨hL_63, hD_57⟩
              dsimp only at hL_63 hD_57
              cases l_55 with
              | nil =>
                replace hL_63 := some_inj hL_63
                subst hL_63
                refine wH_seq (wH_region (h_op (vB (decide ((k_54 : Int) < (s_32.2.1.length : Int)))) (wt rfl) rfl (h_nil ?_)))
                refine wH_seq (wH_iff rfl (drop_nil hD_57) (wH_exit ?_))
                exact cut_mk (s_59, n_61) rfl rfl (pre_r rfl)
              | cons x_56 l_55 =>
                obtain ⟨c_, hc_62, hL_63⟩ := bind_some hL_63
                refine wH_seq (wH_region (h_op (vB (decide ((k_54 : Int) < (s_32.2.1.length : Int)))) (wt rfl) rfl (h_nil ?_)))
                refine wH_seq (wH_ift rfl (drop_cons hD_57) (wH_skip ?_))
                unfold screen_region_L2 at hc_62
                refine wH_seq ?_
                refine wH_block ?_
                refine wH_seq ?_
                refine wH_region ?_
                refine h_ia es184 rfl rfl (drop_idx hD_57) rfl (wt rfl) ?_
                refine h_ldc sz189 ag189 rfl (.d (.agg (Run.enc x_56))) rfl (wt rfl) ?_
                refine h_alloc 0 (.inl rfl) z189 rfl (wt rfl) (fun n_66 => ?_)
                refine h_str 0 (.inl rfl) (fun _ _ _ => trivial) 2 sz189 rfl rfl [(vI x_56.f_from), (vI x_56.f_to)] rfl (wt rfl) ?_
                refine h_nil ?_
                refine wH_region ?_
                refine h_op (gV n_61 4 s_59) (wt rfl) rfl ?_
                refine h_far pl189_0 rfl 0 rfl (wt rfl) ?_
                refine h_ldr 0 2 (.inl rfl) (fun _ _ _ => trivial) sz3 ag3 rfl rfl (vI x_56.f_from) rfl (wt rfl) ?_
                refine h_op (vI s_32.2.2) (wt rfl) rfl ?_
                refine h_far pl189_1 rfl 1 rfl (wt rfl) ?_
                refine h_ldr 0 2 (.inl rfl) (fun _ _ _ => trivial) sz3 ag3 rfl rfl (vI x_56.f_to) rfl (wt rfl) ?_
                refine h_far pl189_0 rfl 0 rfl (wt rfl) ?_
                refine h_ldr 0 2 (.inl rfl) (fun _ _ _ => trivial) sz3 ag3 rfl rfl (vI x_56.f_from) rfl (wt rfl) ?_
                refine h_op (vI (w64 (x_56.f_to - x_56.f_from))) (wt rfl) rfl ?_
                refine h_op (vI x_29) (wt rfl) rfl ?_
                refine h_op (vI s_32.2.2) (wt rfl) rfl ?_
                refine h_op (vI (w64 (x_29 - s_32.2.2))) (wt rfl) rfl ?_
                refine h_op (.d (.agg (Rect.enc (⟨x_56.f_from, s_32.2.2, (w64 (x_56.f_to - x_56.f_from)), (w64 (x_29 - s_32.2.2))⟩ : Rect)))) (wt rfl) (by kernel_rfl) ?_
                refine h_lit (([(⟨x_56.f_from, s_32.2.2, (w64 (x_56.f_to - x_56.f_from)), (w64 (x_29 - s_32.2.2))⟩ : Rect)] : List Rect).map Rect.enc) es94 ez94 rfl rfl rfl rfl rfl (wt rfl) ?_
                obtain ⟨a_67, hz_68, hc_62⟩ := bind_some hc_62
                refine h_appg 0 (.inl rfl) (fun _ _ _ => trivial) (i := 1) el94 el94 sz92 z92 rfl (by decide) by92 (by decide) (fun _ => rfl) rfl rfl rfl hz_68 (wt rfl) (fun n_69 => ?_)
                refine h_op (gV n_69 4 a_67) (wt rfl) rfl ?_
                refine h_nil ?_
                refine wH_region ?_
                refine h_opw (w64_next hD_57 hn_58) (wt rfl) rfl ?_
                refine h_op (vI ((k_54 + 1 : Nat) : Int)) (wt rfl) rfl ?_
                refine h_nil ?_
                replace hc_62 := some_inj hc_62
                subst hc_62
                exact loop_mk (k_54 + 1, l_55, a_67, n_69) ⟨hL_63, drop_next hD_57⟩ (Nat.lt_succ_self _) rfl (pre_r rfl)
            · rintro ⟨s_59, n_61⟩ ho_ sl_ H_ hp_ hq_
              subst ho_
              refine wH_at _ hp_ hq_ ?_
              refine wH_region ?_
              refine h_op (vL Run.enc v_42) (wt rfl) rfl ?_
              refine h_op (vI x_29) (wt rfl) rfl ?_
              refine h_op (vL Run.enc v_42) (wt rfl) rfl ?_
              refine h_op (vI x_29) (wt rfl) rfl ?_
              refine h_nil ?_
              refine wH_region ?_
              refine h_opw (w64_next hD_30 hn_31) (wt rfl) rfl ?_
              refine h_op (vI ((k_27 + 1 : Nat) : Int)) (wt rfl) rfl ?_
              refine h_nil ?_
              replace hc_36 := some_inj hc_36
              subst hc_36
              exact loop_mk (k_27 + 1, l_28, (s_59, v_42, x_29), n_61) ⟨hL_37, drop_next hD_30⟩ (Nat.lt_succ_self _) rfl (pre_r rfl)
    · rintro ⟨s_32, n_35⟩ ho_ sl_ H_ hp_ hq_
      subst ho_
      refine wH_at _ hp_ hq_ ?_
      refine wH_seq ?_
      refine wH_region ?_
      refine h_op (gV n_35 4 s_32.1) (wt rfl) rfl ?_
      refine h_op (gV n_35 4 s_32.1) (wt rfl) rfl ?_
      refine h_nil ?_
      refine wH_frozg 1 rfl ?_
      refine wH_cog 4 1 rfl rfl ?_
      refine wH_cog 8 1 rfl rfl ?_
      refine wH_cog 87 1 rfl rfl ?_
      replace hF := some_inj hF
      subst hF
      refine wH_ret ?_
      exact fin0 (.inr rfl) [(vL Rect.enc s_32.1)] ⟨rfl, trivial⟩ rfl rfl rfl
theorem screen_bounded_ok {l_1 : (List Rect)} {r : (List Rect) × Int} (hF : screen_bounded l_1 = some r) :
    FnM Try.prog 130 [(vL Rect.enc l_1)] [] (.tup [(vL Rect.enc r.1), (vI r.2)]) [] := by
  refine FnM.of_wH ⟨Try.prog, 8, [], []⟩ rfl Try.func130 rfl rfl (Nat.le_of_ble_eq_true rfl) (by kernel_rfl) ?_
  unfold screen_bounded at hF
  refine wH_seq ?_
  refine wH_region ?_
  refine h_op .nil (wt rfl) rfl ?_
  refine h_op (vI 0) (wt rfl) rfl ?_
  refine h_nil ?_
  refine wH_seq ?_
  refine wH_seq ?_
  refine wH_region ?_
  refine h_op (vL Rect.enc l_1) (wt rfl) rfl ?_
  refine h_len un94 rfl (wt rfl) ?_
  refine h_op (vB (decide ((l_1.length : Int) > 2000))) (wt rfl) rfl ?_
  refine h_nil ?_
  rcases cond_some hF with ⟨hc_2, hF⟩ | ⟨hc_2, hF⟩
  · refine wH_ift rfl hc_2 ?_
    refine wH_seq ?_
    refine wH_region ?_
    refine h_op .nil (wt rfl) rfl ?_
    refine h_op (vI 2) (wt rfl) rfl ?_
    refine h_nil ?_
    replace hF := some_inj hF
    subst hF
    refine wH_ret ?_
    exact fin0 (.inr rfl) [.nil, (vI 2)] ⟨rfl, ⟨rfl, trivial⟩⟩ rfl rfl rfl
  · refine wH_iff rfl hc_2 ?_
    refine wH_skip ?_
    refine wH_seq ?_
    refine wH_region ?_
    refine h_op (vL Rect.enc l_1) (wt rfl) rfl ?_
    refine h_op (vL Rect.enc l_1) (wt rfl) rfl ?_
    refine h_op (vI 0) (wt rfl) rfl ?_
    refine h_nil ?_
    replace hF := some_inj hF
    subst hF
    refine wH_ret ?_
    exact fin0 (.inr rfl) [(vL Rect.enc l_1), (vI 0)] ⟨rfl, ⟨rfl, trivial⟩⟩ rfl rfl rfl
theorem screen_Region_ok {l_1 : (List Rect)} {r : (List Rect) × Int} (hF : screen_Region l_1 = some r) :
    FnM Try.prog 54 [(vL Rect.enc l_1)] [] (.tup [(vL Rect.enc r.1), (vI r.2)]) [] := by
  refine FnM.of_wH ⟨Try.prog, 15, [], []⟩ rfl Try.func54 rfl rfl (Nat.le_of_ble_eq_true rfl) (by kernel_rfl) ?_
  unfold screen_Region at hF
  refine wH_seq ?_
  refine wH_region ?_
  refine h_op .nil (wt rfl) rfl ?_
  refine h_op (vI 0) (wt rfl) rfl ?_
  refine h_nil ?_
  refine wH_seq ?_
  refine wH_seq ?_
  refine wH_region ?_
  refine h_op (vL Rect.enc l_1) (wt rfl) rfl ?_
  obtain ⟨r_2, hr_3, hF⟩ := bind_some hF
  refine h_call0 (screen_rectsFault_ok hr_3) rfl hb129 rfl rfl rfl rfl (wt rfl) ?_
  refine h_op (vI r_2) (wt rfl) rfl ?_
  refine h_nil ?_
  refine wH_seq ?_
  refine wH_region ?_
  refine h_op (vI r_2) (wt rfl) rfl ?_
  refine h_op (vB (r_2 != 0)) (wt rfl) rfl ?_
  refine h_nil ?_
  rcases cond_some hF with ⟨hc_4, hF⟩ | ⟨hc_4, hF⟩
  · refine wH_ift rfl hc_4 ?_
    refine wH_seq ?_
    refine wH_region ?_
    refine h_op (vI r_2) (wt rfl) rfl ?_
    refine h_op .nil (wt rfl) rfl ?_
    refine h_op (vI r_2) (wt rfl) rfl ?_
    refine h_nil ?_
    replace hF := some_inj hF
    subst hF
    refine wH_ret ?_
    exact fin0 (.inr rfl) [.nil, (vI r_2)] ⟨rfl, ⟨rfl, trivial⟩⟩ rfl rfl rfl
  · refine wH_iff rfl hc_4 ?_
    refine wH_skip ?_
    refine wH_seq ?_
    refine wH_region ?_
    refine h_op (vL Rect.enc l_1) (wt rfl) rfl ?_
    obtain ⟨r_5, hr_6, hF⟩ := bind_some hF
    refine h_call0 (screen_region_ok hr_6) rfl hb131 rfl rfl rfl rfl (wt rfl) ?_
    obtain ⟨r_7, hr_8, hF⟩ := bind_some hF
    refine h_call0 (screen_bounded_ok hr_8) rfl hb130 rfl rfl rfl rfl (wt rfl) ?_
    refine h_op (vL Rect.enc r_7.1) (wt rfl) rfl ?_
    refine h_op (vI r_7.2) (wt rfl) rfl ?_
    refine h_op (vL Rect.enc r_7.1) (wt rfl) rfl ?_
    refine h_op (vI r_7.2) (wt rfl) rfl ?_
    refine h_nil ?_
    replace hF := some_inj hF
    subst hF
    refine wH_ret ?_
    exact fin0 (.inr rfl) [(vL Rect.enc r_7.1), (vI r_7.2)] ⟨rfl, ⟨rfl, trivial⟩⟩ rfl rfl rfl
theorem screen_Without_ok {l_1 : (List Rect)} {m_2 : (List Rect)} {r : (List Rect) × Int} (hF : screen_Without l_1 m_2 = some r) :
    FnM Try.prog 55 [(vL Rect.enc l_1), (vL Rect.enc m_2)] [] (.tup [(vL Rect.enc r.1), (vI r.2)]) [] := by
  refine FnM.of_wH ⟨Try.prog, 27, [], []⟩ rfl Try.func55 rfl rfl (Nat.le_of_ble_eq_true rfl) (by kernel_rfl) ?_
  unfold screen_Without at hF
  refine wH_seq ?_
  refine wH_region ?_
  refine h_op .nil (wt rfl) rfl ?_
  refine h_op (vI 0) (wt rfl) rfl ?_
  refine h_nil ?_
  refine wH_seq ?_
  refine wH_seq ?_
  refine wH_region ?_
  refine h_op (vL Rect.enc l_1) (wt rfl) rfl ?_
  refine h_op (vL Rect.enc m_2) (wt rfl) rfl ?_
  refine h_op (.d (.agg [dl Rect.enc l_1, dl Rect.enc m_2])) (wt rfl) (by kernel_rfl) ?_
  refine h_op (vI 0) (wt rfl) rfl ?_
  refine h_nil ?_
  obtain ⟨o_11, hj_12, hF⟩ := bind_some hF
  obtain ⟨hn_7, hj_12⟩ := forL_some hj_12
  refine wH_join (β := (Unit)) (fun (s_8 : Unit) => ([(0, (vL Rect.enc l_1)), (1, (vL Rect.enc m_2))] : List (Nat × V))) (fun (s_8 : Unit) => ([] : Hp)) (fun p => o_11 = .go p) ?_ ?_
  · refine wH_block ?_
    refine wH_loop (β := Nat × (List Nat) × (Unit)) (fun p => (fun (k_3 : Nat) (l_4 : List Nat) (s_8 : Unit) => ([(0, (vL Rect.enc l_1)), (1, (vL Rect.enc m_2)), (11, (.d (.agg [dl Rect.enc l_1, dl Rect.enc m_2]))), (12, (vI (k_3 : Int)))] : List (Nat × V))) p.1 p.2.1 p.2.2) (fun p => (fun (k_3 : Nat) (l_4 : List Nat) (s_8 : Unit) => ([] : Hp)) p.1 p.2.1 p.2.2) (fun p => forR (fun k x s => screen_Without_L1 l_1 m_2 k x s) p.2.1 p.1 p.2.2 = some o_11 ∧ ((List.range (2 : Int).toNat)).drop p.1 = p.2.1) (fun p => p.2.1.length) (0, (List.range (2 : Int).toNat), ()) ⟨hj_12, rfl⟩ rfl (pre_r rfl) ?_
    rintro ⟨k_3, l_4, s_8⟩ ⟨hL_10, hD_6⟩
    dsimp only at hL_10 hD_6
    cases l_4 with
    | nil =>
      replace hL_10 := some_inj hL_10
      subst hL_10
      refine wH_seq (wH_region (h_op (vB (decide ((k_3 : Int) < 2))) (wt rfl) rfl (h_nil ?_)))
      refine wH_seq (wH_iff rfl (range_nil hD_6) (wH_exit ?_))
      exact cut_mk (s_8) rfl rfl (pre_r rfl)
    | cons x_5 l_4 =>
      obtain ⟨c_, hc_9, hL_10⟩ := bind_some hL_10
      refine wH_seq (wH_region (h_op (vB (decide ((k_3 : Int) < 2))) (wt rfl) rfl (h_nil ?_)))
      refine wH_seq (wH_ift rfl (range_cons hD_6) (wH_skip ?_))
      unfold screen_Without_L1 at hc_9
      refine wH_seq ?_
      refine wH_block ?_
      refine wH_seq ?_
      refine wH_region ?_
      obtain ⟨y_13, hy_14, hc_9⟩ := bind_some hc_9
      refine h_idxa (enc := (eL Rect.enc)) (xs := ([l_1, m_2] : List (List Rect))) un161 sz94 ag94 rfl rfl rfl rfl hy_14 (fun _ => rfl) (.inr rfl) (vL Rect.enc y_13) rfl (wt rfl) ?_
      refine h_op (vL Rect.enc y_13) (wt rfl) rfl ?_
      refine h_nil ?_
      refine wH_seq ?_
      refine wH_region ?_
      refine h_op (vL Rect.enc y_13) (wt rfl) rfl ?_
      obtain ⟨r_15, hr_16, hc_9⟩ := bind_some hc_9
      refine h_call0 (screen_rectsFault_ok hr_16) rfl hb129 rfl rfl rfl rfl (wt rfl) ?_
      refine h_op (vI r_15) (wt rfl) rfl ?_
      refine h_nil ?_
      refine wH_seq ?_
      refine wH_region ?_
      refine h_op (vI r_15) (wt rfl) rfl ?_
      refine h_op (vB (r_15 != 0)) (wt rfl) rfl ?_
      refine h_nil ?_
      rcases cond_some hc_9 with ⟨hc_17, hc_9⟩ | ⟨hc_17, hc_9⟩
      · refine wH_ift rfl hc_17 ?_
        refine wH_seq ?_
        refine wH_region ?_
        refine h_op (vI r_15) (wt rfl) rfl ?_
        refine h_op .nil (wt rfl) rfl ?_
        refine h_op (vI r_15) (wt rfl) rfl ?_
        refine h_nil ?_
        replace hc_9 := some_inj hc_9
        subst hc_9
        replace hL_10 := some_inj hL_10
        subst hL_10
        replace hF := some_inj hF
        subst hF
        refine wH_ret ?_
        exact fin0 (.inr rfl) [.nil, (vI r_15)] ⟨rfl, ⟨rfl, trivial⟩⟩ rfl rfl rfl
      · refine wH_iff rfl hc_17 ?_
        refine wH_skip ?_
        refine wH_region ?_
        refine h_opw (w64_nextr hD_6 hn_7) (wt rfl) rfl ?_
        refine h_op (vI ((k_3 + 1 : Nat) : Int)) (wt rfl) rfl ?_
        refine h_nil ?_
        replace hc_9 := some_inj hc_9
        subst hc_9
        exact loop_mk (k_3 + 1, l_4, ()) ⟨hL_10, drop_next hD_6⟩ (Nat.lt_succ_self _) rfl (pre_r rfl)
  · rintro s_8 ho_ sl_ H_ hp_ hq_
    subst ho_
    refine wH_at _ hp_ hq_ ?_
    refine wH_seq ?_
    refine wH_region ?_
    refine h_op (vL Rect.enc l_1) (wt rfl) rfl ?_
    refine h_op (vL Rect.enc m_2) (wt rfl) rfl ?_
    obtain ⟨r_18, hr_19, hF⟩ := bind_some hF
    refine h_call0 (screen_region_ok hr_19) rfl hb131 rfl rfl rfl rfl (wt rfl) ?_
    obtain ⟨r_20, hr_21, hF⟩ := bind_some hF
    refine h_call0 (screen_bounded_ok hr_21) rfl hb130 rfl rfl rfl rfl (wt rfl) ?_
    refine h_op (vL Rect.enc r_20.1) (wt rfl) rfl ?_
    refine h_op (vI r_20.2) (wt rfl) rfl ?_
    refine h_op (vL Rect.enc r_20.1) (wt rfl) rfl ?_
    refine h_op (vI r_20.2) (wt rfl) rfl ?_
    refine h_nil ?_
    replace hF := some_inj hF
    subst hF
    refine wH_ret ?_
    exact fin0 (.inr rfl) [(vL Rect.enc r_20.1), (vI r_20.2)] ⟨rfl, ⟨rfl, trivial⟩⟩ rfl rfl rfl
theorem screen_area_ok {l_1 : (List Rect)} {r : Int} (hF : screen_area l_1 = some r) :
    FnM Try.prog 132 [(vL Rect.enc l_1)] [] (vI r) [] := by
  refine FnM.of_wH ⟨Try.prog, 21, [], []⟩ rfl Try.func132 rfl rfl (Nat.le_of_ble_eq_true rfl) (by kernel_rfl) ?_
  unfold screen_area at hF
  refine wH_seq ?_
  refine wH_region ?_
  refine h_op (vI 0) (wt rfl) rfl ?_
  refine h_nil ?_
  refine wH_seq ?_
  refine wH_region ?_
  refine h_op (vI 0) (wt rfl) rfl ?_
  refine h_nil ?_
  refine wH_seq ?_
  refine wH_seq ?_
  refine wH_region ?_
  refine h_op (vL Rect.enc l_1) (wt rfl) rfl ?_
  refine h_len un94 rfl (wt rfl) ?_
  refine h_op (vI 0) (wt rfl) rfl ?_
  refine h_nil ?_
  obtain ⟨o_10, hj_11, hF⟩ := bind_some hF
  obtain ⟨hn_6, hj_11⟩ := forL_some hj_11
  refine wH_join (β := (Int)) (fun (s_7 : Int) => ([(3, (vI s_7))] : List (Nat × V))) (fun (s_7 : Int) => ([] : Hp)) (fun p => o_10 = .go p) ?_ ?_
  · refine wH_block ?_
    refine wH_loop (β := Nat × (List Rect) × (Int)) (fun p => (fun (k_2 : Nat) (l_3 : List Rect) (s_7 : Int) => ([(3, (vI s_7)), (6, (vL Rect.enc l_1)), (7, (vI (l_1.length : Int))), (8, (vI (k_2 : Int)))] : List (Nat × V))) p.1 p.2.1 p.2.2) (fun p => (fun (k_2 : Nat) (l_3 : List Rect) (s_7 : Int) => ([] : Hp)) p.1 p.2.1 p.2.2) (fun p => forR (fun k x s => screen_area_L1 k x s) p.2.1 p.1 p.2.2 = some o_10 ∧ (l_1).drop p.1 = p.2.1) (fun p => p.2.1.length) (0, l_1, 0) ⟨hj_11, rfl⟩ rfl (pre_r rfl) ?_
    rintro ⟨k_2, l_3, s_7⟩ ⟨hL_9, hD_5⟩
    dsimp only at hL_9 hD_5
    cases l_3 with
    | nil =>
      replace hL_9 := some_inj hL_9
      subst hL_9
      refine wH_seq (wH_region (h_op (vB (decide ((k_2 : Int) < (l_1.length : Int)))) (wt rfl) rfl (h_nil ?_)))
      refine wH_seq (wH_iff rfl (drop_nil hD_5) (wH_exit ?_))
      exact cut_mk (s_7) rfl rfl (pre_r rfl)
    | cons x_4 l_3 =>
      obtain ⟨c_, hc_8, hL_9⟩ := bind_some hL_9
      refine wH_seq (wH_region (h_op (vB (decide ((k_2 : Int) < (l_1.length : Int)))) (wt rfl) rfl (h_nil ?_)))
      refine wH_seq (wH_ift rfl (drop_cons hD_5) (wH_skip ?_))
      unfold screen_area_L1 at hc_8
      refine wH_seq ?_
      refine wH_block ?_
      refine wH_seq ?_
      refine wH_region ?_
      refine h_ia es94 rfl rfl (drop_idx hD_5) rfl (wt rfl) ?_
      refine h_ldc sz92 ag92 rfl (.d (.agg (Rect.enc x_4))) rfl (wt rfl) ?_
      refine h_alloc 0 (.inl rfl) z92 rfl (wt rfl) (fun n_12 => ?_)
      refine h_str 0 (.inl rfl) (fun _ _ _ => trivial) 0 sz92 rfl rfl [(vI x_4.X), (vI x_4.Y), (vI x_4.W), (vI x_4.H)] rfl (wt rfl) ?_
      refine h_nil ?_
      refine wH_region ?_
      refine h_op (vI s_7) (wt rfl) rfl ?_
      refine h_far pl92_2 rfl 2 rfl (wt rfl) ?_
      refine h_ldr 0 0 (.inl rfl) (fun _ _ _ => trivial) sz3 ag3 rfl rfl (vI x_4.W) rfl (wt rfl) ?_
      refine h_far pl92_3 rfl 3 rfl (wt rfl) ?_
      refine h_ldr 0 0 (.inl rfl) (fun _ _ _ => trivial) sz3 ag3 rfl rfl (vI x_4.H) rfl (wt rfl) ?_
      refine h_op (vI (w64 (x_4.W * x_4.H))) (wt rfl) rfl ?_
      refine h_op (vI (w64 (s_7 + (w64 (x_4.W * x_4.H))))) (wt rfl) rfl ?_
      refine h_op (vI (w64 (s_7 + (w64 (x_4.W * x_4.H))))) (wt rfl) rfl ?_
      refine h_nil ?_
      refine wH_region ?_
      refine h_opw (w64_next hD_5 hn_6) (wt rfl) rfl ?_
      refine h_op (vI ((k_2 + 1 : Nat) : Int)) (wt rfl) rfl ?_
      refine h_nil ?_
      replace hc_8 := some_inj hc_8
      subst hc_8
      exact loop_mk (k_2 + 1, l_3, (w64 (s_7 + (w64 (x_4.W * x_4.H))))) ⟨hL_9, drop_next hD_5⟩ (Nat.lt_succ_self _) rfl (pre_r rfl)
  · rintro s_7 ho_ sl_ H_ hp_ hq_
    subst ho_
    refine wH_at _ hp_ hq_ ?_
    refine wH_seq ?_
    refine wH_region ?_
    refine h_op (vI s_7) (wt rfl) rfl ?_
    refine h_op (vI s_7) (wt rfl) rfl ?_
    refine h_nil ?_
    replace hF := some_inj hF
    subst hF
    refine wH_ret ?_
    exact fin0 (.inr rfl) [(vI s_7)] ⟨rfl, trivial⟩ rfl rfl rfl
theorem screen_Area_ok {l_1 : (List Rect)} {r : Int × Int} (hF : screen_Area l_1 = some r) :
    FnM Try.prog 56 [(vL Rect.enc l_1)] [] (.tup [(vI r.1), (vI r.2)]) [] := by
  refine FnM.of_wH ⟨Try.prog, 13, [], []⟩ rfl Try.func56 rfl rfl (Nat.le_of_ble_eq_true rfl) (by kernel_rfl) ?_
  unfold screen_Area at hF
  refine wH_seq ?_
  refine wH_region ?_
  refine h_op (vI 0) (wt rfl) rfl ?_
  refine h_op (vI 0) (wt rfl) rfl ?_
  refine h_nil ?_
  refine wH_seq ?_
  refine wH_seq ?_
  refine wH_region ?_
  refine h_op (vL Rect.enc l_1) (wt rfl) rfl ?_
  obtain ⟨r_2, hr_3, hF⟩ := bind_some hF
  refine h_call0 (screen_rectsFault_ok hr_3) rfl hb129 rfl rfl rfl rfl (wt rfl) ?_
  refine h_op (vI r_2) (wt rfl) rfl ?_
  refine h_nil ?_
  refine wH_seq ?_
  refine wH_region ?_
  refine h_op (vI r_2) (wt rfl) rfl ?_
  refine h_op (vB (r_2 != 0)) (wt rfl) rfl ?_
  refine h_nil ?_
  rcases cond_some hF with ⟨hc_4, hF⟩ | ⟨hc_4, hF⟩
  · refine wH_ift rfl hc_4 ?_
    refine wH_seq ?_
    refine wH_region ?_
    refine h_op (vI r_2) (wt rfl) rfl ?_
    refine h_op (vI 0) (wt rfl) rfl ?_
    refine h_op (vI r_2) (wt rfl) rfl ?_
    refine h_nil ?_
    replace hF := some_inj hF
    subst hF
    refine wH_ret ?_
    exact fin0 (.inr rfl) [(vI 0), (vI r_2)] ⟨rfl, ⟨rfl, trivial⟩⟩ rfl rfl rfl
  · refine wH_iff rfl hc_4 ?_
    refine wH_skip ?_
    refine wH_seq ?_
    refine wH_region ?_
    refine h_op (vL Rect.enc l_1) (wt rfl) rfl ?_
    obtain ⟨r_5, hr_6, hF⟩ := bind_some hF
    refine h_call0 (screen_region_ok hr_6) rfl hb131 rfl rfl rfl rfl (wt rfl) ?_
    obtain ⟨r_7, hr_8, hF⟩ := bind_some hF
    refine h_call0 (screen_area_ok hr_8) rfl hb132 rfl rfl rfl rfl (wt rfl) ?_
    refine h_op (vI r_7) (wt rfl) rfl ?_
    refine h_op (vI 0) (wt rfl) rfl ?_
    refine h_nil ?_
    replace hF := some_inj hF
    subst hF
    refine wH_ret ?_
    exact fin0 (.inr rfl) [(vI r_7), (vI 0)] ⟨rfl, ⟨rfl, trivial⟩⟩ rfl rfl rfl
theorem ref_in_ok {n_1 : Int} {low_2 : Int} {high_3 : Int} {r : Bool} (hF : ref_in n_1 low_2 high_3 = some r) :
    FnM Try.prog 84 [(vI n_1), (vI low_2), (vI high_3)] [] (vB r) [] := by
  refine FnM.of_wH ⟨Try.prog, 15, [], []⟩ rfl Try.func84 rfl rfl (Nat.le_of_ble_eq_true rfl) (by kernel_rfl) ?_
  unfold ref_in at hF
  refine wH_seq ?_
  refine wH_region ?_
  refine h_op (vB false) (wt rfl) rfl ?_
  refine h_nil ?_
  refine wH_seq ?_
  obtain ⟨v_4, h_5, hF⟩ := bind_some hF
  refine wH_join (β := Unit) (fun _ => ([(6, (vB v_4))] : List (Nat × V))) (fun _ => ([] : Hp)) (fun _ => True) ?_ ?_
  · refine wH_region ?_
    refine h_op (vI low_2) (wt rfl) rfl ?_
    refine h_op (vI n_1) (wt rfl) rfl ?_
    refine h_op (vB (decide (low_2 ≤ n_1))) (wt rfl) rfl ?_
    rcases cond_some h_5 with ⟨hc_6, h_5⟩ | ⟨hc_6, h_5⟩
    · refine h_movb rfl hc_6 (wt rfl) ?_
      refine h_op (vI n_1) (wg rfl rfl rfl) rfl ?_
      refine h_op (vI high_3) (wg rfl rfl rfl) rfl ?_
      refine h_op (vB (decide (n_1 ≤ high_3))) (wg rfl rfl rfl) rfl ?_
      refine h_op (vB (decide (n_1 ≤ high_3))) (wt rfl) rfl ?_
      refine h_op (vB (decide (n_1 ≤ high_3))) (wt rfl) rfl ?_
      refine h_nil ?_
      replace h_5 := some_inj h_5
      subst h_5
      exact cut_mk () trivial rfl (pre_r rfl)
    · refine h_movb rfl hc_6 (wt rfl) ?_
      refine h_skip (wg rfl rfl rfl) ?_
      refine h_skip (wg rfl rfl rfl) ?_
      refine h_skip (wg rfl rfl rfl) ?_
      refine h_op (vB false) (wt rfl) rfl ?_
      refine h_op (vB false) (wt rfl) rfl ?_
      refine h_nil ?_
      replace h_5 := some_inj h_5
      subst h_5
      exact cut_mk () trivial rfl (pre_r rfl)
  · rintro ⟨⟩ _ sl_ H_ hp_ hq_
    refine wH_at _ hp_ hq_ ?_
    replace hF := some_inj hF
    subst hF
    refine wH_ret ?_
    exact fin0 (.inr rfl) [(vB v_4)] ⟨rfl, trivial⟩ rfl rfl rfl
theorem ref_RectFault_ok {r_1 : Rect} {r : Int} (hF : ref_RectFault r_1 = some r) :
    FnM Try.prog 58 [(.d (.agg (Rect.enc r_1)))] [] (vI r) [] := by
  refine FnM.of_wH ⟨Try.prog, 31, [], []⟩ rfl Try.func58 rfl rfl (Nat.le_of_ble_eq_true rfl) (by kernel_rfl) ?_
  unfold ref_RectFault at hF
  refine wH_seq ?_
  refine wH_region ?_
  refine h_box 0 (.inl rfl) [(vI r_1.X), (vI r_1.Y), (vI r_1.W), (vI r_1.H)] rfl rfl (wt rfl) (fun n_2 => ?_)
  refine h_op (vI 0) (wt rfl) rfl ?_
  refine h_nil ?_
  refine wH_seq ?_
  refine wH_seq ?_
  obtain ⟨v_3, h_4, hF⟩ := bind_some hF
  refine wH_join (β := Unit) (fun _ => ([(30, (vB v_3))] : List (Nat × V))) (fun _ => ([(n_2, some (.cells 4 [(vI r_1.X), (vI r_1.Y), (vI r_1.W), (vI r_1.H)]))] : Hp)) (fun _ => True) ?_ ?_
  · refine wH_region ?_
    refine h_far pl92_0 rfl 0 rfl (wt rfl) ?_
    refine h_ldr 0 0 (.inl rfl) (fun _ _ _ => trivial) sz3 ag3 rfl rfl (vI r_1.X) rfl (wt rfl) ?_
    obtain ⟨r_5, hr_6, h_4⟩ := bind_some h_4
    refine h_call0 (ref_in_ok hr_6) rfl hb84 rfl rfl rfl rfl (wt rfl) ?_
    refine h_op (vB (!r_5)) (wt rfl) rfl ?_
    rcases cond_some h_4 with ⟨hc_7, h_4⟩ | ⟨hc_7, h_4⟩
    · refine h_movb rfl hc_7 (wt rfl) ?_
      refine h_skip (wg rfl rfl rfl) ?_
      refine h_skip (wg rfl rfl rfl) ?_
      refine h_skip (wg rfl rfl rfl) ?_
      refine h_skip (wg rfl rfl rfl) ?_
      refine h_op (vB true) (wt rfl) rfl ?_
      refine h_op (vB true) (wt rfl) rfl ?_
      refine h_skip (wg rfl rfl rfl) ?_
      refine h_skip (wg rfl rfl rfl) ?_
      refine h_skip (wg rfl rfl rfl) ?_
      refine h_skip (wg rfl rfl rfl) ?_
      refine h_skip (wg rfl rfl rfl) ?_
      refine h_skip (wg rfl rfl rfl) ?_
      refine h_skip (wg rfl rfl rfl) ?_
      refine h_op (vB true) (wt rfl) rfl ?_
      refine h_op (vB true) (wt rfl) rfl ?_
      refine h_skip (wg rfl rfl rfl) ?_
      refine h_skip (wg rfl rfl rfl) ?_
      refine h_skip (wg rfl rfl rfl) ?_
      refine h_skip (wg rfl rfl rfl) ?_
      refine h_skip (wg rfl rfl rfl) ?_
      refine h_skip (wg rfl rfl rfl) ?_
      refine h_skip (wg rfl rfl rfl) ?_
      refine h_op (vB true) (wt rfl) rfl ?_
      refine h_nil ?_
      replace h_4 := some_inj h_4
      subst h_4
      exact cut_mk () trivial rfl (pre_r rfl)
    · refine h_movb rfl hc_7 (wt rfl) ?_
      refine h_far pl92_1 rfl 1 rfl (wg rfl rfl rfl) ?_
      refine h_ldr 0 0 (.inl rfl) (fun _ _ _ => trivial) sz3 ag3 rfl rfl (vI r_1.Y) rfl (wg rfl rfl rfl) ?_
      obtain ⟨r_8, hr_9, h_4⟩ := bind_some h_4
      refine h_call0 (ref_in_ok hr_9) rfl hb84 rfl rfl rfl rfl (wg rfl rfl rfl) ?_
      refine h_op (vB (!r_8)) (wg rfl rfl rfl) rfl ?_
      refine h_op (vB (!r_8)) (wt rfl) rfl ?_
      rcases cond_some h_4 with ⟨hc_10, h_4⟩ | ⟨hc_10, h_4⟩
      · refine h_movb rfl hc_10 (wt rfl) ?_
        refine h_skip (wg rfl rfl rfl) ?_
        refine h_skip (wg rfl rfl rfl) ?_
        refine h_skip (wg rfl rfl rfl) ?_
        refine h_skip (wg rfl rfl rfl) ?_
        refine h_skip (wg rfl rfl rfl) ?_
        refine h_skip (wg rfl rfl rfl) ?_
        refine h_skip (wg rfl rfl rfl) ?_
        refine h_op (vB true) (wt rfl) rfl ?_
        refine h_op (vB true) (wt rfl) rfl ?_
        refine h_skip (wg rfl rfl rfl) ?_
        refine h_skip (wg rfl rfl rfl) ?_
        refine h_skip (wg rfl rfl rfl) ?_
        refine h_skip (wg rfl rfl rfl) ?_
        refine h_skip (wg rfl rfl rfl) ?_
        refine h_skip (wg rfl rfl rfl) ?_
        refine h_skip (wg rfl rfl rfl) ?_
        refine h_op (vB true) (wt rfl) rfl ?_
        refine h_nil ?_
        replace h_4 := some_inj h_4
        subst h_4
        exact cut_mk () trivial rfl (pre_r rfl)
      · refine h_movb rfl hc_10 (wt rfl) ?_
        refine h_far pl92_2 rfl 2 rfl (wg rfl rfl rfl) ?_
        refine h_ldr 0 0 (.inl rfl) (fun _ _ _ => trivial) sz3 ag3 rfl rfl (vI r_1.W) rfl (wg rfl rfl rfl) ?_
        refine h_far pl92_0 rfl 0 rfl (wg rfl rfl rfl) ?_
        refine h_ldr 0 0 (.inl rfl) (fun _ _ _ => trivial) sz3 ag3 rfl rfl (vI r_1.X) rfl (wg rfl rfl rfl) ?_
        refine h_op (vI (w64 (100000 - r_1.X))) (wg rfl rfl rfl) rfl ?_
        obtain ⟨r_11, hr_12, h_4⟩ := bind_some h_4
        refine h_call0 (ref_in_ok hr_12) rfl hb84 rfl rfl rfl rfl (wg rfl rfl rfl) ?_
        refine h_op (vB (!r_11)) (wg rfl rfl rfl) rfl ?_
        refine h_op (vB (!r_11)) (wt rfl) rfl ?_
        rcases cond_some h_4 with ⟨hc_13, h_4⟩ | ⟨hc_13, h_4⟩
        · refine h_movb rfl hc_13 (wt rfl) ?_
          refine h_skip (wg rfl rfl rfl) ?_
          refine h_skip (wg rfl rfl rfl) ?_
          refine h_skip (wg rfl rfl rfl) ?_
          refine h_skip (wg rfl rfl rfl) ?_
          refine h_skip (wg rfl rfl rfl) ?_
          refine h_skip (wg rfl rfl rfl) ?_
          refine h_skip (wg rfl rfl rfl) ?_
          refine h_op (vB true) (wt rfl) rfl ?_
          refine h_nil ?_
          replace h_4 := some_inj h_4
          subst h_4
          exact cut_mk () trivial rfl (pre_r rfl)
        · refine h_movb rfl hc_13 (wt rfl) ?_
          refine h_far pl92_3 rfl 3 rfl (wg rfl rfl rfl) ?_
          refine h_ldr 0 0 (.inl rfl) (fun _ _ _ => trivial) sz3 ag3 rfl rfl (vI r_1.H) rfl (wg rfl rfl rfl) ?_
          refine h_far pl92_1 rfl 1 rfl (wg rfl rfl rfl) ?_
          refine h_ldr 0 0 (.inl rfl) (fun _ _ _ => trivial) sz3 ag3 rfl rfl (vI r_1.Y) rfl (wg rfl rfl rfl) ?_
          refine h_op (vI (w64 (100000 - r_1.Y))) (wg rfl rfl rfl) rfl ?_
          obtain ⟨r_14, hr_15, h_4⟩ := bind_some h_4
          refine h_call0 (ref_in_ok hr_15) rfl hb84 rfl rfl rfl rfl (wg rfl rfl rfl) ?_
          refine h_op (vB (!r_14)) (wg rfl rfl rfl) rfl ?_
          refine h_op (vB (!r_14)) (wt rfl) rfl ?_
          refine h_nil ?_
          replace h_4 := some_inj h_4
          subst h_4
          exact cut_mk () trivial rfl (pre_r rfl)
  · rintro ⟨⟩ _ sl_ H_ hp_ hq_
    refine wH_at _ hp_ hq_ ?_
    rcases cond_some hF with ⟨hc_16, hF⟩ | ⟨hc_16, hF⟩
    · refine wH_ift rfl hc_16 ?_
      refine wH_seq ?_
      refine wH_region ?_
      refine h_op (vI 1) (wt rfl) rfl ?_
      refine h_nil ?_
      replace hF := some_inj hF
      subst hF
      refine wH_ret ?_
      exact fin0 (.inr rfl) [(vI 1)] ⟨rfl, trivial⟩ rfl rfl rfl
    · refine wH_iff rfl hc_16 ?_
      refine wH_skip ?_
      refine wH_seq ?_
      refine wH_region ?_
      refine h_op (vI 0) (wt rfl) rfl ?_
      refine h_nil ?_
      replace hF := some_inj hF
      subst hF
      refine wH_ret ?_
      exact fin0 (.inr rfl) [(vI 0)] ⟨rfl, trivial⟩ rfl rfl rfl
theorem law_errs_ok {l_1 : (List Int)} {r : Int} (hF : law_errs l_1 = some r) :
    FnM Try.prog 16 [(vL eI l_1)] [] (vI r) [] := by
  refine FnM.of_wH ⟨Try.prog, 15, [], []⟩ rfl Try.func16 rfl rfl (Nat.le_of_ble_eq_true rfl) (by kernel_rfl) ?_
  unfold law_errs at hF
  refine wH_seq ?_
  refine wH_region ?_
  refine h_op (vI 0) (wt rfl) rfl ?_
  refine h_nil ?_
  refine wH_seq ?_
  refine wH_seq ?_
  refine wH_region ?_
  refine h_op (vL eI l_1) (wt rfl) rfl ?_
  refine h_len un129 rfl (wt rfl) ?_
  refine h_op (vI 0) (wt rfl) rfl ?_
  refine h_nil ?_
  obtain ⟨o_10, hj_11, hF⟩ := bind_some hF
  obtain ⟨hn_6, hj_11⟩ := forL_some hj_11
  refine wH_join (β := (Unit)) (fun (s_7 : Unit) => ([] : List (Nat × V))) (fun (s_7 : Unit) => ([] : Hp)) (fun p => o_10 = .go p) ?_ ?_
  · refine wH_block ?_
    refine wH_loop (β := Nat × (List Int) × (Unit)) (fun p => (fun (k_2 : Nat) (l_3 : List Int) (s_7 : Unit) => ([(5, (vL eI l_1)), (6, (vI (l_1.length : Int))), (7, (vI (k_2 : Int)))] : List (Nat × V))) p.1 p.2.1 p.2.2) (fun p => (fun (k_2 : Nat) (l_3 : List Int) (s_7 : Unit) => ([] : Hp)) p.1 p.2.1 p.2.2) (fun p => forR (fun k x s => law_errs_L1 k x s) p.2.1 p.1 p.2.2 = some o_10 ∧ (l_1).drop p.1 = p.2.1) (fun p => p.2.1.length) (0, l_1, ()) ⟨hj_11, rfl⟩ rfl (pre_r rfl) ?_
    rintro ⟨k_2, l_3, s_7⟩ ⟨hL_9, hD_5⟩
    dsimp only at hL_9 hD_5
    cases l_3 with
    | nil =>
      replace hL_9 := some_inj hL_9
      subst hL_9
      refine wH_seq (wH_region (h_op (vB (decide ((k_2 : Int) < (l_1.length : Int)))) (wt rfl) rfl (h_nil ?_)))
      refine wH_seq (wH_iff rfl (drop_nil hD_5) (wH_exit ?_))
      exact cut_mk (s_7) rfl rfl (pre_r rfl)
    | cons x_4 l_3 =>
      obtain ⟨c_, hc_8, hL_9⟩ := bind_some hL_9
      refine wH_seq (wH_region (h_op (vB (decide ((k_2 : Int) < (l_1.length : Int)))) (wt rfl) rfl (h_nil ?_)))
      refine wH_seq (wH_ift rfl (drop_cons hD_5) (wH_skip ?_))
      unfold law_errs_L1 at hc_8
      refine wH_seq ?_
      refine wH_block ?_
      refine wH_seq ?_
      refine wH_region ?_
      refine h_ia es129 rfl rfl (drop_idx hD_5) rfl (wt rfl) ?_
      refine h_ldc sz30 ag30 rfl (vI x_4) rfl (wt rfl) ?_
      refine h_op (vI x_4) (wt rfl) rfl ?_
      refine h_nil ?_
      refine wH_seq ?_
      refine wH_region ?_
      refine h_op (vI x_4) (wt rfl) rfl ?_
      refine h_op (vB (x_4 != 0)) (wt rfl) rfl ?_
      refine h_nil ?_
      rcases cond_some hc_8 with ⟨hc_12, hc_8⟩ | ⟨hc_12, hc_8⟩
      · refine wH_ift rfl hc_12 ?_
        refine wH_seq ?_
        refine wH_region ?_
        refine h_op (vI x_4) (wt rfl) rfl ?_
        refine h_op (vI x_4) (wt rfl) rfl ?_
        refine h_nil ?_
        replace hc_8 := some_inj hc_8
        subst hc_8
        replace hL_9 := some_inj hL_9
        subst hL_9
        replace hF := some_inj hF
        subst hF
        refine wH_ret ?_
        exact fin0 (.inr rfl) [(vI x_4)] ⟨rfl, trivial⟩ rfl rfl rfl
      · refine wH_iff rfl hc_12 ?_
        refine wH_skip ?_
        refine wH_region ?_
        refine h_opw (w64_next hD_5 hn_6) (wt rfl) rfl ?_
        refine h_op (vI ((k_2 + 1 : Nat) : Int)) (wt rfl) rfl ?_
        refine h_nil ?_
        replace hc_8 := some_inj hc_8
        subst hc_8
        exact loop_mk (k_2 + 1, l_3, ()) ⟨hL_9, drop_next hD_5⟩ (Nat.lt_succ_self _) rfl (pre_r rfl)
  · rintro s_7 ho_ sl_ H_ hp_ hq_
    subst ho_
    refine wH_at _ hp_ hq_ ?_
    refine wH_seq ?_
    refine wH_region ?_
    refine h_op (vI 0) (wt rfl) rfl ?_
    refine h_nil ?_
    replace hF := some_inj hF
    subst hF
    refine wH_ret ?_
    exact fin0 (.inr rfl) [(vI 0)] ⟨rfl, trivial⟩ rfl rfl rfl
theorem ref_RectsFault_ok {l_1 : (List Rect)} {r : Int} (hF : ref_RectsFault l_1 = some r) :
    FnM Try.prog 59 [(vL Rect.enc l_1)] [] (vI r) [] := by
  refine FnM.of_wH ⟨Try.prog, 21, [], []⟩ rfl Try.func59 rfl rfl (Nat.le_of_ble_eq_true rfl) (by kernel_rfl) ?_
  unfold ref_RectsFault at hF
  refine wH_seq ?_
  refine wH_region ?_
  refine h_op (vI 0) (wt rfl) rfl ?_
  refine h_nil ?_
  refine wH_seq ?_
  refine wH_seq ?_
  refine wH_region ?_
  refine h_op (vL Rect.enc l_1) (wt rfl) rfl ?_
  refine h_len un94 rfl (wt rfl) ?_
  refine h_op (vB (decide ((l_1.length : Int) > 2000))) (wt rfl) rfl ?_
  refine h_nil ?_
  rcases cond_some hF with ⟨hc_2, hF⟩ | ⟨hc_2, hF⟩
  · refine wH_ift rfl hc_2 ?_
    refine wH_seq ?_
    refine wH_region ?_
    refine h_op (vI 2) (wt rfl) rfl ?_
    refine h_nil ?_
    replace hF := some_inj hF
    subst hF
    refine wH_ret ?_
    exact fin0 (.inr rfl) [(vI 2)] ⟨rfl, trivial⟩ rfl rfl rfl
  · refine wH_iff rfl hc_2 ?_
    refine wH_skip ?_
    refine wH_seq ?_
    refine wH_seq ?_
    refine wH_region ?_
    refine h_op (vL Rect.enc l_1) (wt rfl) rfl ?_
    refine h_len un94 rfl (wt rfl) ?_
    refine h_op (vI 0) (wt rfl) rfl ?_
    refine h_nil ?_
    obtain ⟨o_11, hj_12, hF⟩ := bind_some hF
    obtain ⟨hn_7, hj_12⟩ := forL_some hj_12
    refine wH_join (β := (Unit)) (fun (s_8 : Unit) => ([] : List (Nat × V))) (fun (s_8 : Unit) => ([] : Hp)) (fun p => o_11 = .go p) ?_ ?_
    · refine wH_block ?_
      refine wH_loop (β := Nat × (List Rect) × (Unit)) (fun p => (fun (k_3 : Nat) (l_4 : List Rect) (s_8 : Unit) => ([(9, (vL Rect.enc l_1)), (10, (vI (l_1.length : Int))), (11, (vI (k_3 : Int)))] : List (Nat × V))) p.1 p.2.1 p.2.2) (fun p => (fun (k_3 : Nat) (l_4 : List Rect) (s_8 : Unit) => ([] : Hp)) p.1 p.2.1 p.2.2) (fun p => forR (fun k x s => ref_RectsFault_L1 k x s) p.2.1 p.1 p.2.2 = some o_11 ∧ (l_1).drop p.1 = p.2.1) (fun p => p.2.1.length) (0, l_1, ()) ⟨hj_12, rfl⟩ rfl (pre_r rfl) ?_
      rintro ⟨k_3, l_4, s_8⟩ ⟨hL_10, hD_6⟩
      dsimp only at hL_10 hD_6
      cases l_4 with
      | nil =>
        replace hL_10 := some_inj hL_10
        subst hL_10
        refine wH_seq (wH_region (h_op (vB (decide ((k_3 : Int) < (l_1.length : Int)))) (wt rfl) rfl (h_nil ?_)))
        refine wH_seq (wH_iff rfl (drop_nil hD_6) (wH_exit ?_))
        exact cut_mk (s_8) rfl rfl (pre_r rfl)
      | cons x_5 l_4 =>
        obtain ⟨c_, hc_9, hL_10⟩ := bind_some hL_10
        refine wH_seq (wH_region (h_op (vB (decide ((k_3 : Int) < (l_1.length : Int)))) (wt rfl) rfl (h_nil ?_)))
        refine wH_seq (wH_ift rfl (drop_cons hD_6) (wH_skip ?_))
        unfold ref_RectsFault_L1 at hc_9
        refine wH_seq ?_
        refine wH_block ?_
        refine wH_seq ?_
        refine wH_region ?_
        refine h_ia es94 rfl rfl (drop_idx hD_6) rfl (wt rfl) ?_
        refine h_ldc sz92 ag92 rfl (.d (.agg (Rect.enc x_5))) rfl (wt rfl) ?_
        refine h_alloc 0 (.inl rfl) z92 rfl (wt rfl) (fun n_13 => ?_)
        refine h_str 0 (.inl rfl) (fun _ _ _ => trivial) 0 sz92 rfl rfl [(vI x_5.X), (vI x_5.Y), (vI x_5.W), (vI x_5.H)] rfl (wt rfl) ?_
        refine h_nil ?_
        refine wH_seq ?_
        refine wH_region ?_
        refine h_ldr 0 0 (.inl rfl) (fun _ _ _ => trivial) sz92 ag92 rfl rfl (.d (.agg (Rect.enc x_5))) rfl (wt rfl) ?_
        obtain ⟨r_14, hr_15, hc_9⟩ := bind_some hc_9
        refine h_call0 (ref_RectFault_ok hr_15) rfl hb58 rfl rfl rfl rfl (wt rfl) ?_
        refine h_op (vI r_14) (wt rfl) rfl ?_
        refine h_nil ?_
        refine wH_seq ?_
        refine wH_region ?_
        refine h_op (vI r_14) (wt rfl) rfl ?_
        refine h_op (vB (r_14 != 0)) (wt rfl) rfl ?_
        refine h_nil ?_
        rcases cond_some hc_9 with ⟨hc_16, hc_9⟩ | ⟨hc_16, hc_9⟩
        · refine wH_ift rfl hc_16 ?_
          refine wH_seq ?_
          refine wH_region ?_
          refine h_op (vI r_14) (wt rfl) rfl ?_
          refine h_op (vI r_14) (wt rfl) rfl ?_
          refine h_nil ?_
          replace hc_9 := some_inj hc_9
          subst hc_9
          replace hL_10 := some_inj hL_10
          subst hL_10
          replace hF := some_inj hF
          subst hF
          refine wH_ret ?_
          exact fin0 (.inr rfl) [(vI r_14)] ⟨rfl, trivial⟩ rfl rfl rfl
        · refine wH_iff rfl hc_16 ?_
          refine wH_skip ?_
          refine wH_region ?_
          refine h_opw (w64_next hD_6 hn_7) (wt rfl) rfl ?_
          refine h_op (vI ((k_3 + 1 : Nat) : Int)) (wt rfl) rfl ?_
          refine h_nil ?_
          replace hc_9 := some_inj hc_9
          subst hc_9
          exact loop_mk (k_3 + 1, l_4, ()) ⟨hL_10, drop_next hD_6⟩ (Nat.lt_succ_self _) rfl (pre_r rfl)
    · rintro s_8 ho_ sl_ H_ hp_ hq_
      subst ho_
      refine wH_at _ hp_ hq_ ?_
      refine wH_seq ?_
      refine wH_region ?_
      refine h_op (vI 0) (wt rfl) rfl ?_
      refine h_nil ?_
      replace hF := some_inj hF
      subst hF
      refine wH_ret ?_
      exact fin0 (.inr rfl) [(vI 0)] ⟨rfl, trivial⟩ rfl rfl rfl
theorem ref_MeetOf_ok {a_1 : Rect} {b_2 : Rect} {r : Rect × Bool} (hF : ref_MeetOf a_1 b_2 = some r) :
    FnM Try.prog 60 [(.d (.agg (Rect.enc a_1))), (.d (.agg (Rect.enc b_2)))] [] (.tup [(.d (.agg (Rect.enc r.1))), (vB r.2)]) [] := by
  refine FnM.of_wH ⟨Try.prog, 58, [], []⟩ rfl Try.func60 rfl rfl (Nat.le_of_ble_eq_true rfl) (by kernel_rfl) ?_
  unfold ref_MeetOf at hF
  refine wH_seq ?_
  refine wH_region ?_
  refine h_box 0 (.inl rfl) [(vI a_1.X), (vI a_1.Y), (vI a_1.W), (vI a_1.H)] rfl rfl (wt rfl) (fun n_3 => ?_)
  refine h_box 0 (.inl rfl) [(vI b_2.X), (vI b_2.Y), (vI b_2.W), (vI b_2.H)] rfl rfl (wt rfl) (fun n_4 => ?_)
  refine h_alloc 0 (.inl rfl) z92 rfl (wt rfl) (fun n_5 => ?_)
  refine h_op (vB false) (wt rfl) rfl ?_
  refine h_nil ?_
  refine wH_seq ?_
  refine wH_draws ?_
  refine h_far pl92_0 rfl 0 rfl (wt rfl) ?_
  refine h_ldr 1 0 (.inr (by kernel_rfl)) (fun _ _ ag => trivial) sz3 ag3 rfl rfl (vI a_1.X) rfl (wt rfl) ?_
  refine h_far pl92_0 rfl 0 rfl (wt rfl) ?_
  refine h_ldr 3 1 (.inr (by kernel_rfl)) (fun _ _ ag => ⟨.inl ⟨rfl, rfl⟩, trivial⟩) sz3 ag3 rfl rfl (vI b_2.X) rfl (wt rfl) ?_
  refine h_minmax (vI (maxI a_1.X b_2.X)) rfl (.inr rfl) (wt rfl) ?_
  refine h_far pl92_1 rfl 1 rfl (wt rfl) ?_
  refine h_ldr 6 0 (.inr (by kernel_rfl)) (fun _ _ ag => ⟨.inl ⟨rfl, rfl⟩, ⟨.inl ⟨rfl, rfl⟩, trivial⟩⟩) sz3 ag3 rfl rfl (vI a_1.Y) rfl (wt rfl) ?_
  refine h_far pl92_1 rfl 1 rfl (wt rfl) ?_
  refine h_ldr 8 1 (.inr (by kernel_rfl)) (fun _ _ ag => ⟨.inl ⟨rfl, rfl⟩, ⟨.inl ⟨rfl, rfl⟩, ⟨.inl ⟨rfl, rfl⟩, trivial⟩⟩⟩) sz3 ag3 rfl rfl (vI b_2.Y) rfl (wt rfl) ?_
  refine h_minmax (vI (maxI a_1.Y b_2.Y)) rfl (.inr rfl) (wt rfl) ?_
  refine h_op (vI (maxI a_1.X b_2.X)) (wt rfl) rfl ?_
  refine h_op (vI (maxI a_1.Y b_2.Y)) (wt rfl) rfl ?_
  refine h_nil ?_
  refine wH_seq ?_
  refine wH_draws ?_
  refine h_far pl92_0 rfl 0 rfl (wt rfl) ?_
  refine h_ldr 1 0 (.inr (by kernel_rfl)) (fun _ _ ag => trivial) sz3 ag3 rfl rfl (vI a_1.X) rfl (wt rfl) ?_
  refine h_far pl92_2 rfl 2 rfl (wt rfl) ?_
  refine h_ldr 3 0 (.inr (by kernel_rfl)) (fun _ _ ag => ⟨.inl ⟨rfl, rfl⟩, trivial⟩) sz3 ag3 rfl rfl (vI a_1.W) rfl (wt rfl) ?_
  refine h_op (vI (w64 (a_1.X + a_1.W))) (wt rfl) rfl ?_
  refine h_far pl92_0 rfl 0 rfl (wt rfl) ?_
  refine h_ldr 6 1 (.inr (by kernel_rfl)) (fun _ _ ag => ⟨.inl ⟨rfl, rfl⟩, ⟨.inl ⟨rfl, rfl⟩, trivial⟩⟩) sz3 ag3 rfl rfl (vI b_2.X) rfl (wt rfl) ?_
  refine h_far pl92_2 rfl 2 rfl (wt rfl) ?_
  refine h_ldr 8 1 (.inr (by kernel_rfl)) (fun _ _ ag => ⟨.inl ⟨rfl, rfl⟩, ⟨.inl ⟨rfl, rfl⟩, ⟨.inl ⟨rfl, rfl⟩, trivial⟩⟩⟩) sz3 ag3 rfl rfl (vI b_2.W) rfl (wt rfl) ?_
  refine h_op (vI (w64 (b_2.X + b_2.W))) (wt rfl) rfl ?_
  refine h_minmax (vI (minI (w64 (a_1.X + a_1.W)) (w64 (b_2.X + b_2.W)))) rfl (.inl rfl) (wt rfl) ?_
  refine h_op (vI (maxI a_1.X b_2.X)) (wt rfl) rfl ?_
  refine h_op (vI (w64 ((minI (w64 (a_1.X + a_1.W)) (w64 (b_2.X + b_2.W))) - (maxI a_1.X b_2.X)))) (wt rfl) rfl ?_
  refine h_far pl92_1 rfl 1 rfl (wt rfl) ?_
  refine h_ldr 14 0 (.inr (by kernel_rfl)) (fun _ _ ag => ⟨.inl ⟨rfl, rfl⟩, ⟨.inl ⟨rfl, rfl⟩, ⟨.inl ⟨rfl, rfl⟩, ⟨.inl ⟨rfl, rfl⟩, trivial⟩⟩⟩⟩) sz3 ag3 rfl rfl (vI a_1.Y) rfl (wt rfl) ?_
  refine h_far pl92_3 rfl 3 rfl (wt rfl) ?_
  refine h_ldr 16 0 (.inr (by kernel_rfl)) (fun _ _ ag => ⟨.inl ⟨rfl, rfl⟩, ⟨.inl ⟨rfl, rfl⟩, ⟨.inl ⟨rfl, rfl⟩, ⟨.inl ⟨rfl, rfl⟩, ⟨.inl ⟨rfl, rfl⟩, trivial⟩⟩⟩⟩⟩) sz3 ag3 rfl rfl (vI a_1.H) rfl (wt rfl) ?_
  refine h_op (vI (w64 (a_1.Y + a_1.H))) (wt rfl) rfl ?_
  refine h_far pl92_1 rfl 1 rfl (wt rfl) ?_
  refine h_ldr 19 1 (.inr (by kernel_rfl)) (fun _ _ ag => ⟨.inl ⟨rfl, rfl⟩, ⟨.inl ⟨rfl, rfl⟩, ⟨.inl ⟨rfl, rfl⟩, ⟨.inl ⟨rfl, rfl⟩, ⟨.inl ⟨rfl, rfl⟩, ⟨.inl ⟨rfl, rfl⟩, trivial⟩⟩⟩⟩⟩⟩) sz3 ag3 rfl rfl (vI b_2.Y) rfl (wt rfl) ?_
  refine h_far pl92_3 rfl 3 rfl (wt rfl) ?_
  refine h_ldr 21 1 (.inr (by kernel_rfl)) (fun _ _ ag => ⟨.inl ⟨rfl, rfl⟩, ⟨.inl ⟨rfl, rfl⟩, ⟨.inl ⟨rfl, rfl⟩, ⟨.inl ⟨rfl, rfl⟩, ⟨.inl ⟨rfl, rfl⟩, ⟨.inl ⟨rfl, rfl⟩, ⟨.inl ⟨rfl, rfl⟩, trivial⟩⟩⟩⟩⟩⟩⟩) sz3 ag3 rfl rfl (vI b_2.H) rfl (wt rfl) ?_
  refine h_op (vI (w64 (b_2.Y + b_2.H))) (wt rfl) rfl ?_
  refine h_minmax (vI (minI (w64 (a_1.Y + a_1.H)) (w64 (b_2.Y + b_2.H)))) rfl (.inl rfl) (wt rfl) ?_
  refine h_op (vI (maxI a_1.Y b_2.Y)) (wt rfl) rfl ?_
  refine h_op (vI (w64 ((minI (w64 (a_1.Y + a_1.H)) (w64 (b_2.Y + b_2.H))) - (maxI a_1.Y b_2.Y)))) (wt rfl) rfl ?_
  refine h_op (vI (w64 ((minI (w64 (a_1.X + a_1.W)) (w64 (b_2.X + b_2.W))) - (maxI a_1.X b_2.X)))) (wt rfl) rfl ?_
  refine h_op (vI (w64 ((minI (w64 (a_1.Y + a_1.H)) (w64 (b_2.Y + b_2.H))) - (maxI a_1.Y b_2.Y)))) (wt rfl) rfl ?_
  refine h_nil ?_
  refine wH_at (H0 := ([(n_3, some (.cells 4 [(vI a_1.X), (vI a_1.Y), (vI a_1.W), (vI a_1.H)])), (n_4, some (.cells 4 [(vI b_2.X), (vI b_2.Y), (vI b_2.W), (vI b_2.H)])), (n_5, some (.cells 4 [(vI 0), (vI 0), (vI 0), (vI 0)]))] : Hp)) ([(4, (.ref n_5 0 0)), (6, (vI (maxI a_1.X b_2.X))), (7, (vI (maxI a_1.Y b_2.Y))), (8, (vI (w64 ((minI (w64 (a_1.X + a_1.W)) (w64 (b_2.X + b_2.W))) - (maxI a_1.X b_2.X))))), (9, (vI (w64 ((minI (w64 (a_1.Y + a_1.H)) (w64 (b_2.Y + b_2.H))) - (maxI a_1.Y b_2.Y)))))] : List (Nat × V)) (by kernel_rfl) (pre_mk (by kernel_rfl)) ?_
  refine wH_seq ?_
  refine wH_seq ?_
  obtain ⟨v_6, h_7, hF⟩ := bind_some hF
  refine wH_join (β := Unit) (fun _ => ([(4, (.ref n_5 0 0)), (6, (vI (maxI a_1.X b_2.X))), (7, (vI (maxI a_1.Y b_2.Y))), (8, (vI (w64 ((minI (w64 (a_1.X + a_1.W)) (w64 (b_2.X + b_2.W))) - (maxI a_1.X b_2.X))))), (9, (vI (w64 ((minI (w64 (a_1.Y + a_1.H)) (w64 (b_2.Y + b_2.H))) - (maxI a_1.Y b_2.Y))))), (51, (vB v_6))] : List (Nat × V))) (fun _ => ([(n_3, some (.cells 4 [(vI a_1.X), (vI a_1.Y), (vI a_1.W), (vI a_1.H)])), (n_4, some (.cells 4 [(vI b_2.X), (vI b_2.Y), (vI b_2.W), (vI b_2.H)])), (n_5, some (.cells 4 [(vI 0), (vI 0), (vI 0), (vI 0)]))] : Hp)) (fun _ => True) ?_ ?_
  · refine wH_region ?_
    refine h_op (vI (w64 ((minI (w64 (a_1.X + a_1.W)) (w64 (b_2.X + b_2.W))) - (maxI a_1.X b_2.X)))) (wt rfl) rfl ?_
    refine h_op (vB (decide ((w64 ((minI (w64 (a_1.X + a_1.W)) (w64 (b_2.X + b_2.W))) - (maxI a_1.X b_2.X))) ≤ 0))) (wt rfl) rfl ?_
    rcases cond_some h_7 with ⟨hc_8, h_7⟩ | ⟨hc_8, h_7⟩
    · refine h_movb rfl hc_8 (wt rfl) ?_
      refine h_skip (wg rfl rfl rfl) ?_
      refine h_skip (wg rfl rfl rfl) ?_
      refine h_op (vB true) (wt rfl) rfl ?_
      refine h_nil ?_
      replace h_7 := some_inj h_7
      subst h_7
      exact cut_mk () trivial rfl (pre_r rfl)
    · refine h_movb rfl hc_8 (wt rfl) ?_
      refine h_op (vI (w64 ((minI (w64 (a_1.Y + a_1.H)) (w64 (b_2.Y + b_2.H))) - (maxI a_1.Y b_2.Y)))) (wg rfl rfl rfl) rfl ?_
      refine h_op (vB (decide ((w64 ((minI (w64 (a_1.Y + a_1.H)) (w64 (b_2.Y + b_2.H))) - (maxI a_1.Y b_2.Y))) ≤ 0))) (wg rfl rfl rfl) rfl ?_
      refine h_op (vB (decide ((w64 ((minI (w64 (a_1.Y + a_1.H)) (w64 (b_2.Y + b_2.H))) - (maxI a_1.Y b_2.Y))) ≤ 0))) (wt rfl) rfl ?_
      refine h_nil ?_
      replace h_7 := some_inj h_7
      subst h_7
      exact cut_mk () trivial rfl (pre_r rfl)
  · rintro ⟨⟩ _ sl_ H_ hp_ hq_
    refine wH_at _ hp_ hq_ ?_
    rcases cond_some hF with ⟨hc_9, hF⟩ | ⟨hc_9, hF⟩
    · refine wH_ift rfl hc_9 ?_
      refine wH_seq ?_
      refine wH_region ?_
      refine h_op (.d (.agg (Rect.enc (⟨0, 0, 0, 0⟩ : Rect)))) (wt rfl) (by kernel_rfl) ?_
      refine h_str 0 (.inl rfl) (fun _ _ _ => trivial) 2 sz92 rfl rfl [(vI 0), (vI 0), (vI 0), (vI 0)] rfl (wt rfl) ?_
      refine h_op (vB false) (wt rfl) rfl ?_
      refine h_nil ?_
      replace hF := some_inj hF
      subst hF
      refine wH_ret ?_
      exact fin0 (.inr rfl) [(.d (.agg (Rect.enc (⟨0, 0, 0, 0⟩ : Rect)))), (vB false)] ⟨⟨2, _, _, _, _, _, _, _, rfl, rfl, sz92, ag92, rfl⟩, ⟨rfl, trivial⟩⟩ rfl rfl rfl
    · refine wH_iff rfl hc_9 ?_
      refine wH_skip ?_
      refine wH_seq ?_
      refine wH_region ?_
      refine h_op (vI (maxI a_1.X b_2.X)) (wt rfl) rfl ?_
      refine h_op (vI (maxI a_1.Y b_2.Y)) (wt rfl) rfl ?_
      refine h_op (vI (w64 ((minI (w64 (a_1.X + a_1.W)) (w64 (b_2.X + b_2.W))) - (maxI a_1.X b_2.X)))) (wt rfl) rfl ?_
      refine h_op (vI (w64 ((minI (w64 (a_1.Y + a_1.H)) (w64 (b_2.Y + b_2.H))) - (maxI a_1.Y b_2.Y)))) (wt rfl) rfl ?_
      refine h_op (.d (.agg (Rect.enc (⟨(maxI a_1.X b_2.X), (maxI a_1.Y b_2.Y), (w64 ((minI (w64 (a_1.X + a_1.W)) (w64 (b_2.X + b_2.W))) - (maxI a_1.X b_2.X))), (w64 ((minI (w64 (a_1.Y + a_1.H)) (w64 (b_2.Y + b_2.H))) - (maxI a_1.Y b_2.Y)))⟩ : Rect)))) (wt rfl) (by kernel_rfl) ?_
      refine h_str 0 (.inl rfl) (fun _ _ _ => trivial) 2 sz92 rfl rfl [(vI (maxI a_1.X b_2.X)), (vI (maxI a_1.Y b_2.Y)), (vI (w64 ((minI (w64 (a_1.X + a_1.W)) (w64 (b_2.X + b_2.W))) - (maxI a_1.X b_2.X)))), (vI (w64 ((minI (w64 (a_1.Y + a_1.H)) (w64 (b_2.Y + b_2.H))) - (maxI a_1.Y b_2.Y))))] rfl (wt rfl) ?_
      refine h_op (vB true) (wt rfl) rfl ?_
      refine h_nil ?_
      replace hF := some_inj hF
      subst hF
      refine wH_ret ?_
      exact fin0 (.inr rfl) [(.d (.agg (Rect.enc (⟨(maxI a_1.X b_2.X), (maxI a_1.Y b_2.Y), (w64 ((minI (w64 (a_1.X + a_1.W)) (w64 (b_2.X + b_2.W))) - (maxI a_1.X b_2.X))), (w64 ((minI (w64 (a_1.Y + a_1.H)) (w64 (b_2.Y + b_2.H))) - (maxI a_1.Y b_2.Y)))⟩ : Rect)))), (vB true)] ⟨⟨2, _, _, _, _, _, _, _, rfl, rfl, sz92, ag92, rfl⟩, ⟨rfl, trivial⟩⟩ rfl rfl rfl
theorem ref_has_ok {r_1 : Rect} {x_2 : Int} {y_3 : Int} {r : Bool} (hF : ref_has r_1 x_2 y_3 = some r) :
    FnM Try.prog 181 [(.d (.agg (Rect.enc r_1))), (vI x_2), (vI y_3)] [] (vB r) [] := by
  refine FnM.of_wH ⟨Try.prog, 29, [], []⟩ rfl Try.func181 rfl rfl (Nat.le_of_ble_eq_true rfl) (by kernel_rfl) ?_
  unfold ref_has at hF
  refine wH_seq ?_
  refine wH_region ?_
  refine h_box 0 (.inl rfl) [(vI r_1.X), (vI r_1.Y), (vI r_1.W), (vI r_1.H)] rfl rfl (wt rfl) (fun n_4 => ?_)
  refine h_op (vB false) (wt rfl) rfl ?_
  refine h_nil ?_
  refine wH_seq ?_
  obtain ⟨v_5, h_6, hF⟩ := bind_some hF
  refine wH_join (β := Unit) (fun _ => ([(6, (vB v_5))] : List (Nat × V))) (fun _ => ([(n_4, some (.cells 4 [(vI r_1.X), (vI r_1.Y), (vI r_1.W), (vI r_1.H)]))] : Hp)) (fun _ => True) ?_ ?_
  · refine wH_region ?_
    refine h_op (vI x_2) (wt rfl) rfl ?_
    refine h_far pl92_0 rfl 0 rfl (wt rfl) ?_
    refine h_ldr 0 0 (.inl rfl) (fun _ _ _ => trivial) sz3 ag3 rfl rfl (vI r_1.X) rfl (wt rfl) ?_
    refine h_far pl92_0 rfl 0 rfl (wt rfl) ?_
    refine h_ldr 0 0 (.inl rfl) (fun _ _ _ => trivial) sz3 ag3 rfl rfl (vI r_1.X) rfl (wt rfl) ?_
    refine h_far pl92_2 rfl 2 rfl (wt rfl) ?_
    refine h_ldr 0 0 (.inl rfl) (fun _ _ _ => trivial) sz3 ag3 rfl rfl (vI r_1.W) rfl (wt rfl) ?_
    refine h_op (vI (w64 (r_1.X + r_1.W))) (wt rfl) rfl ?_
    refine h_op (vI (w64 ((w64 (r_1.X + r_1.W)) - 1))) (wt rfl) rfl ?_
    obtain ⟨r_7, hr_8, h_6⟩ := bind_some h_6
    refine h_call0 (ref_in_ok hr_8) rfl hb84 rfl rfl rfl rfl (wt rfl) ?_
    rcases cond_some h_6 with ⟨hc_9, h_6⟩ | ⟨hc_9, h_6⟩
    · refine h_movb rfl hc_9 (wt rfl) ?_
      refine h_op (vI y_3) (wg rfl rfl rfl) rfl ?_
      refine h_far pl92_1 rfl 1 rfl (wg rfl rfl rfl) ?_
      refine h_ldr 0 0 (.inl rfl) (fun _ _ _ => trivial) sz3 ag3 rfl rfl (vI r_1.Y) rfl (wg rfl rfl rfl) ?_
      refine h_far pl92_1 rfl 1 rfl (wg rfl rfl rfl) ?_
      refine h_ldr 0 0 (.inl rfl) (fun _ _ _ => trivial) sz3 ag3 rfl rfl (vI r_1.Y) rfl (wg rfl rfl rfl) ?_
      refine h_far pl92_3 rfl 3 rfl (wg rfl rfl rfl) ?_
      refine h_ldr 0 0 (.inl rfl) (fun _ _ _ => trivial) sz3 ag3 rfl rfl (vI r_1.H) rfl (wg rfl rfl rfl) ?_
      refine h_op (vI (w64 (r_1.Y + r_1.H))) (wg rfl rfl rfl) rfl ?_
      refine h_op (vI (w64 ((w64 (r_1.Y + r_1.H)) - 1))) (wg rfl rfl rfl) rfl ?_
      obtain ⟨r_10, hr_11, h_6⟩ := bind_some h_6
      refine h_call0 (ref_in_ok hr_11) rfl hb84 rfl rfl rfl rfl (wg rfl rfl rfl) ?_
      refine h_op (vB r_10) (wt rfl) rfl ?_
      refine h_op (vB r_10) (wt rfl) rfl ?_
      refine h_nil ?_
      replace h_6 := some_inj h_6
      subst h_6
      exact cut_mk () trivial rfl (pre_r rfl)
    · refine h_movb rfl hc_9 (wt rfl) ?_
      refine h_skip (wg rfl rfl rfl) ?_
      refine h_skip (wg rfl rfl rfl) ?_
      refine h_skip (wg rfl rfl rfl) ?_
      refine h_skip (wg rfl rfl rfl) ?_
      refine h_skip (wg rfl rfl rfl) ?_
      refine h_skip (wg rfl rfl rfl) ?_
      refine h_skip (wg rfl rfl rfl) ?_
      refine h_skip (wg rfl rfl rfl) ?_
      refine h_skip (wg rfl rfl rfl) ?_
      refine h_skip (wg rfl rfl rfl) ?_
      refine h_op (vB false) (wt rfl) rfl ?_
      refine h_op (vB false) (wt rfl) rfl ?_
      refine h_nil ?_
      replace h_6 := some_inj h_6
      subst h_6
      exact cut_mk () trivial rfl (pre_r rfl)
  · rintro ⟨⟩ _ sl_ H_ hp_ hq_
    refine wH_at _ hp_ hq_ ?_
    replace hF := some_inj hF
    subst hF
    refine wH_ret ?_
    exact fin0 (.inr rfl) [(vB v_5)] ⟨rfl, trivial⟩ rfl rfl rfl
theorem ref_some_1_ok {r_1 : Rect} {p_2 : Int} {p_3 : Int} {r : Bool} (hF : ref_some_1 r_1 p_2 p_3 = some r) :
    FnM Try.prog 180 [(.d (.agg (Rect.enc r_1))), (.ref (extN 0) 0 0), (.ref (extN 1) 0 0)] [(.cells 1 [(vI p_2)]), (.cells 1 [(vI p_3)])] (vB r) [some (.cells 1 [(vI p_2)]), some (.cells 1 [(vI p_3)])] := by
  refine FnM.of_wH ⟨Try.prog, 9, [], []⟩ rfl Try.func180 rfl rfl (Nat.le_of_ble_eq_true rfl) (by kernel_rfl) ?_
  unfold ref_some_1 at hF
  refine wH_seq ?_
  refine wH_region ?_
  refine h_box 0 (.inl rfl) [(vI r_1.X), (vI r_1.Y), (vI r_1.W), (vI r_1.H)] rfl rfl (wt rfl) (fun n_4 => ?_)
  refine h_op (vB false) (wt rfl) rfl ?_
  refine h_nil ?_
  refine wH_seq ?_
  refine wH_region ?_
  refine h_ldr 0 2 (.inl rfl) (fun _ _ _ => trivial) sz92 ag92 rfl rfl (.d (.agg (Rect.enc r_1))) rfl (wt rfl) ?_
  refine h_ldr 0 0 (.inl rfl) (fun _ _ _ => trivial) sz3 ag3 rfl rfl (vI p_2) rfl (wt rfl) ?_
  refine h_ldr 0 1 (.inl rfl) (fun _ _ _ => trivial) sz3 ag3 rfl rfl (vI p_3) rfl (wt rfl) ?_
  obtain ⟨r_5, hr_6, hF⟩ := bind_some hF
  refine h_call0 (ref_has_ok hr_6) rfl hb181 rfl rfl rfl rfl (wt rfl) ?_
  refine h_op (vB r_5) (wt rfl) rfl ?_
  refine h_nil ?_
  replace hF := some_inj hF
  subst hF
  refine wH_ret ?_
  exact finB (.inr rfl) [(vB r_5)] _ [0, 1] [extN 0, extN 1] ⟨rfl, trivial⟩ (.cons (co_data rfl rfl) (.nil)) (by kernel_rfl) ⟨(by kernel_rfl), ⟨(by kernel_rfl), trivial⟩⟩ (by decide) (by kernel_rfl)
theorem slices_IndexFunc_api_Rect_api_Rect_ok {s_1 : (List Rect)} {f_2 : Rect → Option Bool} {r : Int} {gid : FuncId} {caps : List V} {Sin : List Box} (hfn : ∀ x0 r, f_2 x0 = some r → FnM Try.prog gid ([(.d (.agg (Rect.enc x0)))] ++ caps) Sin (vB r) (Sin.map some)) (hbF : hasBody Try.prog gid = true) (hcapF : caps.flatMap frz = [] ∧ caps.map co0 = caps) (hokF : okL Sin.length caps = true) (hsF : ∀ b ∈ Sin, b.ok Sin.length = true) (hmF : ∀ b ∈ Sin, b.mut = true) (hF : slices_IndexFunc_api_Rect_api_Rect s_1 f_2 = some r) :
    FnM Try.prog 205 [(vL Rect.enc s_1), (.fn gid caps)] Sin (vI r) (Sin.map some) := by
  refine FnM.of_wH ⟨Try.prog, 19, [], []⟩ rfl Try.func205 rfl rfl (Nat.le_of_ble_eq_true rfl) (by kernel_rfl) ?_
  unfold slices_IndexFunc_api_Rect_api_Rect at hF
  refine wH_seq ?_
  refine wH_region ?_
  refine h_op (vI 0) (wt rfl) rfl ?_
  refine h_nil ?_
  refine wH_seq ?_
  refine wH_seq ?_
  refine wH_region ?_
  refine h_op (vL Rect.enc s_1) (wt rfl) rfl ?_
  refine h_len un94 rfl (wt rfl) ?_
  refine h_op (vI 0) (wt rfl) rfl ?_
  refine h_nil ?_
  obtain ⟨o_11, hj_12, hF⟩ := bind_some hF
  obtain ⟨hn_7, hj_12⟩ := forL_some hj_12
  refine wH_join (β := (Unit)) (fun (s_8 : Unit) => ([] : List (Nat × V))) (fun (s_8 : Unit) => (initH 0 Sin)) (fun p => o_11 = .go p) ?_ ?_
  · refine wH_block ?_
    refine wH_loop (β := Nat × (List Rect) × (Unit)) (fun p => (fun (k_3 : Nat) (l_4 : List Rect) (s_8 : Unit) => ([(0, (vL Rect.enc s_1)), (1, (.fn gid caps)), (7, (vI (s_1.length : Int))), (8, (vI (k_3 : Int)))] : List (Nat × V))) p.1 p.2.1 p.2.2) (fun p => (fun (k_3 : Nat) (l_4 : List Rect) (s_8 : Unit) => (initH 0 Sin)) p.1 p.2.1 p.2.2) (fun p => forR (fun k x s => slices_IndexFunc_api_Rect_api_Rect_L1 f_2 k x s) p.2.1 p.1 p.2.2 = some o_11 ∧ (s_1).drop p.1 = p.2.1) (fun p => p.2.1.length) (0, s_1, ()) ⟨hj_12, rfl⟩ rfl (pre_self _) ?_
    rintro ⟨k_3, l_4, s_8⟩ ⟨hL_10, hD_6⟩
    dsimp only at hL_10 hD_6
    cases l_4 with
    | nil =>
      replace hL_10 := some_inj hL_10
      subst hL_10
      refine wH_seq (wH_region (h_op (vB (decide ((k_3 : Int) < (s_1.length : Int)))) (wt rfl) rfl (h_nil ?_)))
      refine wH_seq (wH_iff rfl (drop_nil hD_6) (wH_exit ?_))
      exact cut_mk (s_8) rfl rfl (pre_self _)
    | cons x_5 l_4 =>
      obtain ⟨c_, hc_9, hL_10⟩ := bind_some hL_10
      refine wH_seq (wH_region (h_op (vB (decide ((k_3 : Int) < (s_1.length : Int)))) (wt rfl) rfl (h_nil ?_)))
      refine wH_seq (wH_ift rfl (drop_cons hD_6) (wH_skip ?_))
      unfold slices_IndexFunc_api_Rect_api_Rect_L1 at hc_9
      refine wH_seq ?_
      refine wH_block ?_
      refine wH_seq ?_
      refine wH_region ?_
      refine h_op (vI (k_3 : Int)) (wt rfl) rfl ?_
      refine h_op (vI (k_3 : Int)) (wt rfl) rfl ?_
      refine h_nil ?_
      refine wH_seq ?_
      refine wH_region ?_
      refine h_op (.fn gid caps) (wt rfl) rfl ?_
      refine h_op (vL Rect.enc s_1) (wt rfl) rfl ?_
      refine h_op (vI (k_3 : Int)) (wt rfl) rfl ?_
      refine h_ia es94 rfl rfl (drop_idx hD_6) rfl (wt rfl) ?_
      refine h_ldc sz92 ag92 rfl (.d (.agg (Rect.enc x_5))) rfl (wt rfl) ?_
      obtain ⟨r_13, hr_14, hc_9⟩ := bind_some hc_9
      refine h_callS (hfn _ _ hr_14) rfl hbF rfl rfl hcapF hokF hsF hmF rfl (wt rfl) rfl ?_
      refine h_nil ?_
      rcases cond_some hc_9 with ⟨hc_15, hc_9⟩ | ⟨hc_15, hc_9⟩
      · refine wH_ift rfl hc_15 ?_
        refine wH_seq ?_
        refine wH_region ?_
        refine h_op (vI (k_3 : Int)) (wt rfl) rfl ?_
        refine h_op (vI (k_3 : Int)) (wt rfl) rfl ?_
        refine h_nil ?_
        replace hc_9 := some_inj hc_9
        subst hc_9
        replace hL_10 := some_inj hL_10
        subst hL_10
        replace hF := some_inj hF
        subst hF
        refine wH_ret ?_
        exact finS hsF (.inr rfl) [(vI (k_3 : Int))] ⟨rfl, trivial⟩ rfl rfl rfl
      · refine wH_iff rfl hc_15 ?_
        refine wH_skip ?_
        refine wH_region ?_
        refine h_opw (w64_next hD_6 hn_7) (wt rfl) rfl ?_
        refine h_op (vI ((k_3 + 1 : Nat) : Int)) (wt rfl) rfl ?_
        refine h_nil ?_
        replace hc_9 := some_inj hc_9
        subst hc_9
        exact loop_mk (k_3 + 1, l_4, ()) ⟨hL_10, drop_next hD_6⟩ (Nat.lt_succ_self _) rfl (pre_self _)
  · rintro s_8 ho_ sl_ H_ hp_ hq_
    subst ho_
    refine wH_at _ hp_ hq_ ?_
    refine wH_seq ?_
    refine wH_region ?_
    refine h_op (vI (-1)) (wt rfl) rfl ?_
    refine h_nil ?_
    replace hF := some_inj hF
    subst hF
    refine wH_ret ?_
    exact finS hsF (.inr rfl) [(vI (-1))] ⟨rfl, trivial⟩ rfl rfl rfl
theorem slices_ContainsFunc_api_Rect_api_Rect_ok {s_1 : (List Rect)} {f_2 : Rect → Option Bool} {r : Bool} {gid : FuncId} {caps : List V} {Sin : List Box} (hfn : ∀ x0 r, f_2 x0 = some r → FnM Try.prog gid ([(.d (.agg (Rect.enc x0)))] ++ caps) Sin (vB r) (Sin.map some)) (hbF : hasBody Try.prog gid = true) (hcapF : caps.flatMap frz = [] ∧ caps.map co0 = caps) (hokF : okL Sin.length caps = true) (hsF : ∀ b ∈ Sin, b.ok Sin.length = true) (hmF : ∀ b ∈ Sin, b.mut = true) (hF : slices_ContainsFunc_api_Rect_api_Rect s_1 f_2 = some r) :
    FnM Try.prog 179 [(vL Rect.enc s_1), (.fn gid caps)] Sin (vB r) (Sin.map some) := by
  refine FnM.of_wH ⟨Try.prog, 9, [], []⟩ rfl Try.func179 rfl rfl (Nat.le_of_ble_eq_true rfl) (by kernel_rfl) ?_
  unfold slices_ContainsFunc_api_Rect_api_Rect at hF
  refine wH_seq ?_
  refine wH_region ?_
  refine h_op (vB false) (wt rfl) rfl ?_
  refine h_nil ?_
  refine wH_seq ?_
  refine wH_region ?_
  refine h_op (vL Rect.enc s_1) (wt rfl) rfl ?_
  refine h_op (.fn gid caps) (wt rfl) rfl ?_
  obtain ⟨r_3, hr_4, hF⟩ := bind_some hF
  refine h_callS (slices_IndexFunc_api_Rect_api_Rect_ok (gid := gid) (caps := caps) (Sin := Sin) hfn hbF hcapF hokF hsF hmF hr_4) rfl hb205 rfl rfl ⟨rfl, rfl⟩ (by simp [okL, okV, hokF]) hsF hmF rfl (wt rfl) rfl ?_
  refine h_op (vB (decide (r_3 ≥ 0))) (wt rfl) rfl ?_
  refine h_op (vB (decide (r_3 ≥ 0))) (wt rfl) rfl ?_
  refine h_nil ?_
  replace hF := some_inj hF
  subst hF
  refine wH_ret ?_
  exact finS hsF (.inr rfl) [(vB (decide (r_3 ≥ 0)))] ⟨rfl, trivial⟩ rfl rfl rfl
theorem ref_some_ok {l_1 : (List Rect)} {x_2 : Int} {y_3 : Int} {r : Bool} (hF : ref_some l_1 x_2 y_3 = some r) :
    FnM Try.prog 135 [(vL Rect.enc l_1), (vI x_2), (vI y_3)] [] (vB r) [] := by
  refine FnM.of_wH ⟨Try.prog, 10, [], []⟩ rfl Try.func135 rfl rfl (Nat.le_of_ble_eq_true rfl) (by kernel_rfl) ?_
  unfold ref_some at hF
  refine wH_seq ?_
  refine wH_region ?_
  refine h_box 0 (.inl rfl) [(vI x_2)] rfl rfl (wt rfl) (fun n_4 => ?_)
  refine h_box 0 (.inl rfl) [(vI y_3)] rfl rfl (wt rfl) (fun n_5 => ?_)
  refine h_op (vB false) (wt rfl) rfl ?_
  refine h_nil ?_
  refine wH_seq ?_
  refine wH_region ?_
  refine h_op (vL Rect.enc l_1) (wt rfl) rfl ?_
  refine h_op (.fn 180 [(.ref n_4 0 0), (.ref n_5 0 0)]) (wt rfl) rfl ?_
  obtain ⟨r_6, hr_7, hF⟩ := bind_some hF
  refine h_callq 0 [0, 1] (.inl rfl) (fun _ _ _ => trivial) (slices_ContainsFunc_api_Rect_api_Rect_ok (gid := 180) (caps := [.ref (extN 0) 0 0, .ref (extN 1) 0 0]) (Sin := [(.cells 1 [(vI x_2)]), (.cells 1 [(vI y_3)])]) (fun _ _ h_ => ref_some_1_ok h_) hb180 ⟨rfl, rfl⟩ (by kernel_rfl) (all_ok (by kernel_rfl)) (all_mut (by kernel_rfl)) hr_7) rfl hb179 rfl (by kernel_rfl) (by kernel_rfl) (by kernel_rfl) (by kernel_rfl) (by kernel_rfl) (by kernel_rfl) (by kernel_rfl) (by decide) (by kernel_rfl) (wt rfl) (vB r_6) (by kernel_rfl) ([(n_4, some (.cells 1 [(vI x_2)])), (n_5, some (.cells 1 [(vI y_3)]))] : Hp) (by kernel_rfl) ?_
  refine h_op (vB r_6) (wt rfl) rfl ?_
  refine h_nil ?_
  replace hF := some_inj hF
  subst hF
  refine wH_ret ?_
  exact fin0 (.inr rfl) [(vB r_6)] ⟨rfl, trivial⟩ rfl rfl rfl
theorem ref_RegionOf_1_ok {x_1 : Int} {y_2 : Int} {p_3 : (List Rect)} {r : Bool} (hF : ref_RegionOf_1 x_1 y_2 p_3 = some r) :
    FnM Try.prog 134 [(vI x_1), (vI y_2), (.ref (extN 0) 0 0)] [(.cells 1 [(vL Rect.enc p_3)])] (vB r) [some (.cells 1 [(vL Rect.enc p_3)])] := by
  refine FnM.of_wH ⟨Try.prog, 10, [], []⟩ rfl Try.func134 rfl rfl (Nat.le_of_ble_eq_true rfl) (by kernel_rfl) ?_
  unfold ref_RegionOf_1 at hF
  refine wH_seq ?_
  refine wH_region ?_
  refine h_op (vB false) (wt rfl) rfl ?_
  refine h_nil ?_
  refine wH_seq ?_
  refine wH_region ?_
  refine h_ldr 0 0 (.inl rfl) (fun _ _ _ => trivial) sz94 ag94 rfl rfl (vL Rect.enc p_3) rfl (wt rfl) ?_
  refine h_op (vI x_1) (wt rfl) rfl ?_
  refine h_op (vI y_2) (wt rfl) rfl ?_
  obtain ⟨r_4, hr_5, hF⟩ := bind_some hF
  refine h_call0 (ref_some_ok hr_5) rfl hb135 rfl rfl rfl rfl (wt rfl) ?_
  refine h_op (vB r_4) (wt rfl) rfl ?_
  refine h_nil ?_
  replace hF := some_inj hF
  subst hF
  refine wH_ret ?_
  exact finB (.inr rfl) [(vB r_4)] _ [0] [extN 0] ⟨rfl, trivial⟩ (.cons (co_data rfl rfl) (.nil)) (by kernel_rfl) ⟨(by kernel_rfl), trivial⟩ (by decide) (by kernel_rfl)
theorem ref_regionOf_1_ok {r_1 : Rect} {r : Int × Int} (hF : ref_regionOf_1 r_1 = some r) :
    FnM Try.prog 175 [(.d (.agg (Rect.enc r_1)))] [] (.tup [(vI r.1), (vI r.2)]) [] := by
  refine FnM.of_wH ⟨Try.prog, 11, [], []⟩ rfl Try.func175 rfl rfl (Nat.le_of_ble_eq_true rfl) (by kernel_rfl) ?_
  unfold ref_regionOf_1 at hF
  refine wH_seq ?_
  refine wH_region ?_
  refine h_box 0 (.inl rfl) [(vI r_1.X), (vI r_1.Y), (vI r_1.W), (vI r_1.H)] rfl rfl (wt rfl) (fun n_2 => ?_)
  refine h_op (vI 0) (wt rfl) rfl ?_
  refine h_op (vI 0) (wt rfl) rfl ?_
  refine h_nil ?_
  refine wH_seq ?_
  refine wH_draws ?_
  refine h_far pl92_0 rfl 0 rfl (wt rfl) ?_
  refine h_ldr 1 0 (.inr (by kernel_rfl)) (fun _ _ ag => trivial) sz3 ag3 rfl rfl (vI r_1.X) rfl (wt rfl) ?_
  refine h_far pl92_0 rfl 0 rfl (wt rfl) ?_
  refine h_ldr 3 0 (.inr (by kernel_rfl)) (fun _ _ ag => ⟨.inl ⟨rfl, rfl⟩, trivial⟩) sz3 ag3 rfl rfl (vI r_1.X) rfl (wt rfl) ?_
  refine h_far pl92_2 rfl 2 rfl (wt rfl) ?_
  refine h_ldr 5 0 (.inr (by kernel_rfl)) (fun _ _ ag => ⟨.inl ⟨rfl, rfl⟩, ⟨.inl ⟨rfl, rfl⟩, trivial⟩⟩) sz3 ag3 rfl rfl (vI r_1.W) rfl (wt rfl) ?_
  refine h_op (vI (w64 (r_1.X + r_1.W))) (wt rfl) rfl ?_
  refine h_op (vI r_1.X) (wt rfl) rfl ?_
  refine h_op (vI (w64 (r_1.X + r_1.W))) (wt rfl) rfl ?_
  refine h_nil ?_
  replace hF := some_inj hF
  subst hF
  refine wH_ret ?_
  exact fin0 (.inr rfl) [(vI r_1.X), (vI (w64 (r_1.X + r_1.W)))] ⟨rfl, ⟨rfl, trivial⟩⟩ rfl rfl rfl
theorem ref_cuts_v1_ok {l_1 : (List Rect)} {r : (List Int)} (hF : ref_cuts_v1 l_1 = some r) :
    FnM Try.prog 174 [(vL Rect.enc l_1), (.fn 175 [])] [] (vL eI r) [] := by
  refine FnM.of_wH ⟨Try.prog, 32, [], []⟩ rfl Try.func174 rfl rfl (Nat.le_of_ble_eq_true rfl) (by kernel_rfl) ?_
  unfold ref_cuts_v1 at hF
  refine wH_seq ?_
  refine wH_region ?_
  refine h_op .nil (wt rfl) rfl ?_
  refine h_nil ?_
  refine wH_seq ?_
  refine wH_region ?_
  refine h_op .nil (wt rfl) rfl ?_
  refine h_nil ?_
  refine wH_seq ?_
  refine wH_seq ?_
  refine wH_region ?_
  refine h_op (vL Rect.enc l_1) (wt rfl) rfl ?_
  refine h_len un94 rfl (wt rfl) ?_
  refine h_op (vI 0) (wt rfl) rfl ?_
  refine h_nil ?_
  refine wH_new (fun n_9 => ?_)
  obtain ⟨o_14, hj_15, hF⟩ := bind_some hF
  obtain ⟨hn_7, hj_15⟩ := forL_some hj_15
  refine wH_join (β := ((List Int)) × Nm) (fun p => (fun (s_8 : (List Int)) (n_11 : Nm) => ([(5, (gV n_11 1 s_8))] : List (Nat × V))) p.1 p.2) (fun p => (fun (s_8 : (List Int)) (n_11 : Nm) => ([(n_11, gB 1 eI s_8)] : Hp)) p.1 p.2) (fun p => o_14 = .go p.1) ?_ ?_
  · refine wH_block ?_
    refine wH_loop (β := Nat × (List Rect) × ((List Int)) × Nm) (fun p => (fun (k_3 : Nat) (l_4 : List Rect) (s_8 : (List Int)) (n_11 : Nm) => ([(1, (.fn 175 [])), (5, (gV n_11 1 s_8)), (10, (vL Rect.enc l_1)), (11, (vI (l_1.length : Int))), (12, (vI (k_3 : Int)))] : List (Nat × V))) p.1 p.2.1 p.2.2.1 p.2.2.2) (fun p => (fun (k_3 : Nat) (l_4 : List Rect) (s_8 : (List Int)) (n_11 : Nm) => ([(n_11, gB 1 eI s_8)] : Hp)) p.1 p.2.1 p.2.2.1 p.2.2.2) (fun p => forR (fun k x s => ref_cuts_v1_L1 k x s) p.2.1 p.1 p.2.2.1 = some o_14 ∧ (l_1).drop p.1 = p.2.1) (fun p => p.2.1.length) (0, l_1, ([] : List Int), n_9) ⟨hj_15, rfl⟩ rfl (pre_r rfl) ?_
    rintro ⟨k_3, l_4, s_8, n_11⟩ ⟨hL_13, hD_6⟩
    dsimp only at hL_13 hD_6
    cases l_4 with
    | nil =>
      replace hL_13 := some_inj hL_13
      subst hL_13
      refine wH_seq (wH_region (h_op (vB (decide ((k_3 : Int) < (l_1.length : Int)))) (wt rfl) rfl (h_nil ?_)))
      refine wH_seq (wH_iff rfl (drop_nil hD_6) (wH_exit ?_))
      exact cut_mk (s_8, n_11) rfl rfl (pre_r rfl)
    | cons x_5 l_4 =>
      obtain ⟨c_, hc_12, hL_13⟩ := bind_some hL_13
      refine wH_seq (wH_region (h_op (vB (decide ((k_3 : Int) < (l_1.length : Int)))) (wt rfl) rfl (h_nil ?_)))
      refine wH_seq (wH_ift rfl (drop_cons hD_6) (wH_skip ?_))
      unfold ref_cuts_v1_L1 at hc_12
      refine wH_seq ?_
      refine wH_block ?_
      refine wH_seq ?_
      refine wH_region ?_
      refine h_ia es94 rfl rfl (drop_idx hD_6) rfl (wt rfl) ?_
      refine h_ldc sz92 ag92 rfl (.d (.agg (Rect.enc x_5))) rfl (wt rfl) ?_
      refine h_alloc 0 (.inl rfl) z92 rfl (wt rfl) (fun n_16 => ?_)
      refine h_str 0 (.inl rfl) (fun _ _ _ => trivial) 1 sz92 rfl rfl [(vI x_5.X), (vI x_5.Y), (vI x_5.W), (vI x_5.H)] rfl (wt rfl) ?_
      refine h_nil ?_
      refine wH_seq ?_
      refine wH_region ?_
      refine h_op (.fn 175 []) (wt rfl) rfl ?_
      refine h_ldr 0 1 (.inl rfl) (fun _ _ _ => trivial) sz92 ag92 rfl rfl (.d (.agg (Rect.enc x_5))) rfl (wt rfl) ?_
      obtain ⟨r_17, hr_18, hc_12⟩ := bind_some hc_12
      refine h_call0 (ref_regionOf_1_ok hr_18) rfl hb175 rfl rfl rfl rfl (wt rfl) ?_
      refine h_op (.tup [(vI r_17.1), (vI r_17.2)]) (wt rfl) rfl ?_
      refine h_op (vI r_17.1) (wt rfl) rfl ?_
      refine h_op (vI r_17.2) (wt rfl) rfl ?_
      refine h_op (vI r_17.1) (wt rfl) rfl ?_
      refine h_op (vI r_17.2) (wt rfl) rfl ?_
      refine h_nil ?_
      refine wH_region ?_
      refine h_op (gV n_11 1 s_8) (wt rfl) rfl ?_
      refine h_op (vI r_17.1) (wt rfl) rfl ?_
      refine h_op (vI r_17.2) (wt rfl) rfl ?_
      refine h_lit (([r_17.1, r_17.2] : List Int).map eI) es22 ez22 rfl rfl rfl rfl rfl (wt rfl) ?_
      obtain ⟨a_19, hz_20, hc_12⟩ := bind_some hc_12
      refine h_appg 0 (.inl rfl) (fun _ _ _ => trivial) (i := 0) el22 el22 sz3 z3 rfl (by decide) by3 (by decide) (fun _ => rfl) rfl rfl rfl hz_20 (wt rfl) (fun n_21 => ?_)
      refine h_op (gV n_21 1 a_19) (wt rfl) rfl ?_
      refine h_nil ?_
      refine wH_region ?_
      refine h_opw (w64_next hD_6 hn_7) (wt rfl) rfl ?_
      refine h_op (vI ((k_3 + 1 : Nat) : Int)) (wt rfl) rfl ?_
      refine h_nil ?_
      replace hc_12 := some_inj hc_12
      subst hc_12
      exact loop_mk (k_3 + 1, l_4, a_19, n_21) ⟨hL_13, drop_next hD_6⟩ (Nat.lt_succ_self _) rfl (pre_r rfl)
  · rintro ⟨s_8, n_11⟩ ho_ sl_ H_ hp_ hq_
    subst ho_
    refine wH_at _ hp_ hq_ ?_
    refine wH_seq ?_
    refine wH_region ?_
    refine h_op (gV n_11 1 s_8) (wt rfl) rfl ?_
    obtain ⟨r_22, hr_23, hF⟩ := bind_some hF
    obtain ⟨_, hs_24, hF⟩ := bind_some hF
    replace hs_24 := sameL_eq hs_24
    refine h_callv 0 [] 0 0 (.inl rfl) (fun _ _ _ => trivial) (slices_Sort_int_int_v1_ok hr_23) rfl hb169 rfl rfl rfl (by kernel_rfl) rfl (.inl rfl) rfl (by kernel_rfl) (by kernel_rfl) (by kernel_rfl) (by kernel_rfl) rfl (by decide) (by kernel_rfl) gB_ok (gB_ho hs_24) (wt rfl) ([(n_11, gB 1 eI r_22)] : Hp) (by kernel_rfl) ?_
    refine h_re (v' := (gV n_11 1 r_22)) 28 rfl (gV_len hs_24.symm) ?_
    refine h_re (v' := (gV n_11 1 r_22)) 5 rfl (gV_len hs_24.symm) ?_
    refine h_nil ?_
    refine wH_seq ?_
    refine wH_region ?_
    refine h_op (gV n_11 1 r_22) (wt rfl) rfl ?_
    obtain ⟨r_25, hr_26, hF⟩ := bind_some hF
    refine h_callv 0 [] 0 0 (.inl rfl) (fun _ _ _ => trivial) (slices_Compact_int_int_v1_ok hr_26) rfl hb170 rfl rfl rfl (by kernel_rfl) rfl (.inl rfl) rfl (by kernel_rfl) (by kernel_rfl) (by kernel_rfl) (by kernel_rfl) rfl (by decide) (by kernel_rfl) none_ok (fun _ => rfl) (wt rfl) ([(n_11, none)] : Hp) (by kernel_rfl) ?_
    refine h_op (vL eI r_25) (wt rfl) rfl ?_
    refine h_nil ?_
    replace hF := some_inj hF
    subst hF
    refine wH_ret ?_
    exact fin0 (.inr rfl) [(vL eI r_25)] ⟨rfl, trivial⟩ rfl rfl rfl
theorem ref_regionOf_2_ok {r_1 : Rect} {r : Int × Int} (hF : ref_regionOf_2 r_1 = some r) :
    FnM Try.prog 176 [(.d (.agg (Rect.enc r_1)))] [] (.tup [(vI r.1), (vI r.2)]) [] := by
  refine FnM.of_wH ⟨Try.prog, 11, [], []⟩ rfl Try.func176 rfl rfl (Nat.le_of_ble_eq_true rfl) (by kernel_rfl) ?_
  unfold ref_regionOf_2 at hF
  refine wH_seq ?_
  refine wH_region ?_
  refine h_box 0 (.inl rfl) [(vI r_1.X), (vI r_1.Y), (vI r_1.W), (vI r_1.H)] rfl rfl (wt rfl) (fun n_2 => ?_)
  refine h_op (vI 0) (wt rfl) rfl ?_
  refine h_op (vI 0) (wt rfl) rfl ?_
  refine h_nil ?_
  refine wH_seq ?_
  refine wH_draws ?_
  refine h_far pl92_1 rfl 1 rfl (wt rfl) ?_
  refine h_ldr 1 0 (.inr (by kernel_rfl)) (fun _ _ ag => trivial) sz3 ag3 rfl rfl (vI r_1.Y) rfl (wt rfl) ?_
  refine h_far pl92_1 rfl 1 rfl (wt rfl) ?_
  refine h_ldr 3 0 (.inr (by kernel_rfl)) (fun _ _ ag => ⟨.inl ⟨rfl, rfl⟩, trivial⟩) sz3 ag3 rfl rfl (vI r_1.Y) rfl (wt rfl) ?_
  refine h_far pl92_3 rfl 3 rfl (wt rfl) ?_
  refine h_ldr 5 0 (.inr (by kernel_rfl)) (fun _ _ ag => ⟨.inl ⟨rfl, rfl⟩, ⟨.inl ⟨rfl, rfl⟩, trivial⟩⟩) sz3 ag3 rfl rfl (vI r_1.H) rfl (wt rfl) ?_
  refine h_op (vI (w64 (r_1.Y + r_1.H))) (wt rfl) rfl ?_
  refine h_op (vI r_1.Y) (wt rfl) rfl ?_
  refine h_op (vI (w64 (r_1.Y + r_1.H))) (wt rfl) rfl ?_
  refine h_nil ?_
  replace hF := some_inj hF
  subst hF
  refine wH_ret ?_
  exact fin0 (.inr rfl) [(vI r_1.Y), (vI (w64 (r_1.Y + r_1.H)))] ⟨rfl, ⟨rfl, trivial⟩⟩ rfl rfl rfl
end Go.Proofs.Ytodfcleaapnklaa.Law
