/-
  The machine computes these plain functions (written by a program of ours).
-/
import Derived.Test.YtodfcleaapnklaaGreatFacts
import Derived.Test.YtodfcleaapnklaaGreatDefs
import Derived.Test.YtodfcleaapnklaaGreatPf3
open Go Go.Eng Go.Proofs
namespace Go.Proofs.YtodfcleaapnklaaGreat.Law
set_option maxRecDepth 100000
set_option linter.unusedVariables false
set_option maxHeartbeats 1000000
theorem ref_WithoutOf_1_ok {x_1 : Int} {y_2 : Int} {p_3 : (List Rect)} {p_4 : (List Rect)} {r : Bool} (hF : ref_WithoutOf_1 x_1 y_2 p_3 p_4 = some r) :
    FnM Tryz.prog 88 [(vI x_1), (vI y_2), (.ref (extN 0) 0 0), (.ref (extN 1) 0 0)] [(.cells 1 [(vL Rect.enc p_3)]), (.cells 1 [(vL Rect.enc p_4)])] (vB r) [some (.cells 1 [(vL Rect.enc p_3)]), some (.cells 1 [(vL Rect.enc p_4)])] := by
  refine FnM.of_wH ⟨Tryz.prog, 18, [], []⟩ rfl Tryz.func88 rfl rfl (Nat.le_of_ble_eq_true rfl) (by kernel_rfl) ?_
  unfold ref_WithoutOf_1 at hF
  refine wH_seq ?_
  refine wH_region ?_
  refine h_op (vB false) (wt rfl) rfl ?_
  refine h_nil ?_
  refine wH_seq ?_
  obtain ⟨v_5, h_6, hF⟩ := bind_some hF
  refine wH_join (β := Unit) (fun _ => ([(6, (vB v_5))] : List (Nat × V))) (fun _ => ([((extN 0), some (.cells 1 [(vL Rect.enc p_3)])), ((extN 1), some (.cells 1 [(vL Rect.enc p_4)]))] : Hp)) (fun _ => True) ?_ ?_
  · refine wH_region ?_
    refine h_ldr 0 0 (.inl rfl) (fun _ _ _ => trivial) sz62 ag62 rfl rfl (vL Rect.enc p_3) rfl (wt rfl) ?_
    refine h_op (vI x_1) (wt rfl) rfl ?_
    refine h_op (vI y_2) (wt rfl) rfl ?_
    obtain ⟨r_7, hr_8, h_6⟩ := bind_some h_6
    refine h_call0 (ref_some_ok hr_8) rfl hb89 rfl rfl rfl rfl (wt rfl) ?_
    rcases cond_some h_6 with ⟨hc_9, h_6⟩ | ⟨hc_9, h_6⟩
    · refine h_movb rfl hc_9 (wt rfl) ?_
      refine h_ldr 0 1 (.inl rfl) (fun _ _ _ => trivial) sz62 ag62 rfl rfl (vL Rect.enc p_4) rfl (wg rfl rfl rfl) ?_
      refine h_op (vI x_1) (wg rfl rfl rfl) rfl ?_
      refine h_op (vI y_2) (wg rfl rfl rfl) rfl ?_
      obtain ⟨r_10, hr_11, h_6⟩ := bind_some h_6
      refine h_call0 (ref_some_ok hr_11) rfl hb89 rfl rfl rfl rfl (wg rfl rfl rfl) ?_
      refine h_op (vB (!r_10)) (wg rfl rfl rfl) rfl ?_
      refine h_op (vB (!r_10)) (wt rfl) rfl ?_
      refine h_op (vB (!r_10)) (wt rfl) rfl ?_
      refine h_nil ?_
      replace h_6 := some_inj h_6
      subst h_6
      exact cut_mk () trivial rfl (pre_r rfl)
    · refine h_movb rfl hc_9 (wt rfl) ?_
      refine h_skip (wg rfl rfl rfl) ?_
      refine h_skip (wg rfl rfl rfl) ?_
      refine h_skip (wg rfl rfl rfl) ?_
      refine h_skip (wg rfl rfl rfl) ?_
      refine h_skip (wg rfl rfl rfl) ?_
      refine h_op (vB false) (wt rfl) rfl ?_
      refine h_op (vB false) (wt rfl) rfl ?_
      refine h_nil ?_
      replace h_6 := some_inj h_6
      subst h_6
      exact cut_mk () trivial rfl (pre_r rfl)
  · rintro ⟨⟩ _ sl_ H_ hp_ hq_
    refine wH_at _ hp_ hq_ ?_
    replace hF := some_inj hF
    subst hF
    refine wH_ret ?_
    exact finB (.inr rfl) [(vB v_5)] _ [0, 1] [extN 0, extN 1] ⟨rfl, trivial⟩ (.cons (co_data rfl rfl) (.nil)) (by kernel_rfl) ⟨(by kernel_rfl), ⟨(by kernel_rfl), trivial⟩⟩ (by decide) (by kernel_rfl)
theorem ref_regionOf_1_ok {r_1 : Rect} {r : Int × Int} (hF : ref_regionOf_1 r_1 = some r) :
    FnM Tryz.prog 77 [(.d (.agg (Rect.enc r_1)))] [] (.tup [(vI r.1), (vI r.2)]) [] := by
  refine FnM.of_wH ⟨Tryz.prog, 11, [], []⟩ rfl Tryz.func77 rfl rfl (Nat.le_of_ble_eq_true rfl) (by kernel_rfl) ?_
  unfold ref_regionOf_1 at hF
  refine wH_seq ?_
  refine wH_region ?_
  refine h_box 0 (.inl rfl) [(vI r_1.X), (vI r_1.Y), (vI r_1.W), (vI r_1.H)] rfl rfl (wt rfl) (fun n_2 => ?_)
  refine h_op (vI 0) (wt rfl) rfl ?_
  refine h_op (vI 0) (wt rfl) rfl ?_
  refine h_nil ?_
  refine wH_seq ?_
  refine wH_draws ?_
  refine h_far pl49_0 rfl 0 rfl (wt rfl) ?_
  refine h_ldr 1 0 (.inr (by kernel_rfl)) (fun _ _ ag => trivial) sz3 ag3 rfl rfl (vI r_1.X) rfl (wt rfl) ?_
  refine h_far pl49_0 rfl 0 rfl (wt rfl) ?_
  refine h_ldr 3 0 (.inr (by kernel_rfl)) (fun _ _ ag => ⟨.inl ⟨rfl, rfl⟩, trivial⟩) sz3 ag3 rfl rfl (vI r_1.X) rfl (wt rfl) ?_
  refine h_far pl49_2 rfl 2 rfl (wt rfl) ?_
  refine h_ldr 5 0 (.inr (by kernel_rfl)) (fun _ _ ag => ⟨.inl ⟨rfl, rfl⟩, ⟨.inl ⟨rfl, rfl⟩, trivial⟩⟩) sz3 ag3 rfl rfl (vI r_1.W) rfl (wt rfl) ?_
  refine h_op (vI (w64 (r_1.X + r_1.W))) (wt rfl) rfl ?_
  refine h_op (vI r_1.X) (wt rfl) rfl ?_
  refine h_op (vI (w64 (r_1.X + r_1.W))) (wt rfl) rfl ?_
  refine h_nil ?_
  replace hF := some_inj hF
  subst hF
  refine wH_ret ?_
  exact fin0 (.inr rfl) [(vI r_1.X), (vI (w64 (r_1.X + r_1.W)))] ⟨rfl, ⟨rfl, trivial⟩⟩ rfl rfl rfl
theorem ref_cuts_v1_ok {l_1 : (List Rect)} {r : (List Int)} (hF : ref_cuts_v1 l_1 = some r) :
    FnM Tryz.prog 76 [(vL Rect.enc l_1), (.fn 77 [])] [] (vL eI r) [] := by
  refine FnM.of_wH ⟨Tryz.prog, 32, [], []⟩ rfl Tryz.func76 rfl rfl (Nat.le_of_ble_eq_true rfl) (by kernel_rfl) ?_
  unfold ref_cuts_v1 at hF
  refine wH_seq ?_
  refine wH_region ?_
  refine h_op .nil (wt rfl) rfl ?_
  refine h_nil ?_
  refine wH_seq ?_
  refine wH_region ?_
  refine h_op .nil (wt rfl) rfl ?_
  refine h_nil ?_
  refine wH_seq ?_
  refine wH_seq ?_
  refine wH_region ?_
  refine h_op (vL Rect.enc l_1) (wt rfl) rfl ?_
  refine h_len un62 rfl (wt rfl) ?_
  refine h_op (vI 0) (wt rfl) rfl ?_
  refine h_nil ?_
  refine wH_new (fun n_9 => ?_)
  obtain ⟨o_14, hj_15, hF⟩ := bind_some hF
  obtain ⟨hn_7, hj_15⟩ := forL_some hj_15
  refine wH_join (β := ((List Int)) × Nm) (fun p => (fun (s_8 : (List Int)) (n_11 : Nm) => ([(5, (gV n_11 1 s_8))] : List (Nat × V))) p.1 p.2) (fun p => (fun (s_8 : (List Int)) (n_11 : Nm) => ([(n_11, gB 1 eI s_8)] : Hp)) p.1 p.2) (fun p => o_14 = .go p.1) ?_ ?_
  · refine wH_block ?_
    refine wH_loop (β := Nat × (List Rect) × ((List Int)) × Nm) (fun p => (fun (k_3 : Nat) (l_4 : List Rect) (s_8 : (List Int)) (n_11 : Nm) => ([(1, (.fn 77 [])), (5, (gV n_11 1 s_8)), (10, (vL Rect.enc l_1)), (11, (vI (l_1.length : Int))), (12, (vI (k_3 : Int)))] : List (Nat × V))) p.1 p.2.1 p.2.2.1 p.2.2.2) (fun p => (fun (k_3 : Nat) (l_4 : List Rect) (s_8 : (List Int)) (n_11 : Nm) => ([(n_11, gB 1 eI s_8)] : Hp)) p.1 p.2.1 p.2.2.1 p.2.2.2) (fun p => forR (fun k x s => ref_cuts_v1_L1 k x s) p.2.1 p.1 p.2.2.1 = some o_14 ∧ (l_1).drop p.1 = p.2.1) (fun p => p.2.1.length) (0, l_1, ([] : List Int), n_9) ⟨hj_15, rfl⟩ rfl (pre_r rfl) ?_
    rintro ⟨k_3, l_4, s_8, n_11⟩ ⟨hL_13, hD_6⟩
    dsimp only at hL_13 hD_6
    cases l_4 with
    | nil =>
      replace hL_13 := some_inj hL_13
      subst hL_13
      refine wH_seq (wH_region (h_op (vB (decide ((k_3 : Int) < (l_1.length : Int)))) (wt rfl) rfl (h_nil ?_)))
      refine wH_seq (wH_iff rfl (drop_nil hD_6) (wH_exit ?_))
      exact cut_mk (s_8, n_11) rfl rfl (pre_r rfl)
    | cons x_5 l_4 =>
      obtain ⟨c_, hc_12, hL_13⟩ := bind_some hL_13
      refine wH_seq (wH_region (h_op (vB (decide ((k_3 : Int) < (l_1.length : Int)))) (wt rfl) rfl (h_nil ?_)))
      refine wH_seq (wH_ift rfl (drop_cons hD_6) (wH_skip ?_))
      unfold ref_cuts_v1_L1 at hc_12
      refine wH_seq ?_
      refine wH_block ?_
      refine wH_seq ?_
      refine wH_region ?_
      refine h_ia es62 rfl rfl (drop_idx hD_6) rfl (wt rfl) ?_
      refine h_ldc sz49 ag49 rfl (.d (.agg (Rect.enc x_5))) rfl (wt rfl) ?_
      refine h_alloc 0 (.inl rfl) z49 rfl (wt rfl) (fun n_16 => ?_)
      refine h_str 0 (.inl rfl) (fun _ _ _ => trivial) 1 sz49 rfl rfl [(vI x_5.X), (vI x_5.Y), (vI x_5.W), (vI x_5.H)] rfl (wt rfl) ?_
      refine h_nil ?_
      refine wH_seq ?_
      refine wH_region ?_
      refine h_op (.fn 77 []) (wt rfl) rfl ?_
      refine h_ldr 0 1 (.inl rfl) (fun _ _ _ => trivial) sz49 ag49 rfl rfl (.d (.agg (Rect.enc x_5))) rfl (wt rfl) ?_
      obtain ⟨r_17, hr_18, hc_12⟩ := bind_some hc_12
      refine h_call0 (ref_regionOf_1_ok hr_18) rfl hb77 rfl rfl rfl rfl (wt rfl) ?_
      refine h_op (.tup [(vI r_17.1), (vI r_17.2)]) (wt rfl) rfl ?_
      refine h_op (vI r_17.1) (wt rfl) rfl ?_
      refine h_op (vI r_17.2) (wt rfl) rfl ?_
      refine h_op (vI r_17.1) (wt rfl) rfl ?_
      refine h_op (vI r_17.2) (wt rfl) rfl ?_
      refine h_nil ?_
      refine wH_region ?_
      refine h_op (gV n_11 1 s_8) (wt rfl) rfl ?_
      refine h_op (vI r_17.1) (wt rfl) rfl ?_
      refine h_op (vI r_17.2) (wt rfl) rfl ?_
      refine h_lit (([r_17.1, r_17.2] : List Int).map eI) es22 ez22 rfl rfl rfl rfl rfl (wt rfl) ?_
      obtain ⟨a_19, hz_20, hc_12⟩ := bind_some hc_12
      refine h_appg 0 (.inl rfl) (fun _ _ _ => trivial) (i := 0) el22 el22 sz3 z3 rfl (by decide) by3 (by decide) (fun _ => rfl) rfl rfl rfl hz_20 (wt rfl) (fun n_21 => ?_)
      refine h_op (gV n_21 1 a_19) (wt rfl) rfl ?_
      refine h_nil ?_
      refine wH_region ?_
      refine h_opw (w64_next hD_6 hn_7) (wt rfl) rfl ?_
      refine h_op (vI ((k_3 + 1 : Nat) : Int)) (wt rfl) rfl ?_
      refine h_nil ?_
      replace hc_12 := some_inj hc_12
      subst hc_12
      exact loop_mk (k_3 + 1, l_4, a_19, n_21) ⟨hL_13, drop_next hD_6⟩ (Nat.lt_succ_self _) rfl (pre_r rfl)
  · rintro ⟨s_8, n_11⟩ ho_ sl_ H_ hp_ hq_
    subst ho_
    refine wH_at _ hp_ hq_ ?_
    refine wH_seq ?_
    refine wH_region ?_
    refine h_op (gV n_11 1 s_8) (wt rfl) rfl ?_
    obtain ⟨r_22, hr_23, hF⟩ := bind_some hF
    obtain ⟨_, hs_24, hF⟩ := bind_some hF
    replace hs_24 := sameL_eq hs_24
    refine h_callv 0 [] 0 0 (.inl rfl) (fun _ _ _ => trivial) (slices_Sort_int_int_v1_ok hr_23) rfl hb83 rfl rfl rfl (by kernel_rfl) rfl (.inl rfl) rfl (by kernel_rfl) (by kernel_rfl) (by kernel_rfl) (by kernel_rfl) rfl (by decide) (by kernel_rfl) gB_ok (gB_ho hs_24) (wt rfl) ([(n_11, gB 1 eI r_22)] : Hp) (by kernel_rfl) ?_
    refine h_re (v' := (gV n_11 1 r_22)) 28 rfl (gV_len hs_24.symm) ?_
    refine h_re (v' := (gV n_11 1 r_22)) 5 rfl (gV_len hs_24.symm) ?_
    refine h_nil ?_
    refine wH_seq ?_
    refine wH_region ?_
    refine h_op (gV n_11 1 r_22) (wt rfl) rfl ?_
    obtain ⟨r_25, hr_26, hF⟩ := bind_some hF
    refine h_callv 0 [] 0 0 (.inl rfl) (fun _ _ _ => trivial) (slices_Compact_int_int_v1_ok hr_26) rfl hb84 rfl rfl rfl (by kernel_rfl) rfl (.inl rfl) rfl (by kernel_rfl) (by kernel_rfl) (by kernel_rfl) (by kernel_rfl) rfl (by decide) (by kernel_rfl) none_ok (fun _ => rfl) (wt rfl) ([(n_11, none)] : Hp) (by kernel_rfl) ?_
    refine h_op (vL eI r_25) (wt rfl) rfl ?_
    refine h_nil ?_
    replace hF := some_inj hF
    subst hF
    refine wH_ret ?_
    exact fin0 (.inr rfl) [(vL eI r_25)] ⟨rfl, trivial⟩ rfl rfl rfl
theorem ref_regionOf_2_ok {r_1 : Rect} {r : Int × Int} (hF : ref_regionOf_2 r_1 = some r) :
    FnM Tryz.prog 78 [(.d (.agg (Rect.enc r_1)))] [] (.tup [(vI r.1), (vI r.2)]) [] := by
  refine FnM.of_wH ⟨Tryz.prog, 11, [], []⟩ rfl Tryz.func78 rfl rfl (Nat.le_of_ble_eq_true rfl) (by kernel_rfl) ?_
  unfold ref_regionOf_2 at hF
  refine wH_seq ?_
  refine wH_region ?_
  refine h_box 0 (.inl rfl) [(vI r_1.X), (vI r_1.Y), (vI r_1.W), (vI r_1.H)] rfl rfl (wt rfl) (fun n_2 => ?_)
  refine h_op (vI 0) (wt rfl) rfl ?_
  refine h_op (vI 0) (wt rfl) rfl ?_
  refine h_nil ?_
  refine wH_seq ?_
  refine wH_draws ?_
  refine h_far pl49_1 rfl 1 rfl (wt rfl) ?_
  refine h_ldr 1 0 (.inr (by kernel_rfl)) (fun _ _ ag => trivial) sz3 ag3 rfl rfl (vI r_1.Y) rfl (wt rfl) ?_
  refine h_far pl49_1 rfl 1 rfl (wt rfl) ?_
  refine h_ldr 3 0 (.inr (by kernel_rfl)) (fun _ _ ag => ⟨.inl ⟨rfl, rfl⟩, trivial⟩) sz3 ag3 rfl rfl (vI r_1.Y) rfl (wt rfl) ?_
  refine h_far pl49_3 rfl 3 rfl (wt rfl) ?_
  refine h_ldr 5 0 (.inr (by kernel_rfl)) (fun _ _ ag => ⟨.inl ⟨rfl, rfl⟩, ⟨.inl ⟨rfl, rfl⟩, trivial⟩⟩) sz3 ag3 rfl rfl (vI r_1.H) rfl (wt rfl) ?_
  refine h_op (vI (w64 (r_1.Y + r_1.H))) (wt rfl) rfl ?_
  refine h_op (vI r_1.Y) (wt rfl) rfl ?_
  refine h_op (vI (w64 (r_1.Y + r_1.H))) (wt rfl) rfl ?_
  refine h_nil ?_
  replace hF := some_inj hF
  subst hF
  refine wH_ret ?_
  exact fin0 (.inr rfl) [(vI r_1.Y), (vI (w64 (r_1.Y + r_1.H)))] ⟨rfl, ⟨rfl, trivial⟩⟩ rfl rfl rfl
theorem ref_cuts_v2_ok {l_1 : (List Rect)} {r : (List Int)} (hF : ref_cuts_v2 l_1 = some r) :
    FnM Tryz.prog 76 [(vL Rect.enc l_1), (.fn 78 [])] [] (vL eI r) [] := by
  refine FnM.of_wH ⟨Tryz.prog, 32, [], []⟩ rfl Tryz.func76 rfl rfl (Nat.le_of_ble_eq_true rfl) (by kernel_rfl) ?_
  unfold ref_cuts_v2 at hF
  refine wH_seq ?_
  refine wH_region ?_
  refine h_op .nil (wt rfl) rfl ?_
  refine h_nil ?_
  refine wH_seq ?_
  refine wH_region ?_
  refine h_op .nil (wt rfl) rfl ?_
  refine h_nil ?_
  refine wH_seq ?_
  refine wH_seq ?_
  refine wH_region ?_
  refine h_op (vL Rect.enc l_1) (wt rfl) rfl ?_
  refine h_len un62 rfl (wt rfl) ?_
  refine h_op (vI 0) (wt rfl) rfl ?_
  refine h_nil ?_
  refine wH_new (fun n_9 => ?_)
  obtain ⟨o_14, hj_15, hF⟩ := bind_some hF
  obtain ⟨hn_7, hj_15⟩ := forL_some hj_15
  refine wH_join (β := ((List Int)) × Nm) (fun p => (fun (s_8 : (List Int)) (n_11 : Nm) => ([(5, (gV n_11 1 s_8))] : List (Nat × V))) p.1 p.2) (fun p => (fun (s_8 : (List Int)) (n_11 : Nm) => ([(n_11, gB 1 eI s_8)] : Hp)) p.1 p.2) (fun p => o_14 = .go p.1) ?_ ?_
  · refine wH_block ?_
    refine wH_loop (β := Nat × (List Rect) × ((List Int)) × Nm) (fun p => (fun (k_3 : Nat) (l_4 : List Rect) (s_8 : (List Int)) (n_11 : Nm) => ([(1, (.fn 78 [])), (5, (gV n_11 1 s_8)), (10, (vL Rect.enc l_1)), (11, (vI (l_1.length : Int))), (12, (vI (k_3 : Int)))] : List (Nat × V))) p.1 p.2.1 p.2.2.1 p.2.2.2) (fun p => (fun (k_3 : Nat) (l_4 : List Rect) (s_8 : (List Int)) (n_11 : Nm) => ([(n_11, gB 1 eI s_8)] : Hp)) p.1 p.2.1 p.2.2.1 p.2.2.2) (fun p => forR (fun k x s => ref_cuts_v2_L1 k x s) p.2.1 p.1 p.2.2.1 = some o_14 ∧ (l_1).drop p.1 = p.2.1) (fun p => p.2.1.length) (0, l_1, ([] : List Int), n_9) ⟨hj_15, rfl⟩ rfl (pre_r rfl) ?_
    rintro ⟨k_3, l_4, s_8, n_11⟩ ⟨hL_13, hD_6⟩
    dsimp only at hL_13 hD_6
    cases l_4 with
    | nil =>
      replace hL_13 := some_inj hL_13
      subst hL_13
      refine wH_seq (wH_region (h_op (vB (decide ((k_3 : Int) < (l_1.length : Int)))) (wt rfl) rfl (h_nil ?_)))
      refine wH_seq (wH_iff rfl (drop_nil hD_6) (wH_exit ?_))
      exact cut_mk (s_8, n_11) rfl rfl (pre_r rfl)
    | cons x_5 l_4 =>
      obtain ⟨c_, hc_12, hL_13⟩ := bind_some hL_13
      refine wH_seq (wH_region (h_op (vB (decide ((k_3 : Int) < (l_1.length : Int)))) (wt rfl) rfl (h_nil ?_)))
      refine wH_seq (wH_ift rfl (drop_cons hD_6) (wH_skip ?_))
      unfold ref_cuts_v2_L1 at hc_12
      refine wH_seq ?_
      refine wH_block ?_
      refine wH_seq ?_
      refine wH_region ?_
      refine h_ia es62 rfl rfl (drop_idx hD_6) rfl (wt rfl) ?_
      refine h_ldc sz49 ag49 rfl (.d (.agg (Rect.enc x_5))) rfl (wt rfl) ?_
      refine h_alloc 0 (.inl rfl) z49 rfl (wt rfl) (fun n_16 => ?_)
      refine h_str 0 (.inl rfl) (fun _ _ _ => trivial) 1 sz49 rfl rfl [(vI x_5.X), (vI x_5.Y), (vI x_5.W), (vI x_5.H)] rfl (wt rfl) ?_
      refine h_nil ?_
      refine wH_seq ?_
      refine wH_region ?_
      refine h_op (.fn 78 []) (wt rfl) rfl ?_
      refine h_ldr 0 1 (.inl rfl) (fun _ _ _ => trivial) sz49 ag49 rfl rfl (.d (.agg (Rect.enc x_5))) rfl (wt rfl) ?_
      obtain ⟨r_17, hr_18, hc_12⟩ := bind_some hc_12
      refine h_call0 (ref_regionOf_2_ok hr_18) rfl hb78 rfl rfl rfl rfl (wt rfl) ?_
      refine h_op (.tup [(vI r_17.1), (vI r_17.2)]) (wt rfl) rfl ?_
      refine h_op (vI r_17.1) (wt rfl) rfl ?_
      refine h_op (vI r_17.2) (wt rfl) rfl ?_
      refine h_op (vI r_17.1) (wt rfl) rfl ?_
      refine h_op (vI r_17.2) (wt rfl) rfl ?_
      refine h_nil ?_
      refine wH_region ?_
      refine h_op (gV n_11 1 s_8) (wt rfl) rfl ?_
      refine h_op (vI r_17.1) (wt rfl) rfl ?_
      refine h_op (vI r_17.2) (wt rfl) rfl ?_
      refine h_lit (([r_17.1, r_17.2] : List Int).map eI) es22 ez22 rfl rfl rfl rfl rfl (wt rfl) ?_
      obtain ⟨a_19, hz_20, hc_12⟩ := bind_some hc_12
      refine h_appg 0 (.inl rfl) (fun _ _ _ => trivial) (i := 0) el22 el22 sz3 z3 rfl (by decide) by3 (by decide) (fun _ => rfl) rfl rfl rfl hz_20 (wt rfl) (fun n_21 => ?_)
      refine h_op (gV n_21 1 a_19) (wt rfl) rfl ?_
      refine h_nil ?_
      refine wH_region ?_
      refine h_opw (w64_next hD_6 hn_7) (wt rfl) rfl ?_
      refine h_op (vI ((k_3 + 1 : Nat) : Int)) (wt rfl) rfl ?_
      refine h_nil ?_
      replace hc_12 := some_inj hc_12
      subst hc_12
      exact loop_mk (k_3 + 1, l_4, a_19, n_21) ⟨hL_13, drop_next hD_6⟩ (Nat.lt_succ_self _) rfl (pre_r rfl)
  · rintro ⟨s_8, n_11⟩ ho_ sl_ H_ hp_ hq_
    subst ho_
    refine wH_at _ hp_ hq_ ?_
    refine wH_seq ?_
    refine wH_region ?_
    refine h_op (gV n_11 1 s_8) (wt rfl) rfl ?_
    obtain ⟨r_22, hr_23, hF⟩ := bind_some hF
    obtain ⟨_, hs_24, hF⟩ := bind_some hF
    replace hs_24 := sameL_eq hs_24
    refine h_callv 0 [] 0 0 (.inl rfl) (fun _ _ _ => trivial) (slices_Sort_int_int_v1_ok hr_23) rfl hb83 rfl rfl rfl (by kernel_rfl) rfl (.inl rfl) rfl (by kernel_rfl) (by kernel_rfl) (by kernel_rfl) (by kernel_rfl) rfl (by decide) (by kernel_rfl) gB_ok (gB_ho hs_24) (wt rfl) ([(n_11, gB 1 eI r_22)] : Hp) (by kernel_rfl) ?_
    refine h_re (v' := (gV n_11 1 r_22)) 28 rfl (gV_len hs_24.symm) ?_
    refine h_re (v' := (gV n_11 1 r_22)) 5 rfl (gV_len hs_24.symm) ?_
    refine h_nil ?_
    refine wH_seq ?_
    refine wH_region ?_
    refine h_op (gV n_11 1 r_22) (wt rfl) rfl ?_
    obtain ⟨r_25, hr_26, hF⟩ := bind_some hF
    refine h_callv 0 [] 0 0 (.inl rfl) (fun _ _ _ => trivial) (slices_Compact_int_int_v1_ok hr_26) rfl hb84 rfl rfl rfl (by kernel_rfl) rfl (.inl rfl) rfl (by kernel_rfl) (by kernel_rfl) (by kernel_rfl) (by kernel_rfl) rfl (by decide) (by kernel_rfl) none_ok (fun _ => rfl) (wt rfl) ([(n_11, none)] : Hp) (by kernel_rfl) ?_
    refine h_op (vL eI r_25) (wt rfl) rfl ?_
    refine h_nil ?_
    replace hF := some_inj hF
    subst hF
    refine wH_ret ?_
    exact fin0 (.inr rfl) [(vL eI r_25)] ⟨rfl, trivial⟩ rfl rfl rfl
theorem ref_regionOf_3_ok {a_1 : Rect} {b_2 : Rect} {r : Bool} (hF : ref_regionOf_3 a_1 b_2 = some r) :
    FnM Tryz.prog 80 [(.d (.agg (Rect.enc a_1))), (.d (.agg (Rect.enc b_2)))] [] (vB r) [] := by
  refine FnM.of_wH ⟨Tryz.prog, 27, [], []⟩ rfl Tryz.func80 rfl rfl (Nat.le_of_ble_eq_true rfl) (by kernel_rfl) ?_
  unfold ref_regionOf_3 at hF
  refine wH_seq ?_
  refine wH_region ?_
  refine h_box 0 (.inl rfl) [(vI a_1.X), (vI a_1.Y), (vI a_1.W), (vI a_1.H)] rfl rfl (wt rfl) (fun n_3 => ?_)
  refine h_box 0 (.inl rfl) [(vI b_2.X), (vI b_2.Y), (vI b_2.W), (vI b_2.H)] rfl rfl (wt rfl) (fun n_4 => ?_)
  refine h_op (vB false) (wt rfl) rfl ?_
  refine h_nil ?_
  refine wH_seq ?_
  obtain ⟨v_5, h_6, hF⟩ := bind_some hF
  refine wH_join (β := Unit) (fun _ => ([(4, (vB v_5))] : List (Nat × V))) (fun _ => ([(n_3, some (.cells 4 [(vI a_1.X), (vI a_1.Y), (vI a_1.W), (vI a_1.H)])), (n_4, some (.cells 4 [(vI b_2.X), (vI b_2.Y), (vI b_2.W), (vI b_2.H)]))] : Hp)) (fun _ => True) ?_ ?_
  · refine wH_region ?_
    refine h_far pl49_0 rfl 0 rfl (wt rfl) ?_
    refine h_ldr 0 0 (.inl rfl) (fun _ _ _ => trivial) sz3 ag3 rfl rfl (vI a_1.X) rfl (wt rfl) ?_
    refine h_far pl49_0 rfl 0 rfl (wt rfl) ?_
    refine h_ldr 0 1 (.inl rfl) (fun _ _ _ => trivial) sz3 ag3 rfl rfl (vI b_2.X) rfl (wt rfl) ?_
    refine h_op (vB (a_1.X == b_2.X)) (wt rfl) rfl ?_
    rcases cond_some h_6 with ⟨hc_7, h_6⟩ | ⟨hc_7, h_6⟩
    · refine h_movb rfl hc_7 (wt rfl) ?_
      refine h_far pl49_2 rfl 2 rfl (wg rfl rfl rfl) ?_
      refine h_ldr 0 0 (.inl rfl) (fun _ _ _ => trivial) sz3 ag3 rfl rfl (vI a_1.W) rfl (wg rfl rfl rfl) ?_
      refine h_far pl49_2 rfl 2 rfl (wg rfl rfl rfl) ?_
      refine h_ldr 0 1 (.inl rfl) (fun _ _ _ => trivial) sz3 ag3 rfl rfl (vI b_2.W) rfl (wg rfl rfl rfl) ?_
      refine h_op (vB (a_1.W == b_2.W)) (wg rfl rfl rfl) rfl ?_
      refine h_op (vB (a_1.W == b_2.W)) (wt rfl) rfl ?_
      rcases cond_some h_6 with ⟨hc_8, h_6⟩ | ⟨hc_8, h_6⟩
      · refine h_movb rfl hc_8 (wt rfl) ?_
        refine h_far pl49_1 rfl 1 rfl (wg rfl rfl rfl) ?_
        refine h_ldr 0 0 (.inl rfl) (fun _ _ _ => trivial) sz3 ag3 rfl rfl (vI a_1.Y) rfl (wg rfl rfl rfl) ?_
        refine h_far pl49_1 rfl 1 rfl (wg rfl rfl rfl) ?_
        refine h_ldr 0 1 (.inl rfl) (fun _ _ _ => trivial) sz3 ag3 rfl rfl (vI b_2.Y) rfl (wg rfl rfl rfl) ?_
        refine h_far pl49_3 rfl 3 rfl (wg rfl rfl rfl) ?_
        refine h_ldr 0 1 (.inl rfl) (fun _ _ _ => trivial) sz3 ag3 rfl rfl (vI b_2.H) rfl (wg rfl rfl rfl) ?_
        refine h_op (vI (w64 (b_2.Y + b_2.H))) (wg rfl rfl rfl) rfl ?_
        refine h_op (vB (a_1.Y == (w64 (b_2.Y + b_2.H)))) (wg rfl rfl rfl) rfl ?_
        refine h_op (vB (a_1.Y == (w64 (b_2.Y + b_2.H)))) (wt rfl) rfl ?_
        refine h_op (vB (a_1.Y == (w64 (b_2.Y + b_2.H)))) (wt rfl) rfl ?_
        refine h_nil ?_
        replace h_6 := some_inj h_6
        subst h_6
        exact cut_mk () trivial rfl (pre_r rfl)
      · refine h_movb rfl hc_8 (wt rfl) ?_
        refine h_skip (wg rfl rfl rfl) ?_
        refine h_skip (wg rfl rfl rfl) ?_
        refine h_skip (wg rfl rfl rfl) ?_
        refine h_skip (wg rfl rfl rfl) ?_
        refine h_skip (wg rfl rfl rfl) ?_
        refine h_skip (wg rfl rfl rfl) ?_
        refine h_skip (wg rfl rfl rfl) ?_
        refine h_skip (wg rfl rfl rfl) ?_
        refine h_op (vB false) (wt rfl) rfl ?_
        refine h_op (vB false) (wt rfl) rfl ?_
        refine h_nil ?_
        replace h_6 := some_inj h_6
        subst h_6
        exact cut_mk () trivial rfl (pre_r rfl)
    · refine h_movb rfl hc_7 (wt rfl) ?_
      refine h_skip (wg rfl rfl rfl) ?_
      refine h_skip (wg rfl rfl rfl) ?_
      refine h_skip (wg rfl rfl rfl) ?_
      refine h_skip (wg rfl rfl rfl) ?_
      refine h_skip (wg rfl rfl rfl) ?_
      refine h_op (vB false) (wt rfl) rfl ?_
      refine h_op (vB false) (wt rfl) rfl ?_
      refine h_skip (wg rfl rfl rfl) ?_
      refine h_skip (wg rfl rfl rfl) ?_
      refine h_skip (wg rfl rfl rfl) ?_
      refine h_skip (wg rfl rfl rfl) ?_
      refine h_skip (wg rfl rfl rfl) ?_
      refine h_skip (wg rfl rfl rfl) ?_
      refine h_skip (wg rfl rfl rfl) ?_
      refine h_skip (wg rfl rfl rfl) ?_
      refine h_op (vB false) (wt rfl) rfl ?_
      refine h_op (vB false) (wt rfl) rfl ?_
      refine h_nil ?_
      replace h_6 := some_inj h_6
      subst h_6
      exact cut_mk () trivial rfl (pre_r rfl)
  · rintro ⟨⟩ _ sl_ H_ hp_ hq_
    refine wH_at _ hp_ hq_ ?_
    replace hF := some_inj hF
    subst hF
    refine wH_ret ?_
    exact fin0 (.inr rfl) [(vB v_5)] ⟨rfl, trivial⟩ rfl rfl rfl
theorem slices_EqualFunc_api_Rect_api_Rect_api_Rect_api_Rect_v3_ok {s1_1 : (List Rect)} {s2_2 : (List Rect)} {r : Bool} (hF : slices_EqualFunc_api_Rect_api_Rect_api_Rect_api_Rect_v3 s1_1 s2_2 = some r) :
    FnM Tryz.prog 79 [(dV (exA s1_1 0) 4 s1_1), (dV (exB s1_1 0) 4 s2_2), (.fn 80 [])] (([] : List Box) ++ gI 4 Rect.enc s1_1 ++ gI 4 Rect.enc s2_2) (vB r) (([] : List Box).map some ++ gT s1_1 (gB 4 Rect.enc s1_1) ++ gT s2_2 (gB 4 Rect.enc s2_2)) := by
  refine FnM.of_wHv2 ⟨Tryz.prog, 32, [], []⟩ rfl Tryz.func79 rfl rfl (Nat.le_of_ble_eq_true rfl) (by kernel_rfl) ?_
  unfold slices_EqualFunc_api_Rect_api_Rect_api_Rect_api_Rect_v3 at hF
  refine wH_seq ?_
  refine wH_region ?_
  refine h_op (vB false) (wt rfl) rfl ?_
  refine h_nil ?_
  refine wH_seq ?_
  refine wH_seq ?_
  refine wH_region ?_
  refine h_op (dV (exA s1_1 0) 4 s1_1) (wt rfl) rfl ?_
  refine h_lend un62 rfl (wt rfl) ?_
  refine h_op (dV (exB s1_1 0) 4 s2_2) (wt rfl) rfl ?_
  refine h_lend un62 rfl (wt rfl) ?_
  refine h_op (vB ((s1_1.length : Int) != (s2_2.length : Int))) (wt rfl) rfl ?_
  refine h_nil ?_
  rcases cond_some hF with ⟨hc_4, hF⟩ | ⟨hc_4, hF⟩
  · refine wH_ift rfl hc_4 ?_
    refine wH_seq ?_
    refine wH_region ?_
    refine h_op (vB false) (wt rfl) rfl ?_
    refine h_nil ?_
    replace hF := some_inj hF
    subst hF
    refine wH_ret ?_
    exact finV2 (bs := ([] : List Box)) (os := ([] : List Box)) (xs := s1_1) (ys := s2_2) (o := gB 4 Rect.enc s1_1) (o2 := gB 4 Rect.enc s2_2) (.inr rfl) [(vB false)] ⟨rfl, trivial⟩ rfl rfl rfl rfl rfl rfl (by kernel_rfl) gB_ok gB_ok rfl
  · refine wH_iff rfl hc_4 ?_
    refine wH_skip ?_
    refine wH_seq ?_
    refine wH_seq ?_
    refine wH_region ?_
    refine h_op (dV (exA s1_1 0) 4 s1_1) (wt rfl) rfl ?_
    refine h_lend un62 rfl (wt rfl) ?_
    refine h_op (vI 0) (wt rfl) rfl ?_
    refine h_nil ?_
    obtain ⟨o_13, hj_14, hF⟩ := bind_some hF
    obtain ⟨hn_9, hj_14⟩ := forL_some hj_14
    refine wH_join (β := (Unit)) (fun (s_10 : Unit) => ([] : List (Nat × V))) (fun (s_10 : Unit) => ([((exA s1_1 0), gB 4 Rect.enc s1_1), ((exB s1_1 0), gB 4 Rect.enc s2_2)] : Hp)) (fun p => o_13 = .go p) ?_ ?_
    · refine wH_block ?_
      refine wH_loop (β := Nat × (List Nat) × (Unit)) (fun p => (fun (k_5 : Nat) (l_6 : List Nat) (s_10 : Unit) => ([(1, (dV (exB s1_1 0) 4 s2_2)), (2, (.fn 80 [])), (15, (dV (exA s1_1 0) 4 s1_1)), (16, (vI (s1_1.length : Int))), (17, (vI (k_5 : Int)))] : List (Nat × V))) p.1 p.2.1 p.2.2) (fun p => (fun (k_5 : Nat) (l_6 : List Nat) (s_10 : Unit) => ([((exA s1_1 0), gB 4 Rect.enc s1_1), ((exB s1_1 0), gB 4 Rect.enc s2_2)] : Hp)) p.1 p.2.1 p.2.2) (fun p => forR (fun k x s => slices_EqualFunc_api_Rect_api_Rect_api_Rect_api_Rect_v3_L1 s1_1 s2_2 k x s) p.2.1 p.1 p.2.2 = some o_13 ∧ ((List.range ((s1_1.length : Int)).toNat)).drop p.1 = p.2.1) (fun p => p.2.1.length) (0, (List.range ((s1_1.length : Int)).toNat), ()) ⟨hj_14, rfl⟩ rfl (pre_r rfl) ?_
      rintro ⟨k_5, l_6, s_10⟩ ⟨hL_12, hD_8⟩
      dsimp only at hL_12 hD_8
      cases l_6 with
      | nil =>
        replace hL_12 := some_inj hL_12
        subst hL_12
        refine wH_seq (wH_region (h_op (vB (decide ((k_5 : Int) < (s1_1.length : Int)))) (wt rfl) rfl (h_nil ?_)))
        refine wH_seq (wH_iff rfl (range_nil hD_8) (wH_exit ?_))
        exact cut_mk (s_10) rfl rfl (pre_r rfl)
      | cons x_7 l_6 =>
        obtain ⟨c_, hc_11, hL_12⟩ := bind_some hL_12
        refine wH_seq (wH_region (h_op (vB (decide ((k_5 : Int) < (s1_1.length : Int)))) (wt rfl) rfl (h_nil ?_)))
        refine wH_seq (wH_ift rfl (range_cons hD_8) (wH_skip ?_))
        unfold slices_EqualFunc_api_Rect_api_Rect_api_Rect_api_Rect_v3_L1 at hc_11
        refine wH_seq ?_
        refine wH_block ?_
        refine wH_seq ?_
        refine wH_region ?_
        refine h_op (vI (k_5 : Int)) (wt rfl) rfl ?_
        obtain ⟨_, hi_15, hc_11⟩ := bind_some hc_11
        refine h_iavd es62 rfl rfl (inR_0 hi_15) (inR_lt hi_15) (wt rfl) ?_
        obtain ⟨e_16, hy_17, hc_11⟩ := bind_some hc_11
        refine h_ldvg 0 0 (.inl rfl) (fun _ _ _ => trivial) sz49 ag49 rfl rfl hy_17 (.d (.agg (Rect.enc e_16))) rfl (wt rfl) ?_
        refine h_alloc 0 (.inl rfl) z49 rfl (wt rfl) (fun n_18 => ?_)
        refine h_op (vI (k_5 : Int)) (wt rfl) rfl ?_
        refine h_str 0 (.inl rfl) (fun _ _ _ => trivial) 2 sz49 rfl rfl [(vI e_16.X), (vI e_16.Y), (vI e_16.W), (vI e_16.H)] rfl (wt rfl) ?_
        refine h_nil ?_
        refine wH_seq ?_
        refine wH_region ?_
        refine h_op (dV (exB s1_1 0) 4 s2_2) (wt rfl) rfl ?_
        refine h_op (vI (k_5 : Int)) (wt rfl) rfl ?_
        obtain ⟨_, hi_19, hc_11⟩ := bind_some hc_11
        refine h_iavd es62 rfl rfl (inR_0 hi_19) (inR_lt hi_19) (wt rfl) ?_
        obtain ⟨e_20, hy_21, hc_11⟩ := bind_some hc_11
        refine h_ldvg 0 1 (.inl rfl) (fun _ _ _ => trivial) sz49 ag49 rfl rfl hy_21 (.d (.agg (Rect.enc e_20))) rfl (wt rfl) ?_
        refine h_alloc 0 (.inl rfl) z49 rfl (wt rfl) (fun n_22 => ?_)
        refine h_str 0 (.inl rfl) (fun _ _ _ => trivial) 3 sz49 rfl rfl [(vI e_20.X), (vI e_20.Y), (vI e_20.W), (vI e_20.H)] rfl (wt rfl) ?_
        refine h_nil ?_
        refine wH_seq ?_
        refine wH_region ?_
        refine h_op (.fn 80 []) (wt rfl) rfl ?_
        refine h_ldr 0 2 (.inl rfl) (fun _ _ _ => trivial) sz49 ag49 rfl rfl (.d (.agg (Rect.enc e_16))) rfl (wt rfl) ?_
        refine h_ldr 0 3 (.inl rfl) (fun _ _ _ => trivial) sz49 ag49 rfl rfl (.d (.agg (Rect.enc e_20))) rfl (wt rfl) ?_
        obtain ⟨r_23, hr_24, hc_11⟩ := bind_some hc_11
        refine h_call0 (ref_regionOf_3_ok hr_24) rfl hb80 rfl rfl rfl rfl (wt rfl) ?_
        refine h_op (vB (!r_23)) (wt rfl) rfl ?_
        refine h_nil ?_
        rcases cond_some hc_11 with ⟨hc_25, hc_11⟩ | ⟨hc_25, hc_11⟩
        · refine wH_ift rfl hc_25 ?_
          refine wH_seq ?_
          refine wH_region ?_
          refine h_op (vB false) (wt rfl) rfl ?_
          refine h_nil ?_
          replace hc_11 := some_inj hc_11
          subst hc_11
          replace hL_12 := some_inj hL_12
          subst hL_12
          replace hF := some_inj hF
          subst hF
          refine wH_ret ?_
          exact finV2 (bs := ([] : List Box)) (os := ([] : List Box)) (xs := s1_1) (ys := s2_2) (o := gB 4 Rect.enc s1_1) (o2 := gB 4 Rect.enc s2_2) (.inr rfl) [(vB false)] ⟨rfl, trivial⟩ rfl rfl rfl rfl rfl rfl (by kernel_rfl) gB_ok gB_ok rfl
        · refine wH_iff rfl hc_25 ?_
          refine wH_skip ?_
          refine wH_region ?_
          refine h_opw (w64_nextr hD_8 hn_9) (wt rfl) rfl ?_
          refine h_op (vI ((k_5 + 1 : Nat) : Int)) (wt rfl) rfl ?_
          refine h_nil ?_
          replace hc_11 := some_inj hc_11
          subst hc_11
          exact loop_mk (k_5 + 1, l_6, ()) ⟨hL_12, drop_next hD_8⟩ (Nat.lt_succ_self _) rfl (pre_r rfl)
    · rintro s_10 ho_ sl_ H_ hp_ hq_
      subst ho_
      refine wH_at _ hp_ hq_ ?_
      refine wH_seq ?_
      refine wH_region ?_
      refine h_op (vB true) (wt rfl) rfl ?_
      refine h_nil ?_
      replace hF := some_inj hF
      subst hF
      refine wH_ret ?_
      exact finV2 (bs := ([] : List Box)) (os := ([] : List Box)) (xs := s1_1) (ys := s2_2) (o := gB 4 Rect.enc s1_1) (o2 := gB 4 Rect.enc s2_2) (.inr rfl) [(vB true)] ⟨rfl, trivial⟩ rfl rfl rfl rfl rfl rfl (by kernel_rfl) gB_ok gB_ok rfl
theorem ref_regionOf_v1_ok {l_1 : (List Rect)} {is2_3 : (List Rect)} {is2_4 : (List Rect)} {r : (List Rect)} (hF : ref_regionOf_v1 l_1 is2_3 is2_4 = some r) :
    FnM Tryz.prog 56 [(vL Rect.enc l_1), (.fn 88 [(.ref (extN 0) 0 0), (.ref (extN 1) 0 0)])] [(.cells 1 [(vL Rect.enc is2_3)]), (.cells 1 [(vL Rect.enc is2_4)])] (vL Rect.enc r) [some (.cells 1 [(vL Rect.enc is2_3)]), some (.cells 1 [(vL Rect.enc is2_4)])] := by
  refine FnM.of_wH ⟨Tryz.prog, 149, [], []⟩ rfl Tryz.func56 rfl rfl (Nat.le_of_ble_eq_true rfl) (by kernel_rfl) ?_
  unfold ref_regionOf_v1 at hF
  refine wH_seq ?_
  refine wH_region ?_
  refine h_op .nil (wt rfl) rfl ?_
  refine h_nil ?_
  refine wH_seq ?_
  refine wH_region ?_
  refine h_op (vL Rect.enc l_1) (wt rfl) rfl ?_
  obtain ⟨r_5, hr_6, hF⟩ := bind_some hF
  refine h_call0 (ref_cuts_v1_ok hr_6) rfl hb76 rfl rfl rfl rfl (wt rfl) ?_
  refine h_op (vL eI r_5) (wt rfl) rfl ?_
  refine h_nil ?_
  refine wH_seq ?_
  refine wH_region ?_
  refine h_op (vL Rect.enc l_1) (wt rfl) rfl ?_
  obtain ⟨r_7, hr_8, hF⟩ := bind_some hF
  refine h_call0 (ref_cuts_v2_ok hr_8) rfl hb76 rfl rfl rfl rfl (wt rfl) ?_
  refine h_op (vL eI r_7) (wt rfl) rfl ?_
  refine h_nil ?_
  refine wH_seq ?_
  refine wH_region ?_
  refine h_op .nil (wt rfl) rfl ?_
  refine h_op .nil (wt rfl) rfl ?_
  refine h_nil ?_
  refine wH_seq ?_
  refine wH_seq ?_
  refine wH_region ?_
  refine h_op (vI 0) (wt rfl) rfl ?_
  refine h_nil ?_
  refine wH_new (fun n_15 => ?_)
  refine wH_new (fun n_16 => ?_)
  obtain ⟨o_23, hj_24, hF⟩ := bind_some hF
  obtain ⟨nq_118, hj_24⟩ := loopO_iter hj_24
  refine wH_join (β := ((List Rect) × (List Rect) × Int) × Nm × Nm) (fun p => (fun (s_14 : (List Rect) × (List Rect) × Int) (n_19 : Nm) (n_20 : Nm) => ([(7, (gV n_19 4 s_14.1)), (8, (gV n_20 4 s_14.2.1))] : List (Nat × V))) p.1 p.2.1 p.2.2) (fun p => (fun (s_14 : (List Rect) × (List Rect) × Int) (n_19 : Nm) (n_20 : Nm) => ([((extN 0), some (.cells 1 [(vL Rect.enc is2_3)])), ((extN 1), some (.cells 1 [(vL Rect.enc is2_4)])), (n_19, gB 4 Rect.enc s_14.1), (n_20, gB 4 Rect.enc s_14.2.1)] : Hp)) p.1 p.2.1 p.2.2) (fun p => o_23 = .go p.1) ?_ ?_
  · refine wH_block ?_
    refine wH_loop (β := Nat × ((List Rect) × (List Rect) × Int) × Nm × Nm) (fun p => (fun (k_9 : Nat) (s_14 : (List Rect) × (List Rect) × Int) (n_19 : Nm) (n_20 : Nm) => ([(1, (.fn 88 [(.ref (extN 0) 0 0), (.ref (extN 1) 0 0)])), (5, (vL eI r_5)), (6, (vL eI r_7)), (7, (gV n_19 4 s_14.1)), (8, (gV n_20 4 s_14.2.1)), (9, (vI s_14.2.2))] : List (Nat × V))) p.1 p.2.1 p.2.2.1 p.2.2.2) (fun p => (fun (k_9 : Nat) (s_14 : (List Rect) × (List Rect) × Int) (n_19 : Nm) (n_20 : Nm) => ([((extN 0), some (.cells 1 [(vL Rect.enc is2_3)])), ((extN 1), some (.cells 1 [(vL Rect.enc is2_4)])), (n_19, gB 4 Rect.enc s_14.1), (n_20, gB 4 Rect.enc s_14.2.1)] : Hp)) p.1 p.2.1 p.2.2.1 p.2.2.2) (fun p => iterN (fun s => ref_regionOf_v1_L3 r_7 r_5 is2_3 is2_4 s) p.1 p.2.1 = some o_23) (fun p => p.1) (nq_118, (([] : List Rect), ([] : List Rect), 0), n_15, n_16) hj_24 rfl (pre_r rfl) ?_
    rintro ⟨k_9, s_14, n_19, n_20⟩ hL_22
    dsimp only at hL_22
    cases k_9 with
    | zero => cases hL_22
    | succ k_9 =>
      obtain ⟨c_, hc_21, hL_22⟩ := bind_some hL_22
      unfold ref_regionOf_v1_L3 at hc_21
      refine wH_seq ?_
      refine wH_seq ?_
      refine wH_region ?_
      refine h_op (vI s_14.2.2) (wt rfl) rfl ?_
      refine h_op (vI (w64 (s_14.2.2 + 1))) (wt rfl) rfl ?_
      refine h_op (vL eI r_7) (wt rfl) rfl ?_
      refine h_len un22 rfl (wt rfl) ?_
      refine h_op (vB (decide ((w64 (s_14.2.2 + 1)) < (r_7.length : Int)))) (wt rfl) rfl ?_
      refine h_nil ?_
      rcases cond_some hc_21 with ⟨hc_25, hc_21⟩ | ⟨hc_25, hc_21⟩
      · refine wH_ift rfl hc_25 ?_
        refine wH_skip ?_
        refine wH_seq ?_
        refine wH_block ?_
        refine wH_seq ?_
        refine wH_region ?_
        refine h_op .nil (wt rfl) rfl ?_
        refine h_nil ?_
        refine wH_seq ?_
        refine wH_seq ?_
        refine wH_region ?_
        refine h_op (vI 0) (wt rfl) rfl ?_
        refine h_nil ?_
        refine wH_new (fun n_32 => ?_)
        obtain ⟨o_37, hj_38, hc_21⟩ := bind_some hc_21
        obtain ⟨nq_114, hj_38⟩ := loopO_iter hj_38
        refine wH_join (β := ((List Rect) × Int) × Nm) (fun p => (fun (s_31 : (List Rect) × Int) (n_34 : Nm) => ([(1, (.fn 88 [(.ref (extN 0) 0 0), (.ref (extN 1) 0 0)])), (5, (vL eI r_5)), (6, (vL eI r_7)), (7, (gV n_19 4 s_14.1)), (8, (gV n_20 4 s_14.2.1)), (9, (vI s_14.2.2)), (10, (gV n_34 4 s_31.1))] : List (Nat × V))) p.1 p.2) (fun p => (fun (s_31 : (List Rect) × Int) (n_34 : Nm) => ([((extN 0), some (.cells 1 [(vL Rect.enc is2_3)])), ((extN 1), some (.cells 1 [(vL Rect.enc is2_4)])), (n_19, gB 4 Rect.enc s_14.1), (n_20, gB 4 Rect.enc s_14.2.1), (n_34, gB 4 Rect.enc s_31.1)] : Hp)) p.1 p.2) (fun p => o_37 = .go p.1) ?_ ?_
        · refine wH_block ?_
          refine wH_loop (β := Nat × ((List Rect) × Int) × Nm) (fun p => (fun (k_26 : Nat) (s_31 : (List Rect) × Int) (n_34 : Nm) => ([(1, (.fn 88 [(.ref (extN 0) 0 0), (.ref (extN 1) 0 0)])), (5, (vL eI r_5)), (6, (vL eI r_7)), (7, (gV n_19 4 s_14.1)), (8, (gV n_20 4 s_14.2.1)), (9, (vI s_14.2.2)), (10, (gV n_34 4 s_31.1)), (11, (vI s_31.2))] : List (Nat × V))) p.1 p.2.1 p.2.2) (fun p => (fun (k_26 : Nat) (s_31 : (List Rect) × Int) (n_34 : Nm) => ([((extN 0), some (.cells 1 [(vL Rect.enc is2_3)])), ((extN 1), some (.cells 1 [(vL Rect.enc is2_4)])), (n_19, gB 4 Rect.enc s_14.1), (n_20, gB 4 Rect.enc s_14.2.1), (n_34, gB 4 Rect.enc s_31.1)] : Hp)) p.1 p.2.1 p.2.2) (fun p => iterN (fun s => ref_regionOf_v1_L1 r_5 r_7 s_14 is2_3 is2_4 s) p.1 p.2.1 = some o_37) (fun p => p.1) (nq_114, (([] : List Rect), 0), n_32) hj_38 rfl (pre_r rfl) ?_
          rintro ⟨k_26, s_31, n_34⟩ hL_36
          dsimp only at hL_36
          cases k_26 with
          | zero => cases hL_36
          | succ k_26 =>
            obtain ⟨c_, hc_35, hL_36⟩ := bind_some hL_36
            unfold ref_regionOf_v1_L1 at hc_35
            refine wH_seq ?_
            refine wH_seq ?_
            refine wH_region ?_
            refine h_op (vI s_31.2) (wt rfl) rfl ?_
            refine h_op (vI (w64 (s_31.2 + 1))) (wt rfl) rfl ?_
            refine h_op (vL eI r_5) (wt rfl) rfl ?_
            refine h_len un22 rfl (wt rfl) ?_
            refine h_op (vB (decide ((w64 (s_31.2 + 1)) < (r_5.length : Int)))) (wt rfl) rfl ?_
            refine h_nil ?_
            rcases cond_some hc_35 with ⟨hc_39, hc_35⟩ | ⟨hc_39, hc_35⟩
            · refine wH_ift rfl hc_39 ?_
              refine wH_skip ?_
              refine wH_seq ?_
              refine wH_block ?_
              refine wH_seq ?_
              refine wH_seq ?_
              refine wH_draws ?_
              refine h_op (.fn 88 [(.ref (extN 0) 0 0), (.ref (extN 1) 0 0)]) (wt rfl) rfl ?_
              refine h_op (vL eI r_5) (wt rfl) rfl ?_
              refine h_op (vI s_31.2) (wt rfl) rfl ?_
              obtain ⟨y_40, hy_41, hc_35⟩ := bind_some hc_35
              refine h_ia es22 rfl rfl hy_41 rfl (wt rfl) ?_
              refine h_ldc sz3 ag3 rfl (vI y_40) rfl (wt rfl) ?_
              refine h_op (vL eI r_7) (wt rfl) rfl ?_
              refine h_op (vI s_14.2.2) (wt rfl) rfl ?_
              obtain ⟨y_42, hy_43, hc_35⟩ := bind_some hc_35
              refine h_ia es22 rfl rfl hy_43 rfl (wt rfl) ?_
              refine h_ldc sz3 ag3 rfl (vI y_42) rfl (wt rfl) ?_
              obtain ⟨r_44, hr_45, hc_35⟩ := bind_some hc_35
              refine h_callq 9 [0, 1] (.inr (by kernel_rfl)) (fun _ _ ag => by exact trivial) (ref_WithoutOf_1_ok hr_45) rfl hb88 rfl (by kernel_rfl) (by kernel_rfl) (by kernel_rfl) (by kernel_rfl) (by kernel_rfl) (by kernel_rfl) (by kernel_rfl) (by decide) (by kernel_rfl) (wt rfl) (vB r_44) (by kernel_rfl) ([((extN 0), some (.cells 1 [(vL Rect.enc is2_3)])), ((extN 1), some (.cells 1 [(vL Rect.enc is2_4)])), (n_19, gB 4 Rect.enc s_14.1), (n_20, gB 4 Rect.enc s_14.2.1), (n_34, gB 4 Rect.enc s_31.1)] : Hp) (by kernel_rfl) ?_
              refine h_op (vB (!r_44)) (wt rfl) rfl ?_
              refine h_nil ?_
              rcases cond_some hc_35 with ⟨hc_47, hc_35⟩ | ⟨hc_47, hc_35⟩
              · refine wH_ift rfl hc_47 ?_
                refine wH_exit ?_
                refine wH_region ?_
                refine h_op (vI s_31.2) (wt rfl) rfl ?_
                refine h_op (vI (w64 (s_31.2 + 1))) (wt rfl) rfl ?_
                refine h_op (vI (w64 (s_31.2 + 1))) (wt rfl) rfl ?_
                refine h_nil ?_
                replace hc_35 := some_inj hc_35
                subst hc_35
                exact loop_mk (k_26, (s_31.1, (w64 (s_31.2 + 1))), n_34) hL_36 (Nat.lt_succ_self _) rfl (pre_r rfl)
              · refine wH_iff rfl hc_47 ?_
                refine wH_skip ?_
                refine wH_seq ?_
                refine wH_region ?_
                refine h_op (gV n_34 4 s_31.1) (wt rfl) rfl ?_
                refine h_leng un62 rfl (wt rfl) ?_
                refine h_op (vI (w64 ((s_31.1.length : Int) - 1))) (wt rfl) rfl ?_
                refine h_op (vI (w64 ((s_31.1.length : Int) - 1))) (wt rfl) rfl ?_
                refine h_nil ?_
                refine wH_seq ?_
                obtain ⟨v_48, h_49, hc_35⟩ := bind_some hc_35
                refine wH_join (β := Unit) (fun _ => ([(1, (.fn 88 [(.ref (extN 0) 0 0), (.ref (extN 1) 0 0)])), (5, (vL eI r_5)), (6, (vL eI r_7)), (7, (gV n_19 4 s_14.1)), (8, (gV n_20 4 s_14.2.1)), (9, (vI s_14.2.2)), (10, (gV n_34 4 s_31.1)), (11, (vI s_31.2)), (12, (vI (w64 ((s_31.1.length : Int) - 1)))), (66, (vB v_48))] : List (Nat × V))) (fun _ => ([((extN 0), some (.cells 1 [(vL Rect.enc is2_3)])), ((extN 1), some (.cells 1 [(vL Rect.enc is2_4)])), (n_19, gB 4 Rect.enc s_14.1), (n_20, gB 4 Rect.enc s_14.2.1), (n_34, gB 4 Rect.enc s_31.1)] : Hp)) (fun _ => True) ?_ ?_
                · refine wH_draws ?_
                  refine h_op (vI (w64 ((s_31.1.length : Int) - 1))) (wt rfl) rfl ?_
                  refine h_op (vB (decide ((w64 ((s_31.1.length : Int) - 1)) ≥ 0))) (wt rfl) rfl ?_
                  rcases cond_some h_49 with ⟨hc_50, h_49⟩ | ⟨hc_50, h_49⟩
                  · refine h_movb rfl hc_50 (wt rfl) ?_
                    refine h_op (gV n_34 4 s_31.1) (wg rfl rfl rfl) rfl ?_
                    refine h_op (vI (w64 ((s_31.1.length : Int) - 1))) (wg rfl rfl rfl) rfl ?_
                    obtain ⟨_, hi_51, h_49⟩ := bind_some h_49
                    refine h_iavg es62 rfl rfl (inR_0 hi_51) (inR_lt hi_51) (wg rfl rfl rfl) ?_
                    refine h_far pl49_0 rfl 0 rfl (wg rfl rfl rfl) ?_
                    obtain ⟨e_52, hy_53, h_49⟩ := bind_some h_49
                    refine h_ldvg 7 4 (.inr (by kernel_rfl)) (fun _ _ ag => trivial) sz3 ag3 rfl rfl hy_53 (vI e_52.X) rfl (wg rfl rfl rfl) ?_
                    refine h_op (gV n_34 4 s_31.1) (wg rfl rfl rfl) rfl ?_
                    refine h_op (vI (w64 ((s_31.1.length : Int) - 1))) (wg rfl rfl rfl) rfl ?_
                    obtain ⟨_, hi_54, h_49⟩ := bind_some h_49
                    refine h_iavg es62 rfl rfl (inR_0 hi_54) (inR_lt hi_54) (wg rfl rfl rfl) ?_
                    refine h_far pl49_2 rfl 2 rfl (wg rfl rfl rfl) ?_
                    obtain ⟨e_55, hy_56, h_49⟩ := bind_some h_49
                    refine h_ldvg 12 4 (.inr (by kernel_rfl)) (fun _ _ ag => ⟨.inl ⟨rfl, rfl⟩, trivial⟩) sz3 ag3 rfl rfl hy_56 (vI e_55.W) rfl (wg rfl rfl rfl) ?_
                    refine h_op (vI (w64 (e_52.X + e_55.W))) (wg rfl rfl rfl) rfl ?_
                    refine h_op (vL eI r_5) (wg rfl rfl rfl) rfl ?_
                    refine h_op (vI s_31.2) (wg rfl rfl rfl) rfl ?_
                    obtain ⟨y_57, hy_58, h_49⟩ := bind_some h_49
                    refine h_ia es22 rfl rfl hy_58 rfl (wg rfl rfl rfl) ?_
                    refine h_ldc sz3 ag3 rfl (vI y_57) rfl (wg rfl rfl rfl) ?_
                    refine h_op (vB ((w64 (e_52.X + e_55.W)) == y_57)) (wg rfl rfl rfl) rfl ?_
                    refine h_op (vB ((w64 (e_52.X + e_55.W)) == y_57)) (wt rfl) rfl ?_
                    refine h_nil ?_
                    replace h_49 := some_inj h_49
                    subst h_49
                    exact cut_mk () trivial rfl (pre_r rfl)
                  · refine h_movb rfl hc_50 (wt rfl) ?_
                    refine h_skip (wg rfl rfl rfl) ?_
                    refine h_skip (wg rfl rfl rfl) ?_
                    refine h_skip (wg rfl rfl rfl) ?_
                    refine h_skip (wg rfl rfl rfl) ?_
                    refine h_skip (wg rfl rfl rfl) ?_
                    refine h_skip (wg rfl rfl rfl) ?_
                    refine h_skip (wg rfl rfl rfl) ?_
                    refine h_skip (wg rfl rfl rfl) ?_
                    refine h_skip (wg rfl rfl rfl) ?_
                    refine h_skip (wg rfl rfl rfl) ?_
                    refine h_skip (wg rfl rfl rfl) ?_
                    refine h_skip (wg rfl rfl rfl) ?_
                    refine h_skip (wg rfl rfl rfl) ?_
                    refine h_skip (wg rfl rfl rfl) ?_
                    refine h_skip (wg rfl rfl rfl) ?_
                    refine h_skip (wg rfl rfl rfl) ?_
                    refine h_op (vB false) (wt rfl) rfl ?_
                    refine h_nil ?_
                    replace h_49 := some_inj h_49
                    subst h_49
                    exact cut_mk () trivial rfl (pre_r rfl)
                · rintro ⟨⟩ _ sl_ H_ hp_ hq_
                  refine wH_at _ hp_ hq_ ?_
                  obtain ⟨v_59, h_60, hc_35⟩ := bind_some hc_35
                  refine wH_join (β := Nm) (fun (n_61 : Nm) => ([(1, (.fn 88 [(.ref (extN 0) 0 0), (.ref (extN 1) 0 0)])), (5, (vL eI r_5)), (6, (vL eI r_7)), (7, (gV n_19 4 s_14.1)), (8, (gV n_20 4 s_14.2.1)), (9, (vI s_14.2.2)), (10, (gV n_61 4 v_59)), (11, (vI s_31.2))] : List (Nat × V))) (fun (n_61 : Nm) => ([((extN 0), some (.cells 1 [(vL Rect.enc is2_3)])), ((extN 1), some (.cells 1 [(vL Rect.enc is2_4)])), (n_19, gB 4 Rect.enc s_14.1), (n_20, gB 4 Rect.enc s_14.2.1), (n_61, gB 4 Rect.enc v_59)] : Hp)) (fun _ => True) ?_ ?_
                  · rcases cond_some h_60 with ⟨hc_62, h_60⟩ | ⟨hc_62, h_60⟩
                    · refine wH_ift rfl hc_62 ?_
                      refine wH_draws ?_
                      refine h_op (gV n_34 4 s_31.1) (wt rfl) rfl ?_
                      refine h_op (vI (w64 ((s_31.1.length : Int) - 1))) (wt rfl) rfl ?_
                      refine h_op (vL eI r_5) (wt rfl) rfl ?_
                      refine h_op (vI s_31.2) (wt rfl) rfl ?_
                      refine h_op (vI (w64 (s_31.2 + 1))) (wt rfl) rfl ?_
                      obtain ⟨y_63, hy_64, h_60⟩ := bind_some h_60
                      refine h_ia es22 rfl rfl hy_64 rfl (wt rfl) ?_
                      refine h_ldc sz3 ag3 rfl (vI y_63) rfl (wt rfl) ?_
                      refine h_op (gV n_34 4 s_31.1) (wt rfl) rfl ?_
                      refine h_op (vI (w64 ((s_31.1.length : Int) - 1))) (wt rfl) rfl ?_
                      obtain ⟨_, hi_65, h_60⟩ := bind_some h_60
                      refine h_iavg es62 rfl rfl (inR_0 hi_65) (inR_lt hi_65) (wt rfl) ?_
                      refine h_far pl49_0 rfl 0 rfl (wt rfl) ?_
                      obtain ⟨e_66, hy_67, h_60⟩ := bind_some h_60
                      refine h_ldvg 11 4 (.inr (by kernel_rfl)) (fun _ _ ag => trivial) sz3 ag3 rfl rfl hy_67 (vI e_66.X) rfl (wt rfl) ?_
                      refine h_op (vI (w64 (y_63 - e_66.X))) (wt rfl) rfl ?_
                      obtain ⟨_, hi_68, h_60⟩ := bind_some h_60
                      refine h_iavg es62 rfl rfl (inR_0 hi_68) (inR_lt hi_68) (wt rfl) ?_
                      refine h_far pl49_2 rfl 2 rfl (wt rfl) ?_
                      obtain ⟨e_69, hy_70, h_60⟩ := bind_some h_60
                      refine h_stvg 15 (.inr (by kernel_rfl)) (fun _ _ ag => ⟨.inr (.inr (by kernel_rfl)), trivial⟩) 4 sz3 rfl rfl hy_70 (⟨e_69.X, e_69.Y, (w64 (y_63 - e_66.X)), e_69.H⟩ : Rect) rfl (wt rfl) ?_
                      refine h_re (v' := (gV n_34 4 (s_31.1.set (0 + ((w64 ((s_31.1.length : Int) - 1))).toNat) (⟨e_69.X, e_69.Y, (w64 (y_63 - e_66.X)), e_69.H⟩ : Rect)))) 10 rfl (gV_len (by simp)) ?_
                      refine h_re (v' := (gV n_34 4 (s_31.1.set (0 + ((w64 ((s_31.1.length : Int) - 1))).toNat) (⟨e_69.X, e_69.Y, (w64 (y_63 - e_66.X)), e_69.H⟩ : Rect)))) 67 rfl (gV_len (by simp)) ?_
                      refine h_re (v' := (gV n_34 4 (s_31.1.set (0 + ((w64 ((s_31.1.length : Int) - 1))).toNat) (⟨e_69.X, e_69.Y, (w64 (y_63 - e_66.X)), e_69.H⟩ : Rect)))) 74 rfl (gV_len (by simp)) ?_
                      refine h_nil ?_
                      replace h_60 := some_inj h_60
                      subst h_60
                      exact cut_mk n_34 trivial rfl (pre_r rfl)
                    · refine wH_iff rfl hc_62 ?_
                      refine wH_draws ?_
                      refine h_op (gV n_34 4 s_31.1) (wt rfl) rfl ?_
                      refine h_op (vL eI r_5) (wt rfl) rfl ?_
                      refine h_op (vI s_31.2) (wt rfl) rfl ?_
                      obtain ⟨y_71, hy_72, h_60⟩ := bind_some h_60
                      refine h_ia es22 rfl rfl hy_72 rfl (wt rfl) ?_
                      refine h_ldc sz3 ag3 rfl (vI y_71) rfl (wt rfl) ?_
                      refine h_op (vL eI r_7) (wt rfl) rfl ?_
                      refine h_op (vI s_14.2.2) (wt rfl) rfl ?_
                      obtain ⟨y_73, hy_74, h_60⟩ := bind_some h_60
                      refine h_ia es22 rfl rfl hy_74 rfl (wt rfl) ?_
                      refine h_ldc sz3 ag3 rfl (vI y_73) rfl (wt rfl) ?_
                      refine h_op (vL eI r_5) (wt rfl) rfl ?_
                      refine h_op (vI s_31.2) (wt rfl) rfl ?_
                      refine h_op (vI (w64 (s_31.2 + 1))) (wt rfl) rfl ?_
                      obtain ⟨y_75, hy_76, h_60⟩ := bind_some h_60
                      refine h_ia es22 rfl rfl hy_76 rfl (wt rfl) ?_
                      refine h_ldc sz3 ag3 rfl (vI y_75) rfl (wt rfl) ?_
                      refine h_op (vL eI r_5) (wt rfl) rfl ?_
                      refine h_op (vI s_31.2) (wt rfl) rfl ?_
                      obtain ⟨y_77, hy_78, h_60⟩ := bind_some h_60
                      refine h_ia es22 rfl rfl hy_78 rfl (wt rfl) ?_
                      refine h_ldc sz3 ag3 rfl (vI y_77) rfl (wt rfl) ?_
                      refine h_op (vI (w64 (y_75 - y_77))) (wt rfl) rfl ?_
                      refine h_op (vL eI r_7) (wt rfl) rfl ?_
                      refine h_op (vI s_14.2.2) (wt rfl) rfl ?_
                      refine h_op (vI (w64 (s_14.2.2 + 1))) (wt rfl) rfl ?_
                      obtain ⟨y_79, hy_80, h_60⟩ := bind_some h_60
                      refine h_ia es22 rfl rfl hy_80 rfl (wt rfl) ?_
                      refine h_ldc sz3 ag3 rfl (vI y_79) rfl (wt rfl) ?_
                      refine h_op (vL eI r_7) (wt rfl) rfl ?_
                      refine h_op (vI s_14.2.2) (wt rfl) rfl ?_
                      obtain ⟨y_81, hy_82, h_60⟩ := bind_some h_60
                      refine h_ia es22 rfl rfl hy_82 rfl (wt rfl) ?_
                      refine h_ldc sz3 ag3 rfl (vI y_81) rfl (wt rfl) ?_
                      refine h_op (vI (w64 (y_79 - y_81))) (wt rfl) rfl ?_
                      refine h_op (.d (.agg (Rect.enc (⟨y_71, y_73, (w64 (y_75 - y_77)), (w64 (y_79 - y_81))⟩ : Rect)))) (wt rfl) (by kernel_rfl) ?_
                      refine h_lit (([(⟨y_71, y_73, (w64 (y_75 - y_77)), (w64 (y_79 - y_81))⟩ : Rect)] : List Rect).map Rect.enc) es62 ez62 rfl rfl rfl rfl rfl (wt rfl) ?_
                      obtain ⟨a_83, hz_84, h_60⟩ := bind_some h_60
                      refine h_appg 31 (.inr (by kernel_rfl)) (fun _ _ ag => trivial) (i := 4) el62 el62 sz49 z49 rfl (by decide) by49 (by decide) (fun _ => rfl) rfl rfl rfl hz_84 (wt rfl) (fun n_85 => ?_)
                      refine h_op (gV n_85 4 a_83) (wt rfl) rfl ?_
                      refine h_nil ?_
                      replace h_60 := some_inj h_60
                      subst h_60
                      exact cut_mk n_85 trivial rfl (pre_r rfl)
                  · rintro n_61 _ sl_ H_ hp_ hq_
                    refine wH_at _ hp_ hq_ ?_
                    refine wH_region ?_
                    refine h_op (vI s_31.2) (wt rfl) rfl ?_
                    refine h_op (vI (w64 (s_31.2 + 1))) (wt rfl) rfl ?_
                    refine h_op (vI (w64 (s_31.2 + 1))) (wt rfl) rfl ?_
                    refine h_nil ?_
                    replace hc_35 := some_inj hc_35
                    subst hc_35
                    exact loop_mk (k_26, (v_59, (w64 (s_31.2 + 1))), n_61) hL_36 (Nat.lt_succ_self _) rfl (pre_r rfl)
            · refine wH_iff rfl hc_39 ?_
              refine wH_exit ?_
              replace hc_35 := some_inj hc_35
              subst hc_35
              replace hL_36 := some_inj hL_36
              subst hL_36
              exact cut_mk ((s_31.1, s_31.2), n_34) rfl rfl (pre_r rfl)
        · rintro ⟨s_31, n_34⟩ ho_ sl_ H_ hp_ hq_
          subst ho_
          refine wH_at _ hp_ hq_ ?_
          refine wH_seq ?_
          refine wH_region ?_
          refine h_op (gV n_34 4 s_31.1) (wt rfl) rfl ?_
          refine h_op (gV n_20 4 s_14.2.1) (wt rfl) rfl ?_
          obtain ⟨r_86, hr_87, hc_21⟩ := bind_some hc_21
          refine h_callv2 0 [] 4 3 0 1 (.inl rfl) (fun _ _ _ => trivial) (slices_EqualFunc_api_Rect_api_Rect_api_Rect_api_Rect_v3_ok hr_87) rfl hb79 rfl rfl rfl rfl (by kernel_rfl) rfl (.inl rfl) rfl rfl (.inl rfl) rfl (by decide) (by kernel_rfl) (by kernel_rfl) (by kernel_rfl) (by kernel_rfl) rfl (by decide) (by kernel_rfl) gB_ok (gB_ho rfl) gB_ok (gB_ho rfl) (wt rfl) ([((extN 0), some (.cells 1 [(vL Rect.enc is2_3)])), ((extN 1), some (.cells 1 [(vL Rect.enc is2_4)])), (n_19, gB 4 Rect.enc s_14.1), (n_20, gB 4 Rect.enc s_14.2.1), (n_34, gB 4 Rect.enc s_31.1)] : Hp) (by kernel_rfl) ?_
          refine h_op (vB r_86) (wt rfl) rfl ?_
          refine h_nil ?_
          refine wH_seq ?_
          refine wH_seq ?_
          obtain ⟨v_88, h_89, hc_21⟩ := bind_some hc_21
          refine wH_join (β := Unit) (fun _ => ([(1, (.fn 88 [(.ref (extN 0) 0 0), (.ref (extN 1) 0 0)])), (5, (vL eI r_5)), (6, (vL eI r_7)), (7, (gV n_19 4 s_14.1)), (8, (gV n_20 4 s_14.2.1)), (9, (vI s_14.2.2)), (10, (gV n_34 4 s_31.1)), (122, (vB v_88))] : List (Nat × V))) (fun _ => ([((extN 0), some (.cells 1 [(vL Rect.enc is2_3)])), ((extN 1), some (.cells 1 [(vL Rect.enc is2_4)])), (n_19, gB 4 Rect.enc s_14.1), (n_20, gB 4 Rect.enc s_14.2.1), (n_34, gB 4 Rect.enc s_31.1)] : Hp)) (fun _ => True) ?_ ?_
          · refine wH_region ?_
            refine h_op (vB r_86) (wt rfl) rfl ?_
            rcases cond_some h_89 with ⟨hc_90, h_89⟩ | ⟨hc_90, h_89⟩
            · refine h_movb rfl hc_90 (wt rfl) ?_
              refine h_op (gV n_34 4 s_31.1) (wg rfl rfl rfl) rfl ?_
              refine h_leng un62 rfl (wg rfl rfl rfl) ?_
              refine h_op (vB (decide ((s_31.1.length : Int) > 0))) (wg rfl rfl rfl) rfl ?_
              refine h_op (vB (decide ((s_31.1.length : Int) > 0))) (wt rfl) rfl ?_
              refine h_nil ?_
              replace h_89 := some_inj h_89
              subst h_89
              exact cut_mk () trivial rfl (pre_r rfl)
            · refine h_movb rfl hc_90 (wt rfl) ?_
              refine h_skip (wg rfl rfl rfl) ?_
              refine h_skip (wg rfl rfl rfl) ?_
              refine h_skip (wg rfl rfl rfl) ?_
              refine h_op (vB false) (wt rfl) rfl ?_
              refine h_nil ?_
              replace h_89 := some_inj h_89
              subst h_89
              exact cut_mk () trivial rfl (pre_r rfl)
          · rintro ⟨⟩ _ sl_ H_ hp_ hq_
            refine wH_at _ hp_ hq_ ?_
            rcases cond_some hc_21 with ⟨hc_91, hc_21⟩ | ⟨hc_91, hc_21⟩
            · refine wH_ift rfl hc_91 ?_
              refine wH_seq ?_
              refine wH_seq ?_
              refine wH_region ?_
              refine h_op (gV n_20 4 s_14.2.1) (wt rfl) rfl ?_
              refine h_leng un62 rfl (wt rfl) ?_
              refine h_op (vI 0) (wt rfl) rfl ?_
              refine h_nil ?_
              obtain ⟨o_100, hj_101, hc_21⟩ := bind_some hc_21
              obtain ⟨hn_96, hj_101⟩ := forL_some hj_101
              refine wH_join (β := ((List Rect))) (fun (s_97 : (List Rect)) => ([(1, (.fn 88 [(.ref (extN 0) 0 0), (.ref (extN 1) 0 0)])), (5, (vL eI r_5)), (6, (vL eI r_7)), (7, (gV n_19 4 s_14.1)), (8, (gV n_20 4 s_97)), (9, (vI s_14.2.2))] : List (Nat × V))) (fun (s_97 : (List Rect)) => ([((extN 0), some (.cells 1 [(vL Rect.enc is2_3)])), ((extN 1), some (.cells 1 [(vL Rect.enc is2_4)])), (n_19, gB 4 Rect.enc s_14.1), (n_20, gB 4 Rect.enc s_97), (n_34, gB 4 Rect.enc s_31.1)] : Hp)) (fun p => o_100 = .go p) ?_ ?_
              · refine wH_block ?_
                refine wH_loop (β := Nat × (List Nat) × ((List Rect))) (fun p => (fun (k_92 : Nat) (l_93 : List Nat) (s_97 : (List Rect)) => ([(1, (.fn 88 [(.ref (extN 0) 0 0), (.ref (extN 1) 0 0)])), (5, (vL eI r_5)), (6, (vL eI r_7)), (7, (gV n_19 4 s_14.1)), (8, (gV n_20 4 s_97)), (9, (vI s_14.2.2)), (10, (gV n_34 4 s_31.1)), (124, (vI (s_14.2.1.length : Int))), (125, (vI (k_92 : Int)))] : List (Nat × V))) p.1 p.2.1 p.2.2) (fun p => (fun (k_92 : Nat) (l_93 : List Nat) (s_97 : (List Rect)) => ([((extN 0), some (.cells 1 [(vL Rect.enc is2_3)])), ((extN 1), some (.cells 1 [(vL Rect.enc is2_4)])), (n_19, gB 4 Rect.enc s_14.1), (n_20, gB 4 Rect.enc s_97), (n_34, gB 4 Rect.enc s_31.1)] : Hp)) p.1 p.2.1 p.2.2) (fun p => forR (fun k x s => ref_regionOf_v1_L2 s_31 k x s) p.2.1 p.1 p.2.2 = some o_100 ∧ ((List.range ((s_14.2.1.length : Int)).toNat)).drop p.1 = p.2.1) (fun p => p.2.1.length) (0, (List.range ((s_14.2.1.length : Int)).toNat), s_14.2.1) ⟨hj_101, rfl⟩ rfl (pre_r rfl) ?_
                rintro ⟨k_92, l_93, s_97⟩ ⟨hL_99, hD_95⟩
                dsimp only at hL_99 hD_95
                cases l_93 with
                | nil =>
                  replace hL_99 := some_inj hL_99
                  subst hL_99
                  refine wH_seq (wH_region (h_op (vB (decide ((k_92 : Int) < (s_14.2.1.length : Int)))) (wt rfl) rfl (h_nil ?_)))
                  refine wH_seq (wH_iff rfl (range_nil hD_95) (wH_exit ?_))
                  exact cut_mk (s_97) rfl rfl (pre_r rfl)
                | cons x_94 l_93 =>
                  obtain ⟨c_, hc_98, hL_99⟩ := bind_some hL_99
                  refine wH_seq (wH_region (h_op (vB (decide ((k_92 : Int) < (s_14.2.1.length : Int)))) (wt rfl) rfl (h_nil ?_)))
                  refine wH_seq (wH_ift rfl (range_cons hD_95) (wH_skip ?_))
                  unfold ref_regionOf_v1_L2 at hc_98
                  refine wH_seq ?_
                  refine wH_block ?_
                  refine wH_seq ?_
                  refine wH_region ?_
                  refine h_op (vI (k_92 : Int)) (wt rfl) rfl ?_
                  refine h_op (vI (k_92 : Int)) (wt rfl) rfl ?_
                  refine h_nil ?_
                  refine wH_draws ?_
                  refine h_op (gV n_20 4 s_97) (wt rfl) rfl ?_
                  refine h_op (vI (k_92 : Int)) (wt rfl) rfl ?_
                  obtain ⟨_, hi_102, hc_98⟩ := bind_some hc_98
                  refine h_iavg es62 rfl rfl (inR_0 hi_102) (inR_lt hi_102) (wt rfl) ?_
                  refine h_far pl49_3 rfl 3 rfl (wt rfl) ?_
                  obtain ⟨e_103, hy_104, hc_98⟩ := bind_some hc_98
                  refine h_ldvg 4 3 (.inr (by kernel_rfl)) (fun _ _ ag => trivial) sz3 ag3 rfl rfl hy_104 (vI e_103.H) rfl (wt rfl) ?_
                  refine h_op (gV n_34 4 s_31.1) (wt rfl) rfl ?_
                  refine h_op (vI (k_92 : Int)) (wt rfl) rfl ?_
                  obtain ⟨_, hi_105, hc_98⟩ := bind_some hc_98
                  refine h_iavg es62 rfl rfl (inR_0 hi_105) (inR_lt hi_105) (wt rfl) ?_
                  refine h_far pl49_3 rfl 3 rfl (wt rfl) ?_
                  obtain ⟨e_106, hy_107, hc_98⟩ := bind_some hc_98
                  refine h_ldvg 9 4 (.inr (by kernel_rfl)) (fun _ _ ag => ⟨.inl ⟨rfl, rfl⟩, trivial⟩) sz3 ag3 rfl rfl hy_107 (vI e_106.H) rfl (wt rfl) ?_
                  refine h_op (vI (w64 (e_103.H + e_106.H))) (wt rfl) rfl ?_
                  obtain ⟨_, hi_108, hc_98⟩ := bind_some hc_98
                  refine h_iavg es62 rfl rfl (inR_0 hi_108) (inR_lt hi_108) (wt rfl) ?_
                  refine h_far pl49_3 rfl 3 rfl (wt rfl) ?_
                  obtain ⟨e_109, hy_110, hc_98⟩ := bind_some hc_98
                  refine h_stvg 13 (.inr (by kernel_rfl)) (fun _ _ ag => ⟨.inr (.inr (by kernel_rfl)), ⟨.inr (.inr (by kernel_rfl)), trivial⟩⟩) 3 sz3 rfl rfl hy_110 (⟨e_109.X, e_109.Y, e_109.W, (w64 (e_103.H + e_106.H))⟩ : Rect) rfl (wt rfl) ?_
                  refine h_re (v' := (gV n_20 4 (s_97.set (0 + ((k_92 : Int)).toNat) (⟨e_109.X, e_109.Y, e_109.W, (w64 (e_103.H + e_106.H))⟩ : Rect)))) 8 rfl (gV_len (by simp)) ?_
                  refine h_re (v' := (gV n_20 4 (s_97.set (0 + ((k_92 : Int)).toNat) (⟨e_109.X, e_109.Y, e_109.W, (w64 (e_103.H + e_106.H))⟩ : Rect)))) 128 rfl (gV_len (by simp)) ?_
                  refine h_nil ?_
                  refine wH_region ?_
                  refine h_opw (w64_nextr hD_95 hn_96) (wt rfl) rfl ?_
                  refine h_op (vI ((k_92 + 1 : Nat) : Int)) (wt rfl) rfl ?_
                  refine h_nil ?_
                  replace hc_98 := some_inj hc_98
                  subst hc_98
                  exact loop_mk (k_92 + 1, l_93, (s_97.set (0 + ((k_92 : Int)).toNat) (⟨e_109.X, e_109.Y, e_109.W, (w64 (e_103.H + e_106.H))⟩ : Rect))) ⟨hL_99, drop_next hD_95⟩ (Nat.lt_succ_self _) rfl (pre_r rfl)
              · rintro s_97 ho_ sl_ H_ hp_ hq_
                subst ho_
                refine wH_at _ hp_ hq_ ?_
                refine wH_exit ?_
                refine wH_region ?_
                refine h_op (vI s_14.2.2) (wt rfl) rfl ?_
                refine h_op (vI (w64 (s_14.2.2 + 1))) (wt rfl) rfl ?_
                refine h_op (vI (w64 (s_14.2.2 + 1))) (wt rfl) rfl ?_
                refine h_nil ?_
                replace hc_21 := some_inj hc_21
                subst hc_21
                exact loop_mk (k_9, (s_14.1, s_97, (w64 (s_14.2.2 + 1))), n_19, n_20) hL_22 (Nat.lt_succ_self _) rfl (pre_r rfl)
            · refine wH_iff rfl hc_91 ?_
              refine wH_skip ?_
              refine wH_frozg 3 rfl ?_
              refine wH_cog 8 3 rfl rfl ?_
              refine wH_region ?_
              refine h_op (gV n_19 4 s_14.1) (wt rfl) rfl ?_
              refine h_op (vL Rect.enc s_14.2.1) (wt rfl) rfl ?_
              obtain ⟨a_111, hz_112, hc_21⟩ := bind_some hc_21
              refine h_appg 0 (.inl rfl) (fun _ _ _ => trivial) (i := 2) el62 el62 sz49 z49 rfl (by decide) by49 (by decide) (fun _ => rfl) rfl rfl rfl hz_112 (wt rfl) (fun n_113 => ?_)
              refine h_op (gV n_34 4 s_31.1) (wt rfl) rfl ?_
              refine h_op (gV n_113 4 a_111) (wt rfl) rfl ?_
              refine h_op (gV n_34 4 s_31.1) (wt rfl) rfl ?_
              refine h_nil ?_
              refine wH_region ?_
              refine h_op (vI s_14.2.2) (wt rfl) rfl ?_
              refine h_op (vI (w64 (s_14.2.2 + 1))) (wt rfl) rfl ?_
              refine h_op (vI (w64 (s_14.2.2 + 1))) (wt rfl) rfl ?_
              refine h_nil ?_
              replace hc_21 := some_inj hc_21
              subst hc_21
              exact loop_mk (k_9, (a_111, s_31.1, (w64 (s_14.2.2 + 1))), n_113, n_34) hL_22 (Nat.lt_succ_self _) rfl (pre_is [0, 1, 2, 4] (by decide) rfl)
      · refine wH_iff rfl hc_25 ?_
        refine wH_exit ?_
        replace hc_21 := some_inj hc_21
        subst hc_21
        replace hL_22 := some_inj hL_22
        subst hL_22
        exact cut_mk ((s_14.1, s_14.2.1, s_14.2.2), n_19, n_20) rfl rfl (pre_r rfl)
  · rintro ⟨s_14, n_19, n_20⟩ ho_ sl_ H_ hp_ hq_
    subst ho_
    refine wH_at _ hp_ hq_ ?_
    refine wH_seq ?_
    refine wH_frozg 3 rfl ?_
    refine wH_cog 8 3 rfl rfl ?_
    refine wH_region ?_
    refine h_op (gV n_19 4 s_14.1) (wt rfl) rfl ?_
    refine h_op (vL Rect.enc s_14.2.1) (wt rfl) rfl ?_
    obtain ⟨a_115, hz_116, hF⟩ := bind_some hF
    refine h_appg 0 (.inl rfl) (fun _ _ _ => trivial) (i := 2) el62 el62 sz49 z49 rfl (by decide) by49 (by decide) (fun _ => rfl) rfl rfl rfl hz_116 (wt rfl) (fun n_117 => ?_)
    refine h_op (gV n_117 4 a_115) (wt rfl) rfl ?_
    refine h_nil ?_
    refine wH_frozg 2 rfl ?_
    refine wH_cog 4 2 rfl rfl ?_
    refine wH_cog 148 2 rfl rfl ?_
    replace hF := some_inj hF
    subst hF
    refine wH_ret ?_
    exact finB (.inr rfl) [(vL Rect.enc a_115)] _ [0, 1] [extN 0, extN 1] ⟨rfl, trivial⟩ (.cons (co_data rfl rfl) (.nil)) (by kernel_rfl) ⟨(by kernel_rfl), ⟨(by kernel_rfl), trivial⟩⟩ (by decide) (by kernel_rfl)
theorem ref_WithoutOf_ok {l_1 : (List Rect)} {m_2 : (List Rect)} {r : (List Rect)} (hF : ref_WithoutOf l_1 m_2 = some r) :
    FnM Tryz.prog 69 [(vL Rect.enc l_1), (vL Rect.enc m_2)] [] (vL Rect.enc r) [] := by
  refine FnM.of_wH ⟨Tryz.prog, 11, [], []⟩ rfl Tryz.func69 rfl rfl (Nat.le_of_ble_eq_true rfl) (by kernel_rfl) ?_
  unfold ref_WithoutOf at hF
  refine wH_seq ?_
  refine wH_region ?_
  refine h_box 0 (.inl rfl) [(vL Rect.enc l_1)] rfl rfl (wt rfl) (fun n_3 => ?_)
  refine h_box 0 (.inl rfl) [(vL Rect.enc m_2)] rfl rfl (wt rfl) (fun n_4 => ?_)
  refine h_op .nil (wt rfl) rfl ?_
  refine h_nil ?_
  refine wH_seq ?_
  refine wH_region ?_
  refine h_ldr 0 0 (.inl rfl) (fun _ _ _ => trivial) sz62 ag62 rfl rfl (vL Rect.enc l_1) rfl (wt rfl) ?_
  refine h_ldr 0 1 (.inl rfl) (fun _ _ _ => trivial) sz62 ag62 rfl rfl (vL Rect.enc m_2) rfl (wt rfl) ?_
  refine h_lit (([l_1, m_2] : List (List Rect)).map (eL Rect.enc)) es125 ez125 rfl rfl rfl rfl rfl (wt rfl) ?_
  obtain ⟨r_5, hr_6, hF⟩ := bind_some hF
  refine h_call0 (slices_Concat_api_Rect_api_Rect_ok hr_6) rfl hb82 rfl rfl rfl rfl (wt rfl) ?_
  refine h_op (.fn 88 [(.ref n_3 0 0), (.ref n_4 0 0)]) (wt rfl) rfl ?_
  obtain ⟨r_7, hr_8, hF⟩ := bind_some hF
  refine h_callq 0 [0, 1] (.inl rfl) (fun _ _ _ => trivial) (ref_regionOf_v1_ok hr_8) rfl hb56 rfl (by kernel_rfl) (by kernel_rfl) (by kernel_rfl) (by kernel_rfl) (by kernel_rfl) (by kernel_rfl) (by kernel_rfl) (by decide) (by kernel_rfl) (wt rfl) (vL Rect.enc r_7) (by kernel_rfl) ([(n_3, some (.cells 1 [(vL Rect.enc l_1)])), (n_4, some (.cells 1 [(vL Rect.enc m_2)]))] : Hp) (by kernel_rfl) ?_
  refine h_op (vL Rect.enc r_7) (wt rfl) rfl ?_
  refine h_nil ?_
  replace hF := some_inj hF
  subst hF
  refine wH_ret ?_
  exact fin0 (.inr rfl) [(vL Rect.enc r_7)] ⟨rfl, trivial⟩ rfl rfl rfl
theorem ref_DarkOf_ok {wv_1 : Wall} {r : (List Rect)} (hF : ref_DarkOf wv_1 = some r) :
    FnM Tryz.prog 31 [(.d (.agg (Wall.enc wv_1)))] [] (vL Rect.enc r) [] := by
  refine FnM.of_wH ⟨Tryz.prog, 12, [], []⟩ rfl Tryz.func31 rfl rfl (Nat.le_of_ble_eq_true rfl) (by kernel_rfl) ?_
  unfold ref_DarkOf at hF
  refine wH_seq ?_
  refine wH_region ?_
  refine h_box 0 (.inl rfl) [(vS wv_1.Key), (vI wv_1.W), (vI wv_1.H), (vL Screen.enc wv_1.Screens)] rfl rfl (wt rfl) (fun n_2 => ?_)
  refine h_op .nil (wt rfl) rfl ?_
  refine h_nil ?_
  refine wH_seq ?_
  refine wH_draws ?_
  refine h_far pl58_1 rfl 1 rfl (wt rfl) ?_
  refine h_ldr 1 0 (.inr (by kernel_rfl)) (fun _ _ ag => trivial) sz3 ag3 rfl rfl (vI wv_1.W) rfl (wt rfl) ?_
  refine h_far pl58_2 rfl 2 rfl (wt rfl) ?_
  refine h_ldr 3 0 (.inr (by kernel_rfl)) (fun _ _ ag => ⟨.inl ⟨rfl, rfl⟩, trivial⟩) sz3 ag3 rfl rfl (vI wv_1.H) rfl (wt rfl) ?_
  refine h_op (.d (.agg (Rect.enc (⟨0, 0, wv_1.W, wv_1.H⟩ : Rect)))) (wt rfl) (by kernel_rfl) ?_
  refine h_lit (([(⟨0, 0, wv_1.W, wv_1.H⟩ : Rect)] : List Rect).map Rect.enc) es62 ez62 rfl rfl rfl rfl rfl (wt rfl) ?_
  refine h_ldr 6 0 (.inr (by kernel_rfl)) (fun _ _ ag => ⟨.inl ⟨rfl, rfl⟩, ⟨.inl ⟨rfl, rfl⟩, trivial⟩⟩) sz58 ag58 rfl rfl (.d (.agg (Wall.enc wv_1))) rfl (wt rfl) ?_
  obtain ⟨r_3, hr_4, hF⟩ := bind_some hF
  refine h_call0 (ref_rects_ok hr_4) rfl hb70 rfl rfl rfl rfl (wt rfl) ?_
  obtain ⟨r_5, hr_6, hF⟩ := bind_some hF
  refine h_call0 (ref_WithoutOf_ok hr_6) rfl hb69 rfl rfl rfl rfl (wt rfl) ?_
  refine h_op (vL Rect.enc r_5) (wt rfl) rfl ?_
  refine h_nil ?_
  replace hF := some_inj hF
  subst hF
  refine wH_ret ?_
  exact fin0 (.inr rfl) [(vL Rect.enc r_5)] ⟨rfl, trivial⟩ rfl rfl rfl
theorem ref_PartsOf_ok {wv_1 : Wall} {r_2 : Rect} {r : (List Patch)} (hF : ref_PartsOf wv_1 r_2 = some r) :
    FnM Tryz.prog 32 [(.d (.agg (Wall.enc wv_1))), (.d (.agg (Rect.enc r_2)))] [] (vL Patch.enc r) [] := by
  refine FnM.of_wH ⟨Tryz.prog, 65, [], []⟩ rfl Tryz.func32 rfl rfl (Nat.le_of_ble_eq_true rfl) (by kernel_rfl) ?_
  unfold ref_PartsOf at hF
  refine wH_seq ?_
  refine wH_region ?_
  refine h_box 0 (.inl rfl) [(vS wv_1.Key), (vI wv_1.W), (vI wv_1.H), (vL Screen.enc wv_1.Screens)] rfl rfl (wt rfl) (fun n_3 => ?_)
  refine h_box 0 (.inl rfl) [(vI r_2.X), (vI r_2.Y), (vI r_2.W), (vI r_2.H)] rfl rfl (wt rfl) (fun n_4 => ?_)
  refine h_op .nil (wt rfl) rfl ?_
  refine h_nil ?_
  refine wH_seq ?_
  refine wH_region ?_
  refine h_op .nil (wt rfl) rfl ?_
  refine h_nil ?_
  refine wH_seq ?_
  refine wH_seq ?_
  refine wH_region ?_
  refine h_far pl58_3 rfl 3 rfl (wt rfl) ?_
  refine h_ldr 0 0 (.inl rfl) (fun _ _ _ => trivial) sz56 ag56 rfl rfl (vL Screen.enc wv_1.Screens) rfl (wt rfl) ?_
  refine h_len un56 rfl (wt rfl) ?_
  refine h_op (vI 0) (wt rfl) rfl ?_
  refine h_nil ?_
  refine wH_new (fun n_11 => ?_)
  obtain ⟨o_16, hj_17, hF⟩ := bind_some hF
  obtain ⟨hn_9, hj_17⟩ := forL_some hj_17
  refine wH_join (β := ((List Patch)) × Nm) (fun p => (fun (s_10 : (List Patch)) (n_13 : Nm) => ([(5, (gV n_13 9 s_10))] : List (Nat × V))) p.1 p.2) (fun p => (fun (s_10 : (List Patch)) (n_13 : Nm) => ([(n_3, some (.cells 4 [(vS wv_1.Key), (vI wv_1.W), (vI wv_1.H), (vL Screen.enc wv_1.Screens)])), (n_4, some (.cells 4 [(vI r_2.X), (vI r_2.Y), (vI r_2.W), (vI r_2.H)])), (n_13, gB 9 Patch.enc s_10)] : Hp)) p.1 p.2) (fun p => o_16 = .go p.1) ?_ ?_
  · refine wH_block ?_
    refine wH_loop (β := Nat × (List Screen) × ((List Patch)) × Nm) (fun p => (fun (k_5 : Nat) (l_6 : List Screen) (s_10 : (List Patch)) (n_13 : Nm) => ([(3, (.ref n_4 0 0)), (5, (gV n_13 9 s_10)), (13, (vL Screen.enc wv_1.Screens)), (14, (vI (wv_1.Screens.length : Int))), (15, (vI (k_5 : Int)))] : List (Nat × V))) p.1 p.2.1 p.2.2.1 p.2.2.2) (fun p => (fun (k_5 : Nat) (l_6 : List Screen) (s_10 : (List Patch)) (n_13 : Nm) => ([(n_3, some (.cells 4 [(vS wv_1.Key), (vI wv_1.W), (vI wv_1.H), (vL Screen.enc wv_1.Screens)])), (n_4, some (.cells 4 [(vI r_2.X), (vI r_2.Y), (vI r_2.W), (vI r_2.H)])), (n_13, gB 9 Patch.enc s_10)] : Hp)) p.1 p.2.1 p.2.2.1 p.2.2.2) (fun p => forR (fun k x s => ref_PartsOf_L1 r_2 k x s) p.2.1 p.1 p.2.2.1 = some o_16 ∧ (wv_1.Screens).drop p.1 = p.2.1) (fun p => p.2.1.length) (0, wv_1.Screens, ([] : List Patch), n_11) ⟨hj_17, rfl⟩ rfl (pre_r rfl) ?_
    rintro ⟨k_5, l_6, s_10, n_13⟩ ⟨hL_15, hD_8⟩
    dsimp only at hL_15 hD_8
    cases l_6 with
    | nil =>
      replace hL_15 := some_inj hL_15
      subst hL_15
      refine wH_seq (wH_region (h_op (vB (decide ((k_5 : Int) < (wv_1.Screens.length : Int)))) (wt rfl) rfl (h_nil ?_)))
      refine wH_seq (wH_iff rfl (drop_nil hD_8) (wH_exit ?_))
      exact cut_mk (s_10, n_13) rfl rfl (pre_r rfl)
    | cons x_7 l_6 =>
      obtain ⟨c_, hc_14, hL_15⟩ := bind_some hL_15
      refine wH_seq (wH_region (h_op (vB (decide ((k_5 : Int) < (wv_1.Screens.length : Int)))) (wt rfl) rfl (h_nil ?_)))
      refine wH_seq (wH_ift rfl (drop_cons hD_8) (wH_skip ?_))
      unfold ref_PartsOf_L1 at hc_14
      refine wH_seq ?_
      refine wH_block ?_
      refine wH_seq ?_
      refine wH_region ?_
      refine h_ia es56 rfl rfl (drop_idx hD_8) rfl (wt rfl) ?_
      refine h_ldc sz99 ag99 rfl (.d (.agg (Screen.enc x_7))) rfl (wt rfl) ?_
      refine h_alloc 0 (.inl rfl) z99 rfl (wt rfl) (fun n_18 => ?_)
      refine h_str 0 (.inl rfl) (fun _ _ _ => trivial) 3 sz99 rfl rfl [(vS x_7.Key), (vI x_7.On.X), (vI x_7.On.Y), (vI x_7.On.W), (vI x_7.On.H)] rfl (wt rfl) ?_
      refine h_nil ?_
      refine wH_seq ?_
      refine wH_region ?_
      refine h_far pl99_1 rfl 1 rfl (wt rfl) ?_
      refine h_ldr 0 3 (.inl rfl) (fun _ _ _ => trivial) sz49 ag49 rfl rfl (.d (.agg (Rect.enc x_7.On))) rfl (wt rfl) ?_
      refine h_ldr 0 1 (.inl rfl) (fun _ _ _ => trivial) sz49 ag49 rfl rfl (.d (.agg (Rect.enc r_2))) rfl (wt rfl) ?_
      obtain ⟨r_19, hr_20, hc_14⟩ := bind_some hc_14
      refine h_call0 (ref_MeetOf_ok hr_20) rfl hb68 rfl rfl rfl rfl (wt rfl) ?_
      refine h_op (.tup [(.d (.agg (Rect.enc r_19.1))), (vB r_19.2)]) (wt rfl) rfl ?_
      refine h_op (.d (.agg (Rect.enc r_19.1))) (wt rfl) rfl ?_
      refine h_op (vB r_19.2) (wt rfl) rfl ?_
      refine h_alloc 0 (.inl rfl) z49 rfl (wt rfl) (fun n_21 => ?_)
      refine h_str 0 (.inl rfl) (fun _ _ _ => trivial) 4 sz49 rfl rfl [(vI r_19.1.X), (vI r_19.1.Y), (vI r_19.1.W), (vI r_19.1.H)] rfl (wt rfl) ?_
      refine h_op (vB r_19.2) (wt rfl) rfl ?_
      refine h_nil ?_
      refine wH_seq ?_
      refine wH_region ?_
      refine h_op (vB r_19.2) (wt rfl) rfl ?_
      refine h_nil ?_
      obtain ⟨v_22, h_23, hc_14⟩ := bind_some hc_14
      refine wH_join (β := Nm) (fun (n_24 : Nm) => ([(3, (.ref n_4 0 0)), (5, (gV n_24 9 v_22)), (13, (vL Screen.enc wv_1.Screens)), (14, (vI (wv_1.Screens.length : Int))), (15, (vI (k_5 : Int)))] : List (Nat × V))) (fun (n_24 : Nm) => ([(n_3, some (.cells 4 [(vS wv_1.Key), (vI wv_1.W), (vI wv_1.H), (vL Screen.enc wv_1.Screens)])), (n_4, some (.cells 4 [(vI r_2.X), (vI r_2.Y), (vI r_2.W), (vI r_2.H)])), (n_24, gB 9 Patch.enc v_22), (n_18, some (.cells 5 [(vS x_7.Key), (vI x_7.On.X), (vI x_7.On.Y), (vI x_7.On.W), (vI x_7.On.H)])), (n_21, some (.cells 4 [(vI r_19.1.X), (vI r_19.1.Y), (vI r_19.1.W), (vI r_19.1.H)]))] : Hp)) (fun _ => True) ?_ ?_
      · rcases cond_some h_23 with ⟨hc_25, h_23⟩ | ⟨hc_25, h_23⟩
        · refine wH_ift rfl hc_25 ?_
          refine wH_seq ?_
          refine wH_draws ?_
          refine h_ldr 0 4 (.inr (by kernel_rfl)) (fun _ _ ag => trivial) sz49 ag49 rfl rfl (.d (.agg (Rect.enc r_19.1))) rfl (wt rfl) ?_
          refine h_ldr 1 4 (.inr (by kernel_rfl)) (fun _ _ ag => ⟨.inl ⟨rfl, rfl⟩, trivial⟩) sz49 ag49 rfl rfl (.d (.agg (Rect.enc r_19.1))) rfl (wt rfl) ?_
          refine h_alloc 2 (.inr (by kernel_rfl)) z49 rfl (wt rfl) (fun n_26 => ?_)
          refine h_alloc 3 (.inr (by kernel_rfl)) z49 rfl (wt rfl) (fun n_27 => ?_)
          refine h_str 4 (.inr (by kernel_rfl)) (fun _ _ ag => ⟨.inr (.inr (by kernel_rfl)), ⟨.inr (.inl (dis1 (ag_ne ag (i := 5) (j := 4) rfl rfl (by decide)))), ⟨.inr (.inr (by kernel_rfl)), ⟨.inr (.inr (by kernel_rfl)), trivial⟩⟩⟩⟩) 5 sz49 rfl rfl [(vI r_19.1.X), (vI r_19.1.Y), (vI r_19.1.W), (vI r_19.1.H)] rfl (wt rfl) ?_
          refine h_str 5 (.inr (by kernel_rfl)) (fun _ _ ag => ⟨.inr (.inr (by kernel_rfl)), ⟨.inr (.inr (by kernel_rfl)), ⟨.inr (.inr (by kernel_rfl)), ⟨.inr (.inr (by kernel_rfl)), ⟨.inr (.inr (by kernel_rfl)), trivial⟩⟩⟩⟩⟩) 6 sz49 rfl rfl [(vI r_19.1.X), (vI r_19.1.Y), (vI r_19.1.W), (vI r_19.1.H)] rfl (wt rfl) ?_
          refine h_nil ?_
          refine wH_seq ?_
          refine wH_draws ?_
          refine h_far pl49_0 rfl 0 rfl (wt rfl) ?_
          refine h_ldr 1 4 (.inr (by kernel_rfl)) (fun _ _ ag => trivial) sz3 ag3 rfl rfl (vI r_19.1.X) rfl (wt rfl) ?_
          refine h_far pl99_1 rfl 1 rfl (wt rfl) ?_
          refine h_far pl49_0 rfl 1 rfl (wt rfl) ?_
          refine h_ldr 4 3 (.inr (by kernel_rfl)) (fun _ _ ag => ⟨.inl ⟨rfl, rfl⟩, trivial⟩) sz3 ag3 rfl rfl (vI x_7.On.X) rfl (wt rfl) ?_
          refine h_op (vI (w64 (r_19.1.X - x_7.On.X))) (wt rfl) rfl ?_
          refine h_far pl49_1 rfl 1 rfl (wt rfl) ?_
          refine h_ldr 7 4 (.inr (by kernel_rfl)) (fun _ _ ag => ⟨.inl ⟨rfl, rfl⟩, ⟨.inl ⟨rfl, rfl⟩, trivial⟩⟩) sz3 ag3 rfl rfl (vI r_19.1.Y) rfl (wt rfl) ?_
          refine h_far pl99_1 rfl 1 rfl (wt rfl) ?_
          refine h_far pl49_1 rfl 2 rfl (wt rfl) ?_
          refine h_ldr 10 3 (.inr (by kernel_rfl)) (fun _ _ ag => ⟨.inl ⟨rfl, rfl⟩, ⟨.inl ⟨rfl, rfl⟩, ⟨.inl ⟨rfl, rfl⟩, trivial⟩⟩⟩) sz3 ag3 rfl rfl (vI x_7.On.Y) rfl (wt rfl) ?_
          refine h_op (vI (w64 (r_19.1.Y - x_7.On.Y))) (wt rfl) rfl ?_
          refine h_far pl49_0 rfl 0 rfl (wt rfl) ?_
          refine h_ldr 13 4 (.inr (by kernel_rfl)) (fun _ _ ag => ⟨.inl ⟨rfl, rfl⟩, ⟨.inl ⟨rfl, rfl⟩, ⟨.inl ⟨rfl, rfl⟩, ⟨.inl ⟨rfl, rfl⟩, trivial⟩⟩⟩⟩) sz3 ag3 rfl rfl (vI r_19.1.X) rfl (wt rfl) ?_
          refine h_far pl49_0 rfl 0 rfl (wt rfl) ?_
          refine h_ldr 15 1 (.inr (by kernel_rfl)) (fun _ _ ag => ⟨.inl ⟨rfl, rfl⟩, ⟨.inl ⟨rfl, rfl⟩, ⟨.inl ⟨rfl, rfl⟩, ⟨.inl ⟨rfl, rfl⟩, ⟨.inl ⟨rfl, rfl⟩, trivial⟩⟩⟩⟩⟩) sz3 ag3 rfl rfl (vI r_2.X) rfl (wt rfl) ?_
          refine h_op (vI (w64 (r_19.1.X - r_2.X))) (wt rfl) rfl ?_
          refine h_far pl49_1 rfl 1 rfl (wt rfl) ?_
          refine h_ldr 18 4 (.inr (by kernel_rfl)) (fun _ _ ag => ⟨.inl ⟨rfl, rfl⟩, ⟨.inl ⟨rfl, rfl⟩, ⟨.inl ⟨rfl, rfl⟩, ⟨.inl ⟨rfl, rfl⟩, ⟨.inl ⟨rfl, rfl⟩, ⟨.inl ⟨rfl, rfl⟩, trivial⟩⟩⟩⟩⟩⟩) sz3 ag3 rfl rfl (vI r_19.1.Y) rfl (wt rfl) ?_
          refine h_far pl49_1 rfl 1 rfl (wt rfl) ?_
          refine h_ldr 20 1 (.inr (by kernel_rfl)) (fun _ _ ag => ⟨.inl ⟨rfl, rfl⟩, ⟨.inl ⟨rfl, rfl⟩, ⟨.inl ⟨rfl, rfl⟩, ⟨.inl ⟨rfl, rfl⟩, ⟨.inl ⟨rfl, rfl⟩, ⟨.inl ⟨rfl, rfl⟩, ⟨.inl ⟨rfl, rfl⟩, trivial⟩⟩⟩⟩⟩⟩⟩) sz3 ag3 rfl rfl (vI r_2.Y) rfl (wt rfl) ?_
          refine h_op (vI (w64 (r_19.1.Y - r_2.Y))) (wt rfl) rfl ?_
          refine h_far pl49_0 rfl 0 rfl (wt rfl) ?_
          refine h_str 23 (.inr (by kernel_rfl)) (fun _ _ ag => ⟨.inr (.inr (by kernel_rfl)), ⟨.inr (.inr (by kernel_rfl)), ⟨.inr (.inl (dis1 (ag_ne ag (i := 5) (j := 4) rfl rfl (by decide)))), ⟨.inr (.inl (dis1 (ag_ne ag (i := 5) (j := 3) rfl rfl (by decide)))), ⟨.inr (.inl (dis1 (ag_ne ag (i := 5) (j := 4) rfl rfl (by decide)))), ⟨.inr (.inl (dis1 (ag_ne ag (i := 5) (j := 1) rfl rfl (by decide)))), ⟨.inr (.inl (dis1 (ag_ne ag (i := 5) (j := 4) rfl rfl (by decide)))), ⟨.inr (.inl (dis1 (ag_ne ag (i := 5) (j := 1) rfl rfl (by decide)))), trivial⟩⟩⟩⟩⟩⟩⟩⟩) 5 sz3 rfl rfl [(vI (w64 (r_19.1.X - x_7.On.X))), (vI r_19.1.Y), (vI r_19.1.W), (vI r_19.1.H)] rfl (wt rfl) ?_
          refine h_far pl49_1 rfl 1 rfl (wt rfl) ?_
          refine h_str 25 (.inr (by kernel_rfl)) (fun _ _ ag => ⟨.inr (.inr (by kernel_rfl)), ⟨.inr (.inr (by kernel_rfl)), ⟨.inr (.inr (by kernel_rfl)), ⟨.inr (.inr (by kernel_rfl)), ⟨.inr (.inl (dis1 (ag_ne ag (i := 5) (j := 4) rfl rfl (by decide)))), ⟨.inr (.inl (dis1 (ag_ne ag (i := 5) (j := 1) rfl rfl (by decide)))), ⟨.inr (.inl (dis1 (ag_ne ag (i := 5) (j := 4) rfl rfl (by decide)))), ⟨.inr (.inl (dis1 (ag_ne ag (i := 5) (j := 1) rfl rfl (by decide)))), ⟨.inr (.inr (by kernel_rfl)), trivial⟩⟩⟩⟩⟩⟩⟩⟩⟩) 5 sz3 rfl rfl [(vI (w64 (r_19.1.X - x_7.On.X))), (vI (w64 (r_19.1.Y - x_7.On.Y))), (vI r_19.1.W), (vI r_19.1.H)] rfl (wt rfl) ?_
          refine h_far pl49_0 rfl 0 rfl (wt rfl) ?_
          refine h_str 27 (.inr (by kernel_rfl)) (fun _ _ ag => ⟨.inr (.inr (by kernel_rfl)), ⟨.inr (.inr (by kernel_rfl)), ⟨.inr (.inr (by kernel_rfl)), ⟨.inr (.inr (by kernel_rfl)), ⟨.inr (.inr (by kernel_rfl)), ⟨.inr (.inr (by kernel_rfl)), ⟨.inr (.inl (dis1 (ag_ne ag (i := 6) (j := 4) rfl rfl (by decide)))), ⟨.inr (.inl (dis1 (ag_ne ag (i := 6) (j := 1) rfl rfl (by decide)))), ⟨.inr (.inr (by kernel_rfl)), ⟨.inr (.inr (by kernel_rfl)), trivial⟩⟩⟩⟩⟩⟩⟩⟩⟩⟩) 6 sz3 rfl rfl [(vI (w64 (r_19.1.X - r_2.X))), (vI r_19.1.Y), (vI r_19.1.W), (vI r_19.1.H)] rfl (wt rfl) ?_
          refine h_far pl49_1 rfl 1 rfl (wt rfl) ?_
          refine h_str 29 (.inr (by kernel_rfl)) (fun _ _ ag => ⟨.inr (.inr (by kernel_rfl)), ⟨.inr (.inr (by kernel_rfl)), ⟨.inr (.inr (by kernel_rfl)), ⟨.inr (.inr (by kernel_rfl)), ⟨.inr (.inr (by kernel_rfl)), ⟨.inr (.inr (by kernel_rfl)), ⟨.inr (.inr (by kernel_rfl)), ⟨.inr (.inr (by kernel_rfl)), ⟨.inr (.inr (by kernel_rfl)), ⟨.inr (.inr (by kernel_rfl)), ⟨.inr (.inr (by kernel_rfl)), trivial⟩⟩⟩⟩⟩⟩⟩⟩⟩⟩⟩) 6 sz3 rfl rfl [(vI (w64 (r_19.1.X - r_2.X))), (vI (w64 (r_19.1.Y - r_2.Y))), (vI r_19.1.W), (vI r_19.1.H)] rfl (wt rfl) ?_
          refine h_nil ?_
          refine wH_at (H0 := ([(n_3, some (.cells 4 [(vS wv_1.Key), (vI wv_1.W), (vI wv_1.H), (vL Screen.enc wv_1.Screens)])), (n_4, some (.cells 4 [(vI r_2.X), (vI r_2.Y), (vI r_2.W), (vI r_2.H)])), (n_13, gB 9 Patch.enc s_10), (n_18, some (.cells 5 [(vS x_7.Key), (vI x_7.On.X), (vI x_7.On.Y), (vI x_7.On.W), (vI x_7.On.H)])), (n_21, some (.cells 4 [(vI r_19.1.X), (vI r_19.1.Y), (vI r_19.1.W), (vI r_19.1.H)])), (n_26, some (.cells 4 [(vI (w64 (r_19.1.X - x_7.On.X))), (vI (w64 (r_19.1.Y - x_7.On.Y))), (vI r_19.1.W), (vI r_19.1.H)])), (n_27, some (.cells 4 [(vI (w64 (r_19.1.X - r_2.X))), (vI (w64 (r_19.1.Y - r_2.Y))), (vI r_19.1.W), (vI r_19.1.H)]))] : Hp)) ([(3, (.ref n_4 0 0)), (5, (gV n_13 9 s_10)), (7, (.ref n_18 0 0)), (10, (.ref n_26 0 0)), (11, (.ref n_27 0 0)), (13, (vL Screen.enc wv_1.Screens)), (14, (vI (wv_1.Screens.length : Int))), (15, (vI (k_5 : Int)))] : List (Nat × V)) (by kernel_rfl) (pre_mk (by kernel_rfl)) ?_
          refine wH_region ?_
          refine h_op (gV n_13 9 s_10) (wt rfl) rfl ?_
          refine h_far pl99_0 rfl 0 rfl (wt rfl) ?_
          refine h_ldr 0 3 (.inl rfl) (fun _ _ _ => trivial) sz9 ag9 rfl rfl (vS x_7.Key) rfl (wt rfl) ?_
          refine h_ldr 0 5 (.inl rfl) (fun _ _ _ => trivial) sz49 ag49 rfl rfl (.d (.agg (Rect.enc (⟨(w64 (r_19.1.X - x_7.On.X)), (w64 (r_19.1.Y - x_7.On.Y)), r_19.1.W, r_19.1.H⟩ : Rect)))) rfl (wt rfl) ?_
          refine h_ldr 0 6 (.inl rfl) (fun _ _ _ => trivial) sz49 ag49 rfl rfl (.d (.agg (Rect.enc (⟨(w64 (r_19.1.X - r_2.X)), (w64 (r_19.1.Y - r_2.Y)), r_19.1.W, r_19.1.H⟩ : Rect)))) rfl (wt rfl) ?_
          refine h_op (.d (.agg (Patch.enc (⟨x_7.Key, (⟨(w64 (r_19.1.X - x_7.On.X)), (w64 (r_19.1.Y - x_7.On.Y)), r_19.1.W, r_19.1.H⟩ : Rect), (⟨(w64 (r_19.1.X - r_2.X)), (w64 (r_19.1.Y - r_2.Y)), r_19.1.W, r_19.1.H⟩ : Rect)⟩ : Patch)))) (wt rfl) (by kernel_rfl) ?_
          refine h_lit (([(⟨x_7.Key, (⟨(w64 (r_19.1.X - x_7.On.X)), (w64 (r_19.1.Y - x_7.On.Y)), r_19.1.W, r_19.1.H⟩ : Rect), (⟨(w64 (r_19.1.X - r_2.X)), (w64 (r_19.1.Y - r_2.Y)), r_19.1.W, r_19.1.H⟩ : Rect)⟩ : Patch)] : List Patch).map Patch.enc) es65 ez65 rfl rfl rfl rfl rfl (wt rfl) ?_
          obtain ⟨a_28, hz_29, h_23⟩ := bind_some h_23
          refine h_appg 0 (.inl rfl) (fun _ _ _ => trivial) (i := 2) el65 el65 sz76 z76 rfl (by decide) by76 (by decide) (fun _ => rfl) rfl rfl rfl hz_29 (wt rfl) (fun n_30 => ?_)
          refine h_op (gV n_30 9 a_28) (wt rfl) rfl ?_
          refine h_nil ?_
          replace h_23 := some_inj h_23
          subst h_23
          exact cut_mk n_30 trivial rfl (pre_r rfl)
        · refine wH_iff rfl hc_25 ?_
          refine wH_skip ?_
          replace h_23 := some_inj h_23
          subst h_23
          exact cut_mk n_13 trivial rfl (pre_r rfl)
      · rintro n_24 _ sl_ H_ hp_ hq_
        refine wH_at _ hp_ hq_ ?_
        refine wH_region ?_
        refine h_opw (w64_next hD_8 hn_9) (wt rfl) rfl ?_
        refine h_op (vI ((k_5 + 1 : Nat) : Int)) (wt rfl) rfl ?_
        refine h_nil ?_
        replace hc_14 := some_inj hc_14
        subst hc_14
        exact loop_mk (k_5 + 1, l_6, v_22, n_24) ⟨hL_15, drop_next hD_8⟩ (Nat.lt_succ_self _) rfl (pre_r rfl)
  · rintro ⟨s_10, n_13⟩ ho_ sl_ H_ hp_ hq_
    subst ho_
    refine wH_at _ hp_ hq_ ?_
    refine wH_seq ?_
    refine wH_region ?_
    refine h_op (gV n_13 9 s_10) (wt rfl) rfl ?_
    refine h_op (gV n_13 9 s_10) (wt rfl) rfl ?_
    refine h_nil ?_
    refine wH_frozg 2 rfl ?_
    refine wH_cog 4 2 rfl rfl ?_
    refine wH_cog 5 2 rfl rfl ?_
    refine wH_cog 64 2 rfl rfl ?_
    replace hF := some_inj hF
    subst hF
    refine wH_ret ?_
    exact fin0 (.inr rfl) [(vL Patch.enc s_10)] ⟨rfl, trivial⟩ rfl rfl rfl
theorem slices_Equal_api_Rect_api_Rect_ok {s1_1 : (List Rect)} {s2_2 : (List Rect)} {r : Bool} (hF : slices_Equal_api_Rect_api_Rect s1_1 s2_2 = some r) :
    FnM Tryz.prog 33 [(vL Rect.enc s1_1), (vL Rect.enc s2_2)] [] (vB r) [] := by
  refine FnM.of_wH ⟨Tryz.prog, 26, [], []⟩ rfl Tryz.func33 rfl rfl (Nat.le_of_ble_eq_true rfl) (by kernel_rfl) ?_
  unfold slices_Equal_api_Rect_api_Rect at hF
  refine wH_seq ?_
  refine wH_region ?_
  refine h_op (vB false) (wt rfl) rfl ?_
  refine h_nil ?_
  refine wH_seq ?_
  refine wH_seq ?_
  refine wH_region ?_
  refine h_op (vL Rect.enc s1_1) (wt rfl) rfl ?_
  refine h_len un62 rfl (wt rfl) ?_
  refine h_op (vL Rect.enc s2_2) (wt rfl) rfl ?_
  refine h_len un62 rfl (wt rfl) ?_
  refine h_op (vB ((s1_1.length : Int) != (s2_2.length : Int))) (wt rfl) rfl ?_
  refine h_nil ?_
  rcases cond_some hF with ⟨hc_3, hF⟩ | ⟨hc_3, hF⟩
  · refine wH_ift rfl hc_3 ?_
    refine wH_seq ?_
    refine wH_region ?_
    refine h_op (vB false) (wt rfl) rfl ?_
    refine h_nil ?_
    replace hF := some_inj hF
    subst hF
    refine wH_ret ?_
    exact fin0 (.inr rfl) [(vB false)] ⟨rfl, trivial⟩ rfl rfl rfl
  · refine wH_iff rfl hc_3 ?_
    refine wH_skip ?_
    refine wH_seq ?_
    refine wH_seq ?_
    refine wH_region ?_
    refine h_op (vL Rect.enc s1_1) (wt rfl) rfl ?_
    refine h_len un62 rfl (wt rfl) ?_
    refine h_op (vI 0) (wt rfl) rfl ?_
    refine h_nil ?_
    obtain ⟨o_12, hj_13, hF⟩ := bind_some hF
    obtain ⟨hn_8, hj_13⟩ := forL_some hj_13
    refine wH_join (β := (Unit)) (fun (s_9 : Unit) => ([] : List (Nat × V))) (fun (s_9 : Unit) => ([] : Hp)) (fun p => o_12 = .go p) ?_ ?_
    · refine wH_block ?_
      refine wH_loop (β := Nat × (List Rect) × (Unit)) (fun p => (fun (k_4 : Nat) (l_5 : List Rect) (s_9 : Unit) => ([(0, (vL Rect.enc s1_1)), (1, (vL Rect.enc s2_2)), (12, (vI (s1_1.length : Int))), (13, (vI (k_4 : Int)))] : List (Nat × V))) p.1 p.2.1 p.2.2) (fun p => (fun (k_4 : Nat) (l_5 : List Rect) (s_9 : Unit) => ([] : Hp)) p.1 p.2.1 p.2.2) (fun p => forR (fun k x s => slices_Equal_api_Rect_api_Rect_L1 s2_2 k x s) p.2.1 p.1 p.2.2 = some o_12 ∧ (s1_1).drop p.1 = p.2.1) (fun p => p.2.1.length) (0, s1_1, ()) ⟨hj_13, rfl⟩ rfl (pre_r rfl) ?_
      rintro ⟨k_4, l_5, s_9⟩ ⟨hL_11, hD_7⟩
      dsimp only at hL_11 hD_7
      cases l_5 with
      | nil =>
        replace hL_11 := some_inj hL_11
        subst hL_11
        refine wH_seq (wH_region (h_op (vB (decide ((k_4 : Int) < (s1_1.length : Int)))) (wt rfl) rfl (h_nil ?_)))
        refine wH_seq (wH_iff rfl (drop_nil hD_7) (wH_exit ?_))
        exact cut_mk (s_9) rfl rfl (pre_r rfl)
      | cons x_6 l_5 =>
        obtain ⟨c_, hc_10, hL_11⟩ := bind_some hL_11
        refine wH_seq (wH_region (h_op (vB (decide ((k_4 : Int) < (s1_1.length : Int)))) (wt rfl) rfl (h_nil ?_)))
        refine wH_seq (wH_ift rfl (drop_cons hD_7) (wH_skip ?_))
        unfold slices_Equal_api_Rect_api_Rect_L1 at hc_10
        refine wH_seq ?_
        refine wH_block ?_
        refine wH_seq ?_
        refine wH_region ?_
        refine h_op (vI (k_4 : Int)) (wt rfl) rfl ?_
        refine h_op (vI (k_4 : Int)) (wt rfl) rfl ?_
        refine h_nil ?_
        refine wH_seq ?_
        refine wH_draws ?_
        refine h_op (vL Rect.enc s1_1) (wt rfl) rfl ?_
        refine h_op (vI (k_4 : Int)) (wt rfl) rfl ?_
        refine h_ia es62 rfl rfl (drop_idx hD_7) rfl (wt rfl) ?_
        refine h_ldc sz49 ag49 rfl (.d (.agg (Rect.enc x_6))) rfl (wt rfl) ?_
        refine h_op (vL Rect.enc s2_2) (wt rfl) rfl ?_
        refine h_op (vI (k_4 : Int)) (wt rfl) rfl ?_
        obtain ⟨y_14, hy_15, hc_10⟩ := bind_some hc_10
        refine h_ia es62 rfl rfl hy_15 rfl (wt rfl) ?_
        refine h_ldc sz49 ag49 rfl (.d (.agg (Rect.enc y_14))) rfl (wt rfl) ?_
        refine h_op (vB (!((x_6.X == y_14.X) && ((x_6.Y == y_14.Y) && ((x_6.W == y_14.W) && ((x_6.H == y_14.H) && true)))))) (wt rfl) (by kernel_rfl) ?_
        refine h_nil ?_
        rcases cond_some hc_10 with ⟨hc_16, hc_10⟩ | ⟨hc_16, hc_10⟩
        · refine wH_ift rfl hc_16 ?_
          refine wH_seq ?_
          refine wH_region ?_
          refine h_op (vB false) (wt rfl) rfl ?_
          refine h_nil ?_
          replace hc_10 := some_inj hc_10
          subst hc_10
          replace hL_11 := some_inj hL_11
          subst hL_11
          replace hF := some_inj hF
          subst hF
          refine wH_ret ?_
          exact fin0 (.inr rfl) [(vB false)] ⟨rfl, trivial⟩ rfl rfl rfl
        · refine wH_iff rfl hc_16 ?_
          refine wH_skip ?_
          refine wH_region ?_
          refine h_opw (w64_next hD_7 hn_8) (wt rfl) rfl ?_
          refine h_op (vI ((k_4 + 1 : Nat) : Int)) (wt rfl) rfl ?_
          refine h_nil ?_
          replace hc_10 := some_inj hc_10
          subst hc_10
          exact loop_mk (k_4 + 1, l_5, ()) ⟨hL_11, drop_next hD_7⟩ (Nat.lt_succ_self _) rfl (pre_r rfl)
    · rintro s_9 ho_ sl_ H_ hp_ hq_
      subst ho_
      refine wH_at _ hp_ hq_ ?_
      refine wH_seq ?_
      refine wH_region ?_
      refine h_op (vB true) (wt rfl) rfl ?_
      refine h_nil ?_
      replace hF := some_inj hF
      subst hF
      refine wH_ret ?_
      exact fin0 (.inr rfl) [(vB true)] ⟨rfl, trivial⟩ rfl rfl rfl
theorem slices_Equal_api_Patch_api_Patch_ok {s1_1 : (List Patch)} {s2_2 : (List Patch)} {r : Bool} (hF : slices_Equal_api_Patch_api_Patch s1_1 s2_2 = some r) :
    FnM Tryz.prog 34 [(vL Patch.enc s1_1), (vL Patch.enc s2_2)] [] (vB r) [] := by
  refine FnM.of_wH ⟨Tryz.prog, 26, [], []⟩ rfl Tryz.func34 rfl rfl (Nat.le_of_ble_eq_true rfl) (by kernel_rfl) ?_
  unfold slices_Equal_api_Patch_api_Patch at hF
  refine wH_seq ?_
  refine wH_region ?_
  refine h_op (vB false) (wt rfl) rfl ?_
  refine h_nil ?_
  refine wH_seq ?_
  refine wH_seq ?_
  refine wH_region ?_
  refine h_op (vL Patch.enc s1_1) (wt rfl) rfl ?_
  refine h_len un65 rfl (wt rfl) ?_
  refine h_op (vL Patch.enc s2_2) (wt rfl) rfl ?_
  refine h_len un65 rfl (wt rfl) ?_
  refine h_op (vB ((s1_1.length : Int) != (s2_2.length : Int))) (wt rfl) rfl ?_
  refine h_nil ?_
  rcases cond_some hF with ⟨hc_3, hF⟩ | ⟨hc_3, hF⟩
  · refine wH_ift rfl hc_3 ?_
    refine wH_seq ?_
    refine wH_region ?_
    refine h_op (vB false) (wt rfl) rfl ?_
    refine h_nil ?_
    replace hF := some_inj hF
    subst hF
    refine wH_ret ?_
    exact fin0 (.inr rfl) [(vB false)] ⟨rfl, trivial⟩ rfl rfl rfl
  · refine wH_iff rfl hc_3 ?_
    refine wH_skip ?_
    refine wH_seq ?_
    refine wH_seq ?_
    refine wH_region ?_
    refine h_op (vL Patch.enc s1_1) (wt rfl) rfl ?_
    refine h_len un65 rfl (wt rfl) ?_
    refine h_op (vI 0) (wt rfl) rfl ?_
    refine h_nil ?_
    obtain ⟨o_12, hj_13, hF⟩ := bind_some hF
    obtain ⟨hn_8, hj_13⟩ := forL_some hj_13
    refine wH_join (β := (Unit)) (fun (s_9 : Unit) => ([] : List (Nat × V))) (fun (s_9 : Unit) => ([] : Hp)) (fun p => o_12 = .go p) ?_ ?_
    · refine wH_block ?_
      refine wH_loop (β := Nat × (List Patch) × (Unit)) (fun p => (fun (k_4 : Nat) (l_5 : List Patch) (s_9 : Unit) => ([(0, (vL Patch.enc s1_1)), (1, (vL Patch.enc s2_2)), (12, (vI (s1_1.length : Int))), (13, (vI (k_4 : Int)))] : List (Nat × V))) p.1 p.2.1 p.2.2) (fun p => (fun (k_4 : Nat) (l_5 : List Patch) (s_9 : Unit) => ([] : Hp)) p.1 p.2.1 p.2.2) (fun p => forR (fun k x s => slices_Equal_api_Patch_api_Patch_L1 s2_2 k x s) p.2.1 p.1 p.2.2 = some o_12 ∧ (s1_1).drop p.1 = p.2.1) (fun p => p.2.1.length) (0, s1_1, ()) ⟨hj_13, rfl⟩ rfl (pre_r rfl) ?_
      rintro ⟨k_4, l_5, s_9⟩ ⟨hL_11, hD_7⟩
      dsimp only at hL_11 hD_7
      cases l_5 with
      | nil =>
        replace hL_11 := some_inj hL_11
        subst hL_11
        refine wH_seq (wH_region (h_op (vB (decide ((k_4 : Int) < (s1_1.length : Int)))) (wt rfl) rfl (h_nil ?_)))
        refine wH_seq (wH_iff rfl (drop_nil hD_7) (wH_exit ?_))
        exact cut_mk (s_9) rfl rfl (pre_r rfl)
      | cons x_6 l_5 =>
        obtain ⟨c_, hc_10, hL_11⟩ := bind_some hL_11
        refine wH_seq (wH_region (h_op (vB (decide ((k_4 : Int) < (s1_1.length : Int)))) (wt rfl) rfl (h_nil ?_)))
        refine wH_seq (wH_ift rfl (drop_cons hD_7) (wH_skip ?_))
        unfold slices_Equal_api_Patch_api_Patch_L1 at hc_10
        refine wH_seq ?_
        refine wH_block ?_
        refine wH_seq ?_
        refine wH_region ?_
        refine h_op (vI (k_4 : Int)) (wt rfl) rfl ?_
        refine h_op (vI (k_4 : Int)) (wt rfl) rfl ?_
        refine h_nil ?_
        refine wH_seq ?_
        refine wH_draws ?_
        refine h_op (vL Patch.enc s1_1) (wt rfl) rfl ?_
        refine h_op (vI (k_4 : Int)) (wt rfl) rfl ?_
        refine h_ia es65 rfl rfl (drop_idx hD_7) rfl (wt rfl) ?_
        refine h_ldc sz76 ag76 rfl (.d (.agg (Patch.enc x_6))) rfl (wt rfl) ?_
        refine h_op (vL Patch.enc s2_2) (wt rfl) rfl ?_
        refine h_op (vI (k_4 : Int)) (wt rfl) rfl ?_
        obtain ⟨y_14, hy_15, hc_10⟩ := bind_some hc_10
        refine h_ia es65 rfl rfl hy_15 rfl (wt rfl) ?_
        refine h_ldc sz76 ag76 rfl (.d (.agg (Patch.enc y_14))) rfl (wt rfl) ?_
        refine h_op (vB (!((x_6.Screen.toList == y_14.Screen.toList) && (((x_6.On.X == y_14.On.X) && ((x_6.On.Y == y_14.On.Y) && ((x_6.On.W == y_14.On.W) && ((x_6.On.H == y_14.On.H) && true)))) && (((x_6.Of.X == y_14.Of.X) && ((x_6.Of.Y == y_14.Of.Y) && ((x_6.Of.W == y_14.Of.W) && ((x_6.Of.H == y_14.Of.H) && true)))) && true))))) (wt rfl) (by kernel_rfl) ?_
        refine h_nil ?_
        rcases cond_some hc_10 with ⟨hc_16, hc_10⟩ | ⟨hc_16, hc_10⟩
        · refine wH_ift rfl hc_16 ?_
          refine wH_seq ?_
          refine wH_region ?_
          refine h_op (vB false) (wt rfl) rfl ?_
          refine h_nil ?_
          replace hc_10 := some_inj hc_10
          subst hc_10
          replace hL_11 := some_inj hL_11
          subst hL_11
          replace hF := some_inj hF
          subst hF
          refine wH_ret ?_
          exact fin0 (.inr rfl) [(vB false)] ⟨rfl, trivial⟩ rfl rfl rfl
        · refine wH_iff rfl hc_16 ?_
          refine wH_skip ?_
          refine wH_region ?_
          refine h_opw (w64_next hD_7 hn_8) (wt rfl) rfl ?_
          refine h_op (vI ((k_4 + 1 : Nat) : Int)) (wt rfl) rfl ?_
          refine h_nil ?_
          replace hc_10 := some_inj hc_10
          subst hc_10
          exact loop_mk (k_4 + 1, l_5, ()) ⟨hL_11, drop_next hD_7⟩ (Nat.lt_succ_self _) rfl (pre_r rfl)
    · rintro s_9 ho_ sl_ H_ hp_ hq_
      subst ho_
      refine wH_at _ hp_ hq_ ?_
      refine wH_seq ?_
      refine wH_region ?_
      refine h_op (vB true) (wt rfl) rfl ?_
      refine h_nil ?_
      replace hF := some_inj hF
      subst hF
      refine wH_ret ?_
      exact fin0 (.inr rfl) [(vB true)] ⟨rfl, trivial⟩ rfl rfl rfl
theorem screen_rectsFault_ok {l_1 : (List Rect)} {r : Int} (hF : screen_rectsFault l_1 = some r) :
    FnM Tryz.prog 74 [(vL Rect.enc l_1)] [] (vI r) [] := by
  refine FnM.of_wH ⟨Tryz.prog, 21, [], []⟩ rfl Tryz.func74 rfl rfl (Nat.le_of_ble_eq_true rfl) (by kernel_rfl) ?_
  unfold screen_rectsFault at hF
  refine wH_seq ?_
  refine wH_region ?_
  refine h_op (vI 0) (wt rfl) rfl ?_
  refine h_nil ?_
  refine wH_seq ?_
  refine wH_seq ?_
  refine wH_region ?_
  refine h_op (vL Rect.enc l_1) (wt rfl) rfl ?_
  refine h_len un62 rfl (wt rfl) ?_
  refine h_op (vB (decide ((l_1.length : Int) > 2000))) (wt rfl) rfl ?_
  refine h_nil ?_
  rcases cond_some hF with ⟨hc_2, hF⟩ | ⟨hc_2, hF⟩
  · refine wH_ift rfl hc_2 ?_
    refine wH_seq ?_
    refine wH_region ?_
    refine h_op (vI 2) (wt rfl) rfl ?_
    refine h_nil ?_
    replace hF := some_inj hF
    subst hF
    refine wH_ret ?_
    exact fin0 (.inr rfl) [(vI 2)] ⟨rfl, trivial⟩ rfl rfl rfl
  · refine wH_iff rfl hc_2 ?_
    refine wH_skip ?_
    refine wH_seq ?_
    refine wH_seq ?_
    refine wH_region ?_
    refine h_op (vL Rect.enc l_1) (wt rfl) rfl ?_
    refine h_len un62 rfl (wt rfl) ?_
    refine h_op (vI 0) (wt rfl) rfl ?_
    refine h_nil ?_
    obtain ⟨o_11, hj_12, hF⟩ := bind_some hF
    obtain ⟨hn_7, hj_12⟩ := forL_some hj_12
    refine wH_join (β := (Unit)) (fun (s_8 : Unit) => ([] : List (Nat × V))) (fun (s_8 : Unit) => ([] : Hp)) (fun p => o_11 = .go p) ?_ ?_
    · refine wH_block ?_
      refine wH_loop (β := Nat × (List Rect) × (Unit)) (fun p => (fun (k_3 : Nat) (l_4 : List Rect) (s_8 : Unit) => ([(9, (vL Rect.enc l_1)), (10, (vI (l_1.length : Int))), (11, (vI (k_3 : Int)))] : List (Nat × V))) p.1 p.2.1 p.2.2) (fun p => (fun (k_3 : Nat) (l_4 : List Rect) (s_8 : Unit) => ([] : Hp)) p.1 p.2.1 p.2.2) (fun p => forR (fun k x s => screen_rectsFault_L1 k x s) p.2.1 p.1 p.2.2 = some o_11 ∧ (l_1).drop p.1 = p.2.1) (fun p => p.2.1.length) (0, l_1, ()) ⟨hj_12, rfl⟩ rfl (pre_r rfl) ?_
      rintro ⟨k_3, l_4, s_8⟩ ⟨hL_10, hD_6⟩
      dsimp only at hL_10 hD_6
      cases l_4 with
      | nil =>
        replace hL_10 := some_inj hL_10
        subst hL_10
        refine wH_seq (wH_region (h_op (vB (decide ((k_3 : Int) < (l_1.length : Int)))) (wt rfl) rfl (h_nil ?_)))
        refine wH_seq (wH_iff rfl (drop_nil hD_6) (wH_exit ?_))
        exact cut_mk (s_8) rfl rfl (pre_r rfl)
      | cons x_5 l_4 =>
        obtain ⟨c_, hc_9, hL_10⟩ := bind_some hL_10
        refine wH_seq (wH_region (h_op (vB (decide ((k_3 : Int) < (l_1.length : Int)))) (wt rfl) rfl (h_nil ?_)))
        refine wH_seq (wH_ift rfl (drop_cons hD_6) (wH_skip ?_))
        unfold screen_rectsFault_L1 at hc_9
        refine wH_seq ?_
        refine wH_block ?_
        refine wH_seq ?_
        refine wH_region ?_
        refine h_ia es62 rfl rfl (drop_idx hD_6) rfl (wt rfl) ?_
        refine h_ldc sz49 ag49 rfl (.d (.agg (Rect.enc x_5))) rfl (wt rfl) ?_
        refine h_alloc 0 (.inl rfl) z49 rfl (wt rfl) (fun n_13 => ?_)
        refine h_str 0 (.inl rfl) (fun _ _ _ => trivial) 0 sz49 rfl rfl [(vI x_5.X), (vI x_5.Y), (vI x_5.W), (vI x_5.H)] rfl (wt rfl) ?_
        refine h_nil ?_
        refine wH_seq ?_
        refine wH_region ?_
        refine h_ldr 0 0 (.inl rfl) (fun _ _ _ => trivial) sz49 ag49 rfl rfl (.d (.agg (Rect.enc x_5))) rfl (wt rfl) ?_
        obtain ⟨r_14, hr_15, hc_9⟩ := bind_some hc_9
        refine h_call0 (screen_CheckRect_ok hr_15) rfl hb51 rfl rfl rfl rfl (wt rfl) ?_
        refine h_op (vI r_14) (wt rfl) rfl ?_
        refine h_nil ?_
        refine wH_seq ?_
        refine wH_region ?_
        refine h_op (vI r_14) (wt rfl) rfl ?_
        refine h_op (vB (r_14 != 0)) (wt rfl) rfl ?_
        refine h_nil ?_
        rcases cond_some hc_9 with ⟨hc_16, hc_9⟩ | ⟨hc_16, hc_9⟩
        · refine wH_ift rfl hc_16 ?_
          refine wH_seq ?_
          refine wH_region ?_
          refine h_op (vI r_14) (wt rfl) rfl ?_
          refine h_op (vI r_14) (wt rfl) rfl ?_
          refine h_nil ?_
          replace hc_9 := some_inj hc_9
          subst hc_9
          replace hL_10 := some_inj hL_10
          subst hL_10
          replace hF := some_inj hF
          subst hF
          refine wH_ret ?_
          exact fin0 (.inr rfl) [(vI r_14)] ⟨rfl, trivial⟩ rfl rfl rfl
        · refine wH_iff rfl hc_16 ?_
          refine wH_skip ?_
          refine wH_region ?_
          refine h_opw (w64_next hD_6 hn_7) (wt rfl) rfl ?_
          refine h_op (vI ((k_3 + 1 : Nat) : Int)) (wt rfl) rfl ?_
          refine h_nil ?_
          replace hc_9 := some_inj hc_9
          subst hc_9
          exact loop_mk (k_3 + 1, l_4, ()) ⟨hL_10, drop_next hD_6⟩ (Nat.lt_succ_self _) rfl (pre_r rfl)
    · rintro s_8 ho_ sl_ H_ hp_ hq_
      subst ho_
      refine wH_at _ hp_ hq_ ?_
      refine wH_seq ?_
      refine wH_region ?_
      refine h_op (vI 0) (wt rfl) rfl ?_
      refine h_nil ?_
      replace hF := some_inj hF
      subst hF
      refine wH_ret ?_
      exact fin0 (.inr rfl) [(vI 0)] ⟨rfl, trivial⟩ rfl rfl rfl
theorem screen_area_ok {l_1 : (List Rect)} {r : Int} (hF : screen_area l_1 = some r) :
    FnM Tryz.prog 75 [(vL Rect.enc l_1)] [] (vI r) [] := by
  refine FnM.of_wH ⟨Tryz.prog, 21, [], []⟩ rfl Tryz.func75 rfl rfl (Nat.le_of_ble_eq_true rfl) (by kernel_rfl) ?_
  unfold screen_area at hF
  refine wH_seq ?_
  refine wH_region ?_
  refine h_op (vI 0) (wt rfl) rfl ?_
  refine h_nil ?_
  refine wH_seq ?_
  refine wH_region ?_
  refine h_op (vI 0) (wt rfl) rfl ?_
  refine h_nil ?_
  refine wH_seq ?_
  refine wH_seq ?_
  refine wH_region ?_
  refine h_op (vL Rect.enc l_1) (wt rfl) rfl ?_
  refine h_len un62 rfl (wt rfl) ?_
  refine h_op (vI 0) (wt rfl) rfl ?_
  refine h_nil ?_
  obtain ⟨o_10, hj_11, hF⟩ := bind_some hF
  obtain ⟨hn_6, hj_11⟩ := forL_some hj_11
  refine wH_join (β := (Int)) (fun (s_7 : Int) => ([(3, (vI s_7))] : List (Nat × V))) (fun (s_7 : Int) => ([] : Hp)) (fun p => o_10 = .go p) ?_ ?_
  · refine wH_block ?_
    refine wH_loop (β := Nat × (List Rect) × (Int)) (fun p => (fun (k_2 : Nat) (l_3 : List Rect) (s_7 : Int) => ([(3, (vI s_7)), (6, (vL Rect.enc l_1)), (7, (vI (l_1.length : Int))), (8, (vI (k_2 : Int)))] : List (Nat × V))) p.1 p.2.1 p.2.2) (fun p => (fun (k_2 : Nat) (l_3 : List Rect) (s_7 : Int) => ([] : Hp)) p.1 p.2.1 p.2.2) (fun p => forR (fun k x s => screen_area_L1 k x s) p.2.1 p.1 p.2.2 = some o_10 ∧ (l_1).drop p.1 = p.2.1) (fun p => p.2.1.length) (0, l_1, 0) ⟨hj_11, rfl⟩ rfl (pre_r rfl) ?_
    rintro ⟨k_2, l_3, s_7⟩ ⟨hL_9, hD_5⟩
    dsimp only at hL_9 hD_5
    cases l_3 with
    | nil =>
      replace hL_9 := some_inj hL_9
      subst hL_9
      refine wH_seq (wH_region (h_op (vB (decide ((k_2 : Int) < (l_1.length : Int)))) (wt rfl) rfl (h_nil ?_)))
      refine wH_seq (wH_iff rfl (drop_nil hD_5) (wH_exit ?_))
      exact cut_mk (s_7) rfl rfl (pre_r rfl)
    | cons x_4 l_3 =>
      obtain ⟨c_, hc_8, hL_9⟩ := bind_some hL_9
      refine wH_seq (wH_region (h_op (vB (decide ((k_2 : Int) < (l_1.length : Int)))) (wt rfl) rfl (h_nil ?_)))
      refine wH_seq (wH_ift rfl (drop_cons hD_5) (wH_skip ?_))
      unfold screen_area_L1 at hc_8
      refine wH_seq ?_
      refine wH_block ?_
      refine wH_seq ?_
      refine wH_region ?_
      refine h_ia es62 rfl rfl (drop_idx hD_5) rfl (wt rfl) ?_
      refine h_ldc sz49 ag49 rfl (.d (.agg (Rect.enc x_4))) rfl (wt rfl) ?_
      refine h_alloc 0 (.inl rfl) z49 rfl (wt rfl) (fun n_12 => ?_)
      refine h_str 0 (.inl rfl) (fun _ _ _ => trivial) 0 sz49 rfl rfl [(vI x_4.X), (vI x_4.Y), (vI x_4.W), (vI x_4.H)] rfl (wt rfl) ?_
      refine h_nil ?_
      refine wH_region ?_
      refine h_op (vI s_7) (wt rfl) rfl ?_
      refine h_far pl49_2 rfl 2 rfl (wt rfl) ?_
      refine h_ldr 0 0 (.inl rfl) (fun _ _ _ => trivial) sz3 ag3 rfl rfl (vI x_4.W) rfl (wt rfl) ?_
      refine h_far pl49_3 rfl 3 rfl (wt rfl) ?_
      refine h_ldr 0 0 (.inl rfl) (fun _ _ _ => trivial) sz3 ag3 rfl rfl (vI x_4.H) rfl (wt rfl) ?_
      refine h_op (vI (w64 (x_4.W * x_4.H))) (wt rfl) rfl ?_
      refine h_op (vI (w64 (s_7 + (w64 (x_4.W * x_4.H))))) (wt rfl) rfl ?_
      refine h_op (vI (w64 (s_7 + (w64 (x_4.W * x_4.H))))) (wt rfl) rfl ?_
      refine h_nil ?_
      refine wH_region ?_
      refine h_opw (w64_next hD_5 hn_6) (wt rfl) rfl ?_
      refine h_op (vI ((k_2 + 1 : Nat) : Int)) (wt rfl) rfl ?_
      refine h_nil ?_
      replace hc_8 := some_inj hc_8
      subst hc_8
      exact loop_mk (k_2 + 1, l_3, (w64 (s_7 + (w64 (x_4.W * x_4.H))))) ⟨hL_9, drop_next hD_5⟩ (Nat.lt_succ_self _) rfl (pre_r rfl)
  · rintro s_7 ho_ sl_ H_ hp_ hq_
    subst ho_
    refine wH_at _ hp_ hq_ ?_
    refine wH_seq ?_
    refine wH_region ?_
    refine h_op (vI s_7) (wt rfl) rfl ?_
    refine h_op (vI s_7) (wt rfl) rfl ?_
    refine h_nil ?_
    replace hF := some_inj hF
    subst hF
    refine wH_ret ?_
    exact fin0 (.inr rfl) [(vI s_7)] ⟨rfl, trivial⟩ rfl rfl rfl
theorem screen_Area_ok {l_1 : (List Rect)} {r : Int × Int} (hF : screen_Area l_1 = some r) :
    FnM Tryz.prog 55 [(vL Rect.enc l_1)] [] (.tup [(vI r.1), (vI r.2)]) [] := by
  refine FnM.of_wH ⟨Tryz.prog, 13, [], []⟩ rfl Tryz.func55 rfl rfl (Nat.le_of_ble_eq_true rfl) (by kernel_rfl) ?_
  unfold screen_Area at hF
  refine wH_seq ?_
  refine wH_region ?_
  refine h_op (vI 0) (wt rfl) rfl ?_
  refine h_op (vI 0) (wt rfl) rfl ?_
  refine h_nil ?_
  refine wH_seq ?_
  refine wH_seq ?_
  refine wH_region ?_
  refine h_op (vL Rect.enc l_1) (wt rfl) rfl ?_
  obtain ⟨r_2, hr_3, hF⟩ := bind_some hF
  refine h_call0 (screen_rectsFault_ok hr_3) rfl hb74 rfl rfl rfl rfl (wt rfl) ?_
  refine h_op (vI r_2) (wt rfl) rfl ?_
  refine h_nil ?_
  refine wH_seq ?_
  refine wH_region ?_
  refine h_op (vI r_2) (wt rfl) rfl ?_
  refine h_op (vB (r_2 != 0)) (wt rfl) rfl ?_
  refine h_nil ?_
  rcases cond_some hF with ⟨hc_4, hF⟩ | ⟨hc_4, hF⟩
  · refine wH_ift rfl hc_4 ?_
    refine wH_seq ?_
    refine wH_region ?_
    refine h_op (vI r_2) (wt rfl) rfl ?_
    refine h_op (vI 0) (wt rfl) rfl ?_
    refine h_op (vI r_2) (wt rfl) rfl ?_
    refine h_nil ?_
    replace hF := some_inj hF
    subst hF
    refine wH_ret ?_
    exact fin0 (.inr rfl) [(vI 0), (vI r_2)] ⟨rfl, ⟨rfl, trivial⟩⟩ rfl rfl rfl
  · refine wH_iff rfl hc_4 ?_
    refine wH_skip ?_
    refine wH_seq ?_
    refine wH_region ?_
    refine h_op (vL Rect.enc l_1) (wt rfl) rfl ?_
    obtain ⟨r_5, hr_6, hF⟩ := bind_some hF
    refine h_call0 (screen_region_ok hr_6) rfl hb64 rfl rfl rfl rfl (wt rfl) ?_
    obtain ⟨r_7, hr_8, hF⟩ := bind_some hF
    refine h_call0 (screen_area_ok hr_8) rfl hb75 rfl rfl rfl rfl (wt rfl) ?_
    refine h_op (vI r_7) (wt rfl) rfl ?_
    refine h_op (vI 0) (wt rfl) rfl ?_
    refine h_nil ?_
    replace hF := some_inj hF
    subst hF
    refine wH_ret ?_
    exact fin0 (.inr rfl) [(vI r_7), (vI 0)] ⟨rfl, ⟨rfl, trivial⟩⟩ rfl rfl rfl
theorem law_lit_ok {r : Bool} (hF : law_lit  = some r) :
    FnM Tryz.prog 17 [] [] (vB r) [] := by
  refine FnM.of_wH ⟨Tryz.prog, 16, [], []⟩ rfl Tryz.func17 rfl rfl (Nat.le_of_ble_eq_true rfl) (by kernel_rfl) ?_
  unfold law_lit at hF
  refine wH_seq ?_
  refine wH_region ?_
  refine h_op (vB false) (wt rfl) rfl ?_
  refine h_nil ?_
  refine wH_seq ?_
  refine wH_region ?_
  refine h_op (.d (.agg (Rect.enc (⟨0, 0, 2, 2⟩ : Rect)))) (wt rfl) (by kernel_rfl) ?_
  refine h_op (.d (.agg (Rect.enc (⟨1, 1, 2, 2⟩ : Rect)))) (wt rfl) (by kernel_rfl) ?_
  refine h_lit (([(⟨0, 0, 2, 2⟩ : Rect), (⟨1, 1, 2, 2⟩ : Rect)] : List Rect).map Rect.enc) es62 ez62 rfl rfl rfl rfl rfl (wt rfl) ?_
  obtain ⟨r_1, hr_2, hF⟩ := bind_some hF
  refine h_call0 (screen_Area_ok hr_2) rfl hb55 rfl rfl rfl rfl (wt rfl) ?_
  refine h_op (.tup [(vI r_1.1), (vI r_1.2)]) (wt rfl) rfl ?_
  refine h_op (vI r_1.1) (wt rfl) rfl ?_
  refine h_op (vI r_1.2) (wt rfl) rfl ?_
  refine h_op (vI r_1.1) (wt rfl) rfl ?_
  refine h_op (vI r_1.2) (wt rfl) rfl ?_
  refine h_nil ?_
  refine wH_seq ?_
  obtain ⟨v_3, h_4, hF⟩ := bind_some hF
  refine wH_join (β := Unit) (fun _ => ([(0, (vB v_3))] : List (Nat × V))) (fun _ => ([] : Hp)) (fun _ => True) ?_ ?_
  · refine wH_region ?_
    refine h_op (vI r_1.2) (wt rfl) rfl ?_
    refine h_op (vB (r_1.2 == 0)) (wt rfl) rfl ?_
    rcases cond_some h_4 with ⟨hc_5, h_4⟩ | ⟨hc_5, h_4⟩
    · refine h_movb rfl hc_5 (wt rfl) ?_
      refine h_op (vI r_1.1) (wg rfl rfl rfl) rfl ?_
      refine h_op (vB (r_1.1 == 7)) (wg rfl rfl rfl) rfl ?_
      refine h_op (vB (r_1.1 == 7)) (wt rfl) rfl ?_
      refine h_op (vB (r_1.1 == 7)) (wt rfl) rfl ?_
      refine h_nil ?_
      replace h_4 := some_inj h_4
      subst h_4
      exact cut_mk () trivial rfl (pre_r rfl)
    · refine h_movb rfl hc_5 (wt rfl) ?_
      refine h_skip (wg rfl rfl rfl) ?_
      refine h_skip (wg rfl rfl rfl) ?_
      refine h_op (vB false) (wt rfl) rfl ?_
      refine h_op (vB false) (wt rfl) rfl ?_
      refine h_nil ?_
      replace h_4 := some_inj h_4
      subst h_4
      exact cut_mk () trivial rfl (pre_r rfl)
  · rintro ⟨⟩ _ sl_ H_ hp_ hq_
    refine wH_at _ hp_ hq_ ?_
    replace hF := some_inj hF
    subst hF
    refine wH_ret ?_
    exact fin0 (.inr rfl) [(vB v_3)] ⟨rfl, trivial⟩ rfl rfl rfl
end Go.Proofs.YtodfcleaapnklaaGreat.Law
