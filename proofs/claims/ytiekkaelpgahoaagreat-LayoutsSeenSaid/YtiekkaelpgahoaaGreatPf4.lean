/-
  The machine computes these plain functions (written by a program of ours).
-/
import Derived.Test.YtiekkaelpgahoaaGreatFacts
import Derived.Test.YtiekkaelpgahoaaGreatDefs
import Derived.Test.YtiekkaelpgahoaaGreatPf3
open Go Go.Eng Go.Proofs
namespace Go.Proofs.YtiekkaelpgahoaaGreat.Law
set_option maxRecDepth 100000
set_option linter.unusedVariables false
set_option maxHeartbeats 1000000
theorem ref_cuts_v2_ok {l_1 : (List Rect)} {r : (List Int)} (hF : ref_cuts_v2 l_1 = some r) :
    FnM Tryz.prog 112 [(vL Rect.enc l_1), (.fn 114 [])] [] (vL eI r) [] := by
  refine FnM.of_wH ⟨Tryz.prog, 32, [], []⟩ rfl Tryz.func112 rfl rfl (Nat.le_of_ble_eq_true rfl) (by kernel_rfl) ?_
  unfold ref_cuts_v2 at hF
  refine wH_seq ?_
  refine wH_region ?_
  refine h_op .nil (wt rfl) rfl ?_
  refine h_nil ?_
  refine wH_seq ?_
  refine wH_region ?_
  refine h_op .nil (wt rfl) rfl ?_
  refine h_nil ?_
  refine wH_seq ?_
  refine wH_seq ?_
  refine wH_region ?_
  refine h_op (vL Rect.enc l_1) (wt rfl) rfl ?_
  refine h_len un62 rfl (wt rfl) ?_
  refine h_op (vI 0) (wt rfl) rfl ?_
  refine h_nil ?_
  refine wH_new (fun n_9 => ?_)
  obtain ⟨o_14, hj_15, hF⟩ := bind_some hF
  obtain ⟨hn_7, hj_15⟩ := forL_some hj_15
  refine wH_join (β := ((List Int)) × Nm) (fun p => (fun (s_8 : (List Int)) (n_11 : Nm) => ([(5, (gV n_11 1 s_8))] : List (Nat × V))) p.1 p.2) (fun p => (fun (s_8 : (List Int)) (n_11 : Nm) => ([(n_11, gB 1 eI s_8)] : Hp)) p.1 p.2) (fun p => o_14 = .go p.1) ?_ ?_
  · refine wH_block ?_
    refine wH_loop (β := Nat × (List Rect) × ((List Int)) × Nm) (fun p => (fun (k_3 : Nat) (l_4 : List Rect) (s_8 : (List Int)) (n_11 : Nm) => ([(1, (.fn 114 [])), (5, (gV n_11 1 s_8)), (10, (vL Rect.enc l_1)), (11, (vI (l_1.length : Int))), (12, (vI (k_3 : Int)))] : List (Nat × V))) p.1 p.2.1 p.2.2.1 p.2.2.2) (fun p => (fun (k_3 : Nat) (l_4 : List Rect) (s_8 : (List Int)) (n_11 : Nm) => ([(n_11, gB 1 eI s_8)] : Hp)) p.1 p.2.1 p.2.2.1 p.2.2.2) (fun p => forR (fun k x s => ref_cuts_v2_L1 k x s) p.2.1 p.1 p.2.2.1 = some o_14 ∧ (l_1).drop p.1 = p.2.1) (fun p => p.2.1.length) (0, l_1, ([] : List Int), n_9) ⟨hj_15, rfl⟩ rfl (pre_r rfl) ?_
    rintro ⟨k_3, l_4, s_8, n_11⟩ ⟨hL_13, hD_6⟩
    dsimp only at hL_13 hD_6
    cases l_4 with
    | nil =>
      replace hL_13 := some_inj hL_13
      subst hL_13
      refine wH_seq (wH_region (h_op (vB (decide ((k_3 : Int) < (l_1.length : Int)))) (wt rfl) rfl (h_nil ?_)))
      refine wH_seq (wH_iff rfl (drop_nil hD_6) (wH_exit ?_))
      exact cut_mk (s_8, n_11) rfl rfl (pre_r rfl)
    | cons x_5 l_4 =>
      obtain ⟨c_, hc_12, hL_13⟩ := bind_some hL_13
      refine wH_seq (wH_region (h_op (vB (decide ((k_3 : Int) < (l_1.length : Int)))) (wt rfl) rfl (h_nil ?_)))
      refine wH_seq (wH_ift rfl (drop_cons hD_6) (wH_skip ?_))
      unfold ref_cuts_v2_L1 at hc_12
      refine wH_seq ?_
      refine wH_block ?_
      refine wH_seq ?_
      refine wH_region ?_
      refine h_ia es62 rfl rfl (drop_idx hD_6) rfl (wt rfl) ?_
      refine h_ldc sz49 ag49 rfl (.d (.agg (Rect.enc x_5))) rfl (wt rfl) ?_
      refine h_alloc 0 (.inl rfl) z49 rfl (wt rfl) (fun n_16 => ?_)
      refine h_str 0 (.inl rfl) (fun _ _ _ => trivial) 1 sz49 rfl rfl [(vI x_5.X), (vI x_5.Y), (vI x_5.W), (vI x_5.H)] rfl (wt rfl) ?_
      refine h_nil ?_
      refine wH_seq ?_
      refine wH_region ?_
      refine h_op (.fn 114 []) (wt rfl) rfl ?_
      refine h_ldr 0 1 (.inl rfl) (fun _ _ _ => trivial) sz49 ag49 rfl rfl (.d (.agg (Rect.enc x_5))) rfl (wt rfl) ?_
      obtain ⟨r_17, hr_18, hc_12⟩ := bind_some hc_12
      refine h_call0 (ref_regionOf_2_ok hr_18) rfl hb114 rfl rfl rfl rfl (wt rfl) ?_
      refine h_op (.tup [(vI r_17.1), (vI r_17.2)]) (wt rfl) rfl ?_
      refine h_op (vI r_17.1) (wt rfl) rfl ?_
      refine h_op (vI r_17.2) (wt rfl) rfl ?_
      refine h_op (vI r_17.1) (wt rfl) rfl ?_
      refine h_op (vI r_17.2) (wt rfl) rfl ?_
      refine h_nil ?_
      refine wH_region ?_
      refine h_op (gV n_11 1 s_8) (wt rfl) rfl ?_
      refine h_op (vI r_17.1) (wt rfl) rfl ?_
      refine h_op (vI r_17.2) (wt rfl) rfl ?_
      refine h_lit (([r_17.1, r_17.2] : List Int).map eI) es22 ez22 rfl rfl rfl rfl rfl (wt rfl) ?_
      obtain ⟨a_19, hz_20, hc_12⟩ := bind_some hc_12
      refine h_appg 0 (.inl rfl) (fun _ _ _ => trivial) (i := 0) el22 el22 sz3 z3 rfl (by decide) by3 (by decide) (fun _ => rfl) rfl rfl rfl hz_20 (wt rfl) (fun n_21 => ?_)
      refine h_op (gV n_21 1 a_19) (wt rfl) rfl ?_
      refine h_nil ?_
      refine wH_region ?_
      refine h_opw (w64_next hD_6 hn_7) (wt rfl) rfl ?_
      refine h_op (vI ((k_3 + 1 : Nat) : Int)) (wt rfl) rfl ?_
      refine h_nil ?_
      replace hc_12 := some_inj hc_12
      subst hc_12
      exact loop_mk (k_3 + 1, l_4, a_19, n_21) ⟨hL_13, drop_next hD_6⟩ (Nat.lt_succ_self _) rfl (pre_r rfl)
  · rintro ⟨s_8, n_11⟩ ho_ sl_ H_ hp_ hq_
    subst ho_
    refine wH_at _ hp_ hq_ ?_
    refine wH_seq ?_
    refine wH_region ?_
    refine h_op (gV n_11 1 s_8) (wt rfl) rfl ?_
    obtain ⟨r_22, hr_23, hF⟩ := bind_some hF
    obtain ⟨_, hs_24, hF⟩ := bind_some hF
    replace hs_24 := sameL_eq hs_24
    refine h_callv 0 [] 0 0 (.inl rfl) (fun _ _ _ => trivial) (slices_Sort_int_int_v1_ok hr_23) rfl hb119 rfl rfl rfl (by kernel_rfl) rfl (.inl rfl) rfl (by kernel_rfl) (by kernel_rfl) (by kernel_rfl) (by kernel_rfl) rfl (by decide) (by kernel_rfl) gB_ok (gB_ho hs_24) (wt rfl) ([(n_11, gB 1 eI r_22)] : Hp) (by kernel_rfl) ?_
    refine h_re (v' := (gV n_11 1 r_22)) 28 rfl (gV_len hs_24.symm) ?_
    refine h_re (v' := (gV n_11 1 r_22)) 5 rfl (gV_len hs_24.symm) ?_
    refine h_nil ?_
    refine wH_seq ?_
    refine wH_region ?_
    refine h_op (gV n_11 1 r_22) (wt rfl) rfl ?_
    obtain ⟨r_25, hr_26, hF⟩ := bind_some hF
    refine h_callv 0 [] 0 0 (.inl rfl) (fun _ _ _ => trivial) (slices_Compact_int_int_v1_ok hr_26) rfl hb120 rfl rfl rfl (by kernel_rfl) rfl (.inl rfl) rfl (by kernel_rfl) (by kernel_rfl) (by kernel_rfl) (by kernel_rfl) rfl (by decide) (by kernel_rfl) none_ok (fun _ => rfl) (wt rfl) ([(n_11, none)] : Hp) (by kernel_rfl) ?_
    refine h_op (vL eI r_25) (wt rfl) rfl ?_
    refine h_nil ?_
    replace hF := some_inj hF
    subst hF
    refine wH_ret ?_
    exact fin0 (.inr rfl) [(vL eI r_25)] ⟨rfl, trivial⟩ rfl rfl rfl
theorem ref_regionOf_3_ok {a_1 : Rect} {b_2 : Rect} {r : Bool} (hF : ref_regionOf_3 a_1 b_2 = some r) :
    FnM Tryz.prog 116 [(.d (.agg (Rect.enc a_1))), (.d (.agg (Rect.enc b_2)))] [] (vB r) [] := by
  refine FnM.of_wH ⟨Tryz.prog, 27, [], []⟩ rfl Tryz.func116 rfl rfl (Nat.le_of_ble_eq_true rfl) (by kernel_rfl) ?_
  unfold ref_regionOf_3 at hF
  refine wH_seq ?_
  refine wH_region ?_
  refine h_box 0 (.inl rfl) [(vI a_1.X), (vI a_1.Y), (vI a_1.W), (vI a_1.H)] rfl rfl (wt rfl) (fun n_3 => ?_)
  refine h_box 0 (.inl rfl) [(vI b_2.X), (vI b_2.Y), (vI b_2.W), (vI b_2.H)] rfl rfl (wt rfl) (fun n_4 => ?_)
  refine h_op (vB false) (wt rfl) rfl ?_
  refine h_nil ?_
  refine wH_seq ?_
  obtain ⟨v_5, h_6, hF⟩ := bind_some hF
  refine wH_join (β := Unit) (fun _ => ([(4, (vB v_5))] : List (Nat × V))) (fun _ => ([(n_3, some (.cells 4 [(vI a_1.X), (vI a_1.Y), (vI a_1.W), (vI a_1.H)])), (n_4, some (.cells 4 [(vI b_2.X), (vI b_2.Y), (vI b_2.W), (vI b_2.H)]))] : Hp)) (fun _ => True) ?_ ?_
  · refine wH_region ?_
    refine h_far pl49_0 rfl 0 rfl (wt rfl) ?_
    refine h_ldr 0 0 (.inl rfl) (fun _ _ _ => trivial) sz3 ag3 rfl rfl (vI a_1.X) rfl (wt rfl) ?_
    refine h_far pl49_0 rfl 0 rfl (wt rfl) ?_
    refine h_ldr 0 1 (.inl rfl) (fun _ _ _ => trivial) sz3 ag3 rfl rfl (vI b_2.X) rfl (wt rfl) ?_
    refine h_op (vB (a_1.X == b_2.X)) (wt rfl) rfl ?_
    rcases cond_some h_6 with ⟨hc_7, h_6⟩ | ⟨hc_7, h_6⟩
    · refine h_movb rfl hc_7 (wt rfl) ?_
      refine h_far pl49_2 rfl 2 rfl (wg rfl rfl rfl) ?_
      refine h_ldr 0 0 (.inl rfl) (fun _ _ _ => trivial) sz3 ag3 rfl rfl (vI a_1.W) rfl (wg rfl rfl rfl) ?_
      refine h_far pl49_2 rfl 2 rfl (wg rfl rfl rfl) ?_
      refine h_ldr 0 1 (.inl rfl) (fun _ _ _ => trivial) sz3 ag3 rfl rfl (vI b_2.W) rfl (wg rfl rfl rfl) ?_
      refine h_op (vB (a_1.W == b_2.W)) (wg rfl rfl rfl) rfl ?_
      refine h_op (vB (a_1.W == b_2.W)) (wt rfl) rfl ?_
      rcases cond_some h_6 with ⟨hc_8, h_6⟩ | ⟨hc_8, h_6⟩
      · refine h_movb rfl hc_8 (wt rfl) ?_
        refine h_far pl49_1 rfl 1 rfl (wg rfl rfl rfl) ?_
        refine h_ldr 0 0 (.inl rfl) (fun _ _ _ => trivial) sz3 ag3 rfl rfl (vI a_1.Y) rfl (wg rfl rfl rfl) ?_
        refine h_far pl49_1 rfl 1 rfl (wg rfl rfl rfl) ?_
        refine h_ldr 0 1 (.inl rfl) (fun _ _ _ => trivial) sz3 ag3 rfl rfl (vI b_2.Y) rfl (wg rfl rfl rfl) ?_
        refine h_far pl49_3 rfl 3 rfl (wg rfl rfl rfl) ?_
        refine h_ldr 0 1 (.inl rfl) (fun _ _ _ => trivial) sz3 ag3 rfl rfl (vI b_2.H) rfl (wg rfl rfl rfl) ?_
        refine h_op (vI (w64 (b_2.Y + b_2.H))) (wg rfl rfl rfl) rfl ?_
        refine h_op (vB (a_1.Y == (w64 (b_2.Y + b_2.H)))) (wg rfl rfl rfl) rfl ?_
        refine h_op (vB (a_1.Y == (w64 (b_2.Y + b_2.H)))) (wt rfl) rfl ?_
        refine h_op (vB (a_1.Y == (w64 (b_2.Y + b_2.H)))) (wt rfl) rfl ?_
        refine h_nil ?_
        replace h_6 := some_inj h_6
        subst h_6
        exact cut_mk () trivial rfl (pre_r rfl)
      · refine h_movb rfl hc_8 (wt rfl) ?_
        refine h_skip (wg rfl rfl rfl) ?_
        refine h_skip (wg rfl rfl rfl) ?_
        refine h_skip (wg rfl rfl rfl) ?_
        refine h_skip (wg rfl rfl rfl) ?_
        refine h_skip (wg rfl rfl rfl) ?_
        refine h_skip (wg rfl rfl rfl) ?_
        refine h_skip (wg rfl rfl rfl) ?_
        refine h_skip (wg rfl rfl rfl) ?_
        refine h_op (vB false) (wt rfl) rfl ?_
        refine h_op (vB false) (wt rfl) rfl ?_
        refine h_nil ?_
        replace h_6 := some_inj h_6
        subst h_6
        exact cut_mk () trivial rfl (pre_r rfl)
    · refine h_movb rfl hc_7 (wt rfl) ?_
      refine h_skip (wg rfl rfl rfl) ?_
      refine h_skip (wg rfl rfl rfl) ?_
      refine h_skip (wg rfl rfl rfl) ?_
      refine h_skip (wg rfl rfl rfl) ?_
      refine h_skip (wg rfl rfl rfl) ?_
      refine h_op (vB false) (wt rfl) rfl ?_
      refine h_op (vB false) (wt rfl) rfl ?_
      refine h_skip (wg rfl rfl rfl) ?_
      refine h_skip (wg rfl rfl rfl) ?_
      refine h_skip (wg rfl rfl rfl) ?_
      refine h_skip (wg rfl rfl rfl) ?_
      refine h_skip (wg rfl rfl rfl) ?_
      refine h_skip (wg rfl rfl rfl) ?_
      refine h_skip (wg rfl rfl rfl) ?_
      refine h_skip (wg rfl rfl rfl) ?_
      refine h_op (vB false) (wt rfl) rfl ?_
      refine h_op (vB false) (wt rfl) rfl ?_
      refine h_nil ?_
      replace h_6 := some_inj h_6
      subst h_6
      exact cut_mk () trivial rfl (pre_r rfl)
  · rintro ⟨⟩ _ sl_ H_ hp_ hq_
    refine wH_at _ hp_ hq_ ?_
    replace hF := some_inj hF
    subst hF
    refine wH_ret ?_
    exact fin0 (.inr rfl) [(vB v_5)] ⟨rfl, trivial⟩ rfl rfl rfl
theorem slices_EqualFunc_api_Rect_api_Rect_api_Rect_api_Rect_v3_ok {s1_1 : (List Rect)} {s2_2 : (List Rect)} {r : Bool} (hF : slices_EqualFunc_api_Rect_api_Rect_api_Rect_api_Rect_v3 s1_1 s2_2 = some r) :
    FnM Tryz.prog 115 [(dV (exA s1_1 0) 4 s1_1), (dV (exB s1_1 0) 4 s2_2), (.fn 116 [])] (([] : List Box) ++ gI 4 Rect.enc s1_1 ++ gI 4 Rect.enc s2_2) (vB r) (([] : List Box).map some ++ gT s1_1 (gB 4 Rect.enc s1_1) ++ gT s2_2 (gB 4 Rect.enc s2_2)) := by
  refine FnM.of_wHv2 ⟨Tryz.prog, 32, [], []⟩ rfl Tryz.func115 rfl rfl (Nat.le_of_ble_eq_true rfl) (by kernel_rfl) ?_
  unfold slices_EqualFunc_api_Rect_api_Rect_api_Rect_api_Rect_v3 at hF
  refine wH_seq ?_
  refine wH_region ?_
  refine h_op (vB false) (wt rfl) rfl ?_
  refine h_nil ?_
  refine wH_seq ?_
  refine wH_seq ?_
  refine wH_region ?_
  refine h_op (dV (exA s1_1 0) 4 s1_1) (wt rfl) rfl ?_
  refine h_lend un62 rfl (wt rfl) ?_
  refine h_op (dV (exB s1_1 0) 4 s2_2) (wt rfl) rfl ?_
  refine h_lend un62 rfl (wt rfl) ?_
  refine h_op (vB ((s1_1.length : Int) != (s2_2.length : Int))) (wt rfl) rfl ?_
  refine h_nil ?_
  rcases cond_some hF with ⟨hc_4, hF⟩ | ⟨hc_4, hF⟩
  · refine wH_ift rfl hc_4 ?_
    refine wH_seq ?_
    refine wH_region ?_
    refine h_op (vB false) (wt rfl) rfl ?_
    refine h_nil ?_
    replace hF := some_inj hF
    subst hF
    refine wH_ret ?_
    exact finV2 (bs := ([] : List Box)) (os := ([] : List Box)) (xs := s1_1) (ys := s2_2) (o := gB 4 Rect.enc s1_1) (o2 := gB 4 Rect.enc s2_2) (.inr rfl) [(vB false)] ⟨rfl, trivial⟩ rfl rfl rfl rfl rfl rfl (by kernel_rfl) gB_ok gB_ok rfl
  · refine wH_iff rfl hc_4 ?_
    refine wH_skip ?_
    refine wH_seq ?_
    refine wH_seq ?_
    refine wH_region ?_
    refine h_op (dV (exA s1_1 0) 4 s1_1) (wt rfl) rfl ?_
    refine h_lend un62 rfl (wt rfl) ?_
    refine h_op (vI 0) (wt rfl) rfl ?_
    refine h_nil ?_
    obtain ⟨o_13, hj_14, hF⟩ := bind_some hF
    obtain ⟨hn_9, hj_14⟩ := forL_some hj_14
    refine wH_join (β := (Unit)) (fun (s_10 : Unit) => ([] : List (Nat × V))) (fun (s_10 : Unit) => ([((exA s1_1 0), gB 4 Rect.enc s1_1), ((exB s1_1 0), gB 4 Rect.enc s2_2)] : Hp)) (fun p => o_13 = .go p) ?_ ?_
    · refine wH_block ?_
      refine wH_loop (β := Nat × (List Nat) × (Unit)) (fun p => (fun (k_5 : Nat) (l_6 : List Nat) (s_10 : Unit) => ([(1, (dV (exB s1_1 0) 4 s2_2)), (2, (.fn 116 [])), (15, (dV (exA s1_1 0) 4 s1_1)), (16, (vI (s1_1.length : Int))), (17, (vI (k_5 : Int)))] : List (Nat × V))) p.1 p.2.1 p.2.2) (fun p => (fun (k_5 : Nat) (l_6 : List Nat) (s_10 : Unit) => ([((exA s1_1 0), gB 4 Rect.enc s1_1), ((exB s1_1 0), gB 4 Rect.enc s2_2)] : Hp)) p.1 p.2.1 p.2.2) (fun p => forR (fun k x s => slices_EqualFunc_api_Rect_api_Rect_api_Rect_api_Rect_v3_L1 s1_1 s2_2 k x s) p.2.1 p.1 p.2.2 = some o_13 ∧ ((List.range ((s1_1.length : Int)).toNat)).drop p.1 = p.2.1) (fun p => p.2.1.length) (0, (List.range ((s1_1.length : Int)).toNat), ()) ⟨hj_14, rfl⟩ rfl (pre_r rfl) ?_
      rintro ⟨k_5, l_6, s_10⟩ ⟨hL_12, hD_8⟩
      dsimp only at hL_12 hD_8
      cases l_6 with
      | nil =>
        replace hL_12 := some_inj hL_12
        subst hL_12
        refine wH_seq (wH_region (h_op (vB (decide ((k_5 : Int) < (s1_1.length : Int)))) (wt rfl) rfl (h_nil ?_)))
        refine wH_seq (wH_iff rfl (range_nil hD_8) (wH_exit ?_))
        exact cut_mk (s_10) rfl rfl (pre_r rfl)
      | cons x_7 l_6 =>
        obtain ⟨c_, hc_11, hL_12⟩ := bind_some hL_12
        refine wH_seq (wH_region (h_op (vB (decide ((k_5 : Int) < (s1_1.length : Int)))) (wt rfl) rfl (h_nil ?_)))
        refine wH_seq (wH_ift rfl (range_cons hD_8) (wH_skip ?_))
        unfold slices_EqualFunc_api_Rect_api_Rect_api_Rect_api_Rect_v3_L1 at hc_11
        refine wH_seq ?_
        refine wH_block ?_
        refine wH_seq ?_
        refine wH_region ?_
        refine h_op (vI (k_5 : Int)) (wt rfl) rfl ?_
        obtain ⟨_, hi_15, hc_11⟩ := bind_some hc_11
        refine h_iavd es62 rfl rfl (inR_0 hi_15) (inR_lt hi_15) (wt rfl) ?_
        obtain ⟨e_16, hy_17, hc_11⟩ := bind_some hc_11
        refine h_ldvg 0 0 (.inl rfl) (fun _ _ _ => trivial) sz49 ag49 rfl rfl hy_17 (.d (.agg (Rect.enc e_16))) rfl (wt rfl) ?_
        refine h_alloc 0 (.inl rfl) z49 rfl (wt rfl) (fun n_18 => ?_)
        refine h_op (vI (k_5 : Int)) (wt rfl) rfl ?_
        refine h_str 0 (.inl rfl) (fun _ _ _ => trivial) 2 sz49 rfl rfl [(vI e_16.X), (vI e_16.Y), (vI e_16.W), (vI e_16.H)] rfl (wt rfl) ?_
        refine h_nil ?_
        refine wH_seq ?_
        refine wH_region ?_
        refine h_op (dV (exB s1_1 0) 4 s2_2) (wt rfl) rfl ?_
        refine h_op (vI (k_5 : Int)) (wt rfl) rfl ?_
        obtain ⟨_, hi_19, hc_11⟩ := bind_some hc_11
        refine h_iavd es62 rfl rfl (inR_0 hi_19) (inR_lt hi_19) (wt rfl) ?_
        obtain ⟨e_20, hy_21, hc_11⟩ := bind_some hc_11
        refine h_ldvg 0 1 (.inl rfl) (fun _ _ _ => trivial) sz49 ag49 rfl rfl hy_21 (.d (.agg (Rect.enc e_20))) rfl (wt rfl) ?_
        refine h_alloc 0 (.inl rfl) z49 rfl (wt rfl) (fun n_22 => ?_)
        refine h_str 0 (.inl rfl) (fun _ _ _ => trivial) 3 sz49 rfl rfl [(vI e_20.X), (vI e_20.Y), (vI e_20.W), (vI e_20.H)] rfl (wt rfl) ?_
        refine h_nil ?_
        refine wH_seq ?_
        refine wH_region ?_
        refine h_op (.fn 116 []) (wt rfl) rfl ?_
        refine h_ldr 0 2 (.inl rfl) (fun _ _ _ => trivial) sz49 ag49 rfl rfl (.d (.agg (Rect.enc e_16))) rfl (wt rfl) ?_
        refine h_ldr 0 3 (.inl rfl) (fun _ _ _ => trivial) sz49 ag49 rfl rfl (.d (.agg (Rect.enc e_20))) rfl (wt rfl) ?_
        obtain ⟨r_23, hr_24, hc_11⟩ := bind_some hc_11
        refine h_call0 (ref_regionOf_3_ok hr_24) rfl hb116 rfl rfl rfl rfl (wt rfl) ?_
        refine h_op (vB (!r_23)) (wt rfl) rfl ?_
        refine h_nil ?_
        rcases cond_some hc_11 with ⟨hc_25, hc_11⟩ | ⟨hc_25, hc_11⟩
        · refine wH_ift rfl hc_25 ?_
          refine wH_seq ?_
          refine wH_region ?_
          refine h_op (vB false) (wt rfl) rfl ?_
          refine h_nil ?_
          replace hc_11 := some_inj hc_11
          subst hc_11
          replace hL_12 := some_inj hL_12
          subst hL_12
          replace hF := some_inj hF
          subst hF
          refine wH_ret ?_
          exact finV2 (bs := ([] : List Box)) (os := ([] : List Box)) (xs := s1_1) (ys := s2_2) (o := gB 4 Rect.enc s1_1) (o2 := gB 4 Rect.enc s2_2) (.inr rfl) [(vB false)] ⟨rfl, trivial⟩ rfl rfl rfl rfl rfl rfl (by kernel_rfl) gB_ok gB_ok rfl
        · refine wH_iff rfl hc_25 ?_
          refine wH_skip ?_
          refine wH_region ?_
          refine h_opw (w64_nextr hD_8 hn_9) (wt rfl) rfl ?_
          refine h_op (vI ((k_5 + 1 : Nat) : Int)) (wt rfl) rfl ?_
          refine h_nil ?_
          replace hc_11 := some_inj hc_11
          subst hc_11
          exact loop_mk (k_5 + 1, l_6, ()) ⟨hL_12, drop_next hD_8⟩ (Nat.lt_succ_self _) rfl (pre_r rfl)
    · rintro s_10 ho_ sl_ H_ hp_ hq_
      subst ho_
      refine wH_at _ hp_ hq_ ?_
      refine wH_seq ?_
      refine wH_region ?_
      refine h_op (vB true) (wt rfl) rfl ?_
      refine h_nil ?_
      replace hF := some_inj hF
      subst hF
      refine wH_ret ?_
      exact finV2 (bs := ([] : List Box)) (os := ([] : List Box)) (xs := s1_1) (ys := s2_2) (o := gB 4 Rect.enc s1_1) (o2 := gB 4 Rect.enc s2_2) (.inr rfl) [(vB true)] ⟨rfl, trivial⟩ rfl rfl rfl rfl rfl rfl (by kernel_rfl) gB_ok gB_ok rfl
theorem ref_regionOf_v1_ok {l_1 : (List Rect)} {is2_3 : Layout} {is2_4 : Zone} {r : (List Rect)} (hF : ref_regionOf_v1 l_1 is2_3 is2_4 = some r) :
    FnM Tryz.prog 76 [(vL Rect.enc l_1), (.fn 77 [(.ref (extN 0) 0 0), (.ref (extN 1) 0 0)])] [(.cells 4 [(vS is2_3.Key), (vI is2_3.W), (vI is2_3.H), (vL Zone.enc is2_3.Zones)]), (.cells 6 [(vS is2_4.Key), (vI is2_4.On.X), (vI is2_4.On.Y), (vI is2_4.On.W), (vI is2_4.On.H), (vI is2_4.Order)])] (vL Rect.enc r) [some (.cells 4 [(vS is2_3.Key), (vI is2_3.W), (vI is2_3.H), (vL Zone.enc is2_3.Zones)]), some (.cells 6 [(vS is2_4.Key), (vI is2_4.On.X), (vI is2_4.On.Y), (vI is2_4.On.W), (vI is2_4.On.H), (vI is2_4.Order)])] := by
  refine FnM.of_wH ⟨Tryz.prog, 149, [], []⟩ rfl Tryz.func76 rfl rfl (Nat.le_of_ble_eq_true rfl) (by kernel_rfl) ?_
  unfold ref_regionOf_v1 at hF
  refine wH_seq ?_
  refine wH_region ?_
  refine h_op .nil (wt rfl) rfl ?_
  refine h_nil ?_
  refine wH_seq ?_
  refine wH_region ?_
  refine h_op (vL Rect.enc l_1) (wt rfl) rfl ?_
  obtain ⟨r_5, hr_6, hF⟩ := bind_some hF
  refine h_call0 (ref_cuts_v1_ok hr_6) rfl hb112 rfl rfl rfl rfl (wt rfl) ?_
  refine h_op (vL eI r_5) (wt rfl) rfl ?_
  refine h_nil ?_
  refine wH_seq ?_
  refine wH_region ?_
  refine h_op (vL Rect.enc l_1) (wt rfl) rfl ?_
  obtain ⟨r_7, hr_8, hF⟩ := bind_some hF
  refine h_call0 (ref_cuts_v2_ok hr_8) rfl hb112 rfl rfl rfl rfl (wt rfl) ?_
  refine h_op (vL eI r_7) (wt rfl) rfl ?_
  refine h_nil ?_
  refine wH_seq ?_
  refine wH_region ?_
  refine h_op .nil (wt rfl) rfl ?_
  refine h_op .nil (wt rfl) rfl ?_
  refine h_nil ?_
  refine wH_seq ?_
  refine wH_seq ?_
  refine wH_region ?_
  refine h_op (vI 0) (wt rfl) rfl ?_
  refine h_nil ?_
  refine wH_new (fun n_15 => ?_)
  refine wH_new (fun n_16 => ?_)
  obtain ⟨o_23, hj_24, hF⟩ := bind_some hF
  obtain ⟨nq_118, hj_24⟩ := loopO_iter hj_24
  refine wH_join (β := ((List Rect) × (List Rect) × Int) × Nm × Nm) (fun p => (fun (s_14 : (List Rect) × (List Rect) × Int) (n_19 : Nm) (n_20 : Nm) => ([(7, (gV n_19 4 s_14.1)), (8, (gV n_20 4 s_14.2.1))] : List (Nat × V))) p.1 p.2.1 p.2.2) (fun p => (fun (s_14 : (List Rect) × (List Rect) × Int) (n_19 : Nm) (n_20 : Nm) => ([((extN 0), some (.cells 4 [(vS is2_3.Key), (vI is2_3.W), (vI is2_3.H), (vL Zone.enc is2_3.Zones)])), ((extN 1), some (.cells 6 [(vS is2_4.Key), (vI is2_4.On.X), (vI is2_4.On.Y), (vI is2_4.On.W), (vI is2_4.On.H), (vI is2_4.Order)])), (n_19, gB 4 Rect.enc s_14.1), (n_20, gB 4 Rect.enc s_14.2.1)] : Hp)) p.1 p.2.1 p.2.2) (fun p => o_23 = .go p.1) ?_ ?_
  · refine wH_block ?_
    refine wH_loop (β := Nat × ((List Rect) × (List Rect) × Int) × Nm × Nm) (fun p => (fun (k_9 : Nat) (s_14 : (List Rect) × (List Rect) × Int) (n_19 : Nm) (n_20 : Nm) => ([(1, (.fn 77 [(.ref (extN 0) 0 0), (.ref (extN 1) 0 0)])), (5, (vL eI r_5)), (6, (vL eI r_7)), (7, (gV n_19 4 s_14.1)), (8, (gV n_20 4 s_14.2.1)), (9, (vI s_14.2.2))] : List (Nat × V))) p.1 p.2.1 p.2.2.1 p.2.2.2) (fun p => (fun (k_9 : Nat) (s_14 : (List Rect) × (List Rect) × Int) (n_19 : Nm) (n_20 : Nm) => ([((extN 0), some (.cells 4 [(vS is2_3.Key), (vI is2_3.W), (vI is2_3.H), (vL Zone.enc is2_3.Zones)])), ((extN 1), some (.cells 6 [(vS is2_4.Key), (vI is2_4.On.X), (vI is2_4.On.Y), (vI is2_4.On.W), (vI is2_4.On.H), (vI is2_4.Order)])), (n_19, gB 4 Rect.enc s_14.1), (n_20, gB 4 Rect.enc s_14.2.1)] : Hp)) p.1 p.2.1 p.2.2.1 p.2.2.2) (fun p => iterN (fun s => ref_regionOf_v1_L3 r_7 r_5 is2_3 is2_4 s) p.1 p.2.1 = some o_23) (fun p => p.1) (nq_118, (([] : List Rect), ([] : List Rect), 0), n_15, n_16) hj_24 rfl (pre_r rfl) ?_
    rintro ⟨k_9, s_14, n_19, n_20⟩ hL_22
    dsimp only at hL_22
    cases k_9 with
    | zero => cases hL_22
    | succ k_9 =>
      obtain ⟨c_, hc_21, hL_22⟩ := bind_some hL_22
      unfold ref_regionOf_v1_L3 at hc_21
      refine wH_seq ?_
      refine wH_seq ?_
      refine wH_region ?_
      refine h_op (vI s_14.2.2) (wt rfl) rfl ?_
      refine h_op (vI (w64 (s_14.2.2 + 1))) (wt rfl) rfl ?_
      refine h_op (vL eI r_7) (wt rfl) rfl ?_
      refine h_len un22 rfl (wt rfl) ?_
      refine h_op (vB (decide ((w64 (s_14.2.2 + 1)) < (r_7.length : Int)))) (wt rfl) rfl ?_
      refine h_nil ?_
      rcases cond_some hc_21 with ⟨hc_25, hc_21⟩ | ⟨hc_25, hc_21⟩
      · refine wH_ift rfl hc_25 ?_
        refine wH_skip ?_
        refine wH_seq ?_
        refine wH_block ?_
        refine wH_seq ?_
        refine wH_region ?_
        refine h_op .nil (wt rfl) rfl ?_
        refine h_nil ?_
        refine wH_seq ?_
        refine wH_seq ?_
        refine wH_region ?_
        refine h_op (vI 0) (wt rfl) rfl ?_
        refine h_nil ?_
        refine wH_new (fun n_32 => ?_)
        obtain ⟨o_37, hj_38, hc_21⟩ := bind_some hc_21
        obtain ⟨nq_114, hj_38⟩ := loopO_iter hj_38
        refine wH_join (β := ((List Rect) × Int) × Nm) (fun p => (fun (s_31 : (List Rect) × Int) (n_34 : Nm) => ([(1, (.fn 77 [(.ref (extN 0) 0 0), (.ref (extN 1) 0 0)])), (5, (vL eI r_5)), (6, (vL eI r_7)), (7, (gV n_19 4 s_14.1)), (8, (gV n_20 4 s_14.2.1)), (9, (vI s_14.2.2)), (10, (gV n_34 4 s_31.1))] : List (Nat × V))) p.1 p.2) (fun p => (fun (s_31 : (List Rect) × Int) (n_34 : Nm) => ([((extN 0), some (.cells 4 [(vS is2_3.Key), (vI is2_3.W), (vI is2_3.H), (vL Zone.enc is2_3.Zones)])), ((extN 1), some (.cells 6 [(vS is2_4.Key), (vI is2_4.On.X), (vI is2_4.On.Y), (vI is2_4.On.W), (vI is2_4.On.H), (vI is2_4.Order)])), (n_19, gB 4 Rect.enc s_14.1), (n_20, gB 4 Rect.enc s_14.2.1), (n_34, gB 4 Rect.enc s_31.1)] : Hp)) p.1 p.2) (fun p => o_37 = .go p.1) ?_ ?_
        · refine wH_block ?_
          refine wH_loop (β := Nat × ((List Rect) × Int) × Nm) (fun p => (fun (k_26 : Nat) (s_31 : (List Rect) × Int) (n_34 : Nm) => ([(1, (.fn 77 [(.ref (extN 0) 0 0), (.ref (extN 1) 0 0)])), (5, (vL eI r_5)), (6, (vL eI r_7)), (7, (gV n_19 4 s_14.1)), (8, (gV n_20 4 s_14.2.1)), (9, (vI s_14.2.2)), (10, (gV n_34 4 s_31.1)), (11, (vI s_31.2))] : List (Nat × V))) p.1 p.2.1 p.2.2) (fun p => (fun (k_26 : Nat) (s_31 : (List Rect) × Int) (n_34 : Nm) => ([((extN 0), some (.cells 4 [(vS is2_3.Key), (vI is2_3.W), (vI is2_3.H), (vL Zone.enc is2_3.Zones)])), ((extN 1), some (.cells 6 [(vS is2_4.Key), (vI is2_4.On.X), (vI is2_4.On.Y), (vI is2_4.On.W), (vI is2_4.On.H), (vI is2_4.Order)])), (n_19, gB 4 Rect.enc s_14.1), (n_20, gB 4 Rect.enc s_14.2.1), (n_34, gB 4 Rect.enc s_31.1)] : Hp)) p.1 p.2.1 p.2.2) (fun p => iterN (fun s => ref_regionOf_v1_L1 r_5 r_7 s_14 is2_3 is2_4 s) p.1 p.2.1 = some o_37) (fun p => p.1) (nq_114, (([] : List Rect), 0), n_32) hj_38 rfl (pre_r rfl) ?_
          rintro ⟨k_26, s_31, n_34⟩ hL_36
          dsimp only at hL_36
          cases k_26 with
          | zero => cases hL_36
          | succ k_26 =>
            obtain ⟨c_, hc_35, hL_36⟩ := bind_some hL_36
            unfold ref_regionOf_v1_L1 at hc_35
            refine wH_seq ?_
            refine wH_seq ?_
            refine wH_region ?_
            refine h_op (vI s_31.2) (wt rfl) rfl ?_
            refine h_op (vI (w64 (s_31.2 + 1))) (wt rfl) rfl ?_
            refine h_op (vL eI r_5) (wt rfl) rfl ?_
            refine h_len un22 rfl (wt rfl) ?_
            refine h_op (vB (decide ((w64 (s_31.2 + 1)) < (r_5.length : Int)))) (wt rfl) rfl ?_
            refine h_nil ?_
            rcases cond_some hc_35 with ⟨hc_39, hc_35⟩ | ⟨hc_39, hc_35⟩
            · refine wH_ift rfl hc_39 ?_
              refine wH_skip ?_
              refine wH_seq ?_
              refine wH_block ?_
              refine wH_seq ?_
              refine wH_seq ?_
              refine wH_draws ?_
              refine h_op (.fn 77 [(.ref (extN 0) 0 0), (.ref (extN 1) 0 0)]) (wt rfl) rfl ?_
              refine h_op (vL eI r_5) (wt rfl) rfl ?_
              refine h_op (vI s_31.2) (wt rfl) rfl ?_
              obtain ⟨y_40, hy_41, hc_35⟩ := bind_some hc_35
              refine h_ia es22 rfl rfl hy_41 rfl (wt rfl) ?_
              refine h_ldc sz3 ag3 rfl (vI y_40) rfl (wt rfl) ?_
              refine h_op (vL eI r_7) (wt rfl) rfl ?_
              refine h_op (vI s_14.2.2) (wt rfl) rfl ?_
              obtain ⟨y_42, hy_43, hc_35⟩ := bind_some hc_35
              refine h_ia es22 rfl rfl hy_43 rfl (wt rfl) ?_
              refine h_ldc sz3 ag3 rfl (vI y_42) rfl (wt rfl) ?_
              obtain ⟨r_44, hr_45, hc_35⟩ := bind_some hc_35
              refine h_callq 9 [0, 1] (.inr (by kernel_rfl)) (fun _ _ ag => by exact trivial) (ref_SeenOf_1_ok hr_45) rfl hb77 rfl (by kernel_rfl) (by kernel_rfl) (by kernel_rfl) (by kernel_rfl) (by kernel_rfl) (by kernel_rfl) (by kernel_rfl) (by decide) (by kernel_rfl) (wt rfl) (vB r_44) (by kernel_rfl) ([((extN 0), some (.cells 4 [(vS is2_3.Key), (vI is2_3.W), (vI is2_3.H), (vL Zone.enc is2_3.Zones)])), ((extN 1), some (.cells 6 [(vS is2_4.Key), (vI is2_4.On.X), (vI is2_4.On.Y), (vI is2_4.On.W), (vI is2_4.On.H), (vI is2_4.Order)])), (n_19, gB 4 Rect.enc s_14.1), (n_20, gB 4 Rect.enc s_14.2.1), (n_34, gB 4 Rect.enc s_31.1)] : Hp) (by kernel_rfl) ?_
              refine h_op (vB (!r_44)) (wt rfl) rfl ?_
              refine h_nil ?_
              rcases cond_some hc_35 with ⟨hc_47, hc_35⟩ | ⟨hc_47, hc_35⟩
              · refine wH_ift rfl hc_47 ?_
                refine wH_exit ?_
                refine wH_region ?_
                refine h_op (vI s_31.2) (wt rfl) rfl ?_
                refine h_op (vI (w64 (s_31.2 + 1))) (wt rfl) rfl ?_
                refine h_op (vI (w64 (s_31.2 + 1))) (wt rfl) rfl ?_
                refine h_nil ?_
                replace hc_35 := some_inj hc_35
                subst hc_35
                exact loop_mk (k_26, (s_31.1, (w64 (s_31.2 + 1))), n_34) hL_36 (Nat.lt_succ_self _) rfl (pre_r rfl)
              · refine wH_iff rfl hc_47 ?_
                refine wH_skip ?_
                refine wH_seq ?_
                refine wH_region ?_
                refine h_op (gV n_34 4 s_31.1) (wt rfl) rfl ?_
                refine h_leng un62 rfl (wt rfl) ?_
                refine h_op (vI (w64 ((s_31.1.length : Int) - 1))) (wt rfl) rfl ?_
                refine h_op (vI (w64 ((s_31.1.length : Int) - 1))) (wt rfl) rfl ?_
                refine h_nil ?_
                refine wH_seq ?_
                obtain ⟨v_48, h_49, hc_35⟩ := bind_some hc_35
                refine wH_join (β := Unit) (fun _ => ([(1, (.fn 77 [(.ref (extN 0) 0 0), (.ref (extN 1) 0 0)])), (5, (vL eI r_5)), (6, (vL eI r_7)), (7, (gV n_19 4 s_14.1)), (8, (gV n_20 4 s_14.2.1)), (9, (vI s_14.2.2)), (10, (gV n_34 4 s_31.1)), (11, (vI s_31.2)), (12, (vI (w64 ((s_31.1.length : Int) - 1)))), (66, (vB v_48))] : List (Nat × V))) (fun _ => ([((extN 0), some (.cells 4 [(vS is2_3.Key), (vI is2_3.W), (vI is2_3.H), (vL Zone.enc is2_3.Zones)])), ((extN 1), some (.cells 6 [(vS is2_4.Key), (vI is2_4.On.X), (vI is2_4.On.Y), (vI is2_4.On.W), (vI is2_4.On.H), (vI is2_4.Order)])), (n_19, gB 4 Rect.enc s_14.1), (n_20, gB 4 Rect.enc s_14.2.1), (n_34, gB 4 Rect.enc s_31.1)] : Hp)) (fun _ => True) ?_ ?_
                · refine wH_draws ?_
                  refine h_op (vI (w64 ((s_31.1.length : Int) - 1))) (wt rfl) rfl ?_
                  refine h_op (vB (decide ((w64 ((s_31.1.length : Int) - 1)) ≥ 0))) (wt rfl) rfl ?_
                  rcases cond_some h_49 with ⟨hc_50, h_49⟩ | ⟨hc_50, h_49⟩
                  · refine h_movb rfl hc_50 (wt rfl) ?_
                    refine h_op (gV n_34 4 s_31.1) (wg rfl rfl rfl) rfl ?_
                    refine h_op (vI (w64 ((s_31.1.length : Int) - 1))) (wg rfl rfl rfl) rfl ?_
                    obtain ⟨_, hi_51, h_49⟩ := bind_some h_49
                    refine h_iavg es62 rfl rfl (inR_0 hi_51) (inR_lt hi_51) (wg rfl rfl rfl) ?_
                    refine h_far pl49_0 rfl 0 rfl (wg rfl rfl rfl) ?_
                    obtain ⟨e_52, hy_53, h_49⟩ := bind_some h_49
                    refine h_ldvg 7 4 (.inr (by kernel_rfl)) (fun _ _ ag => trivial) sz3 ag3 rfl rfl hy_53 (vI e_52.X) rfl (wg rfl rfl rfl) ?_
                    refine h_op (gV n_34 4 s_31.1) (wg rfl rfl rfl) rfl ?_
                    refine h_op (vI (w64 ((s_31.1.length : Int) - 1))) (wg rfl rfl rfl) rfl ?_
                    obtain ⟨_, hi_54, h_49⟩ := bind_some h_49
                    refine h_iavg es62 rfl rfl (inR_0 hi_54) (inR_lt hi_54) (wg rfl rfl rfl) ?_
                    refine h_far pl49_2 rfl 2 rfl (wg rfl rfl rfl) ?_
                    obtain ⟨e_55, hy_56, h_49⟩ := bind_some h_49
                    refine h_ldvg 12 4 (.inr (by kernel_rfl)) (fun _ _ ag => ⟨.inl ⟨rfl, rfl⟩, trivial⟩) sz3 ag3 rfl rfl hy_56 (vI e_55.W) rfl (wg rfl rfl rfl) ?_
                    refine h_op (vI (w64 (e_52.X + e_55.W))) (wg rfl rfl rfl) rfl ?_
                    refine h_op (vL eI r_5) (wg rfl rfl rfl) rfl ?_
                    refine h_op (vI s_31.2) (wg rfl rfl rfl) rfl ?_
                    obtain ⟨y_57, hy_58, h_49⟩ := bind_some h_49
                    refine h_ia es22 rfl rfl hy_58 rfl (wg rfl rfl rfl) ?_
                    refine h_ldc sz3 ag3 rfl (vI y_57) rfl (wg rfl rfl rfl) ?_
                    refine h_op (vB ((w64 (e_52.X + e_55.W)) == y_57)) (wg rfl rfl rfl) rfl ?_
                    refine h_op (vB ((w64 (e_52.X + e_55.W)) == y_57)) (wt rfl) rfl ?_
                    refine h_nil ?_
                    replace h_49 := some_inj h_49
                    subst h_49
                    exact cut_mk () trivial rfl (pre_r rfl)
                  · refine h_movb rfl hc_50 (wt rfl) ?_
                    refine h_skip (wg rfl rfl rfl) ?_
                    refine h_skip (wg rfl rfl rfl) ?_
                    refine h_skip (wg rfl rfl rfl) ?_
                    refine h_skip (wg rfl rfl rfl) ?_
                    refine h_skip (wg rfl rfl rfl) ?_
                    refine h_skip (wg rfl rfl rfl) ?_
                    refine h_skip (wg rfl rfl rfl) ?_
                    refine h_skip (wg rfl rfl rfl) ?_
                    refine h_skip (wg rfl rfl rfl) ?_
                    refine h_skip (wg rfl rfl rfl) ?_
                    refine h_skip (wg rfl rfl rfl) ?_
                    refine h_skip (wg rfl rfl rfl) ?_
                    refine h_skip (wg rfl rfl rfl) ?_
                    refine h_skip (wg rfl rfl rfl) ?_
                    refine h_skip (wg rfl rfl rfl) ?_
                    refine h_skip (wg rfl rfl rfl) ?_
                    refine h_op (vB false) (wt rfl) rfl ?_
                    refine h_nil ?_
                    replace h_49 := some_inj h_49
                    subst h_49
                    exact cut_mk () trivial rfl (pre_r rfl)
                · rintro ⟨⟩ _ sl_ H_ hp_ hq_
                  refine wH_at _ hp_ hq_ ?_
                  obtain ⟨v_59, h_60, hc_35⟩ := bind_some hc_35
                  refine wH_join (β := Nm) (fun (n_61 : Nm) => ([(1, (.fn 77 [(.ref (extN 0) 0 0), (.ref (extN 1) 0 0)])), (5, (vL eI r_5)), (6, (vL eI r_7)), (7, (gV n_19 4 s_14.1)), (8, (gV n_20 4 s_14.2.1)), (9, (vI s_14.2.2)), (10, (gV n_61 4 v_59)), (11, (vI s_31.2))] : List (Nat × V))) (fun (n_61 : Nm) => ([((extN 0), some (.cells 4 [(vS is2_3.Key), (vI is2_3.W), (vI is2_3.H), (vL Zone.enc is2_3.Zones)])), ((extN 1), some (.cells 6 [(vS is2_4.Key), (vI is2_4.On.X), (vI is2_4.On.Y), (vI is2_4.On.W), (vI is2_4.On.H), (vI is2_4.Order)])), (n_19, gB 4 Rect.enc s_14.1), (n_20, gB 4 Rect.enc s_14.2.1), (n_61, gB 4 Rect.enc v_59)] : Hp)) (fun _ => True) ?_ ?_
                  · rcases cond_some h_60 with ⟨hc_62, h_60⟩ | ⟨hc_62, h_60⟩
                    · refine wH_ift rfl hc_62 ?_
                      refine wH_draws ?_
                      refine h_op (gV n_34 4 s_31.1) (wt rfl) rfl ?_
                      refine h_op (vI (w64 ((s_31.1.length : Int) - 1))) (wt rfl) rfl ?_
                      refine h_op (vL eI r_5) (wt rfl) rfl ?_
                      refine h_op (vI s_31.2) (wt rfl) rfl ?_
                      refine h_op (vI (w64 (s_31.2 + 1))) (wt rfl) rfl ?_
                      obtain ⟨y_63, hy_64, h_60⟩ := bind_some h_60
                      refine h_ia es22 rfl rfl hy_64 rfl (wt rfl) ?_
                      refine h_ldc sz3 ag3 rfl (vI y_63) rfl (wt rfl) ?_
                      refine h_op (gV n_34 4 s_31.1) (wt rfl) rfl ?_
                      refine h_op (vI (w64 ((s_31.1.length : Int) - 1))) (wt rfl) rfl ?_
                      obtain ⟨_, hi_65, h_60⟩ := bind_some h_60
                      refine h_iavg es62 rfl rfl (inR_0 hi_65) (inR_lt hi_65) (wt rfl) ?_
                      refine h_far pl49_0 rfl 0 rfl (wt rfl) ?_
                      obtain ⟨e_66, hy_67, h_60⟩ := bind_some h_60
                      refine h_ldvg 11 4 (.inr (by kernel_rfl)) (fun _ _ ag => trivial) sz3 ag3 rfl rfl hy_67 (vI e_66.X) rfl (wt rfl) ?_
                      refine h_op (vI (w64 (y_63 - e_66.X))) (wt rfl) rfl ?_
                      obtain ⟨_, hi_68, h_60⟩ := bind_some h_60
                      refine h_iavg es62 rfl rfl (inR_0 hi_68) (inR_lt hi_68) (wt rfl) ?_
                      refine h_far pl49_2 rfl 2 rfl (wt rfl) ?_
                      obtain ⟨e_69, hy_70, h_60⟩ := bind_some h_60
                      refine h_stvg 15 (.inr (by kernel_rfl)) (fun _ _ ag => ⟨.inr (.inr (by kernel_rfl)), trivial⟩) 4 sz3 rfl rfl hy_70 (⟨e_69.X, e_69.Y, (w64 (y_63 - e_66.X)), e_69.H⟩ : Rect) rfl (wt rfl) ?_
                      refine h_re (v' := (gV n_34 4 (s_31.1.set (0 + ((w64 ((s_31.1.length : Int) - 1))).toNat) (⟨e_69.X, e_69.Y, (w64 (y_63 - e_66.X)), e_69.H⟩ : Rect)))) 10 rfl (gV_len (by simp)) ?_
                      refine h_re (v' := (gV n_34 4 (s_31.1.set (0 + ((w64 ((s_31.1.length : Int) - 1))).toNat) (⟨e_69.X, e_69.Y, (w64 (y_63 - e_66.X)), e_69.H⟩ : Rect)))) 67 rfl (gV_len (by simp)) ?_
                      refine h_re (v' := (gV n_34 4 (s_31.1.set (0 + ((w64 ((s_31.1.length : Int) - 1))).toNat) (⟨e_69.X, e_69.Y, (w64 (y_63 - e_66.X)), e_69.H⟩ : Rect)))) 74 rfl (gV_len (by simp)) ?_
                      refine h_nil ?_
                      replace h_60 := some_inj h_60
                      subst h_60
                      exact cut_mk n_34 trivial rfl (pre_r rfl)
                    · refine wH_iff rfl hc_62 ?_
                      refine wH_draws ?_
                      refine h_op (gV n_34 4 s_31.1) (wt rfl) rfl ?_
                      refine h_op (vL eI r_5) (wt rfl) rfl ?_
                      refine h_op (vI s_31.2) (wt rfl) rfl ?_
                      obtain ⟨y_71, hy_72, h_60⟩ := bind_some h_60
                      refine h_ia es22 rfl rfl hy_72 rfl (wt rfl) ?_
                      refine h_ldc sz3 ag3 rfl (vI y_71) rfl (wt rfl) ?_
                      refine h_op (vL eI r_7) (wt rfl) rfl ?_
                      refine h_op (vI s_14.2.2) (wt rfl) rfl ?_
                      obtain ⟨y_73, hy_74, h_60⟩ := bind_some h_60
                      refine h_ia es22 rfl rfl hy_74 rfl (wt rfl) ?_
                      refine h_ldc sz3 ag3 rfl (vI y_73) rfl (wt rfl) ?_
                      refine h_op (vL eI r_5) (wt rfl) rfl ?_
                      refine h_op (vI s_31.2) (wt rfl) rfl ?_
                      refine h_op (vI (w64 (s_31.2 + 1))) (wt rfl) rfl ?_
                      obtain ⟨y_75, hy_76, h_60⟩ := bind_some h_60
                      refine h_ia es22 rfl rfl hy_76 rfl (wt rfl) ?_
                      refine h_ldc sz3 ag3 rfl (vI y_75) rfl (wt rfl) ?_
                      refine h_op (vL eI r_5) (wt rfl) rfl ?_
                      refine h_op (vI s_31.2) (wt rfl) rfl ?_
                      obtain ⟨y_77, hy_78, h_60⟩ := bind_some h_60
                      refine h_ia es22 rfl rfl hy_78 rfl (wt rfl) ?_
                      refine h_ldc sz3 ag3 rfl (vI y_77) rfl (wt rfl) ?_
                      refine h_op (vI (w64 (y_75 - y_77))) (wt rfl) rfl ?_
                      refine h_op (vL eI r_7) (wt rfl) rfl ?_
                      refine h_op (vI s_14.2.2) (wt rfl) rfl ?_
                      refine h_op (vI (w64 (s_14.2.2 + 1))) (wt rfl) rfl ?_
                      obtain ⟨y_79, hy_80, h_60⟩ := bind_some h_60
                      refine h_ia es22 rfl rfl hy_80 rfl (wt rfl) ?_
                      refine h_ldc sz3 ag3 rfl (vI y_79) rfl (wt rfl) ?_
                      refine h_op (vL eI r_7) (wt rfl) rfl ?_
                      refine h_op (vI s_14.2.2) (wt rfl) rfl ?_
                      obtain ⟨y_81, hy_82, h_60⟩ := bind_some h_60
                      refine h_ia es22 rfl rfl hy_82 rfl (wt rfl) ?_
                      refine h_ldc sz3 ag3 rfl (vI y_81) rfl (wt rfl) ?_
                      refine h_op (vI (w64 (y_79 - y_81))) (wt rfl) rfl ?_
                      refine h_op (.d (.agg (Rect.enc (⟨y_71, y_73, (w64 (y_75 - y_77)), (w64 (y_79 - y_81))⟩ : Rect)))) (wt rfl) (by kernel_rfl) ?_
                      refine h_lit (([(⟨y_71, y_73, (w64 (y_75 - y_77)), (w64 (y_79 - y_81))⟩ : Rect)] : List Rect).map Rect.enc) es62 ez62 rfl rfl rfl rfl rfl (wt rfl) ?_
                      obtain ⟨a_83, hz_84, h_60⟩ := bind_some h_60
                      refine h_appg 31 (.inr (by kernel_rfl)) (fun _ _ ag => trivial) (i := 4) el62 el62 sz49 z49 rfl (by decide) by49 (by decide) (fun _ => rfl) rfl rfl rfl hz_84 (wt rfl) (fun n_85 => ?_)
                      refine h_op (gV n_85 4 a_83) (wt rfl) rfl ?_
                      refine h_nil ?_
                      replace h_60 := some_inj h_60
                      subst h_60
                      exact cut_mk n_85 trivial rfl (pre_r rfl)
                  · rintro n_61 _ sl_ H_ hp_ hq_
                    refine wH_at _ hp_ hq_ ?_
                    refine wH_region ?_
                    refine h_op (vI s_31.2) (wt rfl) rfl ?_
                    refine h_op (vI (w64 (s_31.2 + 1))) (wt rfl) rfl ?_
                    refine h_op (vI (w64 (s_31.2 + 1))) (wt rfl) rfl ?_
                    refine h_nil ?_
                    replace hc_35 := some_inj hc_35
                    subst hc_35
                    exact loop_mk (k_26, (v_59, (w64 (s_31.2 + 1))), n_61) hL_36 (Nat.lt_succ_self _) rfl (pre_r rfl)
            · refine wH_iff rfl hc_39 ?_
              refine wH_exit ?_
              replace hc_35 := some_inj hc_35
              subst hc_35
              replace hL_36 := some_inj hL_36
              subst hL_36
              exact cut_mk ((s_31.1, s_31.2), n_34) rfl rfl (pre_r rfl)
        · rintro ⟨s_31, n_34⟩ ho_ sl_ H_ hp_ hq_
          subst ho_
          refine wH_at _ hp_ hq_ ?_
          refine wH_seq ?_
          refine wH_region ?_
          refine h_op (gV n_34 4 s_31.1) (wt rfl) rfl ?_
          refine h_op (gV n_20 4 s_14.2.1) (wt rfl) rfl ?_
          obtain ⟨r_86, hr_87, hc_21⟩ := bind_some hc_21
          refine h_callv2 0 [] 4 3 0 1 (.inl rfl) (fun _ _ _ => trivial) (slices_EqualFunc_api_Rect_api_Rect_api_Rect_api_Rect_v3_ok hr_87) rfl hb115 rfl rfl rfl rfl (by kernel_rfl) rfl (.inl rfl) rfl rfl (.inl rfl) rfl (by decide) (by kernel_rfl) (by kernel_rfl) (by kernel_rfl) (by kernel_rfl) rfl (by decide) (by kernel_rfl) gB_ok (gB_ho rfl) gB_ok (gB_ho rfl) (wt rfl) ([((extN 0), some (.cells 4 [(vS is2_3.Key), (vI is2_3.W), (vI is2_3.H), (vL Zone.enc is2_3.Zones)])), ((extN 1), some (.cells 6 [(vS is2_4.Key), (vI is2_4.On.X), (vI is2_4.On.Y), (vI is2_4.On.W), (vI is2_4.On.H), (vI is2_4.Order)])), (n_19, gB 4 Rect.enc s_14.1), (n_20, gB 4 Rect.enc s_14.2.1), (n_34, gB 4 Rect.enc s_31.1)] : Hp) (by kernel_rfl) ?_
          refine h_op (vB r_86) (wt rfl) rfl ?_
          refine h_nil ?_
          refine wH_seq ?_
          refine wH_seq ?_
          obtain ⟨v_88, h_89, hc_21⟩ := bind_some hc_21
          refine wH_join (β := Unit) (fun _ => ([(1, (.fn 77 [(.ref (extN 0) 0 0), (.ref (extN 1) 0 0)])), (5, (vL eI r_5)), (6, (vL eI r_7)), (7, (gV n_19 4 s_14.1)), (8, (gV n_20 4 s_14.2.1)), (9, (vI s_14.2.2)), (10, (gV n_34 4 s_31.1)), (122, (vB v_88))] : List (Nat × V))) (fun _ => ([((extN 0), some (.cells 4 [(vS is2_3.Key), (vI is2_3.W), (vI is2_3.H), (vL Zone.enc is2_3.Zones)])), ((extN 1), some (.cells 6 [(vS is2_4.Key), (vI is2_4.On.X), (vI is2_4.On.Y), (vI is2_4.On.W), (vI is2_4.On.H), (vI is2_4.Order)])), (n_19, gB 4 Rect.enc s_14.1), (n_20, gB 4 Rect.enc s_14.2.1), (n_34, gB 4 Rect.enc s_31.1)] : Hp)) (fun _ => True) ?_ ?_
          · refine wH_region ?_
            refine h_op (vB r_86) (wt rfl) rfl ?_
            rcases cond_some h_89 with ⟨hc_90, h_89⟩ | ⟨hc_90, h_89⟩
            · refine h_movb rfl hc_90 (wt rfl) ?_
              refine h_op (gV n_34 4 s_31.1) (wg rfl rfl rfl) rfl ?_
              refine h_leng un62 rfl (wg rfl rfl rfl) ?_
              refine h_op (vB (decide ((s_31.1.length : Int) > 0))) (wg rfl rfl rfl) rfl ?_
              refine h_op (vB (decide ((s_31.1.length : Int) > 0))) (wt rfl) rfl ?_
              refine h_nil ?_
              replace h_89 := some_inj h_89
              subst h_89
              exact cut_mk () trivial rfl (pre_r rfl)
            · refine h_movb rfl hc_90 (wt rfl) ?_
              refine h_skip (wg rfl rfl rfl) ?_
              refine h_skip (wg rfl rfl rfl) ?_
              refine h_skip (wg rfl rfl rfl) ?_
              refine h_op (vB false) (wt rfl) rfl ?_
              refine h_nil ?_
              replace h_89 := some_inj h_89
              subst h_89
              exact cut_mk () trivial rfl (pre_r rfl)
          · rintro ⟨⟩ _ sl_ H_ hp_ hq_
            refine wH_at _ hp_ hq_ ?_
            rcases cond_some hc_21 with ⟨hc_91, hc_21⟩ | ⟨hc_91, hc_21⟩
            · refine wH_ift rfl hc_91 ?_
              refine wH_seq ?_
              refine wH_seq ?_
              refine wH_region ?_
              refine h_op (gV n_20 4 s_14.2.1) (wt rfl) rfl ?_
              refine h_leng un62 rfl (wt rfl) ?_
              refine h_op (vI 0) (wt rfl) rfl ?_
              refine h_nil ?_
              obtain ⟨o_100, hj_101, hc_21⟩ := bind_some hc_21
              obtain ⟨hn_96, hj_101⟩ := forL_some hj_101
              refine wH_join (β := ((List Rect))) (fun (s_97 : (List Rect)) => ([(1, (.fn 77 [(.ref (extN 0) 0 0), (.ref (extN 1) 0 0)])), (5, (vL eI r_5)), (6, (vL eI r_7)), (7, (gV n_19 4 s_14.1)), (8, (gV n_20 4 s_97)), (9, (vI s_14.2.2))] : List (Nat × V))) (fun (s_97 : (List Rect)) => ([((extN 0), some (.cells 4 [(vS is2_3.Key), (vI is2_3.W), (vI is2_3.H), (vL Zone.enc is2_3.Zones)])), ((extN 1), some (.cells 6 [(vS is2_4.Key), (vI is2_4.On.X), (vI is2_4.On.Y), (vI is2_4.On.W), (vI is2_4.On.H), (vI is2_4.Order)])), (n_19, gB 4 Rect.enc s_14.1), (n_20, gB 4 Rect.enc s_97), (n_34, gB 4 Rect.enc s_31.1)] : Hp)) (fun p => o_100 = .go p) ?_ ?_
              · refine wH_block ?_
                refine wH_loop (β := Nat × (List Nat) × ((List Rect))) (fun p => (fun (k_92 : Nat) (l_93 : List Nat) (s_97 : (List Rect)) => ([(1, (.fn 77 [(.ref (extN 0) 0 0), (.ref (extN 1) 0 0)])), (5, (vL eI r_5)), (6, (vL eI r_7)), (7, (gV n_19 4 s_14.1)), (8, (gV n_20 4 s_97)), (9, (vI s_14.2.2)), (10, (gV n_34 4 s_31.1)), (124, (vI (s_14.2.1.length : Int))), (125, (vI (k_92 : Int)))] : List (Nat × V))) p.1 p.2.1 p.2.2) (fun p => (fun (k_92 : Nat) (l_93 : List Nat) (s_97 : (List Rect)) => ([((extN 0), some (.cells 4 [(vS is2_3.Key), (vI is2_3.W), (vI is2_3.H), (vL Zone.enc is2_3.Zones)])), ((extN 1), some (.cells 6 [(vS is2_4.Key), (vI is2_4.On.X), (vI is2_4.On.Y), (vI is2_4.On.W), (vI is2_4.On.H), (vI is2_4.Order)])), (n_19, gB 4 Rect.enc s_14.1), (n_20, gB 4 Rect.enc s_97), (n_34, gB 4 Rect.enc s_31.1)] : Hp)) p.1 p.2.1 p.2.2) (fun p => forR (fun k x s => ref_regionOf_v1_L2 s_31 k x s) p.2.1 p.1 p.2.2 = some o_100 ∧ ((List.range ((s_14.2.1.length : Int)).toNat)).drop p.1 = p.2.1) (fun p => p.2.1.length) (0, (List.range ((s_14.2.1.length : Int)).toNat), s_14.2.1) ⟨hj_101, rfl⟩ rfl (pre_r rfl) ?_
                rintro ⟨k_92, l_93, s_97⟩ ⟨hL_99, hD_95⟩
                dsimp only at hL_99 hD_95
                cases l_93 with
                | nil =>
                  replace hL_99 := some_inj hL_99
                  subst hL_99
                  refine wH_seq (wH_region (h_op (vB (decide ((k_92 : Int) < (s_14.2.1.length : Int)))) (wt rfl) rfl (h_nil ?_)))
                  refine wH_seq (wH_iff rfl (range_nil hD_95) (wH_exit ?_))
                  exact cut_mk (s_97) rfl rfl (pre_r rfl)
                | cons x_94 l_93 =>
                  obtain ⟨c_, hc_98, hL_99⟩ := bind_some hL_99
                  refine wH_seq (wH_region (h_op (vB (decide ((k_92 : Int) < (s_14.2.1.length : Int)))) (wt rfl) rfl (h_nil ?_)))
                  refine wH_seq (wH_ift rfl (range_cons hD_95) (wH_skip ?_))
                  unfold ref_regionOf_v1_L2 at hc_98
                  refine wH_seq ?_
                  refine wH_block ?_
                  refine wH_seq ?_
                  refine wH_region ?_
                  refine h_op (vI (k_92 : Int)) (wt rfl) rfl ?_
                  refine h_op (vI (k_92 : Int)) (wt rfl) rfl ?_
                  refine h_nil ?_
                  refine wH_draws ?_
                  refine h_op (gV n_20 4 s_97) (wt rfl) rfl ?_
                  refine h_op (vI (k_92 : Int)) (wt rfl) rfl ?_
                  obtain ⟨_, hi_102, hc_98⟩ := bind_some hc_98
                  refine h_iavg es62 rfl rfl (inR_0 hi_102) (inR_lt hi_102) (wt rfl) ?_
                  refine h_far pl49_3 rfl 3 rfl (wt rfl) ?_
                  obtain ⟨e_103, hy_104, hc_98⟩ := bind_some hc_98
                  refine h_ldvg 4 3 (.inr (by kernel_rfl)) (fun _ _ ag => trivial) sz3 ag3 rfl rfl hy_104 (vI e_103.H) rfl (wt rfl) ?_
                  refine h_op (gV n_34 4 s_31.1) (wt rfl) rfl ?_
                  refine h_op (vI (k_92 : Int)) (wt rfl) rfl ?_
                  obtain ⟨_, hi_105, hc_98⟩ := bind_some hc_98
                  refine h_iavg es62 rfl rfl (inR_0 hi_105) (inR_lt hi_105) (wt rfl) ?_
                  refine h_far pl49_3 rfl 3 rfl (wt rfl) ?_
                  obtain ⟨e_106, hy_107, hc_98⟩ := bind_some hc_98
                  refine h_ldvg 9 4 (.inr (by kernel_rfl)) (fun _ _ ag => ⟨.inl ⟨rfl, rfl⟩, trivial⟩) sz3 ag3 rfl rfl hy_107 (vI e_106.H) rfl (wt rfl) ?_
                  refine h_op (vI (w64 (e_103.H + e_106.H))) (wt rfl) rfl ?_
                  obtain ⟨_, hi_108, hc_98⟩ := bind_some hc_98
                  refine h_iavg es62 rfl rfl (inR_0 hi_108) (inR_lt hi_108) (wt rfl) ?_
                  refine h_far pl49_3 rfl 3 rfl (wt rfl) ?_
                  obtain ⟨e_109, hy_110, hc_98⟩ := bind_some hc_98
                  refine h_stvg 13 (.inr (by kernel_rfl)) (fun _ _ ag => ⟨.inr (.inr (by kernel_rfl)), ⟨.inr (.inr (by kernel_rfl)), trivial⟩⟩) 3 sz3 rfl rfl hy_110 (⟨e_109.X, e_109.Y, e_109.W, (w64 (e_103.H + e_106.H))⟩ : Rect) rfl (wt rfl) ?_
                  refine h_re (v' := (gV n_20 4 (s_97.set (0 + ((k_92 : Int)).toNat) (⟨e_109.X, e_109.Y, e_109.W, (w64 (e_103.H + e_106.H))⟩ : Rect)))) 8 rfl (gV_len (by simp)) ?_
                  refine h_re (v' := (gV n_20 4 (s_97.set (0 + ((k_92 : Int)).toNat) (⟨e_109.X, e_109.Y, e_109.W, (w64 (e_103.H + e_106.H))⟩ : Rect)))) 128 rfl (gV_len (by simp)) ?_
                  refine h_nil ?_
                  refine wH_region ?_
                  refine h_opw (w64_nextr hD_95 hn_96) (wt rfl) rfl ?_
                  refine h_op (vI ((k_92 + 1 : Nat) : Int)) (wt rfl) rfl ?_
                  refine h_nil ?_
                  replace hc_98 := some_inj hc_98
                  subst hc_98
                  exact loop_mk (k_92 + 1, l_93, (s_97.set (0 + ((k_92 : Int)).toNat) (⟨e_109.X, e_109.Y, e_109.W, (w64 (e_103.H + e_106.H))⟩ : Rect))) ⟨hL_99, drop_next hD_95⟩ (Nat.lt_succ_self _) rfl (pre_r rfl)
              · rintro s_97 ho_ sl_ H_ hp_ hq_
                subst ho_
                refine wH_at _ hp_ hq_ ?_
                refine wH_exit ?_
                refine wH_region ?_
                refine h_op (vI s_14.2.2) (wt rfl) rfl ?_
                refine h_op (vI (w64 (s_14.2.2 + 1))) (wt rfl) rfl ?_
                refine h_op (vI (w64 (s_14.2.2 + 1))) (wt rfl) rfl ?_
                refine h_nil ?_
                replace hc_21 := some_inj hc_21
                subst hc_21
                exact loop_mk (k_9, (s_14.1, s_97, (w64 (s_14.2.2 + 1))), n_19, n_20) hL_22 (Nat.lt_succ_self _) rfl (pre_r rfl)
            · refine wH_iff rfl hc_91 ?_
              refine wH_skip ?_
              refine wH_frozg 3 rfl ?_
              refine wH_cog 8 3 rfl rfl ?_
              refine wH_region ?_
              refine h_op (gV n_19 4 s_14.1) (wt rfl) rfl ?_
              refine h_op (vL Rect.enc s_14.2.1) (wt rfl) rfl ?_
              obtain ⟨a_111, hz_112, hc_21⟩ := bind_some hc_21
              refine h_appg 0 (.inl rfl) (fun _ _ _ => trivial) (i := 2) el62 el62 sz49 z49 rfl (by decide) by49 (by decide) (fun _ => rfl) rfl rfl rfl hz_112 (wt rfl) (fun n_113 => ?_)
              refine h_op (gV n_34 4 s_31.1) (wt rfl) rfl ?_
              refine h_op (gV n_113 4 a_111) (wt rfl) rfl ?_
              refine h_op (gV n_34 4 s_31.1) (wt rfl) rfl ?_
              refine h_nil ?_
              refine wH_region ?_
              refine h_op (vI s_14.2.2) (wt rfl) rfl ?_
              refine h_op (vI (w64 (s_14.2.2 + 1))) (wt rfl) rfl ?_
              refine h_op (vI (w64 (s_14.2.2 + 1))) (wt rfl) rfl ?_
              refine h_nil ?_
              replace hc_21 := some_inj hc_21
              subst hc_21
              exact loop_mk (k_9, (a_111, s_31.1, (w64 (s_14.2.2 + 1))), n_113, n_34) hL_22 (Nat.lt_succ_self _) rfl (pre_is [0, 1, 2, 4] (by decide) rfl)
      · refine wH_iff rfl hc_25 ?_
        refine wH_exit ?_
        replace hc_21 := some_inj hc_21
        subst hc_21
        replace hL_22 := some_inj hL_22
        subst hL_22
        exact cut_mk ((s_14.1, s_14.2.1, s_14.2.2), n_19, n_20) rfl rfl (pre_r rfl)
  · rintro ⟨s_14, n_19, n_20⟩ ho_ sl_ H_ hp_ hq_
    subst ho_
    refine wH_at _ hp_ hq_ ?_
    refine wH_seq ?_
    refine wH_frozg 3 rfl ?_
    refine wH_cog 8 3 rfl rfl ?_
    refine wH_region ?_
    refine h_op (gV n_19 4 s_14.1) (wt rfl) rfl ?_
    refine h_op (vL Rect.enc s_14.2.1) (wt rfl) rfl ?_
    obtain ⟨a_115, hz_116, hF⟩ := bind_some hF
    refine h_appg 0 (.inl rfl) (fun _ _ _ => trivial) (i := 2) el62 el62 sz49 z49 rfl (by decide) by49 (by decide) (fun _ => rfl) rfl rfl rfl hz_116 (wt rfl) (fun n_117 => ?_)
    refine h_op (gV n_117 4 a_115) (wt rfl) rfl ?_
    refine h_nil ?_
    refine wH_frozg 2 rfl ?_
    refine wH_cog 4 2 rfl rfl ?_
    refine wH_cog 148 2 rfl rfl ?_
    replace hF := some_inj hF
    subst hF
    refine wH_ret ?_
    exact finB (.inr rfl) [(vL Rect.enc a_115)] _ [0, 1] [extN 0, extN 1] ⟨rfl, trivial⟩ (.cons (co_data rfl rfl) (.nil)) (by kernel_rfl) ⟨(by kernel_rfl), ⟨(by kernel_rfl), trivial⟩⟩ (by decide) (by kernel_rfl)
theorem ref_SeenOf_ok {l_1 : Layout} {r : (List Piece)} (hF : ref_SeenOf l_1 = some r) :
    FnM Tryz.prog 21 [(.d (.agg (Layout.enc l_1)))] [] (vL Piece.enc r) [] := by
  refine FnM.of_wH ⟨Tryz.prog, 49, [], []⟩ rfl Tryz.func21 rfl rfl (Nat.le_of_ble_eq_true rfl) (by kernel_rfl) ?_
  unfold ref_SeenOf at hF
  refine wH_seq ?_
  refine wH_region ?_
  refine h_box 0 (.inl rfl) [(vS l_1.Key), (vI l_1.W), (vI l_1.H), (vL Zone.enc l_1.Zones)] rfl rfl (wt rfl) (fun n_2 => ?_)
  refine h_op .nil (wt rfl) rfl ?_
  refine h_nil ?_
  refine wH_seq ?_
  refine wH_region ?_
  refine h_op .nil (wt rfl) rfl ?_
  refine h_nil ?_
  refine wH_seq ?_
  refine wH_seq ?_
  refine wH_region ?_
  refine h_far pl28_3 rfl 3 rfl (wt rfl) ?_
  refine h_ldr 0 0 (.inl rfl) (fun _ _ _ => trivial) sz26 ag26 rfl rfl (vL Zone.enc l_1.Zones) rfl (wt rfl) ?_
  refine h_len un26 rfl (wt rfl) ?_
  refine h_op (vI 0) (wt rfl) rfl ?_
  refine h_nil ?_
  refine wH_new (fun n_9 => ?_)
  obtain ⟨o_14, hj_15, hF⟩ := bind_some hF
  obtain ⟨hn_7, hj_15⟩ := forL_some hj_15
  refine wH_join (β := ((List Rect)) × Nm) (fun p => (fun (s_8 : (List Rect)) (n_11 : Nm) => ([(1, (.ref n_2 0 0)), (3, (gV n_11 4 s_8))] : List (Nat × V))) p.1 p.2) (fun p => (fun (s_8 : (List Rect)) (n_11 : Nm) => ([(n_2, some (.cells 4 [(vS l_1.Key), (vI l_1.W), (vI l_1.H), (vL Zone.enc l_1.Zones)])), (n_11, gB 4 Rect.enc s_8)] : Hp)) p.1 p.2) (fun p => o_14 = .go p.1) ?_ ?_
  · refine wH_block ?_
    refine wH_loop (β := Nat × (List Zone) × ((List Rect)) × Nm) (fun p => (fun (k_3 : Nat) (l_4 : List Zone) (s_8 : (List Rect)) (n_11 : Nm) => ([(1, (.ref n_2 0 0)), (3, (gV n_11 4 s_8)), (12, (vL Zone.enc l_1.Zones)), (13, (vI (l_1.Zones.length : Int))), (14, (vI (k_3 : Int)))] : List (Nat × V))) p.1 p.2.1 p.2.2.1 p.2.2.2) (fun p => (fun (k_3 : Nat) (l_4 : List Zone) (s_8 : (List Rect)) (n_11 : Nm) => ([(n_2, some (.cells 4 [(vS l_1.Key), (vI l_1.W), (vI l_1.H), (vL Zone.enc l_1.Zones)])), (n_11, gB 4 Rect.enc s_8)] : Hp)) p.1 p.2.1 p.2.2.1 p.2.2.2) (fun p => forR (fun k x s => ref_SeenOf_L1 k x s) p.2.1 p.1 p.2.2.1 = some o_14 ∧ (l_1.Zones).drop p.1 = p.2.1) (fun p => p.2.1.length) (0, l_1.Zones, ([] : List Rect), n_9) ⟨hj_15, rfl⟩ rfl (pre_r rfl) ?_
    rintro ⟨k_3, l_4, s_8, n_11⟩ ⟨hL_13, hD_6⟩
    dsimp only at hL_13 hD_6
    cases l_4 with
    | nil =>
      replace hL_13 := some_inj hL_13
      subst hL_13
      refine wH_seq (wH_region (h_op (vB (decide ((k_3 : Int) < (l_1.Zones.length : Int)))) (wt rfl) rfl (h_nil ?_)))
      refine wH_seq (wH_iff rfl (drop_nil hD_6) (wH_exit ?_))
      exact cut_mk (s_8, n_11) rfl rfl (pre_r rfl)
    | cons x_5 l_4 =>
      obtain ⟨c_, hc_12, hL_13⟩ := bind_some hL_13
      refine wH_seq (wH_region (h_op (vB (decide ((k_3 : Int) < (l_1.Zones.length : Int)))) (wt rfl) rfl (h_nil ?_)))
      refine wH_seq (wH_ift rfl (drop_cons hD_6) (wH_skip ?_))
      unfold ref_SeenOf_L1 at hc_12
      refine wH_seq ?_
      refine wH_block ?_
      refine wH_seq ?_
      refine wH_region ?_
      refine h_ia es26 rfl rfl (drop_idx hD_6) rfl (wt rfl) ?_
      refine h_ldc sz107 ag107 rfl (.d (.agg (Zone.enc x_5))) rfl (wt rfl) ?_
      refine h_alloc 0 (.inl rfl) z107 rfl (wt rfl) (fun n_16 => ?_)
      refine h_str 0 (.inl rfl) (fun _ _ _ => trivial) 2 sz107 rfl rfl [(vS x_5.Key), (vI x_5.On.X), (vI x_5.On.Y), (vI x_5.On.W), (vI x_5.On.H), (vI x_5.Order)] rfl (wt rfl) ?_
      refine h_nil ?_
      refine wH_region ?_
      refine h_op (gV n_11 4 s_8) (wt rfl) rfl ?_
      refine h_far pl107_1 rfl 1 rfl (wt rfl) ?_
      refine h_ldr 0 2 (.inl rfl) (fun _ _ _ => trivial) sz49 ag49 rfl rfl (.d (.agg (Rect.enc x_5.On))) rfl (wt rfl) ?_
      refine h_lit (([x_5.On] : List Rect).map Rect.enc) es62 ez62 rfl rfl rfl rfl rfl (wt rfl) ?_
      obtain ⟨a_17, hz_18, hc_12⟩ := bind_some hc_12
      refine h_appg 0 (.inl rfl) (fun _ _ _ => trivial) (i := 1) el62 el62 sz49 z49 rfl (by decide) by49 (by decide) (fun _ => rfl) rfl rfl rfl hz_18 (wt rfl) (fun n_19 => ?_)
      refine h_op (gV n_19 4 a_17) (wt rfl) rfl ?_
      refine h_nil ?_
      refine wH_region ?_
      refine h_opw (w64_next hD_6 hn_7) (wt rfl) rfl ?_
      refine h_op (vI ((k_3 + 1 : Nat) : Int)) (wt rfl) rfl ?_
      refine h_nil ?_
      replace hc_12 := some_inj hc_12
      subst hc_12
      exact loop_mk (k_3 + 1, l_4, a_17, n_19) ⟨hL_13, drop_next hD_6⟩ (Nat.lt_succ_self _) rfl (pre_r rfl)
  · rintro ⟨s_8, n_11⟩ ho_ sl_ H_ hp_ hq_
    subst ho_
    refine wH_at _ hp_ hq_ ?_
    refine wH_seq ?_
    refine wH_region ?_
    refine h_op .nil (wt rfl) rfl ?_
    refine h_nil ?_
    refine wH_seq ?_
    refine wH_seq ?_
    refine wH_frozg 1 rfl ?_
    refine wH_cog 3 1 rfl rfl ?_
    refine wH_region ?_
    refine h_far pl28_3 rfl 3 rfl (wt rfl) ?_
    refine h_ldr 0 0 (.inl rfl) (fun _ _ _ => trivial) sz26 ag26 rfl rfl (vL Zone.enc l_1.Zones) rfl (wt rfl) ?_
    refine h_len un26 rfl (wt rfl) ?_
    refine h_op (vI 0) (wt rfl) rfl ?_
    refine h_nil ?_
    refine wH_new (fun n_26 => ?_)
    obtain ⟨o_31, hj_32, hF⟩ := bind_some hF
    obtain ⟨hn_24, hj_32⟩ := forL_some hj_32
    refine wH_join (β := ((List Piece)) × Nm) (fun p => (fun (s_25 : (List Piece)) (n_28 : Nm) => ([(6, (gV n_28 5 s_25))] : List (Nat × V))) p.1 p.2) (fun p => (fun (s_25 : (List Piece)) (n_28 : Nm) => ([(n_2, some (.cells 4 [(vS l_1.Key), (vI l_1.W), (vI l_1.H), (vL Zone.enc l_1.Zones)])), (n_11, gF 4 Rect.enc s_8), (n_28, gB 5 Piece.enc s_25)] : Hp)) p.1 p.2) (fun p => o_31 = .go p.1) ?_ ?_
    · refine wH_block ?_
      refine wH_loop (β := Nat × (List Zone) × ((List Piece)) × Nm) (fun p => (fun (k_20 : Nat) (l_21 : List Zone) (s_25 : (List Piece)) (n_28 : Nm) => ([(1, (.ref n_2 0 0)), (3, (vL Rect.enc s_8)), (6, (gV n_28 5 s_25)), (25, (vL Zone.enc l_1.Zones)), (26, (vI (l_1.Zones.length : Int))), (27, (vI (k_20 : Int)))] : List (Nat × V))) p.1 p.2.1 p.2.2.1 p.2.2.2) (fun p => (fun (k_20 : Nat) (l_21 : List Zone) (s_25 : (List Piece)) (n_28 : Nm) => ([(n_2, some (.cells 4 [(vS l_1.Key), (vI l_1.W), (vI l_1.H), (vL Zone.enc l_1.Zones)])), (n_11, gF 4 Rect.enc s_8), (n_28, gB 5 Piece.enc s_25)] : Hp)) p.1 p.2.1 p.2.2.1 p.2.2.2) (fun p => forR (fun k x s => ref_SeenOf_L3 s_8 l_1 k x s) p.2.1 p.1 p.2.2.1 = some o_31 ∧ (l_1.Zones).drop p.1 = p.2.1) (fun p => p.2.1.length) (0, l_1.Zones, ([] : List Piece), n_26) ⟨hj_32, rfl⟩ rfl (pre_r rfl) ?_
      rintro ⟨k_20, l_21, s_25, n_28⟩ ⟨hL_30, hD_23⟩
      dsimp only at hL_30 hD_23
      cases l_21 with
      | nil =>
        replace hL_30 := some_inj hL_30
        subst hL_30
        refine wH_seq (wH_region (h_op (vB (decide ((k_20 : Int) < (l_1.Zones.length : Int)))) (wt rfl) rfl (h_nil ?_)))
        refine wH_seq (wH_iff rfl (drop_nil hD_23) (wH_exit ?_))
        exact cut_mk (s_25, n_28) rfl rfl (pre_r rfl)
      | cons x_22 l_21 =>
        obtain ⟨c_, hc_29, hL_30⟩ := bind_some hL_30
        refine wH_seq (wH_region (h_op (vB (decide ((k_20 : Int) < (l_1.Zones.length : Int)))) (wt rfl) rfl (h_nil ?_)))
        refine wH_seq (wH_ift rfl (drop_cons hD_23) (wH_skip ?_))
        unfold ref_SeenOf_L3 at hc_29
        refine wH_seq ?_
        refine wH_block ?_
        refine wH_seq ?_
        refine wH_region ?_
        refine h_ia es26 rfl rfl (drop_idx hD_23) rfl (wt rfl) ?_
        refine h_ldc sz107 ag107 rfl (.d (.agg (Zone.enc x_22))) rfl (wt rfl) ?_
        refine h_alloc 0 (.inl rfl) z107 rfl (wt rfl) (fun n_33 => ?_)
        refine h_str 0 (.inl rfl) (fun _ _ _ => trivial) 3 sz107 rfl rfl [(vS x_22.Key), (vI x_22.On.X), (vI x_22.On.Y), (vI x_22.On.W), (vI x_22.On.H), (vI x_22.Order)] rfl (wt rfl) ?_
        refine h_nil ?_
        refine wH_seq ?_
        refine wH_region ?_
        refine h_op (vL Rect.enc s_8) (wt rfl) rfl ?_
        refine h_op (.fn 77 [(.ref n_2 0 0), (.ref n_33 0 0)]) (wt rfl) rfl ?_
        obtain ⟨r_34, hr_35, hc_29⟩ := bind_some hc_29
        refine h_callq 0 [0, 3] (.inl rfl) (fun _ _ _ => trivial) (ref_regionOf_v1_ok hr_35) rfl hb76 rfl (by kernel_rfl) (by kernel_rfl) (by kernel_rfl) (by kernel_rfl) (by kernel_rfl) (by kernel_rfl) (by kernel_rfl) (by decide) (by kernel_rfl) (wt rfl) (vL Rect.enc r_34) (by kernel_rfl) ([(n_2, some (.cells 4 [(vS l_1.Key), (vI l_1.W), (vI l_1.H), (vL Zone.enc l_1.Zones)])), (n_11, gF 4 Rect.enc s_8), (n_28, gB 5 Piece.enc s_25), (n_33, some (.cells 6 [(vS x_22.Key), (vI x_22.On.X), (vI x_22.On.Y), (vI x_22.On.W), (vI x_22.On.H), (vI x_22.Order)]))] : Hp) (by kernel_rfl) ?_
        refine h_len un62 rfl (wt rfl) ?_
        refine h_op (vI 0) (wt rfl) rfl ?_
        refine h_nil ?_
        obtain ⟨o_47, hj_48, hc_29⟩ := bind_some hc_29
        obtain ⟨hn_41, hj_48⟩ := forL_some hj_48
        refine wH_join (β := ((List Piece)) × Nm) (fun p => (fun (s_42 : (List Piece)) (n_44 : Nm) => ([(1, (.ref n_2 0 0)), (3, (vL Rect.enc s_8)), (6, (gV n_44 5 s_42)), (25, (vL Zone.enc l_1.Zones)), (26, (vI (l_1.Zones.length : Int))), (27, (vI (k_20 : Int)))] : List (Nat × V))) p.1 p.2) (fun p => (fun (s_42 : (List Piece)) (n_44 : Nm) => ([(n_2, some (.cells 4 [(vS l_1.Key), (vI l_1.W), (vI l_1.H), (vL Zone.enc l_1.Zones)])), (n_11, gF 4 Rect.enc s_8), (n_44, gB 5 Piece.enc s_42), (n_33, some (.cells 6 [(vS x_22.Key), (vI x_22.On.X), (vI x_22.On.Y), (vI x_22.On.W), (vI x_22.On.H), (vI x_22.Order)]))] : Hp)) p.1 p.2) (fun p => o_47 = .go p.1) ?_ ?_
        · refine wH_block ?_
          refine wH_loop (β := Nat × (List Rect) × ((List Piece)) × Nm) (fun p => (fun (k_37 : Nat) (l_38 : List Rect) (s_42 : (List Piece)) (n_44 : Nm) => ([(1, (.ref n_2 0 0)), (3, (vL Rect.enc s_8)), (6, (gV n_44 5 s_42)), (8, (.ref n_33 0 0)), (25, (vL Zone.enc l_1.Zones)), (26, (vI (l_1.Zones.length : Int))), (27, (vI (k_20 : Int))), (33, (vL Rect.enc r_34)), (34, (vI (r_34.length : Int))), (35, (vI (k_37 : Int)))] : List (Nat × V))) p.1 p.2.1 p.2.2.1 p.2.2.2) (fun p => (fun (k_37 : Nat) (l_38 : List Rect) (s_42 : (List Piece)) (n_44 : Nm) => ([(n_2, some (.cells 4 [(vS l_1.Key), (vI l_1.W), (vI l_1.H), (vL Zone.enc l_1.Zones)])), (n_11, gF 4 Rect.enc s_8), (n_44, gB 5 Piece.enc s_42), (n_33, some (.cells 6 [(vS x_22.Key), (vI x_22.On.X), (vI x_22.On.Y), (vI x_22.On.W), (vI x_22.On.H), (vI x_22.Order)]))] : Hp)) p.1 p.2.1 p.2.2.1 p.2.2.2) (fun p => forR (fun k x s => ref_SeenOf_L2 x_22 k x s) p.2.1 p.1 p.2.2.1 = some o_47 ∧ (r_34).drop p.1 = p.2.1) (fun p => p.2.1.length) (0, r_34, s_25, n_28) ⟨hj_48, rfl⟩ rfl (pre_r rfl) ?_
          rintro ⟨k_37, l_38, s_42, n_44⟩ ⟨hL_46, hD_40⟩
          dsimp only at hL_46 hD_40
          cases l_38 with
          | nil =>
            replace hL_46 := some_inj hL_46
            subst hL_46
            refine wH_seq (wH_region (h_op (vB (decide ((k_37 : Int) < (r_34.length : Int)))) (wt rfl) rfl (h_nil ?_)))
            refine wH_seq (wH_iff rfl (drop_nil hD_40) (wH_exit ?_))
            exact cut_mk (s_42, n_44) rfl rfl (pre_r rfl)
          | cons x_39 l_38 =>
            obtain ⟨c_, hc_45, hL_46⟩ := bind_some hL_46
            refine wH_seq (wH_region (h_op (vB (decide ((k_37 : Int) < (r_34.length : Int)))) (wt rfl) rfl (h_nil ?_)))
            refine wH_seq (wH_ift rfl (drop_cons hD_40) (wH_skip ?_))
            unfold ref_SeenOf_L2 at hc_45
            refine wH_seq ?_
            refine wH_block ?_
            refine wH_seq ?_
            refine wH_region ?_
            refine h_ia es62 rfl rfl (drop_idx hD_40) rfl (wt rfl) ?_
            refine h_ldc sz49 ag49 rfl (.d (.agg (Rect.enc x_39))) rfl (wt rfl) ?_
            refine h_alloc 0 (.inl rfl) z49 rfl (wt rfl) (fun n_49 => ?_)
            refine h_str 0 (.inl rfl) (fun _ _ _ => trivial) 4 sz49 rfl rfl [(vI x_39.X), (vI x_39.Y), (vI x_39.W), (vI x_39.H)] rfl (wt rfl) ?_
            refine h_nil ?_
            refine wH_region ?_
            refine h_op (gV n_44 5 s_42) (wt rfl) rfl ?_
            refine h_far pl107_0 rfl 0 rfl (wt rfl) ?_
            refine h_ldr 0 3 (.inl rfl) (fun _ _ _ => trivial) sz9 ag9 rfl rfl (vS x_22.Key) rfl (wt rfl) ?_
            refine h_ldr 0 4 (.inl rfl) (fun _ _ _ => trivial) sz49 ag49 rfl rfl (.d (.agg (Rect.enc x_39))) rfl (wt rfl) ?_
            refine h_op (.d (.agg (Piece.enc (⟨x_22.Key, x_39⟩ : Piece)))) (wt rfl) (by kernel_rfl) ?_
            refine h_lit (([(⟨x_22.Key, x_39⟩ : Piece)] : List Piece).map Piece.enc) es35 ez35 rfl rfl rfl rfl rfl (wt rfl) ?_
            obtain ⟨a_50, hz_51, hc_45⟩ := bind_some hc_45
            refine h_appg 0 (.inl rfl) (fun _ _ _ => trivial) (i := 2) el35 el35 sz51 z51 rfl (by decide) by51 (by decide) (fun _ => rfl) rfl rfl rfl hz_51 (wt rfl) (fun n_52 => ?_)
            refine h_op (gV n_52 5 a_50) (wt rfl) rfl ?_
            refine h_nil ?_
            refine wH_region ?_
            refine h_opw (w64_next hD_40 hn_41) (wt rfl) rfl ?_
            refine h_op (vI ((k_37 + 1 : Nat) : Int)) (wt rfl) rfl ?_
            refine h_nil ?_
            replace hc_45 := some_inj hc_45
            subst hc_45
            exact loop_mk (k_37 + 1, l_38, a_50, n_52) ⟨hL_46, drop_next hD_40⟩ (Nat.lt_succ_self _) rfl (pre_r rfl)
        · rintro ⟨s_42, n_44⟩ ho_ sl_ H_ hp_ hq_
          subst ho_
          refine wH_at _ hp_ hq_ ?_
          refine wH_region ?_
          refine h_opw (w64_next hD_23 hn_24) (wt rfl) rfl ?_
          refine h_op (vI ((k_20 + 1 : Nat) : Int)) (wt rfl) rfl ?_
          refine h_nil ?_
          replace hc_29 := some_inj hc_29
          subst hc_29
          exact loop_mk (k_20 + 1, l_21, s_42, n_44) ⟨hL_30, drop_next hD_23⟩ (Nat.lt_succ_self _) rfl (pre_r rfl)
    · rintro ⟨s_25, n_28⟩ ho_ sl_ H_ hp_ hq_
      subst ho_
      refine wH_at _ hp_ hq_ ?_
      refine wH_seq ?_
      refine wH_region ?_
      refine h_op (gV n_28 5 s_25) (wt rfl) rfl ?_
      refine h_op (gV n_28 5 s_25) (wt rfl) rfl ?_
      refine h_nil ?_
      refine wH_frozg 2 rfl ?_
      refine wH_cog 2 2 rfl rfl ?_
      refine wH_cog 6 2 rfl rfl ?_
      refine wH_cog 48 2 rfl rfl ?_
      replace hF := some_inj hF
      subst hF
      refine wH_ret ?_
      exact fin0 (.inr rfl) [(vL Piece.enc s_25)] ⟨rfl, trivial⟩ rfl rfl rfl
theorem slices_Equal_api_Piece_api_Piece_ok {s1_1 : (List Piece)} {s2_2 : (List Piece)} {r : Bool} (hF : slices_Equal_api_Piece_api_Piece s1_1 s2_2 = some r) :
    FnM Tryz.prog 20 [(vL Piece.enc s1_1), (vL Piece.enc s2_2)] [] (vB r) [] := by
  refine FnM.of_wH ⟨Tryz.prog, 26, [], []⟩ rfl Tryz.func20 rfl rfl (Nat.le_of_ble_eq_true rfl) (by kernel_rfl) ?_
  unfold slices_Equal_api_Piece_api_Piece at hF
  refine wH_seq ?_
  refine wH_region ?_
  refine h_op (vB false) (wt rfl) rfl ?_
  refine h_nil ?_
  refine wH_seq ?_
  refine wH_seq ?_
  refine wH_region ?_
  refine h_op (vL Piece.enc s1_1) (wt rfl) rfl ?_
  refine h_len un35 rfl (wt rfl) ?_
  refine h_op (vL Piece.enc s2_2) (wt rfl) rfl ?_
  refine h_len un35 rfl (wt rfl) ?_
  refine h_op (vB ((s1_1.length : Int) != (s2_2.length : Int))) (wt rfl) rfl ?_
  refine h_nil ?_
  rcases cond_some hF with ⟨hc_3, hF⟩ | ⟨hc_3, hF⟩
  · refine wH_ift rfl hc_3 ?_
    refine wH_seq ?_
    refine wH_region ?_
    refine h_op (vB false) (wt rfl) rfl ?_
    refine h_nil ?_
    replace hF := some_inj hF
    subst hF
    refine wH_ret ?_
    exact fin0 (.inr rfl) [(vB false)] ⟨rfl, trivial⟩ rfl rfl rfl
  · refine wH_iff rfl hc_3 ?_
    refine wH_skip ?_
    refine wH_seq ?_
    refine wH_seq ?_
    refine wH_region ?_
    refine h_op (vL Piece.enc s1_1) (wt rfl) rfl ?_
    refine h_len un35 rfl (wt rfl) ?_
    refine h_op (vI 0) (wt rfl) rfl ?_
    refine h_nil ?_
    obtain ⟨o_12, hj_13, hF⟩ := bind_some hF
    obtain ⟨hn_8, hj_13⟩ := forL_some hj_13
    refine wH_join (β := (Unit)) (fun (s_9 : Unit) => ([] : List (Nat × V))) (fun (s_9 : Unit) => ([] : Hp)) (fun p => o_12 = .go p) ?_ ?_
    · refine wH_block ?_
      refine wH_loop (β := Nat × (List Piece) × (Unit)) (fun p => (fun (k_4 : Nat) (l_5 : List Piece) (s_9 : Unit) => ([(0, (vL Piece.enc s1_1)), (1, (vL Piece.enc s2_2)), (12, (vI (s1_1.length : Int))), (13, (vI (k_4 : Int)))] : List (Nat × V))) p.1 p.2.1 p.2.2) (fun p => (fun (k_4 : Nat) (l_5 : List Piece) (s_9 : Unit) => ([] : Hp)) p.1 p.2.1 p.2.2) (fun p => forR (fun k x s => slices_Equal_api_Piece_api_Piece_L1 s2_2 k x s) p.2.1 p.1 p.2.2 = some o_12 ∧ (s1_1).drop p.1 = p.2.1) (fun p => p.2.1.length) (0, s1_1, ()) ⟨hj_13, rfl⟩ rfl (pre_r rfl) ?_
      rintro ⟨k_4, l_5, s_9⟩ ⟨hL_11, hD_7⟩
      dsimp only at hL_11 hD_7
      cases l_5 with
      | nil =>
        replace hL_11 := some_inj hL_11
        subst hL_11
        refine wH_seq (wH_region (h_op (vB (decide ((k_4 : Int) < (s1_1.length : Int)))) (wt rfl) rfl (h_nil ?_)))
        refine wH_seq (wH_iff rfl (drop_nil hD_7) (wH_exit ?_))
        exact cut_mk (s_9) rfl rfl (pre_r rfl)
      | cons x_6 l_5 =>
        obtain ⟨c_, hc_10, hL_11⟩ := bind_some hL_11
        refine wH_seq (wH_region (h_op (vB (decide ((k_4 : Int) < (s1_1.length : Int)))) (wt rfl) rfl (h_nil ?_)))
        refine wH_seq (wH_ift rfl (drop_cons hD_7) (wH_skip ?_))
        unfold slices_Equal_api_Piece_api_Piece_L1 at hc_10
        refine wH_seq ?_
        refine wH_block ?_
        refine wH_seq ?_
        refine wH_region ?_
        refine h_op (vI (k_4 : Int)) (wt rfl) rfl ?_
        refine h_op (vI (k_4 : Int)) (wt rfl) rfl ?_
        refine h_nil ?_
        refine wH_seq ?_
        refine wH_draws ?_
        refine h_op (vL Piece.enc s1_1) (wt rfl) rfl ?_
        refine h_op (vI (k_4 : Int)) (wt rfl) rfl ?_
        refine h_ia es35 rfl rfl (drop_idx hD_7) rfl (wt rfl) ?_
        refine h_ldc sz51 ag51 rfl (.d (.agg (Piece.enc x_6))) rfl (wt rfl) ?_
        refine h_op (vL Piece.enc s2_2) (wt rfl) rfl ?_
        refine h_op (vI (k_4 : Int)) (wt rfl) rfl ?_
        obtain ⟨y_14, hy_15, hc_10⟩ := bind_some hc_10
        refine h_ia es35 rfl rfl hy_15 rfl (wt rfl) ?_
        refine h_ldc sz51 ag51 rfl (.d (.agg (Piece.enc y_14))) rfl (wt rfl) ?_
        refine h_op (vB (!((x_6.Zone.toList == y_14.Zone.toList) && (((x_6.On.X == y_14.On.X) && ((x_6.On.Y == y_14.On.Y) && ((x_6.On.W == y_14.On.W) && ((x_6.On.H == y_14.On.H) && true)))) && true)))) (wt rfl) (by kernel_rfl) ?_
        refine h_nil ?_
        rcases cond_some hc_10 with ⟨hc_16, hc_10⟩ | ⟨hc_16, hc_10⟩
        · refine wH_ift rfl hc_16 ?_
          refine wH_seq ?_
          refine wH_region ?_
          refine h_op (vB false) (wt rfl) rfl ?_
          refine h_nil ?_
          replace hc_10 := some_inj hc_10
          subst hc_10
          replace hL_11 := some_inj hL_11
          subst hL_11
          replace hF := some_inj hF
          subst hF
          refine wH_ret ?_
          exact fin0 (.inr rfl) [(vB false)] ⟨rfl, trivial⟩ rfl rfl rfl
        · refine wH_iff rfl hc_16 ?_
          refine wH_skip ?_
          refine wH_region ?_
          refine h_opw (w64_next hD_7 hn_8) (wt rfl) rfl ?_
          refine h_op (vI ((k_4 + 1 : Nat) : Int)) (wt rfl) rfl ?_
          refine h_nil ?_
          replace hc_10 := some_inj hc_10
          subst hc_10
          exact loop_mk (k_4 + 1, l_5, ()) ⟨hL_11, drop_next hD_7⟩ (Nat.lt_succ_self _) rfl (pre_r rfl)
    · rintro s_9 ho_ sl_ H_ hp_ hq_
      subst ho_
      refine wH_at _ hp_ hq_ ?_
      refine wH_seq ?_
      refine wH_region ?_
      refine h_op (vB true) (wt rfl) rfl ?_
      refine h_nil ?_
      replace hF := some_inj hF
      subst hF
      refine wH_ret ?_
      exact fin0 (.inr rfl) [(vB true)] ⟨rfl, trivial⟩ rfl rfl rfl
theorem ref_CoveredOf_1_ok {p_1 : Piece} {p_2 : Zone} {r : Bool} (hF : ref_CoveredOf_1 p_1 p_2 = some r) :
    FnM Tryz.prog 79 [(.d (.agg (Piece.enc p_1))), (.ref (extN 0) 0 0)] [(.cells 6 [(vS p_2.Key), (vI p_2.On.X), (vI p_2.On.Y), (vI p_2.On.W), (vI p_2.On.H), (vI p_2.Order)])] (vB r) [some (.cells 6 [(vS p_2.Key), (vI p_2.On.X), (vI p_2.On.Y), (vI p_2.On.W), (vI p_2.On.H), (vI p_2.Order)])] := by
  refine FnM.of_wH ⟨Tryz.prog, 9, [], []⟩ rfl Tryz.func79 rfl rfl (Nat.le_of_ble_eq_true rfl) (by kernel_rfl) ?_
  unfold ref_CoveredOf_1 at hF
  refine wH_seq ?_
  refine wH_region ?_
  refine h_box 0 (.inl rfl) [(vS p_1.Zone), (vI p_1.On.X), (vI p_1.On.Y), (vI p_1.On.W), (vI p_1.On.H)] rfl rfl (wt rfl) (fun n_3 => ?_)
  refine h_op (vB false) (wt rfl) rfl ?_
  refine h_nil ?_
  refine wH_seq ?_
  refine wH_region ?_
  refine h_far pl51_0 rfl 0 rfl (wt rfl) ?_
  refine h_ldr 0 1 (.inl rfl) (fun _ _ _ => trivial) sz9 ag9 rfl rfl (vS p_1.Zone) rfl (wt rfl) ?_
  refine h_far pl107_0 rfl 0 rfl (wt rfl) ?_
  refine h_ldr 0 0 (.inl rfl) (fun _ _ _ => trivial) sz9 ag9 rfl rfl (vS p_2.Key) rfl (wt rfl) ?_
  refine h_op (vB (sEq p_1.Zone p_2.Key)) (wt rfl) rfl ?_
  refine h_op (vB (sEq p_1.Zone p_2.Key)) (wt rfl) rfl ?_
  refine h_nil ?_
  replace hF := some_inj hF
  subst hF
  refine wH_ret ?_
  exact finB (.inr rfl) [(vB (sEq p_1.Zone p_2.Key))] _ [0] [extN 0] ⟨rfl, trivial⟩ (.cons (co_data rfl rfl) (.nil)) (by kernel_rfl) ⟨(by kernel_rfl), trivial⟩ (by decide) (by kernel_rfl)
theorem slices_IndexFunc_api_Piece_api_Piece_ok {s_1 : (List Piece)} {f_2 : Piece → Option Bool} {r : Int} {gid : FuncId} {caps : List V} {Sin : List Box} (hfn : ∀ x0 r, f_2 x0 = some r → FnM Tryz.prog gid ([(.d (.agg (Piece.enc x0)))] ++ caps) Sin (vB r) (Sin.map some)) (hbF : hasBody Tryz.prog gid = true) (hcapF : caps.flatMap frz = [] ∧ caps.map co0 = caps) (hokF : okL Sin.length caps = true) (hsF : ∀ b ∈ Sin, b.ok Sin.length = true) (hmF : ∀ b ∈ Sin, b.mut = true) (hF : slices_IndexFunc_api_Piece_api_Piece s_1 f_2 = some r) :
    FnM Tryz.prog 117 [(vL Piece.enc s_1), (.fn gid caps)] Sin (vI r) (Sin.map some) := by
  refine FnM.of_wH ⟨Tryz.prog, 19, [], []⟩ rfl Tryz.func117 rfl rfl (Nat.le_of_ble_eq_true rfl) (by kernel_rfl) ?_
  unfold slices_IndexFunc_api_Piece_api_Piece at hF
  refine wH_seq ?_
  refine wH_region ?_
  refine h_op (vI 0) (wt rfl) rfl ?_
  refine h_nil ?_
  refine wH_seq ?_
  refine wH_seq ?_
  refine wH_region ?_
  refine h_op (vL Piece.enc s_1) (wt rfl) rfl ?_
  refine h_len un35 rfl (wt rfl) ?_
  refine h_op (vI 0) (wt rfl) rfl ?_
  refine h_nil ?_
  obtain ⟨o_11, hj_12, hF⟩ := bind_some hF
  obtain ⟨hn_7, hj_12⟩ := forL_some hj_12
  refine wH_join (β := (Unit)) (fun (s_8 : Unit) => ([] : List (Nat × V))) (fun (s_8 : Unit) => (initH 0 Sin)) (fun p => o_11 = .go p) ?_ ?_
  · refine wH_block ?_
    refine wH_loop (β := Nat × (List Piece) × (Unit)) (fun p => (fun (k_3 : Nat) (l_4 : List Piece) (s_8 : Unit) => ([(0, (vL Piece.enc s_1)), (1, (.fn gid caps)), (7, (vI (s_1.length : Int))), (8, (vI (k_3 : Int)))] : List (Nat × V))) p.1 p.2.1 p.2.2) (fun p => (fun (k_3 : Nat) (l_4 : List Piece) (s_8 : Unit) => (initH 0 Sin)) p.1 p.2.1 p.2.2) (fun p => forR (fun k x s => slices_IndexFunc_api_Piece_api_Piece_L1 f_2 k x s) p.2.1 p.1 p.2.2 = some o_11 ∧ (s_1).drop p.1 = p.2.1) (fun p => p.2.1.length) (0, s_1, ()) ⟨hj_12, rfl⟩ rfl (pre_self _) ?_
    rintro ⟨k_3, l_4, s_8⟩ ⟨hL_10, hD_6⟩
    dsimp only at hL_10 hD_6
    cases l_4 with
    | nil =>
      replace hL_10 := some_inj hL_10
      subst hL_10
      refine wH_seq (wH_region (h_op (vB (decide ((k_3 : Int) < (s_1.length : Int)))) (wt rfl) rfl (h_nil ?_)))
      refine wH_seq (wH_iff rfl (drop_nil hD_6) (wH_exit ?_))
      exact cut_mk (s_8) rfl rfl (pre_self _)
    | cons x_5 l_4 =>
      obtain ⟨c_, hc_9, hL_10⟩ := bind_some hL_10
      refine wH_seq (wH_region (h_op (vB (decide ((k_3 : Int) < (s_1.length : Int)))) (wt rfl) rfl (h_nil ?_)))
      refine wH_seq (wH_ift rfl (drop_cons hD_6) (wH_skip ?_))
      unfold slices_IndexFunc_api_Piece_api_Piece_L1 at hc_9
      refine wH_seq ?_
      refine wH_block ?_
      refine wH_seq ?_
      refine wH_region ?_
      refine h_op (vI (k_3 : Int)) (wt rfl) rfl ?_
      refine h_op (vI (k_3 : Int)) (wt rfl) rfl ?_
      refine h_nil ?_
      refine wH_seq ?_
      refine wH_region ?_
      refine h_op (.fn gid caps) (wt rfl) rfl ?_
      refine h_op (vL Piece.enc s_1) (wt rfl) rfl ?_
      refine h_op (vI (k_3 : Int)) (wt rfl) rfl ?_
      refine h_ia es35 rfl rfl (drop_idx hD_6) rfl (wt rfl) ?_
      refine h_ldc sz51 ag51 rfl (.d (.agg (Piece.enc x_5))) rfl (wt rfl) ?_
      obtain ⟨r_13, hr_14, hc_9⟩ := bind_some hc_9
      refine h_callS (hfn _ _ hr_14) rfl hbF rfl rfl hcapF hokF hsF hmF rfl (wt rfl) rfl ?_
      refine h_nil ?_
      rcases cond_some hc_9 with ⟨hc_15, hc_9⟩ | ⟨hc_15, hc_9⟩
      · refine wH_ift rfl hc_15 ?_
        refine wH_seq ?_
        refine wH_region ?_
        refine h_op (vI (k_3 : Int)) (wt rfl) rfl ?_
        refine h_op (vI (k_3 : Int)) (wt rfl) rfl ?_
        refine h_nil ?_
        replace hc_9 := some_inj hc_9
        subst hc_9
        replace hL_10 := some_inj hL_10
        subst hL_10
        replace hF := some_inj hF
        subst hF
        refine wH_ret ?_
        exact finS hsF (.inr rfl) [(vI (k_3 : Int))] ⟨rfl, trivial⟩ rfl rfl rfl
      · refine wH_iff rfl hc_15 ?_
        refine wH_skip ?_
        refine wH_region ?_
        refine h_opw (w64_next hD_6 hn_7) (wt rfl) rfl ?_
        refine h_op (vI ((k_3 + 1 : Nat) : Int)) (wt rfl) rfl ?_
        refine h_nil ?_
        replace hc_9 := some_inj hc_9
        subst hc_9
        exact loop_mk (k_3 + 1, l_4, ()) ⟨hL_10, drop_next hD_6⟩ (Nat.lt_succ_self _) rfl (pre_self _)
  · rintro s_8 ho_ sl_ H_ hp_ hq_
    subst ho_
    refine wH_at _ hp_ hq_ ?_
    refine wH_seq ?_
    refine wH_region ?_
    refine h_op (vI (-1)) (wt rfl) rfl ?_
    refine h_nil ?_
    replace hF := some_inj hF
    subst hF
    refine wH_ret ?_
    exact finS hsF (.inr rfl) [(vI (-1))] ⟨rfl, trivial⟩ rfl rfl rfl
theorem slices_ContainsFunc_api_Piece_api_Piece_ok {s_1 : (List Piece)} {f_2 : Piece → Option Bool} {r : Bool} {gid : FuncId} {caps : List V} {Sin : List Box} (hfn : ∀ x0 r, f_2 x0 = some r → FnM Tryz.prog gid ([(.d (.agg (Piece.enc x0)))] ++ caps) Sin (vB r) (Sin.map some)) (hbF : hasBody Tryz.prog gid = true) (hcapF : caps.flatMap frz = [] ∧ caps.map co0 = caps) (hokF : okL Sin.length caps = true) (hsF : ∀ b ∈ Sin, b.ok Sin.length = true) (hmF : ∀ b ∈ Sin, b.mut = true) (hF : slices_ContainsFunc_api_Piece_api_Piece s_1 f_2 = some r) :
    FnM Tryz.prog 78 [(vL Piece.enc s_1), (.fn gid caps)] Sin (vB r) (Sin.map some) := by
  refine FnM.of_wH ⟨Tryz.prog, 9, [], []⟩ rfl Tryz.func78 rfl rfl (Nat.le_of_ble_eq_true rfl) (by kernel_rfl) ?_
  unfold slices_ContainsFunc_api_Piece_api_Piece at hF
  refine wH_seq ?_
  refine wH_region ?_
  refine h_op (vB false) (wt rfl) rfl ?_
  refine h_nil ?_
  refine wH_seq ?_
  refine wH_region ?_
  refine h_op (vL Piece.enc s_1) (wt rfl) rfl ?_
  refine h_op (.fn gid caps) (wt rfl) rfl ?_
  obtain ⟨r_3, hr_4, hF⟩ := bind_some hF
  refine h_callS (slices_IndexFunc_api_Piece_api_Piece_ok (gid := gid) (caps := caps) (Sin := Sin) hfn hbF hcapF hokF hsF hmF hr_4) rfl hb117 rfl rfl ⟨rfl, rfl⟩ (by simp [okL, okV, hokF]) hsF hmF rfl (wt rfl) rfl ?_
  refine h_op (vB (decide (r_3 ≥ 0))) (wt rfl) rfl ?_
  refine h_op (vB (decide (r_3 ≥ 0))) (wt rfl) rfl ?_
  refine h_nil ?_
  replace hF := some_inj hF
  subst hF
  refine wH_ret ?_
  exact finS hsF (.inr rfl) [(vB (decide (r_3 ≥ 0)))] ⟨rfl, trivial⟩ rfl rfl rfl
theorem ref_CoveredOf_ok {l_1 : Layout} {r : (List ByteArray)} (hF : ref_CoveredOf l_1 = some r) :
    FnM Tryz.prog 23 [(.d (.agg (Layout.enc l_1)))] [] (vL eS r) [] := by
  refine FnM.of_wH ⟨Tryz.prog, 25, [], []⟩ rfl Tryz.func23 rfl rfl (Nat.le_of_ble_eq_true rfl) (by kernel_rfl) ?_
  unfold ref_CoveredOf at hF
  refine wH_seq ?_
  refine wH_region ?_
  refine h_box 0 (.inl rfl) [(vS l_1.Key), (vI l_1.W), (vI l_1.H), (vL Zone.enc l_1.Zones)] rfl rfl (wt rfl) (fun n_2 => ?_)
  refine h_op .nil (wt rfl) rfl ?_
  refine h_nil ?_
  refine wH_seq ?_
  refine wH_region ?_
  refine h_op .nil (wt rfl) rfl ?_
  refine h_nil ?_
  refine wH_seq ?_
  refine wH_seq ?_
  refine wH_region ?_
  refine h_far pl28_3 rfl 3 rfl (wt rfl) ?_
  refine h_ldr 0 0 (.inl rfl) (fun _ _ _ => trivial) sz26 ag26 rfl rfl (vL Zone.enc l_1.Zones) rfl (wt rfl) ?_
  refine h_len un26 rfl (wt rfl) ?_
  refine h_op (vI 0) (wt rfl) rfl ?_
  refine h_nil ?_
  refine wH_new (fun n_9 => ?_)
  obtain ⟨o_14, hj_15, hF⟩ := bind_some hF
  obtain ⟨hn_7, hj_15⟩ := forL_some hj_15
  refine wH_join (β := ((List ByteArray)) × Nm) (fun p => (fun (s_8 : (List ByteArray)) (n_11 : Nm) => ([(3, (gV n_11 1 s_8))] : List (Nat × V))) p.1 p.2) (fun p => (fun (s_8 : (List ByteArray)) (n_11 : Nm) => ([(n_2, some (.cells 4 [(vS l_1.Key), (vI l_1.W), (vI l_1.H), (vL Zone.enc l_1.Zones)])), (n_11, gB 1 eS s_8)] : Hp)) p.1 p.2) (fun p => o_14 = .go p.1) ?_ ?_
  · refine wH_block ?_
    refine wH_loop (β := Nat × (List Zone) × ((List ByteArray)) × Nm) (fun p => (fun (k_3 : Nat) (l_4 : List Zone) (s_8 : (List ByteArray)) (n_11 : Nm) => ([(1, (.ref n_2 0 0)), (3, (gV n_11 1 s_8)), (7, (vL Zone.enc l_1.Zones)), (8, (vI (l_1.Zones.length : Int))), (9, (vI (k_3 : Int)))] : List (Nat × V))) p.1 p.2.1 p.2.2.1 p.2.2.2) (fun p => (fun (k_3 : Nat) (l_4 : List Zone) (s_8 : (List ByteArray)) (n_11 : Nm) => ([(n_2, some (.cells 4 [(vS l_1.Key), (vI l_1.W), (vI l_1.H), (vL Zone.enc l_1.Zones)])), (n_11, gB 1 eS s_8)] : Hp)) p.1 p.2.1 p.2.2.1 p.2.2.2) (fun p => forR (fun k x s => ref_CoveredOf_L1 l_1 k x s) p.2.1 p.1 p.2.2.1 = some o_14 ∧ (l_1.Zones).drop p.1 = p.2.1) (fun p => p.2.1.length) (0, l_1.Zones, ([] : List ByteArray), n_9) ⟨hj_15, rfl⟩ rfl (pre_r rfl) ?_
    rintro ⟨k_3, l_4, s_8, n_11⟩ ⟨hL_13, hD_6⟩
    dsimp only at hL_13 hD_6
    cases l_4 with
    | nil =>
      replace hL_13 := some_inj hL_13
      subst hL_13
      refine wH_seq (wH_region (h_op (vB (decide ((k_3 : Int) < (l_1.Zones.length : Int)))) (wt rfl) rfl (h_nil ?_)))
      refine wH_seq (wH_iff rfl (drop_nil hD_6) (wH_exit ?_))
      exact cut_mk (s_8, n_11) rfl rfl (pre_r rfl)
    | cons x_5 l_4 =>
      obtain ⟨c_, hc_12, hL_13⟩ := bind_some hL_13
      refine wH_seq (wH_region (h_op (vB (decide ((k_3 : Int) < (l_1.Zones.length : Int)))) (wt rfl) rfl (h_nil ?_)))
      refine wH_seq (wH_ift rfl (drop_cons hD_6) (wH_skip ?_))
      unfold ref_CoveredOf_L1 at hc_12
      refine wH_seq ?_
      refine wH_block ?_
      refine wH_seq ?_
      refine wH_region ?_
      refine h_ia es26 rfl rfl (drop_idx hD_6) rfl (wt rfl) ?_
      refine h_ldc sz107 ag107 rfl (.d (.agg (Zone.enc x_5))) rfl (wt rfl) ?_
      refine h_alloc 0 (.inl rfl) z107 rfl (wt rfl) (fun n_16 => ?_)
      refine h_str 0 (.inl rfl) (fun _ _ _ => trivial) 2 sz107 rfl rfl [(vS x_5.Key), (vI x_5.On.X), (vI x_5.On.Y), (vI x_5.On.W), (vI x_5.On.H), (vI x_5.Order)] rfl (wt rfl) ?_
      refine h_nil ?_
      refine wH_seq ?_
      refine wH_region ?_
      refine h_ldr 0 0 (.inl rfl) (fun _ _ _ => trivial) sz28 ag28 rfl rfl (.d (.agg (Layout.enc l_1))) rfl (wt rfl) ?_
      obtain ⟨r_17, hr_18, hc_12⟩ := bind_some hc_12
      refine h_call0 (ref_SeenOf_ok hr_18) rfl hb21 rfl rfl rfl rfl (wt rfl) ?_
      refine h_op (.fn 79 [(.ref n_16 0 0)]) (wt rfl) rfl ?_
      obtain ⟨r_19, hr_20, hc_12⟩ := bind_some hc_12
      refine h_callq 0 [2] (.inl rfl) (fun _ _ _ => trivial) (slices_ContainsFunc_api_Piece_api_Piece_ok (gid := 79) (caps := [.ref (extN 0) 0 0]) (Sin := [(.cells 6 [(vS x_5.Key), (vI x_5.On.X), (vI x_5.On.Y), (vI x_5.On.W), (vI x_5.On.H), (vI x_5.Order)])]) (fun _ _ h_ => ref_CoveredOf_1_ok h_) hb79 ⟨rfl, rfl⟩ (by kernel_rfl) (all_ok (by kernel_rfl)) (all_mut (by kernel_rfl)) hr_20) rfl hb78 rfl (by kernel_rfl) (by kernel_rfl) (by kernel_rfl) (by kernel_rfl) (by kernel_rfl) (by kernel_rfl) (by kernel_rfl) (by decide) (by kernel_rfl) (wt rfl) (vB r_19) (by kernel_rfl) ([(n_2, some (.cells 4 [(vS l_1.Key), (vI l_1.W), (vI l_1.H), (vL Zone.enc l_1.Zones)])), (n_11, gB 1 eS s_8), (n_16, some (.cells 6 [(vS x_5.Key), (vI x_5.On.X), (vI x_5.On.Y), (vI x_5.On.W), (vI x_5.On.H), (vI x_5.Order)]))] : Hp) (by kernel_rfl) ?_
      refine h_op (vB (!r_19)) (wt rfl) rfl ?_
      refine h_nil ?_
      obtain ⟨v_22, h_23, hc_12⟩ := bind_some hc_12
      refine wH_join (β := Nm) (fun (n_24 : Nm) => ([(1, (.ref n_2 0 0)), (3, (gV n_24 1 v_22)), (7, (vL Zone.enc l_1.Zones)), (8, (vI (l_1.Zones.length : Int))), (9, (vI (k_3 : Int)))] : List (Nat × V))) (fun (n_24 : Nm) => ([(n_2, some (.cells 4 [(vS l_1.Key), (vI l_1.W), (vI l_1.H), (vL Zone.enc l_1.Zones)])), (n_24, gB 1 eS v_22), (n_16, some (.cells 6 [(vS x_5.Key), (vI x_5.On.X), (vI x_5.On.Y), (vI x_5.On.W), (vI x_5.On.H), (vI x_5.Order)]))] : Hp)) (fun _ => True) ?_ ?_
      · rcases cond_some h_23 with ⟨hc_25, h_23⟩ | ⟨hc_25, h_23⟩
        · refine wH_ift rfl hc_25 ?_
          refine wH_region ?_
          refine h_op (gV n_11 1 s_8) (wt rfl) rfl ?_
          refine h_far pl107_0 rfl 0 rfl (wt rfl) ?_
          refine h_ldr 0 2 (.inl rfl) (fun _ _ _ => trivial) sz9 ag9 rfl rfl (vS x_5.Key) rfl (wt rfl) ?_
          refine h_lit (([x_5.Key] : List ByteArray).map eS) es38 ez38 rfl rfl rfl rfl rfl (wt rfl) ?_
          obtain ⟨a_26, hz_27, h_23⟩ := bind_some h_23
          refine h_appg 0 (.inl rfl) (fun _ _ _ => trivial) (i := 1) el38 el38 sz9 z9 rfl (by decide) by9 (by decide) (fun _ => rfl) rfl rfl rfl hz_27 (wt rfl) (fun n_28 => ?_)
          refine h_op (gV n_28 1 a_26) (wt rfl) rfl ?_
          refine h_nil ?_
          replace h_23 := some_inj h_23
          subst h_23
          exact cut_mk n_28 trivial rfl (pre_r rfl)
        · refine wH_iff rfl hc_25 ?_
          refine wH_skip ?_
          replace h_23 := some_inj h_23
          subst h_23
          exact cut_mk n_11 trivial rfl (pre_r rfl)
      · rintro n_24 _ sl_ H_ hp_ hq_
        refine wH_at _ hp_ hq_ ?_
        refine wH_region ?_
        refine h_opw (w64_next hD_6 hn_7) (wt rfl) rfl ?_
        refine h_op (vI ((k_3 + 1 : Nat) : Int)) (wt rfl) rfl ?_
        refine h_nil ?_
        replace hc_12 := some_inj hc_12
        subst hc_12
        exact loop_mk (k_3 + 1, l_4, v_22, n_24) ⟨hL_13, drop_next hD_6⟩ (Nat.lt_succ_self _) rfl (pre_r rfl)
  · rintro ⟨s_8, n_11⟩ ho_ sl_ H_ hp_ hq_
    subst ho_
    refine wH_at _ hp_ hq_ ?_
    refine wH_seq ?_
    refine wH_region ?_
    refine h_op (gV n_11 1 s_8) (wt rfl) rfl ?_
    refine h_op (gV n_11 1 s_8) (wt rfl) rfl ?_
    refine h_nil ?_
    refine wH_frozg 1 rfl ?_
    refine wH_cog 2 1 rfl rfl ?_
    refine wH_cog 3 1 rfl rfl ?_
    refine wH_cog 24 1 rfl rfl ?_
    replace hF := some_inj hF
    subst hF
    refine wH_ret ?_
    exact fin0 (.inr rfl) [(vL eS s_8)] ⟨rfl, trivial⟩ rfl rfl rfl
theorem slices_Equal_string_string_ok {s1_1 : (List ByteArray)} {s2_2 : (List ByteArray)} {r : Bool} (hF : slices_Equal_string_string s1_1 s2_2 = some r) :
    FnM Tryz.prog 22 [(vL eS s1_1), (vL eS s2_2)] [] (vB r) [] := by
  refine FnM.of_wH ⟨Tryz.prog, 26, [], []⟩ rfl Tryz.func22 rfl rfl (Nat.le_of_ble_eq_true rfl) (by kernel_rfl) ?_
  unfold slices_Equal_string_string at hF
  refine wH_seq ?_
  refine wH_region ?_
  refine h_op (vB false) (wt rfl) rfl ?_
  refine h_nil ?_
  refine wH_seq ?_
  refine wH_seq ?_
  refine wH_region ?_
  refine h_op (vL eS s1_1) (wt rfl) rfl ?_
  refine h_len un38 rfl (wt rfl) ?_
  refine h_op (vL eS s2_2) (wt rfl) rfl ?_
  refine h_len un38 rfl (wt rfl) ?_
  refine h_op (vB ((s1_1.length : Int) != (s2_2.length : Int))) (wt rfl) rfl ?_
  refine h_nil ?_
  rcases cond_some hF with ⟨hc_3, hF⟩ | ⟨hc_3, hF⟩
  · refine wH_ift rfl hc_3 ?_
    refine wH_seq ?_
    refine wH_region ?_
    refine h_op (vB false) (wt rfl) rfl ?_
    refine h_nil ?_
    replace hF := some_inj hF
    subst hF
    refine wH_ret ?_
    exact fin0 (.inr rfl) [(vB false)] ⟨rfl, trivial⟩ rfl rfl rfl
  · refine wH_iff rfl hc_3 ?_
    refine wH_skip ?_
    refine wH_seq ?_
    refine wH_seq ?_
    refine wH_region ?_
    refine h_op (vL eS s1_1) (wt rfl) rfl ?_
    refine h_len un38 rfl (wt rfl) ?_
    refine h_op (vI 0) (wt rfl) rfl ?_
    refine h_nil ?_
    obtain ⟨o_12, hj_13, hF⟩ := bind_some hF
    obtain ⟨hn_8, hj_13⟩ := forL_some hj_13
    refine wH_join (β := (Unit)) (fun (s_9 : Unit) => ([] : List (Nat × V))) (fun (s_9 : Unit) => ([] : Hp)) (fun p => o_12 = .go p) ?_ ?_
    · refine wH_block ?_
      refine wH_loop (β := Nat × (List ByteArray) × (Unit)) (fun p => (fun (k_4 : Nat) (l_5 : List ByteArray) (s_9 : Unit) => ([(0, (vL eS s1_1)), (1, (vL eS s2_2)), (12, (vI (s1_1.length : Int))), (13, (vI (k_4 : Int)))] : List (Nat × V))) p.1 p.2.1 p.2.2) (fun p => (fun (k_4 : Nat) (l_5 : List ByteArray) (s_9 : Unit) => ([] : Hp)) p.1 p.2.1 p.2.2) (fun p => forR (fun k x s => slices_Equal_string_string_L1 s2_2 k x s) p.2.1 p.1 p.2.2 = some o_12 ∧ (s1_1).drop p.1 = p.2.1) (fun p => p.2.1.length) (0, s1_1, ()) ⟨hj_13, rfl⟩ rfl (pre_r rfl) ?_
      rintro ⟨k_4, l_5, s_9⟩ ⟨hL_11, hD_7⟩
      dsimp only at hL_11 hD_7
      cases l_5 with
      | nil =>
        replace hL_11 := some_inj hL_11
        subst hL_11
        refine wH_seq (wH_region (h_op (vB (decide ((k_4 : Int) < (s1_1.length : Int)))) (wt rfl) rfl (h_nil ?_)))
        refine wH_seq (wH_iff rfl (drop_nil hD_7) (wH_exit ?_))
        exact cut_mk (s_9) rfl rfl (pre_r rfl)
      | cons x_6 l_5 =>
        obtain ⟨c_, hc_10, hL_11⟩ := bind_some hL_11
        refine wH_seq (wH_region (h_op (vB (decide ((k_4 : Int) < (s1_1.length : Int)))) (wt rfl) rfl (h_nil ?_)))
        refine wH_seq (wH_ift rfl (drop_cons hD_7) (wH_skip ?_))
        unfold slices_Equal_string_string_L1 at hc_10
        refine wH_seq ?_
        refine wH_block ?_
        refine wH_seq ?_
        refine wH_region ?_
        refine h_op (vI (k_4 : Int)) (wt rfl) rfl ?_
        refine h_op (vI (k_4 : Int)) (wt rfl) rfl ?_
        refine h_nil ?_
        refine wH_seq ?_
        refine wH_draws ?_
        refine h_op (vL eS s1_1) (wt rfl) rfl ?_
        refine h_op (vI (k_4 : Int)) (wt rfl) rfl ?_
        refine h_ia es38 rfl rfl (drop_idx hD_7) rfl (wt rfl) ?_
        refine h_ldc sz9 ag9 rfl (vS x_6) rfl (wt rfl) ?_
        refine h_op (vL eS s2_2) (wt rfl) rfl ?_
        refine h_op (vI (k_4 : Int)) (wt rfl) rfl ?_
        obtain ⟨y_14, hy_15, hc_10⟩ := bind_some hc_10
        refine h_ia es38 rfl rfl hy_15 rfl (wt rfl) ?_
        refine h_ldc sz9 ag9 rfl (vS y_14) rfl (wt rfl) ?_
        refine h_op (vB (sNe x_6 y_14)) (wt rfl) rfl ?_
        refine h_nil ?_
        rcases cond_some hc_10 with ⟨hc_16, hc_10⟩ | ⟨hc_16, hc_10⟩
        · refine wH_ift rfl hc_16 ?_
          refine wH_seq ?_
          refine wH_region ?_
          refine h_op (vB false) (wt rfl) rfl ?_
          refine h_nil ?_
          replace hc_10 := some_inj hc_10
          subst hc_10
          replace hL_11 := some_inj hL_11
          subst hL_11
          replace hF := some_inj hF
          subst hF
          refine wH_ret ?_
          exact fin0 (.inr rfl) [(vB false)] ⟨rfl, trivial⟩ rfl rfl rfl
        · refine wH_iff rfl hc_16 ?_
          refine wH_skip ?_
          refine wH_region ?_
          refine h_opw (w64_next hD_7 hn_8) (wt rfl) rfl ?_
          refine h_op (vI ((k_4 + 1 : Nat) : Int)) (wt rfl) rfl ?_
          refine h_nil ?_
          replace hc_10 := some_inj hc_10
          subst hc_10
          exact loop_mk (k_4 + 1, l_5, ()) ⟨hL_11, drop_next hD_7⟩ (Nat.lt_succ_self _) rfl (pre_r rfl)
    · rintro s_9 ho_ sl_ H_ hp_ hq_
      subst ho_
      refine wH_at _ hp_ hq_ ?_
      refine wH_seq ?_
      refine wH_region ?_
      refine h_op (vB true) (wt rfl) rfl ?_
      refine h_nil ?_
      replace hF := some_inj hF
      subst hF
      refine wH_ret ?_
      exact fin0 (.inr rfl) [(vB true)] ⟨rfl, trivial⟩ rfl rfl rfl
theorem law_LayoutsSeen_ok {l_1 : (List Int)} {r : Bool} (hF : law_LayoutsSeen l_1 = some r) :
    FnM Tryz.prog 3 [(vL eI l_1)] [] (vB r) [] := by
  refine FnM.of_wH ⟨Tryz.prog, 123, [], []⟩ rfl Tryz.func3 rfl rfl (Nat.le_of_ble_eq_true rfl) (by kernel_rfl) ?_
  unfold law_LayoutsSeen at hF
  refine wH_seq ?_
  refine wH_region ?_
  refine h_op (vB false) (wt rfl) rfl ?_
  refine h_nil ?_
  refine wH_seq ?_
  refine wH_region ?_
  refine h_op (vL eI l_1) (wt rfl) rfl ?_
  refine h_op (.d (.agg (Stream.enc (⟨l_1, 0⟩ : Stream)))) (wt rfl) (by kernel_rfl) ?_
  refine h_box 0 (.inl rfl) [(vL eI l_1), (vI 0)] rfl rfl (wt rfl) (fun n_2 => ?_)
  refine h_op (.ref n_2 0 0) (wt rfl) rfl ?_
  refine h_nil ?_
  refine wH_seq ?_
  refine wH_region ?_
  refine h_op (.ref n_2 0 0) (wt rfl) rfl ?_
  obtain ⟨r_3, hr_4, hF⟩ := bind_some hF
  refine h_callq 0 [0] (.inl rfl) (fun _ _ _ => trivial) (mk_Stream_Layout_ok hr_4) rfl hb7 rfl (by kernel_rfl) (by kernel_rfl) (by kernel_rfl) (by kernel_rfl) (by kernel_rfl) (by kernel_rfl) (by kernel_rfl) (by decide) (by kernel_rfl) (wt rfl) (.d (.agg (Layout.enc r_3.1))) (by kernel_rfl) ([(n_2, some (.cells 2 [(vL eI r_3.2.L), (vI r_3.2.f_at)]))] : Hp) (by kernel_rfl) ?_
  refine h_op (.ref n_2 0 0) (wt rfl) rfl ?_
  obtain ⟨r_6, hr_7, hF⟩ := bind_some hF
  refine h_callq 0 [0] (.inl rfl) (fun _ _ _ => trivial) (mk_Stream_Range_ok hr_7) rfl hb8 rfl (by kernel_rfl) (by kernel_rfl) (by kernel_rfl) (by kernel_rfl) (by kernel_rfl) (by kernel_rfl) (by kernel_rfl) (by decide) (by kernel_rfl) (wt rfl) (vI r_6.1) (by kernel_rfl) ([(n_2, some (.cells 2 [(vL eI r_6.2.L), (vI r_6.2.f_at)]))] : Hp) (by kernel_rfl) ?_
  refine h_op (.ref n_2 0 0) (wt rfl) rfl ?_
  obtain ⟨r_9, hr_10, hF⟩ := bind_some hF
  refine h_callq 0 [0] (.inl rfl) (fun _ _ _ => trivial) (mk_Stream_Range_ok hr_10) rfl hb8 rfl (by kernel_rfl) (by kernel_rfl) (by kernel_rfl) (by kernel_rfl) (by kernel_rfl) (by kernel_rfl) (by kernel_rfl) (by decide) (by kernel_rfl) (wt rfl) (vI r_9.1) (by kernel_rfl) ([(n_2, some (.cells 2 [(vL eI r_9.2.L), (vI r_9.2.f_at)]))] : Hp) (by kernel_rfl) ?_
  refine h_alloc 0 (.inl rfl) z28 rfl (wt rfl) (fun n_12 => ?_)
  refine h_str 0 (.inl rfl) (fun _ _ _ => trivial) 1 sz28 rfl rfl [(vS r_3.1.Key), (vI r_3.1.W), (vI r_3.1.H), (vL Zone.enc r_3.1.Zones)] rfl (wt rfl) ?_
  refine h_op (vI r_6.1) (wt rfl) rfl ?_
  refine h_op (vI r_9.1) (wt rfl) rfl ?_
  refine h_nil ?_
  refine wH_seq ?_
  refine wH_seq ?_
  refine wH_region ?_
  refine h_op (.ref n_2 0 0) (wt rfl) rfl ?_
  obtain ⟨r_13, hr_14, hF⟩ := bind_some hF
  refine h_callq 0 [0] (.inl rfl) (fun _ _ _ => trivial) (mk_Stream_Flip_ok hr_14) rfl hb9 rfl (by kernel_rfl) (by kernel_rfl) (by kernel_rfl) (by kernel_rfl) (by kernel_rfl) (by kernel_rfl) (by kernel_rfl) (by decide) (by kernel_rfl) (wt rfl) (vB r_13.1) (by kernel_rfl) ([(n_2, some (.cells 2 [(vL eI r_13.2.L), (vI r_13.2.f_at)])), (n_12, some (.cells 4 [(vS r_3.1.Key), (vI r_3.1.W), (vI r_3.1.H), (vL Zone.enc r_3.1.Zones)]))] : Hp) (by kernel_rfl) ?_
  refine h_nil ?_
  obtain ⟨v_16, h_17, hF⟩ := bind_some hF
  refine wH_join (β := Unit) (fun _ => ([(4, (.ref n_12 0 0)), (5, (vI r_6.1)), (6, (vI v_16.1))] : List (Nat × V))) (fun _ => ([(n_2, some (.cells 2 [(vL eI v_16.2.1), (vI v_16.2.2)])), (n_12, some (.cells 4 [(vS r_3.1.Key), (vI r_3.1.W), (vI r_3.1.H), (vL Zone.enc r_3.1.Zones)]))] : Hp)) (fun _ => True) ?_ ?_
  · rcases cond_some h_17 with ⟨hc_18, h_17⟩ | ⟨hc_18, h_17⟩
    · refine wH_ift rfl hc_18 ?_
      refine wH_region ?_
      refine h_op (.ref n_2 0 0) (wt rfl) rfl ?_
      obtain ⟨r_19, hr_20, h_17⟩ := bind_some h_17
      refine h_callq 0 [0] (.inl rfl) (fun _ _ _ => trivial) (mk_Stream_Odd_ok hr_20) rfl hb10 rfl (by kernel_rfl) (by kernel_rfl) (by kernel_rfl) (by kernel_rfl) (by kernel_rfl) (by kernel_rfl) (by kernel_rfl) (by decide) (by kernel_rfl) (wt rfl) (vI r_19.1) (by kernel_rfl) ([(n_2, some (.cells 2 [(vL eI r_19.2.L), (vI r_19.2.f_at)])), (n_12, some (.cells 4 [(vS r_3.1.Key), (vI r_3.1.W), (vI r_3.1.H), (vL Zone.enc r_3.1.Zones)]))] : Hp) (by kernel_rfl) ?_
      refine h_op (vI r_19.1) (wt rfl) rfl ?_
      refine h_nil ?_
      replace h_17 := some_inj h_17
      subst h_17
      exact cut_mk () trivial rfl (pre_r rfl)
    · refine wH_iff rfl hc_18 ?_
      refine wH_skip ?_
      replace h_17 := some_inj h_17
      subst h_17
      exact cut_mk () trivial rfl (pre_r rfl)
  · rintro ⟨⟩ _ sl_ H_ hp_ hq_
    refine wH_at _ hp_ hq_ ?_
    refine wH_seq ?_
    refine wH_region ?_
    refine h_ldr 0 1 (.inl rfl) (fun _ _ _ => trivial) sz28 ag28 rfl rfl (.d (.agg (Layout.enc r_3.1))) rfl (wt rfl) ?_
    refine h_op (vI r_6.1) (wt rfl) rfl ?_
    refine h_op (vI v_16.1) (wt rfl) rfl ?_
    obtain ⟨r_22, hr_23, hF⟩ := bind_some hF
    refine h_call0 (screen_ZoneAt_ok hr_23) rfl hb11 rfl rfl rfl rfl (wt rfl) ?_
    refine h_op (.tup [(vS r_22.1), (vB r_22.2.1), (vI r_22.2.2)]) (wt rfl) rfl ?_
    refine h_op (vS r_22.1) (wt rfl) rfl ?_
    refine h_op (vB r_22.2.1) (wt rfl) rfl ?_
    refine h_op (vI r_22.2.2) (wt rfl) rfl ?_
    refine h_op (vS r_22.1) (wt rfl) rfl ?_
    refine h_op (vB r_22.2.1) (wt rfl) rfl ?_
    refine h_op (vI r_22.2.2) (wt rfl) rfl ?_
    refine h_nil ?_
    refine wH_seq ?_
    refine wH_region ?_
    refine h_ldr 0 1 (.inl rfl) (fun _ _ _ => trivial) sz28 ag28 rfl rfl (.d (.agg (Layout.enc r_3.1))) rfl (wt rfl) ?_
    obtain ⟨r_24, hr_25, hF⟩ := bind_some hF
    refine h_call0 (screen_Seen_ok hr_25) rfl hb12 rfl rfl rfl rfl (wt rfl) ?_
    refine h_op (.tup [(vL Piece.enc r_24.1), (vI r_24.2)]) (wt rfl) rfl ?_
    refine h_op (vL Piece.enc r_24.1) (wt rfl) rfl ?_
    refine h_op (vI r_24.2) (wt rfl) rfl ?_
    refine h_op (vL Piece.enc r_24.1) (wt rfl) rfl ?_
    refine h_op (vI r_24.2) (wt rfl) rfl ?_
    refine h_nil ?_
    refine wH_seq ?_
    refine wH_region ?_
    refine h_ldr 0 1 (.inl rfl) (fun _ _ _ => trivial) sz28 ag28 rfl rfl (.d (.agg (Layout.enc r_3.1))) rfl (wt rfl) ?_
    obtain ⟨r_26, hr_27, hF⟩ := bind_some hF
    refine h_call0 (screen_Covered_ok hr_27) rfl hb13 rfl rfl rfl rfl (wt rfl) ?_
    refine h_op (.tup [(vL eS r_26.1), (vI r_26.2)]) (wt rfl) rfl ?_
    refine h_op (vL eS r_26.1) (wt rfl) rfl ?_
    refine h_op (vI r_26.2) (wt rfl) rfl ?_
    refine h_op (vL eS r_26.1) (wt rfl) rfl ?_
    refine h_op (vI r_26.2) (wt rfl) rfl ?_
    refine h_nil ?_
    refine wH_seq ?_
    refine wH_region ?_
    refine h_ldr 0 1 (.inl rfl) (fun _ _ _ => trivial) sz28 ag28 rfl rfl (.d (.agg (Layout.enc r_3.1))) rfl (wt rfl) ?_
    obtain ⟨r_28, hr_29, hF⟩ := bind_some hF
    refine h_call0 (ref_LayoutFault_ok hr_29) rfl hb14 rfl rfl rfl rfl (wt rfl) ?_
    refine h_op (vI r_28) (wt rfl) rfl ?_
    refine h_nil ?_
    refine wH_seq ?_
    refine wH_seq ?_
    obtain ⟨v_30, h_31, hF⟩ := bind_some hF
    refine wH_join (β := Unit) (fun _ => ([(4, (.ref n_12 0 0)), (5, (vI r_6.1)), (6, (vI v_16.1)), (7, (vS r_22.1)), (8, (vB r_22.2.1)), (9, (vI r_22.2.2)), (10, (vL Piece.enc r_24.1)), (12, (vL eS r_26.1)), (14, (vI r_28)), (64, (vB v_30))] : List (Nat × V))) (fun _ => ([(n_2, some (.cells 2 [(vL eI v_16.2.1), (vI v_16.2.2)])), (n_12, some (.cells 4 [(vS r_3.1.Key), (vI r_3.1.W), (vI r_3.1.H), (vL Zone.enc r_3.1.Zones)]))] : Hp)) (fun _ => True) ?_ ?_
    · refine wH_region ?_
      refine h_ldr 0 1 (.inl rfl) (fun _ _ _ => trivial) sz28 ag28 rfl rfl (.d (.agg (Layout.enc r_3.1))) rfl (wt rfl) ?_
      obtain ⟨r_32, hr_33, h_31⟩ := bind_some h_31
      refine h_call0 (screen_CheckLayout_ok hr_33) rfl hb15 rfl rfl rfl rfl (wt rfl) ?_
      refine h_op (vI r_28) (wt rfl) rfl ?_
      refine h_op (vB (r_32 != r_28)) (wt rfl) rfl ?_
      rcases cond_some h_31 with ⟨hc_34, h_31⟩ | ⟨hc_34, h_31⟩
      · refine h_movb rfl hc_34 (wt rfl) ?_
        refine h_skip (wg rfl rfl rfl) ?_
        refine h_skip (wg rfl rfl rfl) ?_
        refine h_skip (wg rfl rfl rfl) ?_
        refine h_op (vB true) (wt rfl) rfl ?_
        refine h_op (vB true) (wt rfl) rfl ?_
        refine h_skip (wg rfl rfl rfl) ?_
        refine h_skip (wg rfl rfl rfl) ?_
        refine h_skip (wg rfl rfl rfl) ?_
        refine h_op (vB true) (wt rfl) rfl ?_
        refine h_nil ?_
        replace h_31 := some_inj h_31
        subst h_31
        exact cut_mk () trivial rfl (pre_r rfl)
      · refine h_movb rfl hc_34 (wt rfl) ?_
        refine h_op (vI r_24.2) (wg rfl rfl rfl) rfl ?_
        refine h_op (vI r_28) (wg rfl rfl rfl) rfl ?_
        refine h_op (vB (r_24.2 != r_28)) (wg rfl rfl rfl) rfl ?_
        refine h_op (vB (r_24.2 != r_28)) (wt rfl) rfl ?_
        rcases cond_some h_31 with ⟨hc_35, h_31⟩ | ⟨hc_35, h_31⟩
        · refine h_movb rfl hc_35 (wt rfl) ?_
          refine h_skip (wg rfl rfl rfl) ?_
          refine h_skip (wg rfl rfl rfl) ?_
          refine h_skip (wg rfl rfl rfl) ?_
          refine h_op (vB true) (wt rfl) rfl ?_
          refine h_nil ?_
          replace h_31 := some_inj h_31
          subst h_31
          exact cut_mk () trivial rfl (pre_r rfl)
        · refine h_movb rfl hc_35 (wt rfl) ?_
          refine h_op (vI r_26.2) (wg rfl rfl rfl) rfl ?_
          refine h_op (vI r_28) (wg rfl rfl rfl) rfl ?_
          refine h_op (vB (r_26.2 != r_28)) (wg rfl rfl rfl) rfl ?_
          refine h_op (vB (r_26.2 != r_28)) (wt rfl) rfl ?_
          refine h_nil ?_
          replace h_31 := some_inj h_31
          subst h_31
          exact cut_mk () trivial rfl (pre_r rfl)
    · rintro ⟨⟩ _ sl_ H_ hp_ hq_
      refine wH_at _ hp_ hq_ ?_
      rcases cond_some hF with ⟨hc_36, hF⟩ | ⟨hc_36, hF⟩
      · refine wH_ift rfl hc_36 ?_
        refine wH_seq ?_
        refine wH_region ?_
        refine h_op (vB false) (wt rfl) rfl ?_
        refine h_nil ?_
        replace hF := some_inj hF
        subst hF
        refine wH_ret ?_
        exact fin0 (.inr rfl) [(vB false)] ⟨rfl, trivial⟩ rfl rfl rfl
      · refine wH_iff rfl hc_36 ?_
        refine wH_skip ?_
        refine wH_seq ?_
        obtain ⟨v_37, h_38, hF⟩ := bind_some hF
        refine wH_join (β := Unit) (fun _ => ([(4, (.ref n_12 0 0)), (5, (vI r_6.1)), (6, (vI v_16.1)), (7, (vS r_22.1)), (8, (vB r_22.2.1)), (9, (vI r_22.2.2)), (10, (vL Piece.enc r_24.1)), (12, (vL eS r_26.1)), (14, (vI r_28)), (15, (vI v_37))] : List (Nat × V))) (fun _ => ([(n_2, some (.cells 2 [(vL eI v_16.2.1), (vI v_16.2.2)])), (n_12, some (.cells 4 [(vS r_3.1.Key), (vI r_3.1.W), (vI r_3.1.H), (vL Zone.enc r_3.1.Zones)]))] : Hp)) (fun _ => True) ?_ ?_
        · refine wH_region ?_
          refine h_op (vI r_28) (wt rfl) rfl ?_
          refine h_op (vI v_16.1) (wt rfl) rfl ?_
          refine h_op (vB (decide (v_16.1 < (-100000)))) (wt rfl) rfl ?_
          rcases cond_some h_38 with ⟨hc_39, h_38⟩ | ⟨hc_39, h_38⟩
          · refine h_movb rfl hc_39 (wt rfl) ?_
            refine h_skip (wg rfl rfl rfl) ?_
            refine h_skip (wg rfl rfl rfl) ?_
            refine h_op (vB true) (wt rfl) rfl ?_
            obtain ⟨r_40, hr_41, h_38⟩ := bind_some h_38
            refine h_call0 (law_when_ok hr_41) rfl hb17 rfl rfl rfl rfl (wt rfl) ?_
            refine h_lit (([r_28, r_40] : List Int).map eI) es115 ez115 rfl rfl rfl rfl rfl (wt rfl) ?_
            obtain ⟨r_42, hr_43, h_38⟩ := bind_some h_38
            refine h_call0 (law_errs_ok hr_43) rfl hb16 rfl rfl rfl rfl (wt rfl) ?_
            refine h_op (vI r_42) (wt rfl) rfl ?_
            refine h_nil ?_
            replace h_38 := some_inj h_38
            subst h_38
            exact cut_mk () trivial rfl (pre_r rfl)
          · refine h_movb rfl hc_39 (wt rfl) ?_
            refine h_op (vI v_16.1) (wg rfl rfl rfl) rfl ?_
            refine h_op (vB (decide (v_16.1 > 100000))) (wg rfl rfl rfl) rfl ?_
            refine h_op (vB (decide (v_16.1 > 100000))) (wt rfl) rfl ?_
            obtain ⟨r_44, hr_45, h_38⟩ := bind_some h_38
            refine h_call0 (law_when_ok hr_45) rfl hb17 rfl rfl rfl rfl (wt rfl) ?_
            refine h_lit (([r_28, r_44] : List Int).map eI) es115 ez115 rfl rfl rfl rfl rfl (wt rfl) ?_
            obtain ⟨r_46, hr_47, h_38⟩ := bind_some h_38
            refine h_call0 (law_errs_ok hr_47) rfl hb16 rfl rfl rfl rfl (wt rfl) ?_
            refine h_op (vI r_46) (wt rfl) rfl ?_
            refine h_nil ?_
            replace h_38 := some_inj h_38
            subst h_38
            exact cut_mk () trivial rfl (pre_r rfl)
        · rintro ⟨⟩ _ sl_ H_ hp_ hq_
          refine wH_at _ hp_ hq_ ?_
          refine wH_seq ?_
          refine wH_region ?_
          refine h_op (vS (⟨#[]⟩ : ByteArray)) (wt rfl) rfl ?_
          refine h_op (vB false) (wt rfl) rfl ?_
          refine h_nil ?_
          refine wH_seq ?_
          refine wH_seq ?_
          refine wH_region ?_
          refine h_op (vI v_37) (wt rfl) rfl ?_
          refine h_op (vB (v_37 == 0)) (wt rfl) rfl ?_
          refine h_nil ?_
          obtain ⟨v_48, h_49, hF⟩ := bind_some hF
          refine wH_join (β := Unit) (fun _ => ([(4, (.ref n_12 0 0)), (7, (vS r_22.1)), (8, (vB r_22.2.1)), (9, (vI r_22.2.2)), (10, (vL Piece.enc r_24.1)), (12, (vL eS r_26.1)), (14, (vI r_28)), (15, (vI v_37)), (16, (vS v_48.1)), (17, (vB v_48.2))] : List (Nat × V))) (fun _ => ([(n_2, some (.cells 2 [(vL eI v_16.2.1), (vI v_16.2.2)])), (n_12, some (.cells 4 [(vS r_3.1.Key), (vI r_3.1.W), (vI r_3.1.H), (vL Zone.enc r_3.1.Zones)]))] : Hp)) (fun _ => True) ?_ ?_
          · rcases cond_some h_49 with ⟨hc_50, h_49⟩ | ⟨hc_50, h_49⟩
            · refine wH_ift rfl hc_50 ?_
              refine wH_region ?_
              refine h_ldr 0 1 (.inl rfl) (fun _ _ _ => trivial) sz28 ag28 rfl rfl (.d (.agg (Layout.enc r_3.1))) rfl (wt rfl) ?_
              refine h_op (vI r_6.1) (wt rfl) rfl ?_
              refine h_op (vI v_16.1) (wt rfl) rfl ?_
              obtain ⟨r_51, hr_52, h_49⟩ := bind_some h_49
              refine h_call0 (ref_ZoneOf_ok hr_52) rfl hb18 rfl rfl rfl rfl (wt rfl) ?_
              refine h_op (.tup [(vS r_51.1), (vB r_51.2)]) (wt rfl) rfl ?_
              refine h_op (vS r_51.1) (wt rfl) rfl ?_
              refine h_op (vB r_51.2) (wt rfl) rfl ?_
              refine h_op (vS r_51.1) (wt rfl) rfl ?_
              refine h_op (vB r_51.2) (wt rfl) rfl ?_
              refine h_nil ?_
              replace h_49 := some_inj h_49
              subst h_49
              exact cut_mk () trivial rfl (pre_r rfl)
            · refine wH_iff rfl hc_50 ?_
              refine wH_skip ?_
              replace h_49 := some_inj h_49
              subst h_49
              exact cut_mk () trivial rfl (pre_r rfl)
          · rintro ⟨⟩ _ sl_ H_ hp_ hq_
            refine wH_at _ hp_ hq_ ?_
            refine wH_seq ?_
            refine wH_seq ?_
            obtain ⟨v_53, h_54, hF⟩ := bind_some hF
            refine wH_join (β := Unit) (fun _ => ([(4, (.ref n_12 0 0)), (10, (vL Piece.enc r_24.1)), (12, (vL eS r_26.1)), (14, (vI r_28)), (96, (vB v_53))] : List (Nat × V))) (fun _ => ([(n_2, some (.cells 2 [(vL eI v_16.2.1), (vI v_16.2.2)])), (n_12, some (.cells 4 [(vS r_3.1.Key), (vI r_3.1.W), (vI r_3.1.H), (vL Zone.enc r_3.1.Zones)]))] : Hp)) (fun _ => True) ?_ ?_
            · refine wH_region ?_
              refine h_op (vI r_22.2.2) (wt rfl) rfl ?_
              refine h_op (vI v_37) (wt rfl) rfl ?_
              refine h_op (vB (r_22.2.2 != v_37)) (wt rfl) rfl ?_
              rcases cond_some h_54 with ⟨hc_55, h_54⟩ | ⟨hc_55, h_54⟩
              · refine h_movb rfl hc_55 (wt rfl) ?_
                refine h_skip (wg rfl rfl rfl) ?_
                refine h_skip (wg rfl rfl rfl) ?_
                refine h_skip (wg rfl rfl rfl) ?_
                refine h_op (vB true) (wt rfl) rfl ?_
                refine h_op (vB true) (wt rfl) rfl ?_
                refine h_skip (wg rfl rfl rfl) ?_
                refine h_skip (wg rfl rfl rfl) ?_
                refine h_skip (wg rfl rfl rfl) ?_
                refine h_op (vB true) (wt rfl) rfl ?_
                refine h_nil ?_
                replace h_54 := some_inj h_54
                subst h_54
                exact cut_mk () trivial rfl (pre_r rfl)
              · refine h_movb rfl hc_55 (wt rfl) ?_
                refine h_op (vS r_22.1) (wg rfl rfl rfl) rfl ?_
                refine h_op (vS v_48.1) (wg rfl rfl rfl) rfl ?_
                refine h_op (vB (sNe r_22.1 v_48.1)) (wg rfl rfl rfl) rfl ?_
                refine h_op (vB (sNe r_22.1 v_48.1)) (wt rfl) rfl ?_
                rcases cond_some h_54 with ⟨hc_56, h_54⟩ | ⟨hc_56, h_54⟩
                · refine h_movb rfl hc_56 (wt rfl) ?_
                  refine h_skip (wg rfl rfl rfl) ?_
                  refine h_skip (wg rfl rfl rfl) ?_
                  refine h_skip (wg rfl rfl rfl) ?_
                  refine h_op (vB true) (wt rfl) rfl ?_
                  refine h_nil ?_
                  replace h_54 := some_inj h_54
                  subst h_54
                  exact cut_mk () trivial rfl (pre_r rfl)
                · refine h_movb rfl hc_56 (wt rfl) ?_
                  refine h_op (vB r_22.2.1) (wg rfl rfl rfl) rfl ?_
                  refine h_op (vB v_48.2) (wg rfl rfl rfl) rfl ?_
                  refine h_bneq un4 rfl rfl (wg rfl rfl rfl) ?_
                  refine h_op (vB (!(r_22.2.1 == v_48.2))) (wt rfl) rfl ?_
                  refine h_nil ?_
                  replace h_54 := some_inj h_54
                  subst h_54
                  exact cut_mk () trivial rfl (pre_r rfl)
            · rintro ⟨⟩ _ sl_ H_ hp_ hq_
              refine wH_at _ hp_ hq_ ?_
              rcases cond_some hF with ⟨hc_57, hF⟩ | ⟨hc_57, hF⟩
              · refine wH_ift rfl hc_57 ?_
                refine wH_seq ?_
                refine wH_region ?_
                refine h_op (vB false) (wt rfl) rfl ?_
                refine h_nil ?_
                replace hF := some_inj hF
                subst hF
                refine wH_ret ?_
                exact fin0 (.inr rfl) [(vB false)] ⟨rfl, trivial⟩ rfl rfl rfl
              · refine wH_iff rfl hc_57 ?_
                refine wH_skip ?_
                refine wH_seq ?_
                refine wH_seq ?_
                refine wH_region ?_
                refine h_op (vI r_28) (wt rfl) rfl ?_
                refine h_op (vB (r_28 != 0)) (wt rfl) rfl ?_
                refine h_nil ?_
                rcases cond_some hF with ⟨hc_58, hF⟩ | ⟨hc_58, hF⟩
                · refine wH_ift rfl hc_58 ?_
                  refine wH_seq ?_
                  obtain ⟨v_59, h_60, hF⟩ := bind_some hF
                  refine wH_join (β := Unit) (fun _ => ([(2, (vB v_59))] : List (Nat × V))) (fun _ => ([(n_2, some (.cells 2 [(vL eI v_16.2.1), (vI v_16.2.2)])), (n_12, some (.cells 4 [(vS r_3.1.Key), (vI r_3.1.W), (vI r_3.1.H), (vL Zone.enc r_3.1.Zones)]))] : Hp)) (fun _ => True) ?_ ?_
                  · refine wH_region ?_
                    refine h_op (vL Piece.enc r_24.1) (wt rfl) rfl ?_
                    refine h_len un35 rfl (wt rfl) ?_
                    refine h_op (vB ((r_24.1.length : Int) == 0)) (wt rfl) rfl ?_
                    rcases cond_some h_60 with ⟨hc_61, h_60⟩ | ⟨hc_61, h_60⟩
                    · refine h_movb rfl hc_61 (wt rfl) ?_
                      refine h_op (vL eS r_26.1) (wg rfl rfl rfl) rfl ?_
                      refine h_len un38 rfl (wg rfl rfl rfl) ?_
                      refine h_op (vB ((r_26.1.length : Int) == 0)) (wg rfl rfl rfl) rfl ?_
                      refine h_op (vB ((r_26.1.length : Int) == 0)) (wt rfl) rfl ?_
                      rcases cond_some h_60 with ⟨hc_62, h_60⟩ | ⟨hc_62, h_60⟩
                      · refine h_movb rfl hc_62 (wt rfl) ?_
                        obtain ⟨r_63, hr_64, h_60⟩ := bind_some h_60
                        refine h_call0 (law_lit_ok hr_64) rfl hb19 rfl rfl rfl rfl (wg rfl rfl rfl) ?_
                        refine h_op (vB r_63) (wt rfl) rfl ?_
                        refine h_op (vB r_63) (wt rfl) rfl ?_
                        refine h_nil ?_
                        replace h_60 := some_inj h_60
                        subst h_60
                        exact cut_mk () trivial rfl (pre_r rfl)
                      · refine h_movb rfl hc_62 (wt rfl) ?_
                        refine h_skip (wg rfl rfl rfl) ?_
                        refine h_op (vB false) (wt rfl) rfl ?_
                        refine h_op (vB false) (wt rfl) rfl ?_
                        refine h_nil ?_
                        replace h_60 := some_inj h_60
                        subst h_60
                        exact cut_mk () trivial rfl (pre_r rfl)
                    · refine h_movb rfl hc_61 (wt rfl) ?_
                      refine h_skip (wg rfl rfl rfl) ?_
                      refine h_skip (wg rfl rfl rfl) ?_
                      refine h_skip (wg rfl rfl rfl) ?_
                      refine h_op (vB false) (wt rfl) rfl ?_
                      refine h_op (vB false) (wt rfl) rfl ?_
                      refine h_skip (wg rfl rfl rfl) ?_
                      refine h_op (vB false) (wt rfl) rfl ?_
                      refine h_op (vB false) (wt rfl) rfl ?_
                      refine h_nil ?_
                      replace h_60 := some_inj h_60
                      subst h_60
                      exact cut_mk () trivial rfl (pre_r rfl)
                  · rintro ⟨⟩ _ sl_ H_ hp_ hq_
                    refine wH_at _ hp_ hq_ ?_
                    replace hF := some_inj hF
                    subst hF
                    refine wH_ret ?_
                    exact fin0 (.inr rfl) [(vB v_59)] ⟨rfl, trivial⟩ rfl rfl rfl
                · refine wH_iff rfl hc_58 ?_
                  refine wH_skip ?_
                  refine wH_seq ?_
                  obtain ⟨v_65, h_66, hF⟩ := bind_some hF
                  refine wH_join (β := Unit) (fun _ => ([(2, (vB v_65))] : List (Nat × V))) (fun _ => ([(n_2, some (.cells 2 [(vL eI v_16.2.1), (vI v_16.2.2)])), (n_12, some (.cells 4 [(vS r_3.1.Key), (vI r_3.1.W), (vI r_3.1.H), (vL Zone.enc r_3.1.Zones)]))] : Hp)) (fun _ => True) ?_ ?_
                  · refine wH_region ?_
                    refine h_op (vL Piece.enc r_24.1) (wt rfl) rfl ?_
                    refine h_ldr 0 1 (.inl rfl) (fun _ _ _ => trivial) sz28 ag28 rfl rfl (.d (.agg (Layout.enc r_3.1))) rfl (wt rfl) ?_
                    obtain ⟨r_67, hr_68, h_66⟩ := bind_some h_66
                    refine h_call0 (ref_SeenOf_ok hr_68) rfl hb21 rfl rfl rfl rfl (wt rfl) ?_
                    obtain ⟨r_69, hr_70, h_66⟩ := bind_some h_66
                    refine h_call0 (slices_Equal_api_Piece_api_Piece_ok hr_70) rfl hb20 rfl rfl rfl rfl (wt rfl) ?_
                    rcases cond_some h_66 with ⟨hc_71, h_66⟩ | ⟨hc_71, h_66⟩
                    · refine h_movb rfl hc_71 (wt rfl) ?_
                      refine h_op (vL eS r_26.1) (wg rfl rfl rfl) rfl ?_
                      refine h_ldr 0 1 (.inl rfl) (fun _ _ _ => trivial) sz28 ag28 rfl rfl (.d (.agg (Layout.enc r_3.1))) rfl (wg rfl rfl rfl) ?_
                      obtain ⟨r_72, hr_73, h_66⟩ := bind_some h_66
                      refine h_call0 (ref_CoveredOf_ok hr_73) rfl hb23 rfl rfl rfl rfl (wg rfl rfl rfl) ?_
                      obtain ⟨r_74, hr_75, h_66⟩ := bind_some h_66
                      refine h_call0 (slices_Equal_string_string_ok hr_75) rfl hb22 rfl rfl rfl rfl (wg rfl rfl rfl) ?_
                      refine h_op (vB r_74) (wt rfl) rfl ?_
                      rcases cond_some h_66 with ⟨hc_76, h_66⟩ | ⟨hc_76, h_66⟩
                      · refine h_movb rfl hc_76 (wt rfl) ?_
                        obtain ⟨r_77, hr_78, h_66⟩ := bind_some h_66
                        refine h_call0 (law_lit_ok hr_78) rfl hb19 rfl rfl rfl rfl (wg rfl rfl rfl) ?_
                        refine h_op (vB r_77) (wt rfl) rfl ?_
                        refine h_op (vB r_77) (wt rfl) rfl ?_
                        refine h_nil ?_
                        replace h_66 := some_inj h_66
                        subst h_66
                        exact cut_mk () trivial rfl (pre_r rfl)
                      · refine h_movb rfl hc_76 (wt rfl) ?_
                        refine h_skip (wg rfl rfl rfl) ?_
                        refine h_op (vB false) (wt rfl) rfl ?_
                        refine h_op (vB false) (wt rfl) rfl ?_
                        refine h_nil ?_
                        replace h_66 := some_inj h_66
                        subst h_66
                        exact cut_mk () trivial rfl (pre_r rfl)
                    · refine h_movb rfl hc_71 (wt rfl) ?_
                      refine h_skip (wg rfl rfl rfl) ?_
                      refine h_skip (wg rfl rfl rfl) ?_
                      refine h_skip (wg rfl rfl rfl) ?_
                      refine h_skip (wg rfl rfl rfl) ?_
                      refine h_op (vB false) (wt rfl) rfl ?_
                      refine h_op (vB false) (wt rfl) rfl ?_
                      refine h_skip (wg rfl rfl rfl) ?_
                      refine h_op (vB false) (wt rfl) rfl ?_
                      refine h_op (vB false) (wt rfl) rfl ?_
                      refine h_nil ?_
                      replace h_66 := some_inj h_66
                      subst h_66
                      exact cut_mk () trivial rfl (pre_r rfl)
                  · rintro ⟨⟩ _ sl_ H_ hp_ hq_
                    refine wH_at _ hp_ hq_ ?_
                    replace hF := some_inj hF
                    subst hF
                    refine wH_ret ?_
                    exact fin0 (.inr rfl) [(vB v_65)] ⟨rfl, trivial⟩ rfl rfl rfl
end Go.Proofs.YtiekkaelpgahoaaGreat.Law

