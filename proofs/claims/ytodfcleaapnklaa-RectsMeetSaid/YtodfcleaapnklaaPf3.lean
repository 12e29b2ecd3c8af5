/-
  The machine computes these plain functions (written by a program of ours).
-/
import Derived.Test.YtodfcleaapnklaaFacts
import Derived.Test.YtodfcleaapnklaaDefs
import Derived.Test.YtodfcleaapnklaaPf2
open Go Go.Eng Go.Proofs
namespace Go.Proofs.Ytodfcleaapnklaa.Law
set_option maxRecDepth 100000
set_option linter.unusedVariables false
set_option maxHeartbeats 1000000
theorem ref_cuts_v2_ok {l_1 : (List Rect)} {r : (List Int)} (hF : ref_cuts_v2 l_1 = some r) :
    FnM Try.prog 174 [(vL Rect.enc l_1), (.fn 176 [])] [] (vL eI r) [] := by
  refine FnM.of_wH ⟨Try.prog, 32, [], []⟩ rfl Try.func174 rfl rfl (Nat.le_of_ble_eq_true rfl) (by kernel_rfl) ?_
  unfold ref_cuts_v2 at hF
  refine wH_seq ?_
  refine wH_region ?_
  refine h_op .nil (wt rfl) rfl ?_
  refine h_nil ?_
  refine wH_seq ?_
  refine wH_region ?_
  refine h_op .nil (wt rfl) rfl ?_
  refine h_nil ?_
  refine wH_seq ?_
  refine wH_seq ?_
  refine wH_region ?_
  refine h_op (vL Rect.enc l_1) (wt rfl) rfl ?_
  refine h_len un94 rfl (wt rfl) ?_
  refine h_op (vI 0) (wt rfl) rfl ?_
  refine h_nil ?_
  refine wH_new (fun n_9 => ?_)
  obtain ⟨o_14, hj_15, hF⟩ := bind_some hF
  obtain ⟨hn_7, hj_15⟩ := forL_some hj_15
  refine wH_join (β := ((List Int)) × Nm) (fun p => (fun (s_8 : (List Int)) (n_11 : Nm) => ([(5, (gV n_11 1 s_8))] : List (Nat × V))) p.1 p.2) (fun p => (fun (s_8 : (List Int)) (n_11 : Nm) => ([(n_11, gB 1 eI s_8)] : Hp)) p.1 p.2) (fun p => o_14 = .go p.1) ?_ ?_
  · refine wH_block ?_
    refine wH_loop (β := Nat × (List Rect) × ((List Int)) × Nm) (fun p => (fun (k_3 : Nat) (l_4 : List Rect) (s_8 : (List Int)) (n_11 : Nm) => ([(1, (.fn 176 [])), (5, (gV n_11 1 s_8)), (10, (vL Rect.enc l_1)), (11, (vI (l_1.length : Int))), (12, (vI (k_3 : Int)))] : List (Nat × V))) p.1 p.2.1 p.2.2.1 p.2.2.2) (fun p => (fun (k_3 : Nat) (l_4 : List Rect) (s_8 : (List Int)) (n_11 : Nm) => ([(n_11, gB 1 eI s_8)] : Hp)) p.1 p.2.1 p.2.2.1 p.2.2.2) (fun p => forR (fun k x s => ref_cuts_v2_L1 k x s) p.2.1 p.1 p.2.2.1 = some o_14 ∧ (l_1).drop p.1 = p.2.1) (fun p => p.2.1.length) (0, l_1, ([] : List Int), n_9) ⟨hj_15, rfl⟩ rfl (pre_r rfl) ?_
    rintro ⟨k_3, l_4, s_8, n_11⟩ ⟨hL_13, hD_6⟩
    dsimp only at hL_13 hD_6
    cases l_4 with
    | nil =>
      replace hL_13 := some_inj hL_13
      subst hL_13
      refine wH_seq (wH_region (h_op (vB (decide ((k_3 : Int) < (l_1.length : Int)))) (wt rfl) rfl (h_nil ?_)))
      refine wH_seq (wH_iff rfl (drop_nil hD_6) (wH_exit ?_))
      exact cut_mk (s_8, n_11) rfl rfl (pre_r rfl)
    | cons x_5 l_4 =>
      obtain ⟨c_, hc_12, hL_13⟩ := bind_some hL_13
      refine wH_seq (wH_region (h_op (vB (decide ((k_3 : Int) < (l_1.length : Int)))) (wt rfl) rfl (h_nil ?_)))
      refine wH_seq (wH_ift rfl (drop_cons hD_6) (wH_skip ?_))
      unfold ref_cuts_v2_L1 at hc_12
      refine wH_seq ?_
      refine wH_block ?_
      refine wH_seq ?_
      refine wH_region ?_
      refine h_ia es94 rfl rfl (drop_idx hD_6) rfl (wt rfl) ?_
      refine h_ldc sz92 ag92 rfl (.d (.agg (Rect.enc x_5))) rfl (wt rfl) ?_
      refine h_alloc 0 (.inl rfl) z92 rfl (wt rfl) (fun n_16 => ?_)
      refine h_str 0 (.inl rfl) (fun _ _ _ => trivial) 1 sz92 rfl rfl [(vI x_5.X), (vI x_5.Y), (vI x_5.W), (vI x_5.H)] rfl (wt rfl) ?_
      refine h_nil ?_
      refine wH_seq ?_
      refine wH_region ?_
      refine h_op (.fn 176 []) (wt rfl) rfl ?_
      refine h_ldr 0 1 (.inl rfl) (fun _ _ _ => trivial) sz92 ag92 rfl rfl (.d (.agg (Rect.enc x_5))) rfl (wt rfl) ?_
      obtain ⟨r_17, hr_18, hc_12⟩ := bind_some hc_12
      refine h_call0 (ref_regionOf_2_ok hr_18) rfl hb176 rfl rfl rfl rfl (wt rfl) ?_
      refine h_op (.tup [(vI r_17.1), (vI r_17.2)]) (wt rfl) rfl ?_
      refine h_op (vI r_17.1) (wt rfl) rfl ?_
      refine h_op (vI r_17.2) (wt rfl) rfl ?_
      refine h_op (vI r_17.1) (wt rfl) rfl ?_
      refine h_op (vI r_17.2) (wt rfl) rfl ?_
      refine h_nil ?_
      refine wH_region ?_
      refine h_op (gV n_11 1 s_8) (wt rfl) rfl ?_
      refine h_op (vI r_17.1) (wt rfl) rfl ?_
      refine h_op (vI r_17.2) (wt rfl) rfl ?_
      refine h_lit (([r_17.1, r_17.2] : List Int).map eI) es22 ez22 rfl rfl rfl rfl rfl (wt rfl) ?_
      obtain ⟨a_19, hz_20, hc_12⟩ := bind_some hc_12
      refine h_appg 0 (.inl rfl) (fun _ _ _ => trivial) (i := 0) el22 el22 sz3 z3 rfl (by decide) by3 (by decide) (fun _ => rfl) rfl rfl rfl hz_20 (wt rfl) (fun n_21 => ?_)
      refine h_op (gV n_21 1 a_19) (wt rfl) rfl ?_
      refine h_nil ?_
      refine wH_region ?_
      refine h_opw (w64_next hD_6 hn_7) (wt rfl) rfl ?_
      refine h_op (vI ((k_3 + 1 : Nat) : Int)) (wt rfl) rfl ?_
      refine h_nil ?_
      replace hc_12 := some_inj hc_12
      subst hc_12
      exact loop_mk (k_3 + 1, l_4, a_19, n_21) ⟨hL_13, drop_next hD_6⟩ (Nat.lt_succ_self _) rfl (pre_r rfl)
  · rintro ⟨s_8, n_11⟩ ho_ sl_ H_ hp_ hq_
    subst ho_
    refine wH_at _ hp_ hq_ ?_
    refine wH_seq ?_
    refine wH_region ?_
    refine h_op (gV n_11 1 s_8) (wt rfl) rfl ?_
    obtain ⟨r_22, hr_23, hF⟩ := bind_some hF
    obtain ⟨_, hs_24, hF⟩ := bind_some hF
    replace hs_24 := sameL_eq hs_24
    refine h_callv 0 [] 0 0 (.inl rfl) (fun _ _ _ => trivial) (slices_Sort_int_int_v1_ok hr_23) rfl hb169 rfl rfl rfl (by kernel_rfl) rfl (.inl rfl) rfl (by kernel_rfl) (by kernel_rfl) (by kernel_rfl) (by kernel_rfl) rfl (by decide) (by kernel_rfl) gB_ok (gB_ho hs_24) (wt rfl) ([(n_11, gB 1 eI r_22)] : Hp) (by kernel_rfl) ?_
    refine h_re (v' := (gV n_11 1 r_22)) 28 rfl (gV_len hs_24.symm) ?_
    refine h_re (v' := (gV n_11 1 r_22)) 5 rfl (gV_len hs_24.symm) ?_
    refine h_nil ?_
    refine wH_seq ?_
    refine wH_region ?_
    refine h_op (gV n_11 1 r_22) (wt rfl) rfl ?_
    obtain ⟨r_25, hr_26, hF⟩ := bind_some hF
    refine h_callv 0 [] 0 0 (.inl rfl) (fun _ _ _ => trivial) (slices_Compact_int_int_v1_ok hr_26) rfl hb170 rfl rfl rfl (by kernel_rfl) rfl (.inl rfl) rfl (by kernel_rfl) (by kernel_rfl) (by kernel_rfl) (by kernel_rfl) rfl (by decide) (by kernel_rfl) none_ok (fun _ => rfl) (wt rfl) ([(n_11, none)] : Hp) (by kernel_rfl) ?_
    refine h_op (vL eI r_25) (wt rfl) rfl ?_
    refine h_nil ?_
    replace hF := some_inj hF
    subst hF
    refine wH_ret ?_
    exact fin0 (.inr rfl) [(vL eI r_25)] ⟨rfl, trivial⟩ rfl rfl rfl
theorem ref_regionOf_3_ok {a_1 : Rect} {b_2 : Rect} {r : Bool} (hF : ref_regionOf_3 a_1 b_2 = some r) :
    FnM Try.prog 178 [(.d (.agg (Rect.enc a_1))), (.d (.agg (Rect.enc b_2)))] [] (vB r) [] := by
  refine FnM.of_wH ⟨Try.prog, 27, [], []⟩ rfl Try.func178 rfl rfl (Nat.le_of_ble_eq_true rfl) (by kernel_rfl) ?_
  unfold ref_regionOf_3 at hF
  refine wH_seq ?_
  refine wH_region ?_
  refine h_box 0 (.inl rfl) [(vI a_1.X), (vI a_1.Y), (vI a_1.W), (vI a_1.H)] rfl rfl (wt rfl) (fun n_3 => ?_)
  refine h_box 0 (.inl rfl) [(vI b_2.X), (vI b_2.Y), (vI b_2.W), (vI b_2.H)] rfl rfl (wt rfl) (fun n_4 => ?_)
  refine h_op (vB false) (wt rfl) rfl ?_
  refine h_nil ?_
  refine wH_seq ?_
  obtain ⟨v_5, h_6, hF⟩ := bind_some hF
  refine wH_join (β := Unit) (fun _ => ([(4, (vB v_5))] : List (Nat × V))) (fun _ => ([(n_3, some (.cells 4 [(vI a_1.X), (vI a_1.Y), (vI a_1.W), (vI a_1.H)])), (n_4, some (.cells 4 [(vI b_2.X), (vI b_2.Y), (vI b_2.W), (vI b_2.H)]))] : Hp)) (fun _ => True) ?_ ?_
  · refine wH_region ?_
    refine h_far pl92_0 rfl 0 rfl (wt rfl) ?_
    refine h_ldr 0 0 (.inl rfl) (fun _ _ _ => trivial) sz3 ag3 rfl rfl (vI a_1.X) rfl (wt rfl) ?_
    refine h_far pl92_0 rfl 0 rfl (wt rfl) ?_
    refine h_ldr 0 1 (.inl rfl) (fun _ _ _ => trivial) sz3 ag3 rfl rfl (vI b_2.X) rfl (wt rfl) ?_
    refine h_op (vB (a_1.X == b_2.X)) (wt rfl) rfl ?_
    rcases cond_some h_6 with ⟨hc_7, h_6⟩ | ⟨hc_7, h_6⟩
    · refine h_movb rfl hc_7 (wt rfl) ?_
      refine h_far pl92_2 rfl 2 rfl (wg rfl rfl rfl) ?_
      refine h_ldr 0 0 (.inl rfl) (fun _ _ _ => trivial) sz3 ag3 rfl rfl (vI a_1.W) rfl (wg rfl rfl rfl) ?_
      refine h_far pl92_2 rfl 2 rfl (wg rfl rfl rfl) ?_
      refine h_ldr 0 1 (.inl rfl) (fun _ _ _ => trivial) sz3 ag3 rfl rfl (vI b_2.W) rfl (wg rfl rfl rfl) ?_
      refine h_op (vB (a_1.W == b_2.W)) (wg rfl rfl rfl) rfl ?_
      refine h_op (vB (a_1.W == b_2.W)) (wt rfl) rfl ?_
      rcases cond_some h_6 with ⟨hc_8, h_6⟩ | ⟨hc_8, h_6⟩
      · refine h_movb rfl hc_8 (wt rfl) ?_
        refine h_far pl92_1 rfl 1 rfl (wg rfl rfl rfl) ?_
        refine h_ldr 0 0 (.inl rfl) (fun _ _ _ => trivial) sz3 ag3 rfl rfl (vI a_1.Y) rfl (wg rfl rfl rfl) ?_
        refine h_far pl92_1 rfl 1 rfl (wg rfl rfl rfl) ?_
        refine h_ldr 0 1 (.inl rfl) (fun _ _ _ => trivial) sz3 ag3 rfl rfl (vI b_2.Y) rfl (wg rfl rfl rfl) ?_
        refine h_far pl92_3 rfl 3 rfl (wg rfl rfl rfl) ?_
        refine h_ldr 0 1 (.inl rfl) (fun _ _ _ => trivial) sz3 ag3 rfl rfl (vI b_2.H) rfl (wg rfl rfl rfl) ?_
        refine h_op (vI (w64 (b_2.Y + b_2.H))) (wg rfl rfl rfl) rfl ?_
        refine h_op (vB (a_1.Y == (w64 (b_2.Y + b_2.H)))) (wg rfl rfl rfl) rfl ?_
        refine h_op (vB (a_1.Y == (w64 (b_2.Y + b_2.H)))) (wt rfl) rfl ?_
        refine h_op (vB (a_1.Y == (w64 (b_2.Y + b_2.H)))) (wt rfl) rfl ?_
        refine h_nil ?_
        replace h_6 := some_inj h_6
        subst h_6
        exact cut_mk () trivial rfl (pre_r rfl)
      · refine h_movb rfl hc_8 (wt rfl) ?_
        refine h_skip (wg rfl rfl rfl) ?_
        refine h_skip (wg rfl rfl rfl) ?_
        refine h_skip (wg rfl rfl rfl) ?_
        refine h_skip (wg rfl rfl rfl) ?_
        refine h_skip (wg rfl rfl rfl) ?_
        refine h_skip (wg rfl rfl rfl) ?_
        refine h_skip (wg rfl rfl rfl) ?_
        refine h_skip (wg rfl rfl rfl) ?_
        refine h_op (vB false) (wt rfl) rfl ?_
        refine h_op (vB false) (wt rfl) rfl ?_
        refine h_nil ?_
        replace h_6 := some_inj h_6
        subst h_6
        exact cut_mk () trivial rfl (pre_r rfl)
    · refine h_movb rfl hc_7 (wt rfl) ?_
      refine h_skip (wg rfl rfl rfl) ?_
      refine h_skip (wg rfl rfl rfl) ?_
      refine h_skip (wg rfl rfl rfl) ?_
      refine h_skip (wg rfl rfl rfl) ?_
      refine h_skip (wg rfl rfl rfl) ?_
      refine h_op (vB false) (wt rfl) rfl ?_
      refine h_op (vB false) (wt rfl) rfl ?_
      refine h_skip (wg rfl rfl rfl) ?_
      refine h_skip (wg rfl rfl rfl) ?_
      refine h_skip (wg rfl rfl rfl) ?_
      refine h_skip (wg rfl rfl rfl) ?_
      refine h_skip (wg rfl rfl rfl) ?_
      refine h_skip (wg rfl rfl rfl) ?_
      refine h_skip (wg rfl rfl rfl) ?_
      refine h_skip (wg rfl rfl rfl) ?_
      refine h_op (vB false) (wt rfl) rfl ?_
      refine h_op (vB false) (wt rfl) rfl ?_
      refine h_nil ?_
      replace h_6 := some_inj h_6
      subst h_6
      exact cut_mk () trivial rfl (pre_r rfl)
  · rintro ⟨⟩ _ sl_ H_ hp_ hq_
    refine wH_at _ hp_ hq_ ?_
    replace hF := some_inj hF
    subst hF
    refine wH_ret ?_
    exact fin0 (.inr rfl) [(vB v_5)] ⟨rfl, trivial⟩ rfl rfl rfl
theorem slices_EqualFunc_api_Rect_api_Rect_api_Rect_api_Rect_v3_ok {s1_1 : (List Rect)} {s2_2 : (List Rect)} {r : Bool} (hF : slices_EqualFunc_api_Rect_api_Rect_api_Rect_api_Rect_v3 s1_1 s2_2 = some r) :
    FnM Try.prog 177 [(dV (exA s1_1 0) 4 s1_1), (dV (exB s1_1 0) 4 s2_2), (.fn 178 [])] (([] : List Box) ++ gI 4 Rect.enc s1_1 ++ gI 4 Rect.enc s2_2) (vB r) (([] : List Box).map some ++ gT s1_1 (gB 4 Rect.enc s1_1) ++ gT s2_2 (gB 4 Rect.enc s2_2)) := by
  refine FnM.of_wHv2 ⟨Try.prog, 32, [], []⟩ rfl Try.func177 rfl rfl (Nat.le_of_ble_eq_true rfl) (by kernel_rfl) ?_
  unfold slices_EqualFunc_api_Rect_api_Rect_api_Rect_api_Rect_v3 at hF
  refine wH_seq ?_
  refine wH_region ?_
  refine h_op (vB false) (wt rfl) rfl ?_
  refine h_nil ?_
  refine wH_seq ?_
  refine wH_seq ?_
  refine wH_region ?_
  refine h_op (dV (exA s1_1 0) 4 s1_1) (wt rfl) rfl ?_
  refine h_lend un94 rfl (wt rfl) ?_
  refine h_op (dV (exB s1_1 0) 4 s2_2) (wt rfl) rfl ?_
  refine h_lend un94 rfl (wt rfl) ?_
  refine h_op (vB ((s1_1.length : Int) != (s2_2.length : Int))) (wt rfl) rfl ?_
  refine h_nil ?_
  rcases cond_some hF with ⟨hc_4, hF⟩ | ⟨hc_4, hF⟩
  · refine wH_ift rfl hc_4 ?_
    refine wH_seq ?_
    refine wH_region ?_
    refine h_op (vB false) (wt rfl) rfl ?_
    refine h_nil ?_
    replace hF := some_inj hF
    subst hF
    refine wH_ret ?_
    exact finV2 (bs := ([] : List Box)) (os := ([] : List Box)) (xs := s1_1) (ys := s2_2) (o := gB 4 Rect.enc s1_1) (o2 := gB 4 Rect.enc s2_2) (.inr rfl) [(vB false)] ⟨rfl, trivial⟩ rfl rfl rfl rfl rfl rfl (by kernel_rfl) gB_ok gB_ok rfl
  · refine wH_iff rfl hc_4 ?_
    refine wH_skip ?_
    refine wH_seq ?_
    refine wH_seq ?_
    refine wH_region ?_
    refine h_op (dV (exA s1_1 0) 4 s1_1) (wt rfl) rfl ?_
    refine h_lend un94 rfl (wt rfl) ?_
    refine h_op (vI 0) (wt rfl) rfl ?_
    refine h_nil ?_
    obtain ⟨o_13, hj_14, hF⟩ := bind_some hF
    obtain ⟨hn_9, hj_14⟩ := forL_some hj_14
    refine wH_join (β := (Unit)) (fun (s_10 : Unit) => ([] : List (Nat × V))) (fun (s_10 : Unit) => ([((exA s1_1 0), gB 4 Rect.enc s1_1), ((exB s1_1 0), gB 4 Rect.enc s2_2)] : Hp)) (fun p => o_13 = .go p) ?_ ?_
    · refine wH_block ?_
      refine wH_loop (β := Nat × (List Nat) × (Unit)) (fun p => (fun (k_5 : Nat) (l_6 : List Nat) (s_10 : Unit) => ([(1, (dV (exB s1_1 0) 4 s2_2)), (2, (.fn 178 [])), (15, (dV (exA s1_1 0) 4 s1_1)), (16, (vI (s1_1.length : Int))), (17, (vI (k_5 : Int)))] : List (Nat × V))) p.1 p.2.1 p.2.2) (fun p => (fun (k_5 : Nat) (l_6 : List Nat) (s_10 : Unit) => ([((exA s1_1 0), gB 4 Rect.enc s1_1), ((exB s1_1 0), gB 4 Rect.enc s2_2)] : Hp)) p.1 p.2.1 p.2.2) (fun p => forR (fun k x s => slices_EqualFunc_api_Rect_api_Rect_api_Rect_api_Rect_v3_L1 s1_1 s2_2 k x s) p.2.1 p.1 p.2.2 = some o_13 ∧ ((List.range ((s1_1.length : Int)).toNat)).drop p.1 = p.2.1) (fun p => p.2.1.length) (0, (List.range ((s1_1.length : Int)).toNat), ()) ⟨hj_14, rfl⟩ rfl (pre_r rfl) ?_
      rintro ⟨k_5, l_6, s_10⟩ ⟨hL_12, hD_8⟩
      dsimp only at hL_12 hD_8
      cases l_6 with
      | nil =>
        replace hL_12 := some_inj hL_12
        subst hL_12
        refine wH_seq (wH_region (h_op (vB (decide ((k_5 : Int) < (s1_1.length : Int)))) (wt rfl) rfl (h_nil ?_)))
        refine wH_seq (wH_iff rfl (range_nil hD_8) (wH_exit ?_))
        exact cut_mk (s_10) rfl rfl (pre_r rfl)
      | cons x_7 l_6 =>
        obtain ⟨c_, hc_11, hL_12⟩ := bind_some hL_12
        refine wH_seq (wH_region (h_op (vB (decide ((k_5 : Int) < (s1_1.length : Int)))) (wt rfl) rfl (h_nil ?_)))
        refine wH_seq (wH_ift rfl (range_cons hD_8) (wH_skip ?_))
        unfold slices_EqualFunc_api_Rect_api_Rect_api_Rect_api_Rect_v3_L1 at hc_11
        refine wH_seq ?_
        refine wH_block ?_
        refine wH_seq ?_
        refine wH_region ?_
        refine h_op (vI (k_5 : Int)) (wt rfl) rfl ?_
        obtain ⟨_, hi_15, hc_11⟩ := bind_some hc_11
        refine h_iavd es94 rfl rfl (inR_0 hi_15) (inR_lt hi_15) (wt rfl) ?_
        obtain ⟨e_16, hy_17, hc_11⟩ := bind_some hc_11
        refine h_ldvg 0 0 (.inl rfl) (fun _ _ _ => trivial) sz92 ag92 rfl rfl hy_17 (.d (.agg (Rect.enc e_16))) rfl (wt rfl) ?_
        refine h_alloc 0 (.inl rfl) z92 rfl (wt rfl) (fun n_18 => ?_)
        refine h_op (vI (k_5 : Int)) (wt rfl) rfl ?_
        refine h_str 0 (.inl rfl) (fun _ _ _ => trivial) 2 sz92 rfl rfl [(vI e_16.X), (vI e_16.Y), (vI e_16.W), (vI e_16.H)] rfl (wt rfl) ?_
        refine h_nil ?_
        refine wH_seq ?_
        refine wH_region ?_
        refine h_op (dV (exB s1_1 0) 4 s2_2) (wt rfl) rfl ?_
        refine h_op (vI (k_5 : Int)) (wt rfl) rfl ?_
        obtain ⟨_, hi_19, hc_11⟩ := bind_some hc_11
        refine h_iavd es94 rfl rfl (inR_0 hi_19) (inR_lt hi_19) (wt rfl) ?_
        obtain ⟨e_20, hy_21, hc_11⟩ := bind_some hc_11
        refine h_ldvg 0 1 (.inl rfl) (fun _ _ _ => trivial) sz92 ag92 rfl rfl hy_21 (.d (.agg (Rect.enc e_20))) rfl (wt rfl) ?_
        refine h_alloc 0 (.inl rfl) z92 rfl (wt rfl) (fun n_22 => ?_)
        refine h_str 0 (.inl rfl) (fun _ _ _ => trivial) 3 sz92 rfl rfl [(vI e_20.X), (vI e_20.Y), (vI e_20.W), (vI e_20.H)] rfl (wt rfl) ?_
        refine h_nil ?_
        refine wH_seq ?_
        refine wH_region ?_
        refine h_op (.fn 178 []) (wt rfl) rfl ?_
        refine h_ldr 0 2 (.inl rfl) (fun _ _ _ => trivial) sz92 ag92 rfl rfl (.d (.agg (Rect.enc e_16))) rfl (wt rfl) ?_
        refine h_ldr 0 3 (.inl rfl) (fun _ _ _ => trivial) sz92 ag92 rfl rfl (.d (.agg (Rect.enc e_20))) rfl (wt rfl) ?_
        obtain ⟨r_23, hr_24, hc_11⟩ := bind_some hc_11
        refine h_call0 (ref_regionOf_3_ok hr_24) rfl hb178 rfl rfl rfl rfl (wt rfl) ?_
        refine h_op (vB (!r_23)) (wt rfl) rfl ?_
        refine h_nil ?_
        rcases cond_some hc_11 with ⟨hc_25, hc_11⟩ | ⟨hc_25, hc_11⟩
        · refine wH_ift rfl hc_25 ?_
          refine wH_seq ?_
          refine wH_region ?_
          refine h_op (vB false) (wt rfl) rfl ?_
          refine h_nil ?_
          replace hc_11 := some_inj hc_11
          subst hc_11
          replace hL_12 := some_inj hL_12
          subst hL_12
          replace hF := some_inj hF
          subst hF
          refine wH_ret ?_
          exact finV2 (bs := ([] : List Box)) (os := ([] : List Box)) (xs := s1_1) (ys := s2_2) (o := gB 4 Rect.enc s1_1) (o2 := gB 4 Rect.enc s2_2) (.inr rfl) [(vB false)] ⟨rfl, trivial⟩ rfl rfl rfl rfl rfl rfl (by kernel_rfl) gB_ok gB_ok rfl
        · refine wH_iff rfl hc_25 ?_
          refine wH_skip ?_
          refine wH_region ?_
          refine h_opw (w64_nextr hD_8 hn_9) (wt rfl) rfl ?_
          refine h_op (vI ((k_5 + 1 : Nat) : Int)) (wt rfl) rfl ?_
          refine h_nil ?_
          replace hc_11 := some_inj hc_11
          subst hc_11
          exact loop_mk (k_5 + 1, l_6, ()) ⟨hL_12, drop_next hD_8⟩ (Nat.lt_succ_self _) rfl (pre_r rfl)
    · rintro s_10 ho_ sl_ H_ hp_ hq_
      subst ho_
      refine wH_at _ hp_ hq_ ?_
      refine wH_seq ?_
      refine wH_region ?_
      refine h_op (vB true) (wt rfl) rfl ?_
      refine h_nil ?_
      replace hF := some_inj hF
      subst hF
      refine wH_ret ?_
      exact finV2 (bs := ([] : List Box)) (os := ([] : List Box)) (xs := s1_1) (ys := s2_2) (o := gB 4 Rect.enc s1_1) (o2 := gB 4 Rect.enc s2_2) (.inr rfl) [(vB true)] ⟨rfl, trivial⟩ rfl rfl rfl rfl rfl rfl (by kernel_rfl) gB_ok gB_ok rfl
theorem ref_regionOf_v1_ok {l_1 : (List Rect)} {is2_3 : (List Rect)} {r : (List Rect)} (hF : ref_regionOf_v1 l_1 is2_3 = some r) :
    FnM Try.prog 133 [(vL Rect.enc l_1), (.fn 134 [(.ref (extN 0) 0 0)])] [(.cells 1 [(vL Rect.enc is2_3)])] (vL Rect.enc r) [some (.cells 1 [(vL Rect.enc is2_3)])] := by
  refine FnM.of_wH ⟨Try.prog, 149, [], []⟩ rfl Try.func133 rfl rfl (Nat.le_of_ble_eq_true rfl) (by kernel_rfl) ?_
  unfold ref_regionOf_v1 at hF
  refine wH_seq ?_
  refine wH_region ?_
  refine h_op .nil (wt rfl) rfl ?_
  refine h_nil ?_
  refine wH_seq ?_
  refine wH_region ?_
  refine h_op (vL Rect.enc l_1) (wt rfl) rfl ?_
  obtain ⟨r_4, hr_5, hF⟩ := bind_some hF
  refine h_call0 (ref_cuts_v1_ok hr_5) rfl hb174 rfl rfl rfl rfl (wt rfl) ?_
  refine h_op (vL eI r_4) (wt rfl) rfl ?_
  refine h_nil ?_
  refine wH_seq ?_
  refine wH_region ?_
  refine h_op (vL Rect.enc l_1) (wt rfl) rfl ?_
  obtain ⟨r_6, hr_7, hF⟩ := bind_some hF
  refine h_call0 (ref_cuts_v2_ok hr_7) rfl hb174 rfl rfl rfl rfl (wt rfl) ?_
  refine h_op (vL eI r_6) (wt rfl) rfl ?_
  refine h_nil ?_
  refine wH_seq ?_
  refine wH_region ?_
  refine h_op .nil (wt rfl) rfl ?_
  refine h_op .nil (wt rfl) rfl ?_
  refine h_nil ?_
  refine wH_seq ?_
  refine wH_seq ?_
  refine wH_region ?_
  refine h_op (vI 0) (wt rfl) rfl ?_
  refine h_nil ?_
  refine wH_new (fun n_14 => ?_)
  refine wH_new (fun n_15 => ?_)
  obtain ⟨o_22, hj_23, hF⟩ := bind_some hF
  obtain ⟨nq_117, hj_23⟩ := loopO_iter hj_23
  refine wH_join (β := ((List Rect) × (List Rect) × Int) × Nm × Nm) (fun p => (fun (s_13 : (List Rect) × (List Rect) × Int) (n_18 : Nm) (n_19 : Nm) => ([(7, (gV n_18 4 s_13.1)), (8, (gV n_19 4 s_13.2.1))] : List (Nat × V))) p.1 p.2.1 p.2.2) (fun p => (fun (s_13 : (List Rect) × (List Rect) × Int) (n_18 : Nm) (n_19 : Nm) => ([((extN 0), some (.cells 1 [(vL Rect.enc is2_3)])), (n_18, gB 4 Rect.enc s_13.1), (n_19, gB 4 Rect.enc s_13.2.1)] : Hp)) p.1 p.2.1 p.2.2) (fun p => o_22 = .go p.1) ?_ ?_
  · refine wH_block ?_
    refine wH_loop (β := Nat × ((List Rect) × (List Rect) × Int) × Nm × Nm) (fun p => (fun (k_8 : Nat) (s_13 : (List Rect) × (List Rect) × Int) (n_18 : Nm) (n_19 : Nm) => ([(1, (.fn 134 [(.ref (extN 0) 0 0)])), (5, (vL eI r_4)), (6, (vL eI r_6)), (7, (gV n_18 4 s_13.1)), (8, (gV n_19 4 s_13.2.1)), (9, (vI s_13.2.2))] : List (Nat × V))) p.1 p.2.1 p.2.2.1 p.2.2.2) (fun p => (fun (k_8 : Nat) (s_13 : (List Rect) × (List Rect) × Int) (n_18 : Nm) (n_19 : Nm) => ([((extN 0), some (.cells 1 [(vL Rect.enc is2_3)])), (n_18, gB 4 Rect.enc s_13.1), (n_19, gB 4 Rect.enc s_13.2.1)] : Hp)) p.1 p.2.1 p.2.2.1 p.2.2.2) (fun p => iterN (fun s => ref_regionOf_v1_L3 r_6 r_4 is2_3 s) p.1 p.2.1 = some o_22) (fun p => p.1) (nq_117, (([] : List Rect), ([] : List Rect), 0), n_14, n_15) hj_23 rfl (pre_r rfl) ?_
    rintro ⟨k_8, s_13, n_18, n_19⟩ hL_21
    dsimp only at hL_21
    cases k_8 with
    | zero => cases hL_21
    | succ k_8 =>
      obtain ⟨c_, hc_20, hL_21⟩ := bind_some hL_21
      unfold ref_regionOf_v1_L3 at hc_20
      refine wH_seq ?_
      refine wH_seq ?_
      refine wH_region ?_
      refine h_op (vI s_13.2.2) (wt rfl) rfl ?_
      refine h_op (vI (w64 (s_13.2.2 + 1))) (wt rfl) rfl ?_
      refine h_op (vL eI r_6) (wt rfl) rfl ?_
      refine h_len un22 rfl (wt rfl) ?_
      refine h_op (vB (decide ((w64 (s_13.2.2 + 1)) < (r_6.length : Int)))) (wt rfl) rfl ?_
      refine h_nil ?_
      rcases cond_some hc_20 with ⟨hc_24, hc_20⟩ | ⟨hc_24, hc_20⟩
      · refine wH_ift rfl hc_24 ?_
        refine wH_skip ?_
        refine wH_seq ?_
        refine wH_block ?_
        refine wH_seq ?_
        refine wH_region ?_
        refine h_op .nil (wt rfl) rfl ?_
        refine h_nil ?_
        refine wH_seq ?_
        refine wH_seq ?_
        refine wH_region ?_
        refine h_op (vI 0) (wt rfl) rfl ?_
        refine h_nil ?_
        refine wH_new (fun n_31 => ?_)
        obtain ⟨o_36, hj_37, hc_20⟩ := bind_some hc_20
        obtain ⟨nq_113, hj_37⟩ := loopO_iter hj_37
        refine wH_join (β := ((List Rect) × Int) × Nm) (fun p => (fun (s_30 : (List Rect) × Int) (n_33 : Nm) => ([(1, (.fn 134 [(.ref (extN 0) 0 0)])), (5, (vL eI r_4)), (6, (vL eI r_6)), (7, (gV n_18 4 s_13.1)), (8, (gV n_19 4 s_13.2.1)), (9, (vI s_13.2.2)), (10, (gV n_33 4 s_30.1))] : List (Nat × V))) p.1 p.2) (fun p => (fun (s_30 : (List Rect) × Int) (n_33 : Nm) => ([((extN 0), some (.cells 1 [(vL Rect.enc is2_3)])), (n_18, gB 4 Rect.enc s_13.1), (n_19, gB 4 Rect.enc s_13.2.1), (n_33, gB 4 Rect.enc s_30.1)] : Hp)) p.1 p.2) (fun p => o_36 = .go p.1) ?_ ?_
        · refine wH_block ?_
          refine wH_loop (β := Nat × ((List Rect) × Int) × Nm) (fun p => (fun (k_25 : Nat) (s_30 : (List Rect) × Int) (n_33 : Nm) => ([(1, (.fn 134 [(.ref (extN 0) 0 0)])), (5, (vL eI r_4)), (6, (vL eI r_6)), (7, (gV n_18 4 s_13.1)), (8, (gV n_19 4 s_13.2.1)), (9, (vI s_13.2.2)), (10, (gV n_33 4 s_30.1)), (11, (vI s_30.2))] : List (Nat × V))) p.1 p.2.1 p.2.2) (fun p => (fun (k_25 : Nat) (s_30 : (List Rect) × Int) (n_33 : Nm) => ([((extN 0), some (.cells 1 [(vL Rect.enc is2_3)])), (n_18, gB 4 Rect.enc s_13.1), (n_19, gB 4 Rect.enc s_13.2.1), (n_33, gB 4 Rect.enc s_30.1)] : Hp)) p.1 p.2.1 p.2.2) (fun p => iterN (fun s => ref_regionOf_v1_L1 r_4 r_6 s_13 is2_3 s) p.1 p.2.1 = some o_36) (fun p => p.1) (nq_113, (([] : List Rect), 0), n_31) hj_37 rfl (pre_r rfl) ?_
          rintro ⟨k_25, s_30, n_33⟩ hL_35
          dsimp only at hL_35
          cases k_25 with
          | zero => cases hL_35
          | succ k_25 =>
            obtain ⟨c_, hc_34, hL_35⟩ := bind_some hL_35
            unfold ref_regionOf_v1_L1 at hc_34
            refine wH_seq ?_
            refine wH_seq ?_
            refine wH_region ?_
            refine h_op (vI s_30.2) (wt rfl) rfl ?_
            refine h_op (vI (w64 (s_30.2 + 1))) (wt rfl) rfl ?_
            refine h_op (vL eI r_4) (wt rfl) rfl ?_
            refine h_len un22 rfl (wt rfl) ?_
            refine h_op (vB (decide ((w64 (s_30.2 + 1)) < (r_4.length : Int)))) (wt rfl) rfl ?_
            refine h_nil ?_
            rcases cond_some hc_34 with ⟨hc_38, hc_34⟩ | ⟨hc_38, hc_34⟩
            · refine wH_ift rfl hc_38 ?_
              refine wH_skip ?_
              refine wH_seq ?_
              refine wH_block ?_
              refine wH_seq ?_
              refine wH_seq ?_
              refine wH_draws ?_
              refine h_op (.fn 134 [(.ref (extN 0) 0 0)]) (wt rfl) rfl ?_
              refine h_op (vL eI r_4) (wt rfl) rfl ?_
              refine h_op (vI s_30.2) (wt rfl) rfl ?_
              obtain ⟨y_39, hy_40, hc_34⟩ := bind_some hc_34
              refine h_ia es22 rfl rfl hy_40 rfl (wt rfl) ?_
              refine h_ldc sz3 ag3 rfl (vI y_39) rfl (wt rfl) ?_
              refine h_op (vL eI r_6) (wt rfl) rfl ?_
              refine h_op (vI s_13.2.2) (wt rfl) rfl ?_
              obtain ⟨y_41, hy_42, hc_34⟩ := bind_some hc_34
              refine h_ia es22 rfl rfl hy_42 rfl (wt rfl) ?_
              refine h_ldc sz3 ag3 rfl (vI y_41) rfl (wt rfl) ?_
              obtain ⟨r_43, hr_44, hc_34⟩ := bind_some hc_34
              refine h_callq 9 [0] (.inr (by kernel_rfl)) (fun _ _ ag => by exact trivial) (ref_RegionOf_1_ok hr_44) rfl hb134 rfl (by kernel_rfl) (by kernel_rfl) (by kernel_rfl) (by kernel_rfl) (by kernel_rfl) (by kernel_rfl) (by kernel_rfl) (by decide) (by kernel_rfl) (wt rfl) (vB r_43) (by kernel_rfl) ([((extN 0), some (.cells 1 [(vL Rect.enc is2_3)])), (n_18, gB 4 Rect.enc s_13.1), (n_19, gB 4 Rect.enc s_13.2.1), (n_33, gB 4 Rect.enc s_30.1)] : Hp) (by kernel_rfl) ?_
              refine h_op (vB (!r_43)) (wt rfl) rfl ?_
              refine h_nil ?_
              rcases cond_some hc_34 with ⟨hc_46, hc_34⟩ | ⟨hc_46, hc_34⟩
              · refine wH_ift rfl hc_46 ?_
                refine wH_exit ?_
                refine wH_region ?_
                refine h_op (vI s_30.2) (wt rfl) rfl ?_
                refine h_op (vI (w64 (s_30.2 + 1))) (wt rfl) rfl ?_
                refine h_op (vI (w64 (s_30.2 + 1))) (wt rfl) rfl ?_
                refine h_nil ?_
                replace hc_34 := some_inj hc_34
                subst hc_34
                exact loop_mk (k_25, (s_30.1, (w64 (s_30.2 + 1))), n_33) hL_35 (Nat.lt_succ_self _) rfl (pre_r rfl)
              · refine wH_iff rfl hc_46 ?_
                refine wH_skip ?_
                refine wH_seq ?_
                refine wH_region ?_
                refine h_op (gV n_33 4 s_30.1) (wt rfl) rfl ?_
                refine h_leng un94 rfl (wt rfl) ?_
                refine h_op (vI (w64 ((s_30.1.length : Int) - 1))) (wt rfl) rfl ?_
                refine h_op (vI (w64 ((s_30.1.length : Int) - 1))) (wt rfl) rfl ?_
                refine h_nil ?_
                refine wH_seq ?_
                obtain ⟨v_47, h_48, hc_34⟩ := bind_some hc_34
                refine wH_join (β := Unit) (fun _ => ([(1, (.fn 134 [(.ref (extN 0) 0 0)])), (5, (vL eI r_4)), (6, (vL eI r_6)), (7, (gV n_18 4 s_13.1)), (8, (gV n_19 4 s_13.2.1)), (9, (vI s_13.2.2)), (10, (gV n_33 4 s_30.1)), (11, (vI s_30.2)), (12, (vI (w64 ((s_30.1.length : Int) - 1)))), (66, (vB v_47))] : List (Nat × V))) (fun _ => ([((extN 0), some (.cells 1 [(vL Rect.enc is2_3)])), (n_18, gB 4 Rect.enc s_13.1), (n_19, gB 4 Rect.enc s_13.2.1), (n_33, gB 4 Rect.enc s_30.1)] : Hp)) (fun _ => True) ?_ ?_
                · refine wH_draws ?_
                  refine h_op (vI (w64 ((s_30.1.length : Int) - 1))) (wt rfl) rfl ?_
                  refine h_op (vB (decide ((w64 ((s_30.1.length : Int) - 1)) ≥ 0))) (wt rfl) rfl ?_
                  rcases cond_some h_48 with ⟨hc_49, h_48⟩ | ⟨hc_49, h_48⟩
                  · refine h_movb rfl hc_49 (wt rfl) ?_
                    refine h_op (gV n_33 4 s_30.1) (wg rfl rfl rfl) rfl ?_
                    refine h_op (vI (w64 ((s_30.1.length : Int) - 1))) (wg rfl rfl rfl) rfl ?_
                    obtain ⟨_, hi_50, h_48⟩ := bind_some h_48
                    refine h_iavg es94 rfl rfl (inR_0 hi_50) (inR_lt hi_50) (wg rfl rfl rfl) ?_
                    refine h_far pl92_0 rfl 0 rfl (wg rfl rfl rfl) ?_
                    obtain ⟨e_51, hy_52, h_48⟩ := bind_some h_48
                    refine h_ldvg 7 3 (.inr (by kernel_rfl)) (fun _ _ ag => trivial) sz3 ag3 rfl rfl hy_52 (vI e_51.X) rfl (wg rfl rfl rfl) ?_
                    refine h_op (gV n_33 4 s_30.1) (wg rfl rfl rfl) rfl ?_
                    refine h_op (vI (w64 ((s_30.1.length : Int) - 1))) (wg rfl rfl rfl) rfl ?_
                    obtain ⟨_, hi_53, h_48⟩ := bind_some h_48
                    refine h_iavg es94 rfl rfl (inR_0 hi_53) (inR_lt hi_53) (wg rfl rfl rfl) ?_
                    refine h_far pl92_2 rfl 2 rfl (wg rfl rfl rfl) ?_
                    obtain ⟨e_54, hy_55, h_48⟩ := bind_some h_48
                    refine h_ldvg 12 3 (.inr (by kernel_rfl)) (fun _ _ ag => ⟨.inl ⟨rfl, rfl⟩, trivial⟩) sz3 ag3 rfl rfl hy_55 (vI e_54.W) rfl (wg rfl rfl rfl) ?_
                    refine h_op (vI (w64 (e_51.X + e_54.W))) (wg rfl rfl rfl) rfl ?_
                    refine h_op (vL eI r_4) (wg rfl rfl rfl) rfl ?_
                    refine h_op (vI s_30.2) (wg rfl rfl rfl) rfl ?_
                    obtain ⟨y_56, hy_57, h_48⟩ := bind_some h_48
                    refine h_ia es22 rfl rfl hy_57 rfl (wg rfl rfl rfl) ?_
                    refine h_ldc sz3 ag3 rfl (vI y_56) rfl (wg rfl rfl rfl) ?_
                    refine h_op (vB ((w64 (e_51.X + e_54.W)) == y_56)) (wg rfl rfl rfl) rfl ?_
                    refine h_op (vB ((w64 (e_51.X + e_54.W)) == y_56)) (wt rfl) rfl ?_
                    refine h_nil ?_
                    replace h_48 := some_inj h_48
                    subst h_48
                    exact cut_mk () trivial rfl (pre_r rfl)
                  · refine h_movb rfl hc_49 (wt rfl) ?_
                    refine h_skip (wg rfl rfl rfl) ?_
                    refine h_skip (wg rfl rfl rfl) ?_
                    refine h_skip (wg rfl rfl rfl) ?_
                    refine h_skip (wg rfl rfl rfl) ?_
                    refine h_skip (wg rfl rfl rfl) ?_
                    refine h_skip (wg rfl rfl rfl) ?_
                    refine h_skip (wg rfl rfl rfl) ?_
                    refine h_skip (wg rfl rfl rfl) ?_
                    refine h_skip (wg rfl rfl rfl) ?_
                    refine h_skip (wg rfl rfl rfl) ?_
                    refine h_skip (wg rfl rfl rfl) ?_
                    refine h_skip (wg rfl rfl rfl) ?_
                    refine h_skip (wg rfl rfl rfl) ?_
                    refine h_skip (wg rfl rfl rfl) ?_
                    refine h_skip (wg rfl rfl rfl) ?_
                    refine h_skip (wg rfl rfl rfl) ?_
                    refine h_op (vB false) (wt rfl) rfl ?_
                    refine h_nil ?_
                    replace h_48 := some_inj h_48
                    subst h_48
                    exact cut_mk () trivial rfl (pre_r rfl)
                · rintro ⟨⟩ _ sl_ H_ hp_ hq_
                  refine wH_at _ hp_ hq_ ?_
                  obtain ⟨v_58, h_59, hc_34⟩ := bind_some hc_34
                  refine wH_join (β := Nm) (fun (n_60 : Nm) => ([(1, (.fn 134 [(.ref (extN 0) 0 0)])), (5, (vL eI r_4)), (6, (vL eI r_6)), (7, (gV n_18 4 s_13.1)), (8, (gV n_19 4 s_13.2.1)), (9, (vI s_13.2.2)), (10, (gV n_60 4 v_58)), (11, (vI s_30.2))] : List (Nat × V))) (fun (n_60 : Nm) => ([((extN 0), some (.cells 1 [(vL Rect.enc is2_3)])), (n_18, gB 4 Rect.enc s_13.1), (n_19, gB 4 Rect.enc s_13.2.1), (n_60, gB 4 Rect.enc v_58)] : Hp)) (fun _ => True) ?_ ?_
                  · rcases cond_some h_59 with ⟨hc_61, h_59⟩ | ⟨hc_61, h_59⟩
                    · refine wH_ift rfl hc_61 ?_
                      refine wH_draws ?_
                      refine h_op (gV n_33 4 s_30.1) (wt rfl) rfl ?_
                      refine h_op (vI (w64 ((s_30.1.length : Int) - 1))) (wt rfl) rfl ?_
                      refine h_op (vL eI r_4) (wt rfl) rfl ?_
                      refine h_op (vI s_30.2) (wt rfl) rfl ?_
                      refine h_op (vI (w64 (s_30.2 + 1))) (wt rfl) rfl ?_
                      obtain ⟨y_62, hy_63, h_59⟩ := bind_some h_59
                      refine h_ia es22 rfl rfl hy_63 rfl (wt rfl) ?_
                      refine h_ldc sz3 ag3 rfl (vI y_62) rfl (wt rfl) ?_
                      refine h_op (gV n_33 4 s_30.1) (wt rfl) rfl ?_
                      refine h_op (vI (w64 ((s_30.1.length : Int) - 1))) (wt rfl) rfl ?_
                      obtain ⟨_, hi_64, h_59⟩ := bind_some h_59
                      refine h_iavg es94 rfl rfl (inR_0 hi_64) (inR_lt hi_64) (wt rfl) ?_
                      refine h_far pl92_0 rfl 0 rfl (wt rfl) ?_
                      obtain ⟨e_65, hy_66, h_59⟩ := bind_some h_59
                      refine h_ldvg 11 3 (.inr (by kernel_rfl)) (fun _ _ ag => trivial) sz3 ag3 rfl rfl hy_66 (vI e_65.X) rfl (wt rfl) ?_
                      refine h_op (vI (w64 (y_62 - e_65.X))) (wt rfl) rfl ?_
                      obtain ⟨_, hi_67, h_59⟩ := bind_some h_59
                      refine h_iavg es94 rfl rfl (inR_0 hi_67) (inR_lt hi_67) (wt rfl) ?_
                      refine h_far pl92_2 rfl 2 rfl (wt rfl) ?_
                      obtain ⟨e_68, hy_69, h_59⟩ := bind_some h_59
                      refine h_stvg 15 (.inr (by kernel_rfl)) (fun _ _ ag => ⟨.inr (.inr (by kernel_rfl)), trivial⟩) 3 sz3 rfl rfl hy_69 (⟨e_68.X, e_68.Y, (w64 (y_62 - e_65.X)), e_68.H⟩ : Rect) rfl (wt rfl) ?_
                      refine h_re (v' := (gV n_33 4 (s_30.1.set (0 + ((w64 ((s_30.1.length : Int) - 1))).toNat) (⟨e_68.X, e_68.Y, (w64 (y_62 - e_65.X)), e_68.H⟩ : Rect)))) 10 rfl (gV_len (by simp)) ?_
                      refine h_re (v' := (gV n_33 4 (s_30.1.set (0 + ((w64 ((s_30.1.length : Int) - 1))).toNat) (⟨e_68.X, e_68.Y, (w64 (y_62 - e_65.X)), e_68.H⟩ : Rect)))) 67 rfl (gV_len (by simp)) ?_
                      refine h_re (v' := (gV n_33 4 (s_30.1.set (0 + ((w64 ((s_30.1.length : Int) - 1))).toNat) (⟨e_68.X, e_68.Y, (w64 (y_62 - e_65.X)), e_68.H⟩ : Rect)))) 74 rfl (gV_len (by simp)) ?_
                      refine h_nil ?_
                      replace h_59 := some_inj h_59
                      subst h_59
                      exact cut_mk n_33 trivial rfl (pre_r rfl)
                    · refine wH_iff rfl hc_61 ?_
                      refine wH_draws ?_
                      refine h_op (gV n_33 4 s_30.1) (wt rfl) rfl ?_
                      refine h_op (vL eI r_4) (wt rfl) rfl ?_
                      refine h_op (vI s_30.2) (wt rfl) rfl ?_
                      obtain ⟨y_70, hy_71, h_59⟩ := bind_some h_59
                      refine h_ia es22 rfl rfl hy_71 rfl (wt rfl) ?_
                      refine h_ldc sz3 ag3 rfl (vI y_70) rfl (wt rfl) ?_
                      refine h_op (vL eI r_6) (wt rfl) rfl ?_
                      refine h_op (vI s_13.2.2) (wt rfl) rfl ?_
                      obtain ⟨y_72, hy_73, h_59⟩ := bind_some h_59
                      refine h_ia es22 rfl rfl hy_73 rfl (wt rfl) ?_
                      refine h_ldc sz3 ag3 rfl (vI y_72) rfl (wt rfl) ?_
                      refine h_op (vL eI r_4) (wt rfl) rfl ?_
                      refine h_op (vI s_30.2) (wt rfl) rfl ?_
                      refine h_op (vI (w64 (s_30.2 + 1))) (wt rfl) rfl ?_
                      obtain ⟨y_74, hy_75, h_59⟩ := bind_some h_59
                      refine h_ia es22 rfl rfl hy_75 rfl (wt rfl) ?_
                      refine h_ldc sz3 ag3 rfl (vI y_74) rfl (wt rfl) ?_
                      refine h_op (vL eI r_4) (wt rfl) rfl ?_
                      refine h_op (vI s_30.2) (wt rfl) rfl ?_
                      obtain ⟨y_76, hy_77, h_59⟩ := bind_some h_59
                      refine h_ia es22 rfl rfl hy_77 rfl (wt rfl) ?_
                      refine h_ldc sz3 ag3 rfl (vI y_76) rfl (wt rfl) ?_
                      refine h_op (vI (w64 (y_74 - y_76))) (wt rfl) rfl ?_
                      refine h_op (vL eI r_6) (wt rfl) rfl ?_
                      refine h_op (vI s_13.2.2) (wt rfl) rfl ?_
                      refine h_op (vI (w64 (s_13.2.2 + 1))) (wt rfl) rfl ?_
                      obtain ⟨y_78, hy_79, h_59⟩ := bind_some h_59
                      refine h_ia es22 rfl rfl hy_79 rfl (wt rfl) ?_
                      refine h_ldc sz3 ag3 rfl (vI y_78) rfl (wt rfl) ?_
                      refine h_op (vL eI r_6) (wt rfl) rfl ?_
                      refine h_op (vI s_13.2.2) (wt rfl) rfl ?_
                      obtain ⟨y_80, hy_81, h_59⟩ := bind_some h_59
                      refine h_ia es22 rfl rfl hy_81 rfl (wt rfl) ?_
                      refine h_ldc sz3 ag3 rfl (vI y_80) rfl (wt rfl) ?_
                      refine h_op (vI (w64 (y_78 - y_80))) (wt rfl) rfl ?_
                      refine h_op (.d (.agg (Rect.enc (⟨y_70, y_72, (w64 (y_74 - y_76)), (w64 (y_78 - y_80))⟩ : Rect)))) (wt rfl) (by kernel_rfl) ?_
                      refine h_lit (([(⟨y_70, y_72, (w64 (y_74 - y_76)), (w64 (y_78 - y_80))⟩ : Rect)] : List Rect).map Rect.enc) es94 ez94 rfl rfl rfl rfl rfl (wt rfl) ?_
                      obtain ⟨a_82, hz_83, h_59⟩ := bind_some h_59
                      refine h_appg 31 (.inr (by kernel_rfl)) (fun _ _ ag => trivial) (i := 3) el94 el94 sz92 z92 rfl (by decide) by92 (by decide) (fun _ => rfl) rfl rfl rfl hz_83 (wt rfl) (fun n_84 => ?_)
                      refine h_op (gV n_84 4 a_82) (wt rfl) rfl ?_
                      refine h_nil ?_
                      replace h_59 := some_inj h_59
                      subst h_59
                      exact cut_mk n_84 trivial rfl (pre_r rfl)
                  · rintro n_60 _ sl_ H_ hp_ hq_
                    refine wH_at _ hp_ hq_ ?_
                    refine wH_region ?_
                    refine h_op (vI s_30.2) (wt rfl) rfl ?_
                    refine h_op (vI (w64 (s_30.2 + 1))) (wt rfl) rfl ?_
                    refine h_op (vI (w64 (s_30.2 + 1))) (wt rfl) rfl ?_
                    refine h_nil ?_
                    replace hc_34 := some_inj hc_34
                    subst hc_34
                    exact loop_mk (k_25, (v_58, (w64 (s_30.2 + 1))), n_60) hL_35 (Nat.lt_succ_self _) rfl (pre_r rfl)
            · refine wH_iff rfl hc_38 ?_
              refine wH_exit ?_
              replace hc_34 := some_inj hc_34
              subst hc_34
              replace hL_35 := some_inj hL_35
              subst hL_35
              exact cut_mk ((s_30.1, s_30.2), n_33) rfl rfl (pre_r rfl)
        · rintro ⟨s_30, n_33⟩ ho_ sl_ H_ hp_ hq_
          subst ho_
          refine wH_at _ hp_ hq_ ?_
          refine wH_seq ?_
          refine wH_region ?_
          refine h_op (gV n_33 4 s_30.1) (wt rfl) rfl ?_
          refine h_op (gV n_19 4 s_13.2.1) (wt rfl) rfl ?_
          obtain ⟨r_85, hr_86, hc_20⟩ := bind_some hc_20
          refine h_callv2 0 [] 3 2 0 1 (.inl rfl) (fun _ _ _ => trivial) (slices_EqualFunc_api_Rect_api_Rect_api_Rect_api_Rect_v3_ok hr_86) rfl hb177 rfl rfl rfl rfl (by kernel_rfl) rfl (.inl rfl) rfl rfl (.inl rfl) rfl (by decide) (by kernel_rfl) (by kernel_rfl) (by kernel_rfl) (by kernel_rfl) rfl (by decide) (by kernel_rfl) gB_ok (gB_ho rfl) gB_ok (gB_ho rfl) (wt rfl) ([((extN 0), some (.cells 1 [(vL Rect.enc is2_3)])), (n_18, gB 4 Rect.enc s_13.1), (n_19, gB 4 Rect.enc s_13.2.1), (n_33, gB 4 Rect.enc s_30.1)] : Hp) (by kernel_rfl) ?_
          refine h_op (vB r_85) (wt rfl) rfl ?_
          refine h_nil ?_
          refine wH_seq ?_
          refine wH_seq ?_
          obtain ⟨v_87, h_88, hc_20⟩ := bind_some hc_20
          refine wH_join (β := Unit) (fun _ => ([(1, (.fn 134 [(.ref (extN 0) 0 0)])), (5, (vL eI r_4)), (6, (vL eI r_6)), (7, (gV n_18 4 s_13.1)), (8, (gV n_19 4 s_13.2.1)), (9, (vI s_13.2.2)), (10, (gV n_33 4 s_30.1)), (122, (vB v_87))] : List (Nat × V))) (fun _ => ([((extN 0), some (.cells 1 [(vL Rect.enc is2_3)])), (n_18, gB 4 Rect.enc s_13.1), (n_19, gB 4 Rect.enc s_13.2.1), (n_33, gB 4 Rect.enc s_30.1)] : Hp)) (fun _ => True) ?_ ?_
          · refine wH_region ?_
            refine h_op (vB r_85) (wt rfl) rfl ?_
            rcases cond_some h_88 with ⟨hc_89, h_88⟩ | ⟨hc_89, h_88⟩
            · refine h_movb rfl hc_89 (wt rfl) ?_
              refine h_op (gV n_33 4 s_30.1) (wg rfl rfl rfl) rfl ?_
              refine h_leng un94 rfl (wg rfl rfl rfl) ?_
              refine h_op (vB (decide ((s_30.1.length : Int) > 0))) (wg rfl rfl rfl) rfl ?_
              refine h_op (vB (decide ((s_30.1.length : Int) > 0))) (wt rfl) rfl ?_
              refine h_nil ?_
              replace h_88 := some_inj h_88
              subst h_88
              exact cut_mk () trivial rfl (pre_r rfl)
            · refine h_movb rfl hc_89 (wt rfl) ?_
              refine h_skip (wg rfl rfl rfl) ?_
              refine h_skip (wg rfl rfl rfl) ?_
              refine h_skip (wg rfl rfl rfl) ?_
              refine h_op (vB false) (wt rfl) rfl ?_
              refine h_nil ?_
              replace h_88 := some_inj h_88
              subst h_88
              exact cut_mk () trivial rfl (pre_r rfl)
          · rintro ⟨⟩ _ sl_ H_ hp_ hq_
            refine wH_at _ hp_ hq_ ?_
            rcases cond_some hc_20 with ⟨hc_90, hc_20⟩ | ⟨hc_90, hc_20⟩
            · refine wH_ift rfl hc_90 ?_
              refine wH_seq ?_
              refine wH_seq ?_
              refine wH_region ?_
              refine h_op (gV n_19 4 s_13.2.1) (wt rfl) rfl ?_
              refine h_leng un94 rfl (wt rfl) ?_
              refine h_op (vI 0) (wt rfl) rfl ?_
              refine h_nil ?_
              obtain ⟨o_99, hj_100, hc_20⟩ := bind_some hc_20
              obtain ⟨hn_95, hj_100⟩ := forL_some hj_100
              refine wH_join (β := ((List Rect))) (fun (s_96 : (List Rect)) => ([(1, (.fn 134 [(.ref (extN 0) 0 0)])), (5, (vL eI r_4)), (6, (vL eI r_6)), (7, (gV n_18 4 s_13.1)), (8, (gV n_19 4 s_96)), (9, (vI s_13.2.2))] : List (Nat × V))) (fun (s_96 : (List Rect)) => ([((extN 0), some (.cells 1 [(vL Rect.enc is2_3)])), (n_18, gB 4 Rect.enc s_13.1), (n_19, gB 4 Rect.enc s_96), (n_33, gB 4 Rect.enc s_30.1)] : Hp)) (fun p => o_99 = .go p) ?_ ?_
              · refine wH_block ?_
                refine wH_loop (β := Nat × (List Nat) × ((List Rect))) (fun p => (fun (k_91 : Nat) (l_92 : List Nat) (s_96 : (List Rect)) => ([(1, (.fn 134 [(.ref (extN 0) 0 0)])), (5, (vL eI r_4)), (6, (vL eI r_6)), (7, (gV n_18 4 s_13.1)), (8, (gV n_19 4 s_96)), (9, (vI s_13.2.2)), (10, (gV n_33 4 s_30.1)), (124, (vI (s_13.2.1.length : Int))), (125, (vI (k_91 : Int)))] : List (Nat × V))) p.1 p.2.1 p.2.2) (fun p => (fun (k_91 : Nat) (l_92 : List Nat) (s_96 : (List Rect)) => ([((extN 0), some (.cells 1 [(vL Rect.enc is2_3)])), (n_18, gB 4 Rect.enc s_13.1), (n_19, gB 4 Rect.enc s_96), (n_33, gB 4 Rect.enc s_30.1)] : Hp)) p.1 p.2.1 p.2.2) (fun p => forR (fun k x s => ref_regionOf_v1_L2 s_30 k x s) p.2.1 p.1 p.2.2 = some o_99 ∧ ((List.range ((s_13.2.1.length : Int)).toNat)).drop p.1 = p.2.1) (fun p => p.2.1.length) (0, (List.range ((s_13.2.1.length : Int)).toNat), s_13.2.1) ⟨hj_100, rfl⟩ rfl (pre_r rfl) ?_
                rintro ⟨k_91, l_92, s_96⟩ ⟨hL_98, hD_94⟩
                dsimp only at hL_98 hD_94
                cases l_92 with
                | nil =>
                  replace hL_98 := some_inj hL_98
                  subst hL_98
                  refine wH_seq (wH_region (h_op (vB (decide ((k_91 : Int) < (s_13.2.1.length : Int)))) (wt rfl) rfl (h_nil ?_)))
                  refine wH_seq (wH_iff rfl (range_nil hD_94) (wH_exit ?_))
                  exact cut_mk (s_96) rfl rfl (pre_r rfl)
                | cons x_93 l_92 =>
                  obtain ⟨c_, hc_97, hL_98⟩ := bind_some hL_98
                  refine wH_seq (wH_region (h_op (vB (decide ((k_91 : Int) < (s_13.2.1.length : Int)))) (wt rfl) rfl (h_nil ?_)))
                  refine wH_seq (wH_ift rfl (range_cons hD_94) (wH_skip ?_))
                  unfold ref_regionOf_v1_L2 at hc_97
                  refine wH_seq ?_
                  refine wH_block ?_
                  refine wH_seq ?_
                  refine wH_region ?_
                  refine h_op (vI (k_91 : Int)) (wt rfl) rfl ?_
                  refine h_op (vI (k_91 : Int)) (wt rfl) rfl ?_
                  refine h_nil ?_
                  refine wH_draws ?_
                  refine h_op (gV n_19 4 s_96) (wt rfl) rfl ?_
                  refine h_op (vI (k_91 : Int)) (wt rfl) rfl ?_
                  obtain ⟨_, hi_101, hc_97⟩ := bind_some hc_97
                  refine h_iavg es94 rfl rfl (inR_0 hi_101) (inR_lt hi_101) (wt rfl) ?_
                  refine h_far pl92_3 rfl 3 rfl (wt rfl) ?_
                  obtain ⟨e_102, hy_103, hc_97⟩ := bind_some hc_97
                  refine h_ldvg 4 2 (.inr (by kernel_rfl)) (fun _ _ ag => trivial) sz3 ag3 rfl rfl hy_103 (vI e_102.H) rfl (wt rfl) ?_
                  refine h_op (gV n_33 4 s_30.1) (wt rfl) rfl ?_
                  refine h_op (vI (k_91 : Int)) (wt rfl) rfl ?_
                  obtain ⟨_, hi_104, hc_97⟩ := bind_some hc_97
                  refine h_iavg es94 rfl rfl (inR_0 hi_104) (inR_lt hi_104) (wt rfl) ?_
                  refine h_far pl92_3 rfl 3 rfl (wt rfl) ?_
                  obtain ⟨e_105, hy_106, hc_97⟩ := bind_some hc_97
                  refine h_ldvg 9 3 (.inr (by kernel_rfl)) (fun _ _ ag => ⟨.inl ⟨rfl, rfl⟩, trivial⟩) sz3 ag3 rfl rfl hy_106 (vI e_105.H) rfl (wt rfl) ?_
                  refine h_op (vI (w64 (e_102.H + e_105.H))) (wt rfl) rfl ?_
                  obtain ⟨_, hi_107, hc_97⟩ := bind_some hc_97
                  refine h_iavg es94 rfl rfl (inR_0 hi_107) (inR_lt hi_107) (wt rfl) ?_
                  refine h_far pl92_3 rfl 3 rfl (wt rfl) ?_
                  obtain ⟨e_108, hy_109, hc_97⟩ := bind_some hc_97
                  refine h_stvg 13 (.inr (by kernel_rfl)) (fun _ _ ag => ⟨.inr (.inr (by kernel_rfl)), ⟨.inr (.inr (by kernel_rfl)), trivial⟩⟩) 2 sz3 rfl rfl hy_109 (⟨e_108.X, e_108.Y, e_108.W, (w64 (e_102.H + e_105.H))⟩ : Rect) rfl (wt rfl) ?_
                  refine h_re (v' := (gV n_19 4 (s_96.set (0 + ((k_91 : Int)).toNat) (⟨e_108.X, e_108.Y, e_108.W, (w64 (e_102.H + e_105.H))⟩ : Rect)))) 8 rfl (gV_len (by simp)) ?_
                  refine h_re (v' := (gV n_19 4 (s_96.set (0 + ((k_91 : Int)).toNat) (⟨e_108.X, e_108.Y, e_108.W, (w64 (e_102.H + e_105.H))⟩ : Rect)))) 128 rfl (gV_len (by simp)) ?_
                  refine h_nil ?_
                  refine wH_region ?_
                  refine h_opw (w64_nextr hD_94 hn_95) (wt rfl) rfl ?_
                  refine h_op (vI ((k_91 + 1 : Nat) : Int)) (wt rfl) rfl ?_
                  refine h_nil ?_
                  replace hc_97 := some_inj hc_97
                  subst hc_97
                  exact loop_mk (k_91 + 1, l_92, (s_96.set (0 + ((k_91 : Int)).toNat) (⟨e_108.X, e_108.Y, e_108.W, (w64 (e_102.H + e_105.H))⟩ : Rect))) ⟨hL_98, drop_next hD_94⟩ (Nat.lt_succ_self _) rfl (pre_r rfl)
              · rintro s_96 ho_ sl_ H_ hp_ hq_
                subst ho_
                refine wH_at _ hp_ hq_ ?_
                refine wH_exit ?_
                refine wH_region ?_
                refine h_op (vI s_13.2.2) (wt rfl) rfl ?_
                refine h_op (vI (w64 (s_13.2.2 + 1))) (wt rfl) rfl ?_
                refine h_op (vI (w64 (s_13.2.2 + 1))) (wt rfl) rfl ?_
                refine h_nil ?_
                replace hc_20 := some_inj hc_20
                subst hc_20
                exact loop_mk (k_8, (s_13.1, s_96, (w64 (s_13.2.2 + 1))), n_18, n_19) hL_21 (Nat.lt_succ_self _) rfl (pre_r rfl)
            · refine wH_iff rfl hc_90 ?_
              refine wH_skip ?_
              refine wH_frozg 2 rfl ?_
              refine wH_cog 8 2 rfl rfl ?_
              refine wH_region ?_
              refine h_op (gV n_18 4 s_13.1) (wt rfl) rfl ?_
              refine h_op (vL Rect.enc s_13.2.1) (wt rfl) rfl ?_
              obtain ⟨a_110, hz_111, hc_20⟩ := bind_some hc_20
              refine h_appg 0 (.inl rfl) (fun _ _ _ => trivial) (i := 1) el94 el94 sz92 z92 rfl (by decide) by92 (by decide) (fun _ => rfl) rfl rfl rfl hz_111 (wt rfl) (fun n_112 => ?_)
              refine h_op (gV n_33 4 s_30.1) (wt rfl) rfl ?_
              refine h_op (gV n_112 4 a_110) (wt rfl) rfl ?_
              refine h_op (gV n_33 4 s_30.1) (wt rfl) rfl ?_
              refine h_nil ?_
              refine wH_region ?_
              refine h_op (vI s_13.2.2) (wt rfl) rfl ?_
              refine h_op (vI (w64 (s_13.2.2 + 1))) (wt rfl) rfl ?_
              refine h_op (vI (w64 (s_13.2.2 + 1))) (wt rfl) rfl ?_
              refine h_nil ?_
              replace hc_20 := some_inj hc_20
              subst hc_20
              exact loop_mk (k_8, (a_110, s_30.1, (w64 (s_13.2.2 + 1))), n_112, n_33) hL_21 (Nat.lt_succ_self _) rfl (pre_is [0, 1, 3] (by decide) rfl)
      · refine wH_iff rfl hc_24 ?_
        refine wH_exit ?_
        replace hc_20 := some_inj hc_20
        subst hc_20
        replace hL_21 := some_inj hL_21
        subst hL_21
        exact cut_mk ((s_13.1, s_13.2.1, s_13.2.2), n_18, n_19) rfl rfl (pre_r rfl)
  · rintro ⟨s_13, n_18, n_19⟩ ho_ sl_ H_ hp_ hq_
    subst ho_
    refine wH_at _ hp_ hq_ ?_
    refine wH_seq ?_
    refine wH_frozg 2 rfl ?_
    refine wH_cog 8 2 rfl rfl ?_
    refine wH_region ?_
    refine h_op (gV n_18 4 s_13.1) (wt rfl) rfl ?_
    refine h_op (vL Rect.enc s_13.2.1) (wt rfl) rfl ?_
    obtain ⟨a_114, hz_115, hF⟩ := bind_some hF
    refine h_appg 0 (.inl rfl) (fun _ _ _ => trivial) (i := 1) el94 el94 sz92 z92 rfl (by decide) by92 (by decide) (fun _ => rfl) rfl rfl rfl hz_115 (wt rfl) (fun n_116 => ?_)
    refine h_op (gV n_116 4 a_114) (wt rfl) rfl ?_
    refine h_nil ?_
    refine wH_frozg 1 rfl ?_
    refine wH_cog 4 1 rfl rfl ?_
    refine wH_cog 148 1 rfl rfl ?_
    replace hF := some_inj hF
    subst hF
    refine wH_ret ?_
    exact finB (.inr rfl) [(vL Rect.enc a_114)] _ [0] [extN 0] ⟨rfl, trivial⟩ (.cons (co_data rfl rfl) (.nil)) (by kernel_rfl) ⟨(by kernel_rfl), trivial⟩ (by decide) (by kernel_rfl)
theorem ref_RegionOf_ok {l_1 : (List Rect)} {r : (List Rect)} (hF : ref_RegionOf l_1 = some r) :
    FnM Try.prog 61 [(vL Rect.enc l_1)] [] (vL Rect.enc r) [] := by
  refine FnM.of_wH ⟨Try.prog, 6, [], []⟩ rfl Try.func61 rfl rfl (Nat.le_of_ble_eq_true rfl) (by kernel_rfl) ?_
  unfold ref_RegionOf at hF
  refine wH_seq ?_
  refine wH_region ?_
  refine h_box 0 (.inl rfl) [(vL Rect.enc l_1)] rfl rfl (wt rfl) (fun n_2 => ?_)
  refine h_op .nil (wt rfl) rfl ?_
  refine h_nil ?_
  refine wH_seq ?_
  refine wH_region ?_
  refine h_ldr 0 0 (.inl rfl) (fun _ _ _ => trivial) sz94 ag94 rfl rfl (vL Rect.enc l_1) rfl (wt rfl) ?_
  refine h_op (.fn 134 [(.ref n_2 0 0)]) (wt rfl) rfl ?_
  obtain ⟨r_3, hr_4, hF⟩ := bind_some hF
  refine h_callq 0 [0] (.inl rfl) (fun _ _ _ => trivial) (ref_regionOf_v1_ok hr_4) rfl hb133 rfl (by kernel_rfl) (by kernel_rfl) (by kernel_rfl) (by kernel_rfl) (by kernel_rfl) (by kernel_rfl) (by kernel_rfl) (by decide) (by kernel_rfl) (wt rfl) (vL Rect.enc r_3) (by kernel_rfl) ([(n_2, some (.cells 1 [(vL Rect.enc l_1)]))] : Hp) (by kernel_rfl) ?_
  refine h_op (vL Rect.enc r_3) (wt rfl) rfl ?_
  refine h_nil ?_
  replace hF := some_inj hF
  subst hF
  refine wH_ret ?_
  exact fin0 (.inr rfl) [(vL Rect.enc r_3)] ⟨rfl, trivial⟩ rfl rfl rfl
theorem ref_AreaOf_ok {l_1 : (List Rect)} {r : Int} (hF : ref_AreaOf l_1 = some r) :
    FnM Try.prog 62 [(vL Rect.enc l_1)] [] (vI r) [] := by
  refine FnM.of_wH ⟨Try.prog, 22, [], []⟩ rfl Try.func62 rfl rfl (Nat.le_of_ble_eq_true rfl) (by kernel_rfl) ?_
  unfold ref_AreaOf at hF
  refine wH_seq ?_
  refine wH_region ?_
  refine h_op (vI 0) (wt rfl) rfl ?_
  refine h_nil ?_
  refine wH_seq ?_
  refine wH_region ?_
  refine h_op (vI 0) (wt rfl) rfl ?_
  refine h_nil ?_
  refine wH_seq ?_
  refine wH_seq ?_
  refine wH_region ?_
  refine h_op (vL Rect.enc l_1) (wt rfl) rfl ?_
  obtain ⟨r_2, hr_3, hF⟩ := bind_some hF
  refine h_call0 (ref_RegionOf_ok hr_3) rfl hb61 rfl rfl rfl rfl (wt rfl) ?_
  refine h_len un94 rfl (wt rfl) ?_
  refine h_op (vI 0) (wt rfl) rfl ?_
  refine h_nil ?_
  obtain ⟨o_12, hj_13, hF⟩ := bind_some hF
  obtain ⟨hn_8, hj_13⟩ := forL_some hj_13
  refine wH_join (β := (Int)) (fun (s_9 : Int) => ([(3, (vI s_9))] : List (Nat × V))) (fun (s_9 : Int) => ([] : Hp)) (fun p => o_12 = .go p) ?_ ?_
  · refine wH_block ?_
    refine wH_loop (β := Nat × (List Rect) × (Int)) (fun p => (fun (k_4 : Nat) (l_5 : List Rect) (s_9 : Int) => ([(3, (vI s_9)), (7, (vL Rect.enc r_2)), (8, (vI (r_2.length : Int))), (9, (vI (k_4 : Int)))] : List (Nat × V))) p.1 p.2.1 p.2.2) (fun p => (fun (k_4 : Nat) (l_5 : List Rect) (s_9 : Int) => ([] : Hp)) p.1 p.2.1 p.2.2) (fun p => forR (fun k x s => ref_AreaOf_L1 k x s) p.2.1 p.1 p.2.2 = some o_12 ∧ (r_2).drop p.1 = p.2.1) (fun p => p.2.1.length) (0, r_2, 0) ⟨hj_13, rfl⟩ rfl (pre_r rfl) ?_
    rintro ⟨k_4, l_5, s_9⟩ ⟨hL_11, hD_7⟩
    dsimp only at hL_11 hD_7
    cases l_5 with
    | nil =>
      replace hL_11 := some_inj hL_11
      subst hL_11
      refine wH_seq (wH_region (h_op (vB (decide ((k_4 : Int) < (r_2.length : Int)))) (wt rfl) rfl (h_nil ?_)))
      refine wH_seq (wH_iff rfl (drop_nil hD_7) (wH_exit ?_))
      exact cut_mk (s_9) rfl rfl (pre_r rfl)
    | cons x_6 l_5 =>
      obtain ⟨c_, hc_10, hL_11⟩ := bind_some hL_11
      refine wH_seq (wH_region (h_op (vB (decide ((k_4 : Int) < (r_2.length : Int)))) (wt rfl) rfl (h_nil ?_)))
      refine wH_seq (wH_ift rfl (drop_cons hD_7) (wH_skip ?_))
      unfold ref_AreaOf_L1 at hc_10
      refine wH_seq ?_
      refine wH_block ?_
      refine wH_seq ?_
      refine wH_region ?_
      refine h_ia es94 rfl rfl (drop_idx hD_7) rfl (wt rfl) ?_
      refine h_ldc sz92 ag92 rfl (.d (.agg (Rect.enc x_6))) rfl (wt rfl) ?_
      refine h_alloc 0 (.inl rfl) z92 rfl (wt rfl) (fun n_14 => ?_)
      refine h_str 0 (.inl rfl) (fun _ _ _ => trivial) 0 sz92 rfl rfl [(vI x_6.X), (vI x_6.Y), (vI x_6.W), (vI x_6.H)] rfl (wt rfl) ?_
      refine h_nil ?_
      refine wH_region ?_
      refine h_op (vI s_9) (wt rfl) rfl ?_
      refine h_far pl92_2 rfl 2 rfl (wt rfl) ?_
      refine h_ldr 0 0 (.inl rfl) (fun _ _ _ => trivial) sz3 ag3 rfl rfl (vI x_6.W) rfl (wt rfl) ?_
      refine h_far pl92_3 rfl 3 rfl (wt rfl) ?_
      refine h_ldr 0 0 (.inl rfl) (fun _ _ _ => trivial) sz3 ag3 rfl rfl (vI x_6.H) rfl (wt rfl) ?_
      refine h_op (vI (w64 (x_6.W * x_6.H))) (wt rfl) rfl ?_
      refine h_op (vI (w64 (s_9 + (w64 (x_6.W * x_6.H))))) (wt rfl) rfl ?_
      refine h_op (vI (w64 (s_9 + (w64 (x_6.W * x_6.H))))) (wt rfl) rfl ?_
      refine h_nil ?_
      refine wH_region ?_
      refine h_opw (w64_next hD_7 hn_8) (wt rfl) rfl ?_
      refine h_op (vI ((k_4 + 1 : Nat) : Int)) (wt rfl) rfl ?_
      refine h_nil ?_
      replace hc_10 := some_inj hc_10
      subst hc_10
      exact loop_mk (k_4 + 1, l_5, (w64 (s_9 + (w64 (x_6.W * x_6.H))))) ⟨hL_11, drop_next hD_7⟩ (Nat.lt_succ_self _) rfl (pre_r rfl)
  · rintro s_9 ho_ sl_ H_ hp_ hq_
    subst ho_
    refine wH_at _ hp_ hq_ ?_
    refine wH_seq ?_
    refine wH_region ?_
    refine h_op (vI s_9) (wt rfl) rfl ?_
    refine h_op (vI s_9) (wt rfl) rfl ?_
    refine h_nil ?_
    replace hF := some_inj hF
    subst hF
    refine wH_ret ?_
    exact fin0 (.inr rfl) [(vI s_9)] ⟨rfl, trivial⟩ rfl rfl rfl
theorem ref_WithoutOf_1_ok {x_1 : Int} {y_2 : Int} {p_3 : (List Rect)} {p_4 : (List Rect)} {r : Bool} (hF : ref_WithoutOf_1 x_1 y_2 p_3 p_4 = some r) :
    FnM Try.prog 137 [(vI x_1), (vI y_2), (.ref (extN 0) 0 0), (.ref (extN 1) 0 0)] [(.cells 1 [(vL Rect.enc p_3)]), (.cells 1 [(vL Rect.enc p_4)])] (vB r) [some (.cells 1 [(vL Rect.enc p_3)]), some (.cells 1 [(vL Rect.enc p_4)])] := by
  refine FnM.of_wH ⟨Try.prog, 18, [], []⟩ rfl Try.func137 rfl rfl (Nat.le_of_ble_eq_true rfl) (by kernel_rfl) ?_
  unfold ref_WithoutOf_1 at hF
  refine wH_seq ?_
  refine wH_region ?_
  refine h_op (vB false) (wt rfl) rfl ?_
  refine h_nil ?_
  refine wH_seq ?_
  obtain ⟨v_5, h_6, hF⟩ := bind_some hF
  refine wH_join (β := Unit) (fun _ => ([(6, (vB v_5))] : List (Nat × V))) (fun _ => ([((extN 0), some (.cells 1 [(vL Rect.enc p_3)])), ((extN 1), some (.cells 1 [(vL Rect.enc p_4)]))] : Hp)) (fun _ => True) ?_ ?_
  · refine wH_region ?_
    refine h_ldr 0 0 (.inl rfl) (fun _ _ _ => trivial) sz94 ag94 rfl rfl (vL Rect.enc p_3) rfl (wt rfl) ?_
    refine h_op (vI x_1) (wt rfl) rfl ?_
    refine h_op (vI y_2) (wt rfl) rfl ?_
    obtain ⟨r_7, hr_8, h_6⟩ := bind_some h_6
    refine h_call0 (ref_some_ok hr_8) rfl hb135 rfl rfl rfl rfl (wt rfl) ?_
    rcases cond_some h_6 with ⟨hc_9, h_6⟩ | ⟨hc_9, h_6⟩
    · refine h_movb rfl hc_9 (wt rfl) ?_
      refine h_ldr 0 1 (.inl rfl) (fun _ _ _ => trivial) sz94 ag94 rfl rfl (vL Rect.enc p_4) rfl (wg rfl rfl rfl) ?_
      refine h_op (vI x_1) (wg rfl rfl rfl) rfl ?_
      refine h_op (vI y_2) (wg rfl rfl rfl) rfl ?_
      obtain ⟨r_10, hr_11, h_6⟩ := bind_some h_6
      refine h_call0 (ref_some_ok hr_11) rfl hb135 rfl rfl rfl rfl (wg rfl rfl rfl) ?_
      refine h_op (vB (!r_10)) (wg rfl rfl rfl) rfl ?_
      refine h_op (vB (!r_10)) (wt rfl) rfl ?_
      refine h_op (vB (!r_10)) (wt rfl) rfl ?_
      refine h_nil ?_
      replace h_6 := some_inj h_6
      subst h_6
      exact cut_mk () trivial rfl (pre_r rfl)
    · refine h_movb rfl hc_9 (wt rfl) ?_
      refine h_skip (wg rfl rfl rfl) ?_
      refine h_skip (wg rfl rfl rfl) ?_
      refine h_skip (wg rfl rfl rfl) ?_
      refine h_skip (wg rfl rfl rfl) ?_
      refine h_skip (wg rfl rfl rfl) ?_
      refine h_op (vB false) (wt rfl) rfl ?_
      refine h_op (vB false) (wt rfl) rfl ?_
      refine h_nil ?_
      replace h_6 := some_inj h_6
      subst h_6
      exact cut_mk () trivial rfl (pre_r rfl)
  · rintro ⟨⟩ _ sl_ H_ hp_ hq_
    refine wH_at _ hp_ hq_ ?_
    replace hF := some_inj hF
    subst hF
    refine wH_ret ?_
    exact finB (.inr rfl) [(vB v_5)] _ [0, 1] [extN 0, extN 1] ⟨rfl, trivial⟩ (.cons (co_data rfl rfl) (.nil)) (by kernel_rfl) ⟨(by kernel_rfl), ⟨(by kernel_rfl), trivial⟩⟩ (by decide) (by kernel_rfl)
theorem ref_regionOf_v2_ok {l_1 : (List Rect)} {is2_3 : (List Rect)} {is2_4 : (List Rect)} {r : (List Rect)} (hF : ref_regionOf_v2 l_1 is2_3 is2_4 = some r) :
    FnM Try.prog 133 [(vL Rect.enc l_1), (.fn 137 [(.ref (extN 0) 0 0), (.ref (extN 1) 0 0)])] [(.cells 1 [(vL Rect.enc is2_3)]), (.cells 1 [(vL Rect.enc is2_4)])] (vL Rect.enc r) [some (.cells 1 [(vL Rect.enc is2_3)]), some (.cells 1 [(vL Rect.enc is2_4)])] := by
  refine FnM.of_wH ⟨Try.prog, 149, [], []⟩ rfl Try.func133 rfl rfl (Nat.le_of_ble_eq_true rfl) (by kernel_rfl) ?_
  unfold ref_regionOf_v2 at hF
  refine wH_seq ?_
  refine wH_region ?_
  refine h_op .nil (wt rfl) rfl ?_
  refine h_nil ?_
  refine wH_seq ?_
  refine wH_region ?_
  refine h_op (vL Rect.enc l_1) (wt rfl) rfl ?_
  obtain ⟨r_5, hr_6, hF⟩ := bind_some hF
  refine h_call0 (ref_cuts_v1_ok hr_6) rfl hb174 rfl rfl rfl rfl (wt rfl) ?_
  refine h_op (vL eI r_5) (wt rfl) rfl ?_
  refine h_nil ?_
  refine wH_seq ?_
  refine wH_region ?_
  refine h_op (vL Rect.enc l_1) (wt rfl) rfl ?_
  obtain ⟨r_7, hr_8, hF⟩ := bind_some hF
  refine h_call0 (ref_cuts_v2_ok hr_8) rfl hb174 rfl rfl rfl rfl (wt rfl) ?_
  refine h_op (vL eI r_7) (wt rfl) rfl ?_
  refine h_nil ?_
  refine wH_seq ?_
  refine wH_region ?_
  refine h_op .nil (wt rfl) rfl ?_
  refine h_op .nil (wt rfl) rfl ?_
  refine h_nil ?_
  refine wH_seq ?_
  refine wH_seq ?_
  refine wH_region ?_
  refine h_op (vI 0) (wt rfl) rfl ?_
  refine h_nil ?_
  refine wH_new (fun n_15 => ?_)
  refine wH_new (fun n_16 => ?_)
  obtain ⟨o_23, hj_24, hF⟩ := bind_some hF
  obtain ⟨nq_118, hj_24⟩ := loopO_iter hj_24
  refine wH_join (β := ((List Rect) × (List Rect) × Int) × Nm × Nm) (fun p => (fun (s_14 : (List Rect) × (List Rect) × Int) (n_19 : Nm) (n_20 : Nm) => ([(7, (gV n_19 4 s_14.1)), (8, (gV n_20 4 s_14.2.1))] : List (Nat × V))) p.1 p.2.1 p.2.2) (fun p => (fun (s_14 : (List Rect) × (List Rect) × Int) (n_19 : Nm) (n_20 : Nm) => ([((extN 0), some (.cells 1 [(vL Rect.enc is2_3)])), ((extN 1), some (.cells 1 [(vL Rect.enc is2_4)])), (n_19, gB 4 Rect.enc s_14.1), (n_20, gB 4 Rect.enc s_14.2.1)] : Hp)) p.1 p.2.1 p.2.2) (fun p => o_23 = .go p.1) ?_ ?_
  · refine wH_block ?_
    refine wH_loop (β := Nat × ((List Rect) × (List Rect) × Int) × Nm × Nm) (fun p => (fun (k_9 : Nat) (s_14 : (List Rect) × (List Rect) × Int) (n_19 : Nm) (n_20 : Nm) => ([(1, (.fn 137 [(.ref (extN 0) 0 0), (.ref (extN 1) 0 0)])), (5, (vL eI r_5)), (6, (vL eI r_7)), (7, (gV n_19 4 s_14.1)), (8, (gV n_20 4 s_14.2.1)), (9, (vI s_14.2.2))] : List (Nat × V))) p.1 p.2.1 p.2.2.1 p.2.2.2) (fun p => (fun (k_9 : Nat) (s_14 : (List Rect) × (List Rect) × Int) (n_19 : Nm) (n_20 : Nm) => ([((extN 0), some (.cells 1 [(vL Rect.enc is2_3)])), ((extN 1), some (.cells 1 [(vL Rect.enc is2_4)])), (n_19, gB 4 Rect.enc s_14.1), (n_20, gB 4 Rect.enc s_14.2.1)] : Hp)) p.1 p.2.1 p.2.2.1 p.2.2.2) (fun p => iterN (fun s => ref_regionOf_v2_L3 r_7 r_5 is2_3 is2_4 s) p.1 p.2.1 = some o_23) (fun p => p.1) (nq_118, (([] : List Rect), ([] : List Rect), 0), n_15, n_16) hj_24 rfl (pre_r rfl) ?_
    rintro ⟨k_9, s_14, n_19, n_20⟩ hL_22
    dsimp only at hL_22
    cases k_9 with
    | zero => cases hL_22
    | succ k_9 =>
      obtain ⟨c_, hc_21, hL_22⟩ := bind_some hL_22
      unfold ref_regionOf_v2_L3 at hc_21
      refine wH_seq ?_
      refine wH_seq ?_
      refine wH_region ?_
      refine h_op (vI s_14.2.2) (wt rfl) rfl ?_
      refine h_op (vI (w64 (s_14.2.2 + 1))) (wt rfl) rfl ?_
      refine h_op (vL eI r_7) (wt rfl) rfl ?_
      refine h_len un22 rfl (wt rfl) ?_
      refine h_op (vB (decide ((w64 (s_14.2.2 + 1)) < (r_7.length : Int)))) (wt rfl) rfl ?_
      refine h_nil ?_
      rcases cond_some hc_21 with ⟨hc_25, hc_21⟩ | ⟨hc_25, hc_21⟩
      · refine wH_ift rfl hc_25 ?_
        refine wH_skip ?_
        refine wH_seq ?_
        refine wH_block ?_
        refine wH_seq ?_
        refine wH_region ?_
        refine h_op .nil (wt rfl) rfl ?_
        refine h_nil ?_
        refine wH_seq ?_
        refine wH_seq ?_
        refine wH_region ?_
        refine h_op (vI 0) (wt rfl) rfl ?_
        refine h_nil ?_
        refine wH_new (fun n_32 => ?_)
        obtain ⟨o_37, hj_38, hc_21⟩ := bind_some hc_21
        obtain ⟨nq_114, hj_38⟩ := loopO_iter hj_38
        refine wH_join (β := ((List Rect) × Int) × Nm) (fun p => (fun (s_31 : (List Rect) × Int) (n_34 : Nm) => ([(1, (.fn 137 [(.ref (extN 0) 0 0), (.ref (extN 1) 0 0)])), (5, (vL eI r_5)), (6, (vL eI r_7)), (7, (gV n_19 4 s_14.1)), (8, (gV n_20 4 s_14.2.1)), (9, (vI s_14.2.2)), (10, (gV n_34 4 s_31.1))] : List (Nat × V))) p.1 p.2) (fun p => (fun (s_31 : (List Rect) × Int) (n_34 : Nm) => ([((extN 0), some (.cells 1 [(vL Rect.enc is2_3)])), ((extN 1), some (.cells 1 [(vL Rect.enc is2_4)])), (n_19, gB 4 Rect.enc s_14.1), (n_20, gB 4 Rect.enc s_14.2.1), (n_34, gB 4 Rect.enc s_31.1)] : Hp)) p.1 p.2) (fun p => o_37 = .go p.1) ?_ ?_
        · refine wH_block ?_
          refine wH_loop (β := Nat × ((List Rect) × Int) × Nm) (fun p => (fun (k_26 : Nat) (s_31 : (List Rect) × Int) (n_34 : Nm) => ([(1, (.fn 137 [(.ref (extN 0) 0 0), (.ref (extN 1) 0 0)])), (5, (vL eI r_5)), (6, (vL eI r_7)), (7, (gV n_19 4 s_14.1)), (8, (gV n_20 4 s_14.2.1)), (9, (vI s_14.2.2)), (10, (gV n_34 4 s_31.1)), (11, (vI s_31.2))] : List (Nat × V))) p.1 p.2.1 p.2.2) (fun p => (fun (k_26 : Nat) (s_31 : (List Rect) × Int) (n_34 : Nm) => ([((extN 0), some (.cells 1 [(vL Rect.enc is2_3)])), ((extN 1), some (.cells 1 [(vL Rect.enc is2_4)])), (n_19, gB 4 Rect.enc s_14.1), (n_20, gB 4 Rect.enc s_14.2.1), (n_34, gB 4 Rect.enc s_31.1)] : Hp)) p.1 p.2.1 p.2.2) (fun p => iterN (fun s => ref_regionOf_v2_L1 r_5 r_7 s_14 is2_3 is2_4 s) p.1 p.2.1 = some o_37) (fun p => p.1) (nq_114, (([] : List Rect), 0), n_32) hj_38 rfl (pre_r rfl) ?_
          rintro ⟨k_26, s_31, n_34⟩ hL_36
          dsimp only at hL_36
          cases k_26 with
          | zero => cases hL_36
          | succ k_26 =>
            obtain ⟨c_, hc_35, hL_36⟩ := bind_some hL_36
            unfold ref_regionOf_v2_L1 at hc_35
            refine wH_seq ?_
            refine wH_seq ?_
            refine wH_region ?_
            refine h_op (vI s_31.2) (wt rfl) rfl ?_
            refine h_op (vI (w64 (s_31.2 + 1))) (wt rfl) rfl ?_
            refine h_op (vL eI r_5) (wt rfl) rfl ?_
            refine h_len un22 rfl (wt rfl) ?_
            refine h_op (vB (decide ((w64 (s_31.2 + 1)) < (r_5.length : Int)))) (wt rfl) rfl ?_
            refine h_nil ?_
            rcases cond_some hc_35 with ⟨hc_39, hc_35⟩ | ⟨hc_39, hc_35⟩
            · refine wH_ift rfl hc_39 ?_
              refine wH_skip ?_
              refine wH_seq ?_
              refine wH_block ?_
              refine wH_seq ?_
              refine wH_seq ?_
              refine wH_draws ?_
              refine h_op (.fn 137 [(.ref (extN 0) 0 0), (.ref (extN 1) 0 0)]) (wt rfl) rfl ?_
              refine h_op (vL eI r_5) (wt rfl) rfl ?_
              refine h_op (vI s_31.2) (wt rfl) rfl ?_
              obtain ⟨y_40, hy_41, hc_35⟩ := bind_some hc_35
              refine h_ia es22 rfl rfl hy_41 rfl (wt rfl) ?_
              refine h_ldc sz3 ag3 rfl (vI y_40) rfl (wt rfl) ?_
              refine h_op (vL eI r_7) (wt rfl) rfl ?_
              refine h_op (vI s_14.2.2) (wt rfl) rfl ?_
              obtain ⟨y_42, hy_43, hc_35⟩ := bind_some hc_35
              refine h_ia es22 rfl rfl hy_43 rfl (wt rfl) ?_
              refine h_ldc sz3 ag3 rfl (vI y_42) rfl (wt rfl) ?_
              obtain ⟨r_44, hr_45, hc_35⟩ := bind_some hc_35
              refine h_callq 9 [0, 1] (.inr (by kernel_rfl)) (fun _ _ ag => by exact trivial) (ref_WithoutOf_1_ok hr_45) rfl hb137 rfl (by kernel_rfl) (by kernel_rfl) (by kernel_rfl) (by kernel_rfl) (by kernel_rfl) (by kernel_rfl) (by kernel_rfl) (by decide) (by kernel_rfl) (wt rfl) (vB r_44) (by kernel_rfl) ([((extN 0), some (.cells 1 [(vL Rect.enc is2_3)])), ((extN 1), some (.cells 1 [(vL Rect.enc is2_4)])), (n_19, gB 4 Rect.enc s_14.1), (n_20, gB 4 Rect.enc s_14.2.1), (n_34, gB 4 Rect.enc s_31.1)] : Hp) (by kernel_rfl) ?_
              refine h_op (vB (!r_44)) (wt rfl) rfl ?_
              refine h_nil ?_
              rcases cond_some hc_35 with ⟨hc_47, hc_35⟩ | ⟨hc_47, hc_35⟩
              · refine wH_ift rfl hc_47 ?_
                refine wH_exit ?_
                refine wH_region ?_
                refine h_op (vI s_31.2) (wt rfl) rfl ?_
                refine h_op (vI (w64 (s_31.2 + 1))) (wt rfl) rfl ?_
                refine h_op (vI (w64 (s_31.2 + 1))) (wt rfl) rfl ?_
                refine h_nil ?_
                replace hc_35 := some_inj hc_35
                subst hc_35
                exact loop_mk (k_26, (s_31.1, (w64 (s_31.2 + 1))), n_34) hL_36 (Nat.lt_succ_self _) rfl (pre_r rfl)
              · refine wH_iff rfl hc_47 ?_
                refine wH_skip ?_
                refine wH_seq ?_
                refine wH_region ?_
                refine h_op (gV n_34 4 s_31.1) (wt rfl) rfl ?_
                refine h_leng un94 rfl (wt rfl) ?_
                refine h_op (vI (w64 ((s_31.1.length : Int) - 1))) (wt rfl) rfl ?_
                refine h_op (vI (w64 ((s_31.1.length : Int) - 1))) (wt rfl) rfl ?_
                refine h_nil ?_
                refine wH_seq ?_
                obtain ⟨v_48, h_49, hc_35⟩ := bind_some hc_35
                refine wH_join (β := Unit) (fun _ => ([(1, (.fn 137 [(.ref (extN 0) 0 0), (.ref (extN 1) 0 0)])), (5, (vL eI r_5)), (6, (vL eI r_7)), (7, (gV n_19 4 s_14.1)), (8, (gV n_20 4 s_14.2.1)), (9, (vI s_14.2.2)), (10, (gV n_34 4 s_31.1)), (11, (vI s_31.2)), (12, (vI (w64 ((s_31.1.length : Int) - 1)))), (66, (vB v_48))] : List (Nat × V))) (fun _ => ([((extN 0), some (.cells 1 [(vL Rect.enc is2_3)])), ((extN 1), some (.cells 1 [(vL Rect.enc is2_4)])), (n_19, gB 4 Rect.enc s_14.1), (n_20, gB 4 Rect.enc s_14.2.1), (n_34, gB 4 Rect.enc s_31.1)] : Hp)) (fun _ => True) ?_ ?_
                · refine wH_draws ?_
                  refine h_op (vI (w64 ((s_31.1.length : Int) - 1))) (wt rfl) rfl ?_
                  refine h_op (vB (decide ((w64 ((s_31.1.length : Int) - 1)) ≥ 0))) (wt rfl) rfl ?_
                  rcases cond_some h_49 with ⟨hc_50, h_49⟩ | ⟨hc_50, h_49⟩
                  · refine h_movb rfl hc_50 (wt rfl) ?_
                    refine h_op (gV n_34 4 s_31.1) (wg rfl rfl rfl) rfl ?_
                    refine h_op (vI (w64 ((s_31.1.length : Int) - 1))) (wg rfl rfl rfl) rfl ?_
                    obtain ⟨_, hi_51, h_49⟩ := bind_some h_49
                    refine h_iavg es94 rfl rfl (inR_0 hi_51) (inR_lt hi_51) (wg rfl rfl rfl) ?_
                    refine h_far pl92_0 rfl 0 rfl (wg rfl rfl rfl) ?_
                    obtain ⟨e_52, hy_53, h_49⟩ := bind_some h_49
                    refine h_ldvg 7 4 (.inr (by kernel_rfl)) (fun _ _ ag => trivial) sz3 ag3 rfl rfl hy_53 (vI e_52.X) rfl (wg rfl rfl rfl) ?_
                    refine h_op (gV n_34 4 s_31.1) (wg rfl rfl rfl) rfl ?_
                    refine h_op (vI (w64 ((s_31.1.length : Int) - 1))) (wg rfl rfl rfl) rfl ?_
                    obtain ⟨_, hi_54, h_49⟩ := bind_some h_49
                    refine h_iavg es94 rfl rfl (inR_0 hi_54) (inR_lt hi_54) (wg rfl rfl rfl) ?_
                    refine h_far pl92_2 rfl 2 rfl (wg rfl rfl rfl) ?_
                    obtain ⟨e_55, hy_56, h_49⟩ := bind_some h_49
                    refine h_ldvg 12 4 (.inr (by kernel_rfl)) (fun _ _ ag => ⟨.inl ⟨rfl, rfl⟩, trivial⟩) sz3 ag3 rfl rfl hy_56 (vI e_55.W) rfl (wg rfl rfl rfl) ?_
                    refine h_op (vI (w64 (e_52.X + e_55.W))) (wg rfl rfl rfl) rfl ?_
                    refine h_op (vL eI r_5) (wg rfl rfl rfl) rfl ?_
                    refine h_op (vI s_31.2) (wg rfl rfl rfl) rfl ?_
                    obtain ⟨y_57, hy_58, h_49⟩ := bind_some h_49
                    refine h_ia es22 rfl rfl hy_58 rfl (wg rfl rfl rfl) ?_
                    refine h_ldc sz3 ag3 rfl (vI y_57) rfl (wg rfl rfl rfl) ?_
                    refine h_op (vB ((w64 (e_52.X + e_55.W)) == y_57)) (wg rfl rfl rfl) rfl ?_
                    refine h_op (vB ((w64 (e_52.X + e_55.W)) == y_57)) (wt rfl) rfl ?_
                    refine h_nil ?_
                    replace h_49 := some_inj h_49
                    subst h_49
                    exact cut_mk () trivial rfl (pre_r rfl)
                  · refine h_movb rfl hc_50 (wt rfl) ?_
                    refine h_skip (wg rfl rfl rfl) ?_
                    refine h_skip (wg rfl rfl rfl) ?_
                    refine h_skip (wg rfl rfl rfl) ?_
                    refine h_skip (wg rfl rfl rfl) ?_
                    refine h_skip (wg rfl rfl rfl) ?_
                    refine h_skip (wg rfl rfl rfl) ?_
                    refine h_skip (wg rfl rfl rfl) ?_
                    refine h_skip (wg rfl rfl rfl) ?_
                    refine h_skip (wg rfl rfl rfl) ?_
                    refine h_skip (wg rfl rfl rfl) ?_
                    refine h_skip (wg rfl rfl rfl) ?_
                    refine h_skip (wg rfl rfl rfl) ?_
                    refine h_skip (wg rfl rfl rfl) ?_
                    refine h_skip (wg rfl rfl rfl) ?_
                    refine h_skip (wg rfl rfl rfl) ?_
                    refine h_skip (wg rfl rfl rfl) ?_
                    refine h_op (vB false) (wt rfl) rfl ?_
                    refine h_nil ?_
                    replace h_49 := some_inj h_49
                    subst h_49
                    exact cut_mk () trivial rfl (pre_r rfl)
                · rintro ⟨⟩ _ sl_ H_ hp_ hq_
                  refine wH_at _ hp_ hq_ ?_
                  obtain ⟨v_59, h_60, hc_35⟩ := bind_some hc_35
                  refine wH_join (β := Nm) (fun (n_61 : Nm) => ([(1, (.fn 137 [(.ref (extN 0) 0 0), (.ref (extN 1) 0 0)])), (5, (vL eI r_5)), (6, (vL eI r_7)), (7, (gV n_19 4 s_14.1)), (8, (gV n_20 4 s_14.2.1)), (9, (vI s_14.2.2)), (10, (gV n_61 4 v_59)), (11, (vI s_31.2))] : List (Nat × V))) (fun (n_61 : Nm) => ([((extN 0), some (.cells 1 [(vL Rect.enc is2_3)])), ((extN 1), some (.cells 1 [(vL Rect.enc is2_4)])), (n_19, gB 4 Rect.enc s_14.1), (n_20, gB 4 Rect.enc s_14.2.1), (n_61, gB 4 Rect.enc v_59)] : Hp)) (fun _ => True) ?_ ?_
                  · rcases cond_some h_60 with ⟨hc_62, h_60⟩ | ⟨hc_62, h_60⟩
                    · refine wH_ift rfl hc_62 ?_
                      refine wH_draws ?_
                      refine h_op (gV n_34 4 s_31.1) (wt rfl) rfl ?_
                      refine h_op (vI (w64 ((s_31.1.length : Int) - 1))) (wt rfl) rfl ?_
                      refine h_op (vL eI r_5) (wt rfl) rfl ?_
                      refine h_op (vI s_31.2) (wt rfl) rfl ?_
                      refine h_op (vI (w64 (s_31.2 + 1))) (wt rfl) rfl ?_
                      obtain ⟨y_63, hy_64, h_60⟩ := bind_some h_60
                      refine h_ia es22 rfl rfl hy_64 rfl (wt rfl) ?_
                      refine h_ldc sz3 ag3 rfl (vI y_63) rfl (wt rfl) ?_
                      refine h_op (gV n_34 4 s_31.1) (wt rfl) rfl ?_
                      refine h_op (vI (w64 ((s_31.1.length : Int) - 1))) (wt rfl) rfl ?_
                      obtain ⟨_, hi_65, h_60⟩ := bind_some h_60
                      refine h_iavg es94 rfl rfl (inR_0 hi_65) (inR_lt hi_65) (wt rfl) ?_
                      refine h_far pl92_0 rfl 0 rfl (wt rfl) ?_
                      obtain ⟨e_66, hy_67, h_60⟩ := bind_some h_60
                      refine h_ldvg 11 4 (.inr (by kernel_rfl)) (fun _ _ ag => trivial) sz3 ag3 rfl rfl hy_67 (vI e_66.X) rfl (wt rfl) ?_
                      refine h_op (vI (w64 (y_63 - e_66.X))) (wt rfl) rfl ?_
                      obtain ⟨_, hi_68, h_60⟩ := bind_some h_60
                      refine h_iavg es94 rfl rfl (inR_0 hi_68) (inR_lt hi_68) (wt rfl) ?_
                      refine h_far pl92_2 rfl 2 rfl (wt rfl) ?_
                      obtain ⟨e_69, hy_70, h_60⟩ := bind_some h_60
                      refine h_stvg 15 (.inr (by kernel_rfl)) (fun _ _ ag => ⟨.inr (.inr (by kernel_rfl)), trivial⟩) 4 sz3 rfl rfl hy_70 (⟨e_69.X, e_69.Y, (w64 (y_63 - e_66.X)), e_69.H⟩ : Rect) rfl (wt rfl) ?_
                      refine h_re (v' := (gV n_34 4 (s_31.1.set (0 + ((w64 ((s_31.1.length : Int) - 1))).toNat) (⟨e_69.X, e_69.Y, (w64 (y_63 - e_66.X)), e_69.H⟩ : Rect)))) 10 rfl (gV_len (by simp)) ?_
                      refine h_re (v' := (gV n_34 4 (s_31.1.set (0 + ((w64 ((s_31.1.length : Int) - 1))).toNat) (⟨e_69.X, e_69.Y, (w64 (y_63 - e_66.X)), e_69.H⟩ : Rect)))) 67 rfl (gV_len (by simp)) ?_
                      refine h_re (v' := (gV n_34 4 (s_31.1.set (0 + ((w64 ((s_31.1.length : Int) - 1))).toNat) (⟨e_69.X, e_69.Y, (w64 (y_63 - e_66.X)), e_69.H⟩ : Rect)))) 74 rfl (gV_len (by simp)) ?_
                      refine h_nil ?_
                      replace h_60 := some_inj h_60
                      subst h_60
                      exact cut_mk n_34 trivial rfl (pre_r rfl)
                    · refine wH_iff rfl hc_62 ?_
                      refine wH_draws ?_
                      refine h_op (gV n_34 4 s_31.1) (wt rfl) rfl ?_
                      refine h_op (vL eI r_5) (wt rfl) rfl ?_
                      refine h_op (vI s_31.2) (wt rfl) rfl ?_
                      obtain ⟨y_71, hy_72, h_60⟩ := bind_some h_60
                      refine h_ia es22 rfl rfl hy_72 rfl (wt rfl) ?_
                      refine h_ldc sz3 ag3 rfl (vI y_71) rfl (wt rfl) ?_
                      refine h_op (vL eI r_7) (wt rfl) rfl ?_
                      refine h_op (vI s_14.2.2) (wt rfl) rfl ?_
                      obtain ⟨y_73, hy_74, h_60⟩ := bind_some h_60
                      refine h_ia es22 rfl rfl hy_74 rfl (wt rfl) ?_
                      refine h_ldc sz3 ag3 rfl (vI y_73) rfl (wt rfl) ?_
                      refine h_op (vL eI r_5) (wt rfl) rfl ?_
                      refine h_op (vI s_31.2) (wt rfl) rfl ?_
                      refine h_op (vI (w64 (s_31.2 + 1))) (wt rfl) rfl ?_
                      obtain ⟨y_75, hy_76, h_60⟩ := bind_some h_60
                      refine h_ia es22 rfl rfl hy_76 rfl (wt rfl) ?_
                      refine h_ldc sz3 ag3 rfl (vI y_75) rfl (wt rfl) ?_
                      refine h_op (vL eI r_5) (wt rfl) rfl ?_
                      refine h_op (vI s_31.2) (wt rfl) rfl ?_
                      obtain ⟨y_77, hy_78, h_60⟩ := bind_some h_60
                      refine h_ia es22 rfl rfl hy_78 rfl (wt rfl) ?_
                      refine h_ldc sz3 ag3 rfl (vI y_77) rfl (wt rfl) ?_
                      refine h_op (vI (w64 (y_75 - y_77))) (wt rfl) rfl ?_
                      refine h_op (vL eI r_7) (wt rfl) rfl ?_
                      refine h_op (vI s_14.2.2) (wt rfl) rfl ?_
                      refine h_op (vI (w64 (s_14.2.2 + 1))) (wt rfl) rfl ?_
                      obtain ⟨y_79, hy_80, h_60⟩ := bind_some h_60
                      refine h_ia es22 rfl rfl hy_80 rfl (wt rfl) ?_
                      refine h_ldc sz3 ag3 rfl (vI y_79) rfl (wt rfl) ?_
                      refine h_op (vL eI r_7) (wt rfl) rfl ?_
                      refine h_op (vI s_14.2.2) (wt rfl) rfl ?_
                      obtain ⟨y_81, hy_82, h_60⟩ := bind_some h_60
                      refine h_ia es22 rfl rfl hy_82 rfl (wt rfl) ?_
                      refine h_ldc sz3 ag3 rfl (vI y_81) rfl (wt rfl) ?_
                      refine h_op (vI (w64 (y_79 - y_81))) (wt rfl) rfl ?_
                      refine h_op (.d (.agg (Rect.enc (⟨y_71, y_73, (w64 (y_75 - y_77)), (w64 (y_79 - y_81))⟩ : Rect)))) (wt rfl) (by kernel_rfl) ?_
                      refine h_lit (([(⟨y_71, y_73, (w64 (y_75 - y_77)), (w64 (y_79 - y_81))⟩ : Rect)] : List Rect).map Rect.enc) es94 ez94 rfl rfl rfl rfl rfl (wt rfl) ?_
                      obtain ⟨a_83, hz_84, h_60⟩ := bind_some h_60
                      refine h_appg 31 (.inr (by kernel_rfl)) (fun _ _ ag => trivial) (i := 4) el94 el94 sz92 z92 rfl (by decide) by92 (by decide) (fun _ => rfl) rfl rfl rfl hz_84 (wt rfl) (fun n_85 => ?_)
                      refine h_op (gV n_85 4 a_83) (wt rfl) rfl ?_
                      refine h_nil ?_
                      replace h_60 := some_inj h_60
                      subst h_60
                      exact cut_mk n_85 trivial rfl (pre_r rfl)
                  · rintro n_61 _ sl_ H_ hp_ hq_
                    refine wH_at _ hp_ hq_ ?_
                    refine wH_region ?_
                    refine h_op (vI s_31.2) (wt rfl) rfl ?_
                    refine h_op (vI (w64 (s_31.2 + 1))) (wt rfl) rfl ?_
                    refine h_op (vI (w64 (s_31.2 + 1))) (wt rfl) rfl ?_
                    refine h_nil ?_
                    replace hc_35 := some_inj hc_35
                    subst hc_35
                    exact loop_mk (k_26, (v_59, (w64 (s_31.2 + 1))), n_61) hL_36 (Nat.lt_succ_self _) rfl (pre_r rfl)
            · refine wH_iff rfl hc_39 ?_
              refine wH_exit ?_
              replace hc_35 := some_inj hc_35
              subst hc_35
              replace hL_36 := some_inj hL_36
              subst hL_36
              exact cut_mk ((s_31.1, s_31.2), n_34) rfl rfl (pre_r rfl)
        · rintro ⟨s_31, n_34⟩ ho_ sl_ H_ hp_ hq_
          subst ho_
          refine wH_at _ hp_ hq_ ?_
          refine wH_seq ?_
          refine wH_region ?_
          refine h_op (gV n_34 4 s_31.1) (wt rfl) rfl ?_
          refine h_op (gV n_20 4 s_14.2.1) (wt rfl) rfl ?_
          obtain ⟨r_86, hr_87, hc_21⟩ := bind_some hc_21
          refine h_callv2 0 [] 4 3 0 1 (.inl rfl) (fun _ _ _ => trivial) (slices_EqualFunc_api_Rect_api_Rect_api_Rect_api_Rect_v3_ok hr_87) rfl hb177 rfl rfl rfl rfl (by kernel_rfl) rfl (.inl rfl) rfl rfl (.inl rfl) rfl (by decide) (by kernel_rfl) (by kernel_rfl) (by kernel_rfl) (by kernel_rfl) rfl (by decide) (by kernel_rfl) gB_ok (gB_ho rfl) gB_ok (gB_ho rfl) (wt rfl) ([((extN 0), some (.cells 1 [(vL Rect.enc is2_3)])), ((extN 1), some (.cells 1 [(vL Rect.enc is2_4)])), (n_19, gB 4 Rect.enc s_14.1), (n_20, gB 4 Rect.enc s_14.2.1), (n_34, gB 4 Rect.enc s_31.1)] : Hp) (by kernel_rfl) ?_
          refine h_op (vB r_86) (wt rfl) rfl ?_
          refine h_nil ?_
          refine wH_seq ?_
          refine wH_seq ?_
          obtain ⟨v_88, h_89, hc_21⟩ := bind_some hc_21
          refine wH_join (β := Unit) (fun _ => ([(1, (.fn 137 [(.ref (extN 0) 0 0), (.ref (extN 1) 0 0)])), (5, (vL eI r_5)), (6, (vL eI r_7)), (7, (gV n_19 4 s_14.1)), (8, (gV n_20 4 s_14.2.1)), (9, (vI s_14.2.2)), (10, (gV n_34 4 s_31.1)), (122, (vB v_88))] : List (Nat × V))) (fun _ => ([((extN 0), some (.cells 1 [(vL Rect.enc is2_3)])), ((extN 1), some (.cells 1 [(vL Rect.enc is2_4)])), (n_19, gB 4 Rect.enc s_14.1), (n_20, gB 4 Rect.enc s_14.2.1), (n_34, gB 4 Rect.enc s_31.1)] : Hp)) (fun _ => True) ?_ ?_
          · refine wH_region ?_
            refine h_op (vB r_86) (wt rfl) rfl ?_
            rcases cond_some h_89 with ⟨hc_90, h_89⟩ | ⟨hc_90, h_89⟩
            · refine h_movb rfl hc_90 (wt rfl) ?_
              refine h_op (gV n_34 4 s_31.1) (wg rfl rfl rfl) rfl ?_
              refine h_leng un94 rfl (wg rfl rfl rfl) ?_
              refine h_op (vB (decide ((s_31.1.length : Int) > 0))) (wg rfl rfl rfl) rfl ?_
              refine h_op (vB (decide ((s_31.1.length : Int) > 0))) (wt rfl) rfl ?_
              refine h_nil ?_
              replace h_89 := some_inj h_89
              subst h_89
              exact cut_mk () trivial rfl (pre_r rfl)
            · refine h_movb rfl hc_90 (wt rfl) ?_
              refine h_skip (wg rfl rfl rfl) ?_
              refine h_skip (wg rfl rfl rfl) ?_
              refine h_skip (wg rfl rfl rfl) ?_
              refine h_op (vB false) (wt rfl) rfl ?_
              refine h_nil ?_
              replace h_89 := some_inj h_89
              subst h_89
              exact cut_mk () trivial rfl (pre_r rfl)
          · rintro ⟨⟩ _ sl_ H_ hp_ hq_
            refine wH_at _ hp_ hq_ ?_
            rcases cond_some hc_21 with ⟨hc_91, hc_21⟩ | ⟨hc_91, hc_21⟩
            · refine wH_ift rfl hc_91 ?_
              refine wH_seq ?_
              refine wH_seq ?_
              refine wH_region ?_
              refine h_op (gV n_20 4 s_14.2.1) (wt rfl) rfl ?_
              refine h_leng un94 rfl (wt rfl) ?_
              refine h_op (vI 0) (wt rfl) rfl ?_
              refine h_nil ?_
              obtain ⟨o_100, hj_101, hc_21⟩ := bind_some hc_21
              obtain ⟨hn_96, hj_101⟩ := forL_some hj_101
              refine wH_join (β := ((List Rect))) (fun (s_97 : (List Rect)) => ([(1, (.fn 137 [(.ref (extN 0) 0 0), (.ref (extN 1) 0 0)])), (5, (vL eI r_5)), (6, (vL eI r_7)), (7, (gV n_19 4 s_14.1)), (8, (gV n_20 4 s_97)), (9, (vI s_14.2.2))] : List (Nat × V))) (fun (s_97 : (List Rect)) => ([((extN 0), some (.cells 1 [(vL Rect.enc is2_3)])), ((extN 1), some (.cells 1 [(vL Rect.enc is2_4)])), (n_19, gB 4 Rect.enc s_14.1), (n_20, gB 4 Rect.enc s_97), (n_34, gB 4 Rect.enc s_31.1)] : Hp)) (fun p => o_100 = .go p) ?_ ?_
              · refine wH_block ?_
                refine wH_loop (β := Nat × (List Nat) × ((List Rect))) (fun p => (fun (k_92 : Nat) (l_93 : List Nat) (s_97 : (List Rect)) => ([(1, (.fn 137 [(.ref (extN 0) 0 0), (.ref (extN 1) 0 0)])), (5, (vL eI r_5)), (6, (vL eI r_7)), (7, (gV n_19 4 s_14.1)), (8, (gV n_20 4 s_97)), (9, (vI s_14.2.2)), (10, (gV n_34 4 s_31.1)), (124, (vI (s_14.2.1.length : Int))), (125, (vI (k_92 : Int)))] : List (Nat × V))) p.1 p.2.1 p.2.2) (fun p => (fun (k_92 : Nat) (l_93 : List Nat) (s_97 : (List Rect)) => ([((extN 0), some (.cells 1 [(vL Rect.enc is2_3)])), ((extN 1), some (.cells 1 [(vL Rect.enc is2_4)])), (n_19, gB 4 Rect.enc s_14.1), (n_20, gB 4 Rect.enc s_97), (n_34, gB 4 Rect.enc s_31.1)] : Hp)) p.1 p.2.1 p.2.2) (fun p => forR (fun k x s => ref_regionOf_v2_L2 s_31 k x s) p.2.1 p.1 p.2.2 = some o_100 ∧ ((List.range ((s_14.2.1.length : Int)).toNat)).drop p.1 = p.2.1) (fun p => p.2.1.length) (0, (List.range ((s_14.2.1.length : Int)).toNat), s_14.2.1) ⟨hj_101, rfl⟩ rfl (pre_r rfl) ?_
                rintro ⟨k_92, l_93, s_97⟩ ⟨hL_99, hD_95⟩
                dsimp only at hL_99 hD_95
                cases l_93 with
                | nil =>
                  replace hL_99 := some_inj hL_99
                  subst hL_99
                  refine wH_seq (wH_region (h_op (vB (decide ((k_92 : Int) < (s_14.2.1.length : Int)))) (wt rfl) rfl (h_nil ?_)))
                  refine wH_seq (wH_iff rfl (range_nil hD_95) (wH_exit ?_))
                  exact cut_mk (s_97) rfl rfl (pre_r rfl)
                | cons x_94 l_93 =>
                  obtain ⟨c_, hc_98, hL_99⟩ := bind_some hL_99
                  refine wH_seq (wH_region (h_op (vB (decide ((k_92 : Int) < (s_14.2.1.length : Int)))) (wt rfl) rfl (h_nil ?_)))
                  refine wH_seq (wH_ift rfl (range_cons hD_95) (wH_skip ?_))
                  unfold ref_regionOf_v2_L2 at hc_98
                  refine wH_seq ?_
                  refine wH_block ?_
                  refine wH_seq ?_
                  refine wH_region ?_
                  refine h_op (vI (k_92 : Int)) (wt rfl) rfl ?_
                  refine h_op (vI (k_92 : Int)) (wt rfl) rfl ?_
                  refine h_nil ?_
                  refine wH_draws ?_
                  refine h_op (gV n_20 4 s_97) (wt rfl) rfl ?_
                  refine h_op (vI (k_92 : Int)) (wt rfl) rfl ?_
                  obtain ⟨_, hi_102, hc_98⟩ := bind_some hc_98
                  refine h_iavg es94 rfl rfl (inR_0 hi_102) (inR_lt hi_102) (wt rfl) ?_
                  refine h_far pl92_3 rfl 3 rfl (wt rfl) ?_
                  obtain ⟨e_103, hy_104, hc_98⟩ := bind_some hc_98
                  refine h_ldvg 4 3 (.inr (by kernel_rfl)) (fun _ _ ag => trivial) sz3 ag3 rfl rfl hy_104 (vI e_103.H) rfl (wt rfl) ?_
                  refine h_op (gV n_34 4 s_31.1) (wt rfl) rfl ?_
                  refine h_op (vI (k_92 : Int)) (wt rfl) rfl ?_
                  obtain ⟨_, hi_105, hc_98⟩ := bind_some hc_98
                  refine h_iavg es94 rfl rfl (inR_0 hi_105) (inR_lt hi_105) (wt rfl) ?_
                  refine h_far pl92_3 rfl 3 rfl (wt rfl) ?_
                  obtain ⟨e_106, hy_107, hc_98⟩ := bind_some hc_98
                  refine h_ldvg 9 4 (.inr (by kernel_rfl)) (fun _ _ ag => ⟨.inl ⟨rfl, rfl⟩, trivial⟩) sz3 ag3 rfl rfl hy_107 (vI e_106.H) rfl (wt rfl) ?_
                  refine h_op (vI (w64 (e_103.H + e_106.H))) (wt rfl) rfl ?_
                  obtain ⟨_, hi_108, hc_98⟩ := bind_some hc_98
                  refine h_iavg es94 rfl rfl (inR_0 hi_108) (inR_lt hi_108) (wt rfl) ?_
                  refine h_far pl92_3 rfl 3 rfl (wt rfl) ?_
                  obtain ⟨e_109, hy_110, hc_98⟩ := bind_some hc_98
                  refine h_stvg 13 (.inr (by kernel_rfl)) (fun _ _ ag => ⟨.inr (.inr (by kernel_rfl)), ⟨.inr (.inr (by kernel_rfl)), trivial⟩⟩) 3 sz3 rfl rfl hy_110 (⟨e_109.X, e_109.Y, e_109.W, (w64 (e_103.H + e_106.H))⟩ : Rect) rfl (wt rfl) ?_
                  refine h_re (v' := (gV n_20 4 (s_97.set (0 + ((k_92 : Int)).toNat) (⟨e_109.X, e_109.Y, e_109.W, (w64 (e_103.H + e_106.H))⟩ : Rect)))) 8 rfl (gV_len (by simp)) ?_
                  refine h_re (v' := (gV n_20 4 (s_97.set (0 + ((k_92 : Int)).toNat) (⟨e_109.X, e_109.Y, e_109.W, (w64 (e_103.H + e_106.H))⟩ : Rect)))) 128 rfl (gV_len (by simp)) ?_
                  refine h_nil ?_
                  refine wH_region ?_
                  refine h_opw (w64_nextr hD_95 hn_96) (wt rfl) rfl ?_
                  refine h_op (vI ((k_92 + 1 : Nat) : Int)) (wt rfl) rfl ?_
                  refine h_nil ?_
                  replace hc_98 := some_inj hc_98
                  subst hc_98
                  exact loop_mk (k_92 + 1, l_93, (s_97.set (0 + ((k_92 : Int)).toNat) (⟨e_109.X, e_109.Y, e_109.W, (w64 (e_103.H + e_106.H))⟩ : Rect))) ⟨hL_99, drop_next hD_95⟩ (Nat.lt_succ_self _) rfl (pre_r rfl)
              · rintro s_97 ho_ sl_ H_ hp_ hq_
                subst ho_
                refine wH_at _ hp_ hq_ ?_
                refine wH_exit ?_
                refine wH_region ?_
                refine h_op (vI s_14.2.2) (wt rfl) rfl ?_
                refine h_op (vI (w64 (s_14.2.2 + 1))) (wt rfl) rfl ?_
                refine h_op (vI (w64 (s_14.2.2 + 1))) (wt rfl) rfl ?_
                refine h_nil ?_
                replace hc_21 := some_inj hc_21
                subst hc_21
                exact loop_mk (k_9, (s_14.1, s_97, (w64 (s_14.2.2 + 1))), n_19, n_20) hL_22 (Nat.lt_succ_self _) rfl (pre_r rfl)
            · refine wH_iff rfl hc_91 ?_
              refine wH_skip ?_
              refine wH_frozg 3 rfl ?_
              refine wH_cog 8 3 rfl rfl ?_
              refine wH_region ?_
              refine h_op (gV n_19 4 s_14.1) (wt rfl) rfl ?_
              refine h_op (vL Rect.enc s_14.2.1) (wt rfl) rfl ?_
              obtain ⟨a_111, hz_112, hc_21⟩ := bind_some hc_21
              refine h_appg 0 (.inl rfl) (fun _ _ _ => trivial) (i := 2) el94 el94 sz92 z92 rfl (by decide) by92 (by decide) (fun _ => rfl) rfl rfl rfl hz_112 (wt rfl) (fun n_113 => ?_)
              refine h_op (gV n_34 4 s_31.1) (wt rfl) rfl ?_
              refine h_op (gV n_113 4 a_111) (wt rfl) rfl ?_
              refine h_op (gV n_34 4 s_31.1) (wt rfl) rfl ?_
              refine h_nil ?_
              refine wH_region ?_
              refine h_op (vI s_14.2.2) (wt rfl) rfl ?_
              refine h_op (vI (w64 (s_14.2.2 + 1))) (wt rfl) rfl ?_
              refine h_op (vI (w64 (s_14.2.2 + 1))) (wt rfl) rfl ?_
              refine h_nil ?_
              replace hc_21 := some_inj hc_21
              subst hc_21
              exact loop_mk (k_9, (a_111, s_31.1, (w64 (s_14.2.2 + 1))), n_113, n_34) hL_22 (Nat.lt_succ_self _) rfl (pre_is [0, 1, 2, 4] (by decide) rfl)
      · refine wH_iff rfl hc_25 ?_
        refine wH_exit ?_
        replace hc_21 := some_inj hc_21
        subst hc_21
        replace hL_22 := some_inj hL_22
        subst hL_22
        exact cut_mk ((s_14.1, s_14.2.1, s_14.2.2), n_19, n_20) rfl rfl (pre_r rfl)
  · rintro ⟨s_14, n_19, n_20⟩ ho_ sl_ H_ hp_ hq_
    subst ho_
    refine wH_at _ hp_ hq_ ?_
    refine wH_seq ?_
    refine wH_frozg 3 rfl ?_
    refine wH_cog 8 3 rfl rfl ?_
    refine wH_region ?_
    refine h_op (gV n_19 4 s_14.1) (wt rfl) rfl ?_
    refine h_op (vL Rect.enc s_14.2.1) (wt rfl) rfl ?_
    obtain ⟨a_115, hz_116, hF⟩ := bind_some hF
    refine h_appg 0 (.inl rfl) (fun _ _ _ => trivial) (i := 2) el94 el94 sz92 z92 rfl (by decide) by92 (by decide) (fun _ => rfl) rfl rfl rfl hz_116 (wt rfl) (fun n_117 => ?_)
    refine h_op (gV n_117 4 a_115) (wt rfl) rfl ?_
    refine h_nil ?_
    refine wH_frozg 2 rfl ?_
    refine wH_cog 4 2 rfl rfl ?_
    refine wH_cog 148 2 rfl rfl ?_
    replace hF := some_inj hF
    subst hF
    refine wH_ret ?_
    exact finB (.inr rfl) [(vL Rect.enc a_115)] _ [0, 1] [extN 0, extN 1] ⟨rfl, trivial⟩ (.cons (co_data rfl rfl) (.nil)) (by kernel_rfl) ⟨(by kernel_rfl), ⟨(by kernel_rfl), trivial⟩⟩ (by decide) (by kernel_rfl)
theorem ref_WithoutOf_ok {l_1 : (List Rect)} {m_2 : (List Rect)} {r : (List Rect)} (hF : ref_WithoutOf l_1 m_2 = some r) :
    FnM Try.prog 63 [(vL Rect.enc l_1), (vL Rect.enc m_2)] [] (vL Rect.enc r) [] := by
  refine FnM.of_wH ⟨Try.prog, 11, [], []⟩ rfl Try.func63 rfl rfl (Nat.le_of_ble_eq_true rfl) (by kernel_rfl) ?_
  unfold ref_WithoutOf at hF
  refine wH_seq ?_
  refine wH_region ?_
  refine h_box 0 (.inl rfl) [(vL Rect.enc l_1)] rfl rfl (wt rfl) (fun n_3 => ?_)
  refine h_box 0 (.inl rfl) [(vL Rect.enc m_2)] rfl rfl (wt rfl) (fun n_4 => ?_)
  refine h_op .nil (wt rfl) rfl ?_
  refine h_nil ?_
  refine wH_seq ?_
  refine wH_region ?_
  refine h_ldr 0 0 (.inl rfl) (fun _ _ _ => trivial) sz94 ag94 rfl rfl (vL Rect.enc l_1) rfl (wt rfl) ?_
  refine h_ldr 0 1 (.inl rfl) (fun _ _ _ => trivial) sz94 ag94 rfl rfl (vL Rect.enc m_2) rfl (wt rfl) ?_
  refine h_lit (([l_1, m_2] : List (List Rect)).map (eL Rect.enc)) es196 ez196 rfl rfl rfl rfl rfl (wt rfl) ?_
  obtain ⟨r_5, hr_6, hF⟩ := bind_some hF
  refine h_call0 (slices_Concat_api_Rect_api_Rect_ok hr_6) rfl hb136 rfl rfl rfl rfl (wt rfl) ?_
  refine h_op (.fn 137 [(.ref n_3 0 0), (.ref n_4 0 0)]) (wt rfl) rfl ?_
  obtain ⟨r_7, hr_8, hF⟩ := bind_some hF
  refine h_callq 0 [0, 1] (.inl rfl) (fun _ _ _ => trivial) (ref_regionOf_v2_ok hr_8) rfl hb133 rfl (by kernel_rfl) (by kernel_rfl) (by kernel_rfl) (by kernel_rfl) (by kernel_rfl) (by kernel_rfl) (by kernel_rfl) (by decide) (by kernel_rfl) (wt rfl) (vL Rect.enc r_7) (by kernel_rfl) ([(n_3, some (.cells 1 [(vL Rect.enc l_1)])), (n_4, some (.cells 1 [(vL Rect.enc m_2)]))] : Hp) (by kernel_rfl) ?_
  refine h_op (vL Rect.enc r_7) (wt rfl) rfl ?_
  refine h_nil ?_
  replace hF := some_inj hF
  subst hF
  refine wH_ret ?_
  exact fin0 (.inr rfl) [(vL Rect.enc r_7)] ⟨rfl, trivial⟩ rfl rfl rfl
theorem slices_Equal_api_Rect_api_Rect_ok {s1_1 : (List Rect)} {s2_2 : (List Rect)} {r : Bool} (hF : slices_Equal_api_Rect_api_Rect s1_1 s2_2 = some r) :
    FnM Try.prog 64 [(vL Rect.enc s1_1), (vL Rect.enc s2_2)] [] (vB r) [] := by
  refine FnM.of_wH ⟨Try.prog, 26, [], []⟩ rfl Try.func64 rfl rfl (Nat.le_of_ble_eq_true rfl) (by kernel_rfl) ?_
  unfold slices_Equal_api_Rect_api_Rect at hF
  refine wH_seq ?_
  refine wH_region ?_
  refine h_op (vB false) (wt rfl) rfl ?_
  refine h_nil ?_
  refine wH_seq ?_
  refine wH_seq ?_
  refine wH_region ?_
  refine h_op (vL Rect.enc s1_1) (wt rfl) rfl ?_
  refine h_len un94 rfl (wt rfl) ?_
  refine h_op (vL Rect.enc s2_2) (wt rfl) rfl ?_
  refine h_len un94 rfl (wt rfl) ?_
  refine h_op (vB ((s1_1.length : Int) != (s2_2.length : Int))) (wt rfl) rfl ?_
  refine h_nil ?_
  rcases cond_some hF with ⟨hc_3, hF⟩ | ⟨hc_3, hF⟩
  · refine wH_ift rfl hc_3 ?_
    refine wH_seq ?_
    refine wH_region ?_
    refine h_op (vB false) (wt rfl) rfl ?_
    refine h_nil ?_
    replace hF := some_inj hF
    subst hF
    refine wH_ret ?_
    exact fin0 (.inr rfl) [(vB false)] ⟨rfl, trivial⟩ rfl rfl rfl
  · refine wH_iff rfl hc_3 ?_
    refine wH_skip ?_
    refine wH_seq ?_
    refine wH_seq ?_
    refine wH_region ?_
    refine h_op (vL Rect.enc s1_1) (wt rfl) rfl ?_
    refine h_len un94 rfl (wt rfl) ?_
    refine h_op (vI 0) (wt rfl) rfl ?_
    refine h_nil ?_
    obtain ⟨o_12, hj_13, hF⟩ := bind_some hF
    obtain ⟨hn_8, hj_13⟩ := forL_some hj_13
    refine wH_join (β := (Unit)) (fun (s_9 : Unit) => ([] : List (Nat × V))) (fun (s_9 : Unit) => ([] : Hp)) (fun p => o_12 = .go p) ?_ ?_
    · refine wH_block ?_
      refine wH_loop (β := Nat × (List Rect) × (Unit)) (fun p => (fun (k_4 : Nat) (l_5 : List Rect) (s_9 : Unit) => ([(0, (vL Rect.enc s1_1)), (1, (vL Rect.enc s2_2)), (12, (vI (s1_1.length : Int))), (13, (vI (k_4 : Int)))] : List (Nat × V))) p.1 p.2.1 p.2.2) (fun p => (fun (k_4 : Nat) (l_5 : List Rect) (s_9 : Unit) => ([] : Hp)) p.1 p.2.1 p.2.2) (fun p => forR (fun k x s => slices_Equal_api_Rect_api_Rect_L1 s2_2 k x s) p.2.1 p.1 p.2.2 = some o_12 ∧ (s1_1).drop p.1 = p.2.1) (fun p => p.2.1.length) (0, s1_1, ()) ⟨hj_13, rfl⟩ rfl (pre_r rfl) ?_
      rintro ⟨k_4, l_5, s_9⟩ ⟨hL_11, hD_7⟩
      dsimp only at hL_11 hD_7
      cases l_5 with
      | nil =>
        replace hL_11 := some_inj hL_11
        subst hL_11
        refine wH_seq (wH_region (h_op (vB (decide ((k_4 : Int) < (s1_1.length : Int)))) (wt rfl) rfl (h_nil ?_)))
        refine wH_seq (wH_iff rfl (drop_nil hD_7) (wH_exit ?_))
        exact cut_mk (s_9) rfl rfl (pre_r rfl)
      | cons x_6 l_5 =>
        obtain ⟨c_, hc_10, hL_11⟩ := bind_some hL_11
        refine wH_seq (wH_region (h_op (vB (decide ((k_4 : Int) < (s1_1.length : Int)))) (wt rfl) rfl (h_nil ?_)))
        refine wH_seq (wH_ift rfl (drop_cons hD_7) (wH_skip ?_))
        unfold slices_Equal_api_Rect_api_Rect_L1 at hc_10
        refine wH_seq ?_
        refine wH_block ?_
        refine wH_seq ?_
        refine wH_region ?_
        refine h_op (vI (k_4 : Int)) (wt rfl) rfl ?_
        refine h_op (vI (k_4 : Int)) (wt rfl) rfl ?_
        refine h_nil ?_
        refine wH_seq ?_
        refine wH_draws ?_
        refine h_op (vL Rect.enc s1_1) (wt rfl) rfl ?_
        refine h_op (vI (k_4 : Int)) (wt rfl) rfl ?_
        refine h_ia es94 rfl rfl (drop_idx hD_7) rfl (wt rfl) ?_
        refine h_ldc sz92 ag92 rfl (.d (.agg (Rect.enc x_6))) rfl (wt rfl) ?_
        refine h_op (vL Rect.enc s2_2) (wt rfl) rfl ?_
        refine h_op (vI (k_4 : Int)) (wt rfl) rfl ?_
        obtain ⟨y_14, hy_15, hc_10⟩ := bind_some hc_10
        refine h_ia es94 rfl rfl hy_15 rfl (wt rfl) ?_
        refine h_ldc sz92 ag92 rfl (.d (.agg (Rect.enc y_14))) rfl (wt rfl) ?_
        refine h_op (vB (!((x_6.X == y_14.X) && ((x_6.Y == y_14.Y) && ((x_6.W == y_14.W) && ((x_6.H == y_14.H) && true)))))) (wt rfl) (by kernel_rfl) ?_
        refine h_nil ?_
        rcases cond_some hc_10 with ⟨hc_16, hc_10⟩ | ⟨hc_16, hc_10⟩
        · refine wH_ift rfl hc_16 ?_
          refine wH_seq ?_
          refine wH_region ?_
          refine h_op (vB false) (wt rfl) rfl ?_
          refine h_nil ?_
          replace hc_10 := some_inj hc_10
          subst hc_10
          replace hL_11 := some_inj hL_11
          subst hL_11
          replace hF := some_inj hF
          subst hF
          refine wH_ret ?_
          exact fin0 (.inr rfl) [(vB false)] ⟨rfl, trivial⟩ rfl rfl rfl
        · refine wH_iff rfl hc_16 ?_
          refine wH_skip ?_
          refine wH_region ?_
          refine h_opw (w64_next hD_7 hn_8) (wt rfl) rfl ?_
          refine h_op (vI ((k_4 + 1 : Nat) : Int)) (wt rfl) rfl ?_
          refine h_nil ?_
          replace hc_10 := some_inj hc_10
          subst hc_10
          exact loop_mk (k_4 + 1, l_5, ()) ⟨hL_11, drop_next hD_7⟩ (Nat.lt_succ_self _) rfl (pre_r rfl)
    · rintro s_9 ho_ sl_ H_ hp_ hq_
      subst ho_
      refine wH_at _ hp_ hq_ ?_
      refine wH_seq ?_
      refine wH_region ?_
      refine h_op (vB true) (wt rfl) rfl ?_
      refine h_nil ?_
      replace hF := some_inj hF
      subst hF
      refine wH_ret ?_
      exact fin0 (.inr rfl) [(vB true)] ⟨rfl, trivial⟩ rfl rfl rfl
theorem law_lit_ok {r : Bool} (hF : law_lit  = some r) :
    FnM Try.prog 65 [] [] (vB r) [] := by
  refine FnM.of_wH ⟨Try.prog, 16, [], []⟩ rfl Try.func65 rfl rfl (Nat.le_of_ble_eq_true rfl) (by kernel_rfl) ?_
  unfold law_lit at hF
  refine wH_seq ?_
  refine wH_region ?_
  refine h_op (vB false) (wt rfl) rfl ?_
  refine h_nil ?_
  refine wH_seq ?_
  refine wH_region ?_
  refine h_op (.d (.agg (Rect.enc (⟨0, 0, 2, 2⟩ : Rect)))) (wt rfl) (by kernel_rfl) ?_
  refine h_op (.d (.agg (Rect.enc (⟨1, 1, 2, 2⟩ : Rect)))) (wt rfl) (by kernel_rfl) ?_
  refine h_lit (([(⟨0, 0, 2, 2⟩ : Rect), (⟨1, 1, 2, 2⟩ : Rect)] : List Rect).map Rect.enc) es94 ez94 rfl rfl rfl rfl rfl (wt rfl) ?_
  obtain ⟨r_1, hr_2, hF⟩ := bind_some hF
  refine h_call0 (screen_Area_ok hr_2) rfl hb56 rfl rfl rfl rfl (wt rfl) ?_
  refine h_op (.tup [(vI r_1.1), (vI r_1.2)]) (wt rfl) rfl ?_
  refine h_op (vI r_1.1) (wt rfl) rfl ?_
  refine h_op (vI r_1.2) (wt rfl) rfl ?_
  refine h_op (vI r_1.1) (wt rfl) rfl ?_
  refine h_op (vI r_1.2) (wt rfl) rfl ?_
  refine h_nil ?_
  refine wH_seq ?_
  obtain ⟨v_3, h_4, hF⟩ := bind_some hF
  refine wH_join (β := Unit) (fun _ => ([(0, (vB v_3))] : List (Nat × V))) (fun _ => ([] : Hp)) (fun _ => True) ?_ ?_
  · refine wH_region ?_
    refine h_op (vI r_1.2) (wt rfl) rfl ?_
    refine h_op (vB (r_1.2 == 0)) (wt rfl) rfl ?_
    rcases cond_some h_4 with ⟨hc_5, h_4⟩ | ⟨hc_5, h_4⟩
    · refine h_movb rfl hc_5 (wt rfl) ?_
      refine h_op (vI r_1.1) (wg rfl rfl rfl) rfl ?_
      refine h_op (vB (r_1.1 == 7)) (wg rfl rfl rfl) rfl ?_
      refine h_op (vB (r_1.1 == 7)) (wt rfl) rfl ?_
      refine h_op (vB (r_1.1 == 7)) (wt rfl) rfl ?_
      refine h_nil ?_
      replace h_4 := some_inj h_4
      subst h_4
      exact cut_mk () trivial rfl (pre_r rfl)
    · refine h_movb rfl hc_5 (wt rfl) ?_
      refine h_skip (wg rfl rfl rfl) ?_
      refine h_skip (wg rfl rfl rfl) ?_
      refine h_op (vB false) (wt rfl) rfl ?_
      refine h_op (vB false) (wt rfl) rfl ?_
      refine h_nil ?_
      replace h_4 := some_inj h_4
      subst h_4
      exact cut_mk () trivial rfl (pre_r rfl)
  · rintro ⟨⟩ _ sl_ H_ hp_ hq_
    refine wH_at _ hp_ hq_ ?_
    replace hF := some_inj hF
    subst hF
    refine wH_ret ?_
    exact fin0 (.inr rfl) [(vB v_3)] ⟨rfl, trivial⟩ rfl rfl rfl
end Go.Proofs.Ytodfcleaapnklaa.Law
