/-
  The machine computes these plain functions (written by a program of ours).
-/
import Derived.Test.YtkjnmkompibhgaaFacts
import Derived.Test.YtkjnmkompibhgaaDefs
import Derived.Test.YtkjnmkompibhgaaPf1
open Go Go.Eng Go.Proofs
namespace Go.Proofs.Ytkjnmkompibhgaa.Law
set_option maxRecDepth 100000
set_option linter.unusedVariables false
set_option maxHeartbeats 1000000
theorem strings_IndexByte_ok {s_1 : ByteArray} {c_2 : Int} {r : Int} (hF : strings_IndexByte s_1 c_2 = some r) :
    FnM Try.prog 98 [(vS s_1), (.d (.int .u8 c_2))] [] (vI r) [] := by
  refine FnM.of_wH ⟨Try.prog, 8, [], []⟩ rfl Try.func98 rfl rfl (Nat.le_of_ble_eq_true rfl) (by kernel_rfl) ?_
  unfold strings_IndexByte at hF
  refine wH_seq ?_
  refine wH_region ?_
  refine h_op (vI 0) (wt rfl) rfl ?_
  refine h_nil ?_
  refine wH_seq ?_
  refine wH_region ?_
  refine h_op (vS s_1) (wt rfl) rfl ?_
  refine h_op (.d (.int .u8 c_2)) (wt rfl) rfl ?_
  obtain ⟨r_3, hr_4, hF⟩ := bind_some hF
  refine h_call0 (internal_stringslite_IndexByte_ok hr_4) rfl hb107 rfl rfl rfl rfl (wt rfl) ?_
  refine h_op (vI r_3) (wt rfl) rfl ?_
  refine h_nil ?_
  replace hF := some_inj hF
  subst hF
  refine wH_ret ?_
  exact fin0 (.inr rfl) [(vI r_3)] ⟨rfl, trivial⟩ rfl rfl rfl
theorem ref_only_ok {s_1 : ByteArray} {somev_2 : ByteArray} {r : Bool} (hF : ref_only s_1 somev_2 = some r) :
    FnM Try.prog 85 [(vS s_1), (vS somev_2)] [] (vB r) [] := by
  refine FnM.of_wH ⟨Try.prog, 18, [], []⟩ rfl Try.func85 rfl rfl (Nat.le_of_ble_eq_true rfl) (by kernel_rfl) ?_
  unfold ref_only at hF
  refine wH_seq ?_
  refine wH_region ?_
  refine h_op (vB false) (wt rfl) rfl ?_
  refine h_nil ?_
  refine wH_seq ?_
  refine wH_seq ?_
  refine wH_region ?_
  refine h_op (vS s_1) (wt rfl) rfl ?_
  refine h_lens un9 rfl (wt rfl) ?_
  refine h_op (vI 0) (wt rfl) rfl ?_
  refine h_nil ?_
  obtain ⟨o_11, hj_12, hF⟩ := bind_some hF
  obtain ⟨hn_7, hj_12⟩ := forL_some hj_12
  refine wH_join (β := (Unit)) (fun (s_8 : Unit) => ([] : List (Nat × V))) (fun (s_8 : Unit) => ([] : Hp)) (fun p => o_11 = .go p) ?_ ?_
  · refine wH_block ?_
    refine wH_loop (β := Nat × (List Nat) × (Unit)) (fun p => (fun (k_3 : Nat) (l_4 : List Nat) (s_8 : Unit) => ([(0, (vS s_1)), (1, (vS somev_2)), (7, (vI (s_1.size : Int))), (8, (vI (k_3 : Int)))] : List (Nat × V))) p.1 p.2.1 p.2.2) (fun p => (fun (k_3 : Nat) (l_4 : List Nat) (s_8 : Unit) => ([] : Hp)) p.1 p.2.1 p.2.2) (fun p => forR (fun k x s => ref_only_L1 s_1 somev_2 k x s) p.2.1 p.1 p.2.2 = some o_11 ∧ ((List.range ((s_1.size : Int)).toNat)).drop p.1 = p.2.1) (fun p => p.2.1.length) (0, (List.range ((s_1.size : Int)).toNat), ()) ⟨hj_12, rfl⟩ rfl rfl ?_
    rintro ⟨k_3, l_4, s_8⟩ ⟨hL_10, hD_6⟩
    dsimp only at hL_10 hD_6
    cases l_4 with
    | nil =>
      replace hL_10 := some_inj hL_10
      subst hL_10
      refine wH_seq (wH_region (h_op (vB (decide ((k_3 : Int) < (s_1.size : Int)))) (wt rfl) rfl (h_nil ?_)))
      refine wH_seq (wH_iff rfl (range_nil hD_6) (wH_exit ?_))
      exact cut_mk (s_8) rfl rfl rfl
    | cons x_5 l_4 =>
      obtain ⟨c_, hc_9, hL_10⟩ := bind_some hL_10
      refine wH_seq (wH_region (h_op (vB (decide ((k_3 : Int) < (s_1.size : Int)))) (wt rfl) rfl (h_nil ?_)))
      refine wH_seq (wH_ift rfl (range_cons hD_6) (wH_skip ?_))
      unfold ref_only_L1 at hc_9
      refine wH_seq ?_
      refine wH_block ?_
      refine wH_seq ?_
      refine wH_region ?_
      refine h_op (vI (k_3 : Int)) (wt rfl) rfl ?_
      refine h_op (vI (k_3 : Int)) (wt rfl) rfl ?_
      refine h_nil ?_
      refine wH_seq ?_
      refine wH_region ?_
      refine h_op (vS somev_2) (wt rfl) rfl ?_
      refine h_op (vS s_1) (wt rfl) rfl ?_
      refine h_op (vI (k_3 : Int)) (wt rfl) rfl ?_
      obtain ⟨b_13, hy_14, hc_9⟩ := bind_some hc_9
      refine h_idxs un9 rfl rfl hy_14 (wt rfl) ?_
      obtain ⟨r_15, hr_16, hc_9⟩ := bind_some hc_9
      refine h_call0 (strings_IndexByte_ok hr_16) rfl hb98 rfl rfl rfl rfl (wt rfl) ?_
      refine h_op (vB (decide (r_15 < 0))) (wt rfl) rfl ?_
      refine h_nil ?_
      rcases cond_some hc_9 with ⟨hc_17, hc_9⟩ | ⟨hc_17, hc_9⟩
      · refine wH_ift rfl hc_17 ?_
        refine wH_seq ?_
        refine wH_region ?_
        refine h_op (vB false) (wt rfl) rfl ?_
        refine h_nil ?_
        replace hc_9 := some_inj hc_9
        subst hc_9
        replace hL_10 := some_inj hL_10
        subst hL_10
        replace hF := some_inj hF
        subst hF
        refine wH_ret ?_
        exact fin0 (.inr rfl) [(vB false)] ⟨rfl, trivial⟩ rfl rfl rfl
      · refine wH_iff rfl hc_17 ?_
        refine wH_skip ?_
        refine wH_region ?_
        refine h_opw (w64_nextr hD_6 hn_7) (wt rfl) rfl ?_
        refine h_op (vI ((k_3 + 1 : Nat) : Int)) (wt rfl) rfl ?_
        refine h_nil ?_
        replace hc_9 := some_inj hc_9
        subst hc_9
        exact loop_mk (k_3 + 1, l_4, ()) ⟨hL_10, drop_next hD_6⟩ (Nat.lt_succ_self _) rfl rfl
  · rintro s_8 ho_ sl_ H_ hp_ hq_
    subst ho_
    refine wH_at _ hp_ hq_ ?_
    refine wH_seq ?_
    refine wH_region ?_
    refine h_op (vB true) (wt rfl) rfl ?_
    refine h_nil ?_
    replace hF := some_inj hF
    subst hF
    refine wH_ret ?_
    exact fin0 (.inr rfl) [(vB true)] ⟨rfl, trivial⟩ rfl rfl rfl
theorem ref_Key_ok {s_1 : ByteArray} {r : Bool} (hF : ref_Key s_1 = some r) :
    FnM Try.prog 46 [(vS s_1)] [] (vB r) [] := by
  refine FnM.of_wH ⟨Try.prog, 15, [], []⟩ rfl Try.func46 rfl rfl (Nat.le_of_ble_eq_true rfl) (by kernel_rfl) ?_
  unfold ref_Key at hF
  refine wH_seq ?_
  refine wH_region ?_
  refine h_op (vB false) (wt rfl) rfl ?_
  refine h_nil ?_
  refine wH_seq ?_
  obtain ⟨v_2, h_3, hF⟩ := bind_some hF
  refine wH_join (β := Unit) (fun _ => ([(2, (vB v_2))] : List (Nat × V))) (fun _ => ([] : Hp)) (fun _ => True) ?_ ?_
  · refine wH_region ?_
    refine h_op (vS s_1) (wt rfl) rfl ?_
    refine h_lens un9 rfl (wt rfl) ?_
    obtain ⟨r_4, hr_5, h_3⟩ := bind_some h_3
    refine h_call0 (ref_in_ok hr_5) rfl hb47 rfl rfl rfl rfl (wt rfl) ?_
    rcases cond_some h_3 with ⟨hc_6, h_3⟩ | ⟨hc_6, h_3⟩
    · refine h_movb rfl hc_6 (wt rfl) ?_
      refine h_op (vS s_1) (wg rfl rfl rfl) rfl ?_
      obtain ⟨y_7, hy_8, h_3⟩ := bind_some h_3
      refine h_subFalseTrue un9 rfl rfl hy_8 (wg rfl rfl rfl) ?_
      obtain ⟨r_9, hr_10, h_3⟩ := bind_some h_3
      refine h_call0 (ref_only_ok hr_10) rfl hb85 rfl rfl rfl rfl (wg rfl rfl rfl) ?_
      refine h_op (vB r_9) (wt rfl) rfl ?_
      rcases cond_some h_3 with ⟨hc_11, h_3⟩ | ⟨hc_11, h_3⟩
      · refine h_movb rfl hc_11 (wt rfl) ?_
        refine h_op (vS s_1) (wg rfl rfl rfl) rfl ?_
        obtain ⟨r_12, hr_13, h_3⟩ := bind_some h_3
        refine h_call0 (ref_only_ok hr_13) rfl hb85 rfl rfl rfl rfl (wg rfl rfl rfl) ?_
        refine h_op (vB r_12) (wt rfl) rfl ?_
        refine h_op (vB r_12) (wt rfl) rfl ?_
        refine h_nil ?_
        replace h_3 := some_inj h_3
        subst h_3
        exact cut_mk () trivial rfl rfl
      · refine h_movb rfl hc_11 (wt rfl) ?_
        refine h_skip (wg rfl rfl rfl) ?_
        refine h_skip (wg rfl rfl rfl) ?_
        refine h_op (vB false) (wt rfl) rfl ?_
        refine h_op (vB false) (wt rfl) rfl ?_
        refine h_nil ?_
        replace h_3 := some_inj h_3
        subst h_3
        exact cut_mk () trivial rfl rfl
    · refine h_movb rfl hc_6 (wt rfl) ?_
      refine h_skip (wg rfl rfl rfl) ?_
      refine h_skip (wg rfl rfl rfl) ?_
      refine h_skip (wg rfl rfl rfl) ?_
      refine h_op (vB false) (wt rfl) rfl ?_
      refine h_op (vB false) (wt rfl) rfl ?_
      refine h_skip (wg rfl rfl rfl) ?_
      refine h_skip (wg rfl rfl rfl) ?_
      refine h_op (vB false) (wt rfl) rfl ?_
      refine h_op (vB false) (wt rfl) rfl ?_
      refine h_nil ?_
      replace h_3 := some_inj h_3
      subst h_3
      exact cut_mk () trivial rfl rfl
  · rintro ⟨⟩ _ sl_ H_ hp_ hq_
    refine wH_at _ hp_ hq_ ?_
    replace hF := some_inj hF
    subst hF
    refine wH_ret ?_
    exact fin0 (.inr rfl) [(vB v_2)] ⟨rfl, trivial⟩ rfl rfl rfl
theorem ref_risingFault_ok {l_1 : (List ByteArray)} {r : Int} (hF : ref_risingFault l_1 = some r) :
    FnM Try.prog 86 [(vL eS l_1)] [] (vI r) [] := by
  refine FnM.of_wH ⟨Try.prog, 27, [], []⟩ rfl Try.func86 rfl rfl (Nat.le_of_ble_eq_true rfl) (by kernel_rfl) ?_
  unfold ref_risingFault at hF
  refine wH_seq ?_
  refine wH_region ?_
  refine h_op (vI 0) (wt rfl) rfl ?_
  refine h_nil ?_
  refine wH_seq ?_
  refine wH_seq ?_
  refine wH_region ?_
  refine h_op (vL eS l_1) (wt rfl) rfl ?_
  refine h_len un35 rfl (wt rfl) ?_
  refine h_op (vI 0) (wt rfl) rfl ?_
  refine h_nil ?_
  obtain ⟨o_10, hj_11, hF⟩ := bind_some hF
  obtain ⟨hn_6, hj_11⟩ := forL_some hj_11
  refine wH_join (β := (Unit)) (fun (s_7 : Unit) => ([] : List (Nat × V))) (fun (s_7 : Unit) => ([] : Hp)) (fun p => o_10 = .go p) ?_ ?_
  · refine wH_block ?_
    refine wH_loop (β := Nat × (List ByteArray) × (Unit)) (fun p => (fun (k_2 : Nat) (l_3 : List ByteArray) (s_7 : Unit) => ([(0, (vL eS l_1)), (5, (vL eS l_1)), (6, (vI (l_1.length : Int))), (7, (vI (k_2 : Int)))] : List (Nat × V))) p.1 p.2.1 p.2.2) (fun p => (fun (k_2 : Nat) (l_3 : List ByteArray) (s_7 : Unit) => ([] : Hp)) p.1 p.2.1 p.2.2) (fun p => forR (fun k x s => ref_risingFault_L1 l_1 k x s) p.2.1 p.1 p.2.2 = some o_10 ∧ (l_1).drop p.1 = p.2.1) (fun p => p.2.1.length) (0, l_1, ()) ⟨hj_11, rfl⟩ rfl rfl ?_
    rintro ⟨k_2, l_3, s_7⟩ ⟨hL_9, hD_5⟩
    dsimp only at hL_9 hD_5
    cases l_3 with
    | nil =>
      replace hL_9 := some_inj hL_9
      subst hL_9
      refine wH_seq (wH_region (h_op (vB (decide ((k_2 : Int) < (l_1.length : Int)))) (wt rfl) rfl (h_nil ?_)))
      refine wH_seq (wH_iff rfl (drop_nil hD_5) (wH_exit ?_))
      exact cut_mk (s_7) rfl rfl rfl
    | cons x_4 l_3 =>
      obtain ⟨c_, hc_8, hL_9⟩ := bind_some hL_9
      refine wH_seq (wH_region (h_op (vB (decide ((k_2 : Int) < (l_1.length : Int)))) (wt rfl) rfl (h_nil ?_)))
      refine wH_seq (wH_ift rfl (drop_cons hD_5) (wH_skip ?_))
      unfold ref_risingFault_L1 at hc_8
      refine wH_seq ?_
      refine wH_block ?_
      refine wH_seq ?_
      refine wH_region ?_
      refine h_op (vI (k_2 : Int)) (wt rfl) rfl ?_
      refine h_ia es35 rfl rfl (drop_idx hD_5) rfl (wt rfl) ?_
      refine h_ldc sz9 ag9 rfl (vS x_4) rfl (wt rfl) ?_
      refine h_op (vI (k_2 : Int)) (wt rfl) rfl ?_
      refine h_op (vS x_4) (wt rfl) rfl ?_
      refine h_nil ?_
      refine wH_seq ?_
      refine wH_seq ?_
      refine wH_region ?_
      refine h_op (vS x_4) (wt rfl) rfl ?_
      obtain ⟨r_12, hr_13, hc_8⟩ := bind_some hc_8
      refine h_call0 (ref_Key_ok hr_13) rfl hb46 rfl rfl rfl rfl (wt rfl) ?_
      refine h_op (vB (!r_12)) (wt rfl) rfl ?_
      refine h_nil ?_
      rcases cond_some hc_8 with ⟨hc_14, hc_8⟩ | ⟨hc_14, hc_8⟩
      · refine wH_ift rfl hc_14 ?_
        refine wH_seq ?_
        refine wH_region ?_
        refine h_op (vI 5) (wt rfl) rfl ?_
        refine h_nil ?_
        replace hc_8 := some_inj hc_8
        subst hc_8
        replace hL_9 := some_inj hL_9
        subst hL_9
        replace hF := some_inj hF
        subst hF
        refine wH_ret ?_
        exact fin0 (.inr rfl) [(vI 5)] ⟨rfl, trivial⟩ rfl rfl rfl
      · refine wH_iff rfl hc_14 ?_
        refine wH_skip ?_
        refine wH_seq ?_
        obtain ⟨v_15, h_16, hc_8⟩ := bind_some hc_8
        refine wH_join (β := Unit) (fun _ => ([(0, (vL eS l_1)), (5, (vL eS l_1)), (6, (vI (l_1.length : Int))), (7, (vI (k_2 : Int))), (25, (vB v_15))] : List (Nat × V))) (fun _ => ([] : Hp)) (fun _ => True) ?_ ?_
        · refine wH_region ?_
          refine h_op (vI (k_2 : Int)) (wt rfl) rfl ?_
          refine h_op (vB (decide ((k_2 : Int) > 0))) (wt rfl) rfl ?_
          rcases cond_some h_16 with ⟨hc_17, h_16⟩ | ⟨hc_17, h_16⟩
          · refine h_movb rfl hc_17 (wt rfl) ?_
            refine h_op (vS x_4) (wg rfl rfl rfl) rfl ?_
            refine h_op (vL eS l_1) (wg rfl rfl rfl) rfl ?_
            refine h_op (vI (k_2 : Int)) (wg rfl rfl rfl) rfl ?_
            refine h_op (vI (w64 ((k_2 : Int) - 1))) (wg rfl rfl rfl) rfl ?_
            obtain ⟨y_18, hy_19, h_16⟩ := bind_some h_16
            refine h_ia es35 rfl rfl hy_19 rfl (wg rfl rfl rfl) ?_
            refine h_ldc sz9 ag9 rfl (vS y_18) rfl (wg rfl rfl rfl) ?_
            refine h_op (vB (sLe x_4 y_18)) (wg rfl rfl rfl) rfl ?_
            refine h_op (vB (sLe x_4 y_18)) (wt rfl) rfl ?_
            refine h_nil ?_
            replace h_16 := some_inj h_16
            subst h_16
            exact cut_mk () trivial rfl rfl
          · refine h_movb rfl hc_17 (wt rfl) ?_
            refine h_skip (wg rfl rfl rfl) ?_
            refine h_skip (wg rfl rfl rfl) ?_
            refine h_skip (wg rfl rfl rfl) ?_
            refine h_skip (wg rfl rfl rfl) ?_
            refine h_skip (wg rfl rfl rfl) ?_
            refine h_skip (wg rfl rfl rfl) ?_
            refine h_skip (wg rfl rfl rfl) ?_
            refine h_op (vB false) (wt rfl) rfl ?_
            refine h_nil ?_
            replace h_16 := some_inj h_16
            subst h_16
            exact cut_mk () trivial rfl rfl
        · rintro ⟨⟩ _ sl_ H_ hp_ hq_
          refine wH_at _ hp_ hq_ ?_
          rcases cond_some hc_8 with ⟨hc_20, hc_8⟩ | ⟨hc_20, hc_8⟩
          · refine wH_ift rfl hc_20 ?_
            refine wH_seq ?_
            refine wH_region ?_
            refine h_op (vI 7) (wt rfl) rfl ?_
            refine h_nil ?_
            replace hc_8 := some_inj hc_8
            subst hc_8
            replace hL_9 := some_inj hL_9
            subst hL_9
            replace hF := some_inj hF
            subst hF
            refine wH_ret ?_
            exact fin0 (.inr rfl) [(vI 7)] ⟨rfl, trivial⟩ rfl rfl rfl
          · refine wH_iff rfl hc_20 ?_
            refine wH_skip ?_
            refine wH_region ?_
            refine h_opw (w64_next hD_5 hn_6) (wt rfl) rfl ?_
            refine h_op (vI ((k_2 + 1 : Nat) : Int)) (wt rfl) rfl ?_
            refine h_nil ?_
            replace hc_8 := some_inj hc_8
            subst hc_8
            exact loop_mk (k_2 + 1, l_3, ()) ⟨hL_9, drop_next hD_5⟩ (Nat.lt_succ_self _) rfl rfl
  · rintro s_7 ho_ sl_ H_ hp_ hq_
    subst ho_
    refine wH_at _ hp_ hq_ ?_
    refine wH_seq ?_
    refine wH_region ?_
    refine h_op (vI 0) (wt rfl) rfl ?_
    refine h_nil ?_
    replace hF := some_inj hF
    subst hF
    refine wH_ret ?_
    exact fin0 (.inr rfl) [(vI 0)] ⟨rfl, trivial⟩ rfl rfl rfl
theorem ref_TagsFault_ok {l_1 : (List ByteArray)} {r : Int} (hF : ref_TagsFault l_1 = some r) :
    FnM Try.prog 48 [(vL eS l_1)] [] (vI r) [] := by
  refine FnM.of_wH ⟨Try.prog, 8, [], []⟩ rfl Try.func48 rfl rfl (Nat.le_of_ble_eq_true rfl) (by kernel_rfl) ?_
  unfold ref_TagsFault at hF
  refine wH_seq ?_
  refine wH_region ?_
  refine h_op (vI 0) (wt rfl) rfl ?_
  refine h_nil ?_
  refine wH_seq ?_
  refine wH_seq ?_
  refine wH_region ?_
  refine h_op (vL eS l_1) (wt rfl) rfl ?_
  refine h_len un35 rfl (wt rfl) ?_
  refine h_op (vB (decide ((l_1.length : Int) > 20))) (wt rfl) rfl ?_
  refine h_nil ?_
  rcases cond_some hF with ⟨hc_2, hF⟩ | ⟨hc_2, hF⟩
  · refine wH_ift rfl hc_2 ?_
    refine wH_seq ?_
    refine wH_region ?_
    refine h_op (vI 2) (wt rfl) rfl ?_
    refine h_nil ?_
    replace hF := some_inj hF
    subst hF
    refine wH_ret ?_
    exact fin0 (.inr rfl) [(vI 2)] ⟨rfl, trivial⟩ rfl rfl rfl
  · refine wH_iff rfl hc_2 ?_
    refine wH_skip ?_
    refine wH_seq ?_
    refine wH_region ?_
    refine h_op (vL eS l_1) (wt rfl) rfl ?_
    obtain ⟨r_3, hr_4, hF⟩ := bind_some hF
    refine h_call0 (ref_risingFault_ok hr_4) rfl hb86 rfl rfl rfl rfl (wt rfl) ?_
    refine h_op (vI r_3) (wt rfl) rfl ?_
    refine h_nil ?_
    replace hF := some_inj hF
    subst hF
    refine wH_ret ?_
    exact fin0 (.inr rfl) [(vI r_3)] ⟨rfl, trivial⟩ rfl rfl rfl
theorem ref_SpotsFault_ok {l_1 : (List Spot)} {r : Int} (hF : ref_SpotsFault l_1 = some r) :
    FnM Try.prog 9 [(vL Spot.enc l_1)] [] (vI r) [] := by
  refine FnM.of_wH ⟨Try.prog, 61, [], []⟩ rfl Try.func9 rfl rfl (Nat.le_of_ble_eq_true rfl) (by kernel_rfl) ?_
  unfold ref_SpotsFault at hF
  refine wH_seq ?_
  refine wH_region ?_
  refine h_op (vI 0) (wt rfl) rfl ?_
  refine h_nil ?_
  refine wH_seq ?_
  refine wH_seq ?_
  refine wH_region ?_
  refine h_op (vL Spot.enc l_1) (wt rfl) rfl ?_
  refine h_len un26 rfl (wt rfl) ?_
  refine h_op (vB (decide ((l_1.length : Int) > 60))) (wt rfl) rfl ?_
  refine h_nil ?_
  rcases cond_some hF with ⟨hc_2, hF⟩ | ⟨hc_2, hF⟩
  · refine wH_ift rfl hc_2 ?_
    refine wH_seq ?_
    refine wH_region ?_
    refine h_op (vI 2) (wt rfl) rfl ?_
    refine h_nil ?_
    replace hF := some_inj hF
    subst hF
    refine wH_ret ?_
    exact fin0 (.inr rfl) [(vI 2)] ⟨rfl, trivial⟩ rfl rfl rfl
  · refine wH_iff rfl hc_2 ?_
    refine wH_skip ?_
    refine wH_seq ?_
    refine wH_region ?_
    refine h_op (vS (⟨#[]⟩ : ByteArray)) (wt rfl) rfl ?_
    refine h_nil ?_
    refine wH_seq ?_
    refine wH_seq ?_
    refine wH_region ?_
    refine h_op (vL Spot.enc l_1) (wt rfl) rfl ?_
    refine h_len un26 rfl (wt rfl) ?_
    refine h_op (vI 0) (wt rfl) rfl ?_
    refine h_nil ?_
    obtain ⟨o_11, hj_12, hF⟩ := bind_some hF
    obtain ⟨hn_7, hj_12⟩ := forL_some hj_12
    refine wH_join (β := (ByteArray)) (fun (s_8 : ByteArray) => ([] : List (Nat × V))) (fun (s_8 : ByteArray) => ([] : Hp)) (fun p => o_11 = .go p) ?_ ?_
    · refine wH_block ?_
      refine wH_loop (β := Nat × (List Spot) × (ByteArray)) (fun p => (fun (k_3 : Nat) (l_4 : List Spot) (s_8 : ByteArray) => ([(3, (vS s_8)), (10, (vL Spot.enc l_1)), (11, (vI (l_1.length : Int))), (12, (vI (k_3 : Int)))] : List (Nat × V))) p.1 p.2.1 p.2.2) (fun p => (fun (k_3 : Nat) (l_4 : List Spot) (s_8 : ByteArray) => ([] : Hp)) p.1 p.2.1 p.2.2) (fun p => forR (fun k x s => ref_SpotsFault_L1 k x s) p.2.1 p.1 p.2.2 = some o_11 ∧ (l_1).drop p.1 = p.2.1) (fun p => p.2.1.length) (0, l_1, (⟨#[]⟩ : ByteArray)) ⟨hj_12, rfl⟩ rfl rfl ?_
      rintro ⟨k_3, l_4, s_8⟩ ⟨hL_10, hD_6⟩
      dsimp only at hL_10 hD_6
      cases l_4 with
      | nil =>
        replace hL_10 := some_inj hL_10
        subst hL_10
        refine wH_seq (wH_region (h_op (vB (decide ((k_3 : Int) < (l_1.length : Int)))) (wt rfl) rfl (h_nil ?_)))
        refine wH_seq (wH_iff rfl (drop_nil hD_6) (wH_exit ?_))
        exact cut_mk (s_8) rfl rfl rfl
      | cons x_5 l_4 =>
        obtain ⟨c_, hc_9, hL_10⟩ := bind_some hL_10
        refine wH_seq (wH_region (h_op (vB (decide ((k_3 : Int) < (l_1.length : Int)))) (wt rfl) rfl (h_nil ?_)))
        refine wH_seq (wH_ift rfl (drop_cons hD_6) (wH_skip ?_))
        unfold ref_SpotsFault_L1 at hc_9
        refine wH_seq ?_
        refine wH_block ?_
        refine wH_seq ?_
        refine wH_region ?_
        refine h_ia es26 rfl rfl (drop_idx hD_6) rfl (wt rfl) ?_
        refine h_ldc sz43 ag43 rfl (.d (.agg (Spot.enc x_5))) rfl (wt rfl) ?_
        refine h_alloc 0 (.inl rfl) z43 rfl (wt rfl) (fun n_13 => ?_)
        refine h_str 0 (.inl rfl) (fun _ _ _ => trivial) 0 sz43 rfl rfl [(vS x_5.Key), (vI x_5.Time.From), (vI x_5.Time.To), (vI x_5.Room), (vL eS x_5.Tags)] rfl (wt rfl) ?_
        refine h_nil ?_
        refine wH_seq ?_
        refine wH_block ?_
        refine wH_seq ?_
        refine wH_region ?_
        refine h_far pl43_0 rfl 0 rfl (wt rfl) ?_
        refine h_ldr 0 0 (.inl rfl) (fun _ _ _ => trivial) sz9 ag9 rfl rfl (vS x_5.Key) rfl (wt rfl) ?_
        obtain ⟨r_14, hr_15, hc_9⟩ := bind_some hc_9
        refine h_call0 (ref_Key_ok hr_15) rfl hb46 rfl rfl rfl rfl (wt rfl) ?_
        refine h_op (vB (!r_14)) (wt rfl) rfl ?_
        refine h_op (vB (!r_14)) (wt rfl) rfl ?_
        refine h_nil ?_
        rcases cond_some hc_9 with ⟨hc_16, hc_9⟩ | ⟨hc_16, hc_9⟩
        · refine wH_ift rfl hc_16 ?_
          refine wH_seq ?_
          refine wH_region ?_
          refine h_op (vI 5) (wt rfl) rfl ?_
          refine h_nil ?_
          replace hc_9 := some_inj hc_9
          subst hc_9
          replace hL_10 := some_inj hL_10
          subst hL_10
          replace hF := some_inj hF
          subst hF
          refine wH_ret ?_
          exact fin0 (.inr rfl) [(vI 5)] ⟨rfl, trivial⟩ rfl rfl rfl
        · refine wH_iff rfl hc_16 ?_
          refine wH_seq ?_
          refine wH_region ?_
          refine h_far pl43_0 rfl 0 rfl (wt rfl) ?_
          refine h_ldr 0 0 (.inl rfl) (fun _ _ _ => trivial) sz9 ag9 rfl rfl (vS x_5.Key) rfl (wt rfl) ?_
          refine h_op (vS s_8) (wt rfl) rfl ?_
          refine h_op (vB (sLe x_5.Key s_8)) (wt rfl) rfl ?_
          refine h_op (vB (sLe x_5.Key s_8)) (wt rfl) rfl ?_
          refine h_nil ?_
          rcases cond_some hc_9 with ⟨hc_17, hc_9⟩ | ⟨hc_17, hc_9⟩
          · refine wH_ift rfl hc_17 ?_
            refine wH_seq ?_
            refine wH_region ?_
            refine h_op (vI 7) (wt rfl) rfl ?_
            refine h_nil ?_
            replace hc_9 := some_inj hc_9
            subst hc_9
            replace hL_10 := some_inj hL_10
            subst hL_10
            replace hF := some_inj hF
            subst hF
            refine wH_ret ?_
            exact fin0 (.inr rfl) [(vI 7)] ⟨rfl, trivial⟩ rfl rfl rfl
          · refine wH_iff rfl hc_17 ?_
            refine wH_seq ?_
            obtain ⟨v_18, h_19, hc_9⟩ := bind_some hc_9
            refine wH_join (β := Unit) (fun _ => ([(5, (.ref n_13 0 0)), (10, (vL Spot.enc l_1)), (11, (vI (l_1.length : Int))), (12, (vI (k_3 : Int))), (26, (vB v_18))] : List (Nat × V))) (fun _ => ([(n_13, some (.cells 5 [(vS x_5.Key), (vI x_5.Time.From), (vI x_5.Time.To), (vI x_5.Room), (vL eS x_5.Tags)]))] : Hp)) (fun _ => True) ?_ ?_
            · refine wH_region ?_
              refine h_far pl43_1 rfl 1 rfl (wt rfl) ?_
              refine h_far pl34_0 rfl 1 rfl (wt rfl) ?_
              refine h_ldr 0 0 (.inl rfl) (fun _ _ _ => trivial) sz3 ag3 rfl rfl (vI x_5.Time.From) rfl (wt rfl) ?_
              refine h_op (vB (decide (x_5.Time.From < 0))) (wt rfl) rfl ?_
              rcases cond_some h_19 with ⟨hc_20, h_19⟩ | ⟨hc_20, h_19⟩
              · refine h_movb rfl hc_20 (wt rfl) ?_
                refine h_skip (wg rfl rfl rfl) ?_
                refine h_skip (wg rfl rfl rfl) ?_
                refine h_skip (wg rfl rfl rfl) ?_
                refine h_skip (wg rfl rfl rfl) ?_
                refine h_skip (wg rfl rfl rfl) ?_
                refine h_skip (wg rfl rfl rfl) ?_
                refine h_skip (wg rfl rfl rfl) ?_
                refine h_op (vB true) (wt rfl) rfl ?_
                refine h_op (vB true) (wt rfl) rfl ?_
                refine h_skip (wg rfl rfl rfl) ?_
                refine h_skip (wg rfl rfl rfl) ?_
                refine h_skip (wg rfl rfl rfl) ?_
                refine h_skip (wg rfl rfl rfl) ?_
                refine h_op (vB true) (wt rfl) rfl ?_
                refine h_op (vB true) (wt rfl) rfl ?_
                refine h_skip (wg rfl rfl rfl) ?_
                refine h_skip (wg rfl rfl rfl) ?_
                refine h_skip (wg rfl rfl rfl) ?_
                refine h_skip (wg rfl rfl rfl) ?_
                refine h_op (vB true) (wt rfl) rfl ?_
                refine h_op (vB true) (wt rfl) rfl ?_
                refine h_nil ?_
                replace h_19 := some_inj h_19
                subst h_19
                exact cut_mk () trivial rfl rfl
              · refine h_movb rfl hc_20 (wt rfl) ?_
                refine h_far pl43_1 rfl 1 rfl (wg rfl rfl rfl) ?_
                refine h_far pl34_0 rfl 1 rfl (wg rfl rfl rfl) ?_
                refine h_ldr 0 0 (.inl rfl) (fun _ _ _ => trivial) sz3 ag3 rfl rfl (vI x_5.Time.From) rfl (wg rfl rfl rfl) ?_
                refine h_far pl43_1 rfl 1 rfl (wg rfl rfl rfl) ?_
                refine h_far pl34_1 rfl 2 rfl (wg rfl rfl rfl) ?_
                refine h_ldr 0 0 (.inl rfl) (fun _ _ _ => trivial) sz3 ag3 rfl rfl (vI x_5.Time.To) rfl (wg rfl rfl rfl) ?_
                refine h_op (vB (decide (x_5.Time.From ≥ x_5.Time.To))) (wg rfl rfl rfl) rfl ?_
                refine h_op (vB (decide (x_5.Time.From ≥ x_5.Time.To))) (wt rfl) rfl ?_
                rcases cond_some h_19 with ⟨hc_21, h_19⟩ | ⟨hc_21, h_19⟩
                · refine h_movb rfl hc_21 (wt rfl) ?_
                  refine h_skip (wg rfl rfl rfl) ?_
                  refine h_skip (wg rfl rfl rfl) ?_
                  refine h_skip (wg rfl rfl rfl) ?_
                  refine h_skip (wg rfl rfl rfl) ?_
                  refine h_op (vB true) (wt rfl) rfl ?_
                  refine h_op (vB true) (wt rfl) rfl ?_
                  refine h_skip (wg rfl rfl rfl) ?_
                  refine h_skip (wg rfl rfl rfl) ?_
                  refine h_skip (wg rfl rfl rfl) ?_
                  refine h_skip (wg rfl rfl rfl) ?_
                  refine h_op (vB true) (wt rfl) rfl ?_
                  refine h_op (vB true) (wt rfl) rfl ?_
                  refine h_nil ?_
                  replace h_19 := some_inj h_19
                  subst h_19
                  exact cut_mk () trivial rfl rfl
                · refine h_movb rfl hc_21 (wt rfl) ?_
                  refine h_far pl43_1 rfl 1 rfl (wg rfl rfl rfl) ?_
                  refine h_far pl34_1 rfl 2 rfl (wg rfl rfl rfl) ?_
                  refine h_ldr 0 0 (.inl rfl) (fun _ _ _ => trivial) sz3 ag3 rfl rfl (vI x_5.Time.To) rfl (wg rfl rfl rfl) ?_
                  refine h_op (vB (decide (x_5.Time.To > 345686400000))) (wg rfl rfl rfl) rfl ?_
                  refine h_op (vB (decide (x_5.Time.To > 345686400000))) (wt rfl) rfl ?_
                  rcases cond_some h_19 with ⟨hc_22, h_19⟩ | ⟨hc_22, h_19⟩
                  · refine h_movb rfl hc_22 (wt rfl) ?_
                    refine h_skip (wg rfl rfl rfl) ?_
                    refine h_skip (wg rfl rfl rfl) ?_
                    refine h_skip (wg rfl rfl rfl) ?_
                    refine h_skip (wg rfl rfl rfl) ?_
                    refine h_op (vB true) (wt rfl) rfl ?_
                    refine h_op (vB true) (wt rfl) rfl ?_
                    refine h_nil ?_
                    replace h_19 := some_inj h_19
                    subst h_19
                    exact cut_mk () trivial rfl rfl
                  · refine h_movb rfl hc_22 (wt rfl) ?_
                    refine h_far pl43_2 rfl 3 rfl (wg rfl rfl rfl) ?_
                    refine h_ldr 0 0 (.inl rfl) (fun _ _ _ => trivial) sz3 ag3 rfl rfl (vI x_5.Room) rfl (wg rfl rfl rfl) ?_
                    obtain ⟨r_23, hr_24, h_19⟩ := bind_some h_19
                    refine h_call0 (ref_in_ok hr_24) rfl hb47 rfl rfl rfl rfl (wg rfl rfl rfl) ?_
                    refine h_op (vB (!r_23)) (wg rfl rfl rfl) rfl ?_
                    refine h_op (vB (!r_23)) (wt rfl) rfl ?_
                    refine h_op (vB (!r_23)) (wt rfl) rfl ?_
                    refine h_nil ?_
                    replace h_19 := some_inj h_19
                    subst h_19
                    exact cut_mk () trivial rfl rfl
            · rintro ⟨⟩ _ sl_ H_ hp_ hq_
              refine wH_at _ hp_ hq_ ?_
              rcases cond_some hc_9 with ⟨hc_25, hc_9⟩ | ⟨hc_25, hc_9⟩
              · refine wH_ift rfl hc_25 ?_
                refine wH_seq ?_
                refine wH_region ?_
                refine h_op (vI 1) (wt rfl) rfl ?_
                refine h_nil ?_
                replace hc_9 := some_inj hc_9
                subst hc_9
                replace hL_10 := some_inj hL_10
                subst hL_10
                replace hF := some_inj hF
                subst hF
                refine wH_ret ?_
                exact fin0 (.inr rfl) [(vI 1)] ⟨rfl, trivial⟩ rfl rfl rfl
              · refine wH_iff rfl hc_25 ?_
                refine wH_skip ?_
                refine wH_seq ?_
                refine wH_region ?_
                refine h_far pl43_0 rfl 0 rfl (wt rfl) ?_
                refine h_ldr 0 0 (.inl rfl) (fun _ _ _ => trivial) sz9 ag9 rfl rfl (vS x_5.Key) rfl (wt rfl) ?_
                refine h_op (vS x_5.Key) (wt rfl) rfl ?_
                refine h_nil ?_
                refine wH_seq ?_
                refine wH_region ?_
                refine h_far pl43_3 rfl 4 rfl (wt rfl) ?_
                refine h_ldr 0 0 (.inl rfl) (fun _ _ _ => trivial) sz35 ag35 rfl rfl (vL eS x_5.Tags) rfl (wt rfl) ?_
                obtain ⟨r_26, hr_27, hc_9⟩ := bind_some hc_9
                refine h_call0 (ref_TagsFault_ok hr_27) rfl hb48 rfl rfl rfl rfl (wt rfl) ?_
                refine h_op (vI r_26) (wt rfl) rfl ?_
                refine h_nil ?_
                refine wH_seq ?_
                refine wH_region ?_
                refine h_op (vI r_26) (wt rfl) rfl ?_
                refine h_op (vB (r_26 != 0)) (wt rfl) rfl ?_
                refine h_nil ?_
                rcases cond_some hc_9 with ⟨hc_28, hc_9⟩ | ⟨hc_28, hc_9⟩
                · refine wH_ift rfl hc_28 ?_
                  refine wH_seq ?_
                  refine wH_region ?_
                  refine h_op (vI r_26) (wt rfl) rfl ?_
                  refine h_op (vI r_26) (wt rfl) rfl ?_
                  refine h_nil ?_
                  replace hc_9 := some_inj hc_9
                  subst hc_9
                  replace hL_10 := some_inj hL_10
                  subst hL_10
                  replace hF := some_inj hF
                  subst hF
                  refine wH_ret ?_
                  exact fin0 (.inr rfl) [(vI r_26)] ⟨rfl, trivial⟩ rfl rfl rfl
                · refine wH_iff rfl hc_28 ?_
                  refine wH_skip ?_
                  refine wH_region ?_
                  refine h_opw (w64_next hD_6 hn_7) (wt rfl) rfl ?_
                  refine h_op (vI ((k_3 + 1 : Nat) : Int)) (wt rfl) rfl ?_
                  refine h_nil ?_
                  replace hc_9 := some_inj hc_9
                  subst hc_9
                  exact loop_mk (k_3 + 1, l_4, x_5.Key) ⟨hL_10, drop_next hD_6⟩ (Nat.lt_succ_self _) rfl rfl
    · rintro s_8 ho_ sl_ H_ hp_ hq_
      subst ho_
      refine wH_at _ hp_ hq_ ?_
      refine wH_seq ?_
      refine wH_region ?_
      refine h_op (vI 0) (wt rfl) rfl ?_
      refine h_nil ?_
      replace hF := some_inj hF
      subst hF
      refine wH_ret ?_
      exact fin0 (.inr rfl) [(vI 0)] ⟨rfl, trivial⟩ rfl rfl rfl
theorem ref_CampaignsFault_ok {l_1 : (List Campaign)} {r : Int} (hF : ref_CampaignsFault l_1 = some r) :
    FnM Try.prog 11 [(vL Campaign.enc l_1)] [] (vI r) [] := by
  refine FnM.of_wH ⟨Try.prog, 84, [], []⟩ rfl Try.func11 rfl rfl (Nat.le_of_ble_eq_true rfl) (by kernel_rfl) ?_
  unfold ref_CampaignsFault at hF
  refine wH_seq ?_
  refine wH_region ?_
  refine h_op (vI 0) (wt rfl) rfl ?_
  refine h_nil ?_
  refine wH_seq ?_
  refine wH_seq ?_
  refine wH_region ?_
  refine h_op (vL Campaign.enc l_1) (wt rfl) rfl ?_
  refine h_len un27 rfl (wt rfl) ?_
  refine h_op (vB (decide ((l_1.length : Int) > 30))) (wt rfl) rfl ?_
  refine h_nil ?_
  rcases cond_some hF with ⟨hc_2, hF⟩ | ⟨hc_2, hF⟩
  · refine wH_ift rfl hc_2 ?_
    refine wH_seq ?_
    refine wH_region ?_
    refine h_op (vI 2) (wt rfl) rfl ?_
    refine h_nil ?_
    replace hF := some_inj hF
    subst hF
    refine wH_ret ?_
    exact fin0 (.inr rfl) [(vI 2)] ⟨rfl, trivial⟩ rfl rfl rfl
  · refine wH_iff rfl hc_2 ?_
    refine wH_skip ?_
    refine wH_seq ?_
    refine wH_region ?_
    refine h_op (vS (⟨#[]⟩ : ByteArray)) (wt rfl) rfl ?_
    refine h_nil ?_
    refine wH_seq ?_
    refine wH_seq ?_
    refine wH_region ?_
    refine h_op (vL Campaign.enc l_1) (wt rfl) rfl ?_
    refine h_len un27 rfl (wt rfl) ?_
    refine h_op (vI 0) (wt rfl) rfl ?_
    refine h_nil ?_
    obtain ⟨o_11, hj_12, hF⟩ := bind_some hF
    obtain ⟨hn_7, hj_12⟩ := forL_some hj_12
    refine wH_join (β := (ByteArray)) (fun (s_8 : ByteArray) => ([] : List (Nat × V))) (fun (s_8 : ByteArray) => ([] : Hp)) (fun p => o_11 = .go p) ?_ ?_
    · refine wH_block ?_
      refine wH_loop (β := Nat × (List Campaign) × (ByteArray)) (fun p => (fun (k_3 : Nat) (l_4 : List Campaign) (s_8 : ByteArray) => ([(3, (vS s_8)), (10, (vL Campaign.enc l_1)), (11, (vI (l_1.length : Int))), (12, (vI (k_3 : Int)))] : List (Nat × V))) p.1 p.2.1 p.2.2) (fun p => (fun (k_3 : Nat) (l_4 : List Campaign) (s_8 : ByteArray) => ([] : Hp)) p.1 p.2.1 p.2.2) (fun p => forR (fun k x s => ref_CampaignsFault_L1 k x s) p.2.1 p.1 p.2.2 = some o_11 ∧ (l_1).drop p.1 = p.2.1) (fun p => p.2.1.length) (0, l_1, (⟨#[]⟩ : ByteArray)) ⟨hj_12, rfl⟩ rfl rfl ?_
      rintro ⟨k_3, l_4, s_8⟩ ⟨hL_10, hD_6⟩
      dsimp only at hL_10 hD_6
      cases l_4 with
      | nil =>
        replace hL_10 := some_inj hL_10
        subst hL_10
        refine wH_seq (wH_region (h_op (vB (decide ((k_3 : Int) < (l_1.length : Int)))) (wt rfl) rfl (h_nil ?_)))
        refine wH_seq (wH_iff rfl (drop_nil hD_6) (wH_exit ?_))
        exact cut_mk (s_8) rfl rfl rfl
      | cons x_5 l_4 =>
        obtain ⟨c_, hc_9, hL_10⟩ := bind_some hL_10
        refine wH_seq (wH_region (h_op (vB (decide ((k_3 : Int) < (l_1.length : Int)))) (wt rfl) rfl (h_nil ?_)))
        refine wH_seq (wH_ift rfl (drop_cons hD_6) (wH_skip ?_))
        unfold ref_CampaignsFault_L1 at hc_9
        refine wH_seq ?_
        refine wH_block ?_
        refine wH_seq ?_
        refine wH_region ?_
        refine h_ia es27 rfl rfl (drop_idx hD_6) rfl (wt rfl) ?_
        refine h_ldc sz37 ag37 rfl (.d (.agg (Campaign.enc x_5))) rfl (wt rfl) ?_
        refine h_alloc 0 (.inl rfl) z37 rfl (wt rfl) (fun n_13 => ?_)
        refine h_str 0 (.inl rfl) (fun _ _ _ => trivial) 0 sz37 rfl rfl [(vS x_5.Key), (vS x_5.Class), (vI x_5.Time.From), (vI x_5.Time.To), (vL eS x_5.Tags), (vI x_5.Goal), (vI x_5.Most), (vI x_5.Cents)] rfl (wt rfl) ?_
        refine h_nil ?_
        refine wH_seq ?_
        refine wH_block ?_
        refine wH_seq ?_
        obtain ⟨v_14, h_15, hc_9⟩ := bind_some hc_9
        refine wH_join (β := Unit) (fun _ => ([(3, (vS s_8)), (5, (.ref n_13 0 0)), (10, (vL Campaign.enc l_1)), (11, (vI (l_1.length : Int))), (12, (vI (k_3 : Int))), (16, (vB v_14))] : List (Nat × V))) (fun _ => ([(n_13, some (.cells 8 [(vS x_5.Key), (vS x_5.Class), (vI x_5.Time.From), (vI x_5.Time.To), (vL eS x_5.Tags), (vI x_5.Goal), (vI x_5.Most), (vI x_5.Cents)]))] : Hp)) (fun _ => True) ?_ ?_
        · refine wH_region ?_
          refine h_far pl37_0 rfl 0 rfl (wt rfl) ?_
          refine h_ldr 0 0 (.inl rfl) (fun _ _ _ => trivial) sz9 ag9 rfl rfl (vS x_5.Key) rfl (wt rfl) ?_
          obtain ⟨r_16, hr_17, h_15⟩ := bind_some h_15
          refine h_call0 (ref_Key_ok hr_17) rfl hb46 rfl rfl rfl rfl (wt rfl) ?_
          refine h_op (vB (!r_16)) (wt rfl) rfl ?_
          rcases cond_some h_15 with ⟨hc_18, h_15⟩ | ⟨hc_18, h_15⟩
          · refine h_movb rfl hc_18 (wt rfl) ?_
            refine h_skip (wg rfl rfl rfl) ?_
            refine h_skip (wg rfl rfl rfl) ?_
            refine h_skip (wg rfl rfl rfl) ?_
            refine h_skip (wg rfl rfl rfl) ?_
            refine h_skip (wn rfl rfl) ?_
            refine h_skip (wn rfl rfl) ?_
            refine h_skip (wn rfl rfl) ?_
            refine h_skip (wn rfl rfl) ?_
            refine h_skip (wg rfl rfl rfl) ?_
            refine h_op (vB true) (wt rfl) rfl ?_
            refine h_op (vB true) (wt rfl) rfl ?_
            refine h_nil ?_
            replace h_15 := some_inj h_15
            subst h_15
            exact cut_mk () trivial rfl rfl
          · refine h_movb rfl hc_18 (wt rfl) ?_
            refine h_far pl37_1 rfl 1 rfl (wg rfl rfl rfl) ?_
            refine h_ldr 0 0 (.inl rfl) (fun _ _ _ => trivial) sz9 ag9 rfl rfl (vS x_5.Class) rfl (wg rfl rfl rfl) ?_
            refine h_op (vB (sNe x_5.Class (⟨#[]⟩ : ByteArray))) (wg rfl rfl rfl) rfl ?_
            rcases cond_some h_15 with ⟨hc_19, h_15⟩ | ⟨hc_19, h_15⟩
            · refine h_movb rfl hc_19 (wg rfl rfl rfl) ?_
              refine h_far pl37_1 rfl 1 rfl (wg rfl rfl rfl) ?_
              refine h_ldr 0 0 (.inl rfl) (fun _ _ _ => trivial) sz9 ag9 rfl rfl (vS x_5.Class) rfl (wg rfl rfl rfl) ?_
              obtain ⟨r_20, hr_21, h_15⟩ := bind_some h_15
              refine h_call0 (ref_Key_ok hr_21) rfl hb46 rfl rfl rfl rfl (wg rfl rfl rfl) ?_
              refine h_op (vB (!r_20)) (wg rfl rfl rfl) rfl ?_
              refine h_op (vB (!r_20)) (wg rfl rfl rfl) rfl ?_
              refine h_op (vB (!r_20)) (wt rfl) rfl ?_
              refine h_op (vB (!r_20)) (wt rfl) rfl ?_
              refine h_nil ?_
              replace h_15 := some_inj h_15
              subst h_15
              exact cut_mk () trivial rfl rfl
            · refine h_movb rfl hc_19 (wg rfl rfl rfl) ?_
              refine h_skip (wg rfl rfl rfl) ?_
              refine h_skip (wg rfl rfl rfl) ?_
              refine h_skip (wg rfl rfl rfl) ?_
              refine h_skip (wg rfl rfl rfl) ?_
              refine h_op (vB false) (wg rfl rfl rfl) rfl ?_
              refine h_op (vB false) (wt rfl) rfl ?_
              refine h_op (vB false) (wt rfl) rfl ?_
              refine h_nil ?_
              replace h_15 := some_inj h_15
              subst h_15
              exact cut_mk () trivial rfl rfl
        · rintro ⟨⟩ _ sl_ H_ hp_ hq_
          refine wH_at _ hp_ hq_ ?_
          rcases cond_some hc_9 with ⟨hc_22, hc_9⟩ | ⟨hc_22, hc_9⟩
          · refine wH_ift rfl hc_22 ?_
            refine wH_seq ?_
            refine wH_region ?_
            refine h_op (vI 5) (wt rfl) rfl ?_
            refine h_nil ?_
            replace hc_9 := some_inj hc_9
            subst hc_9
            replace hL_10 := some_inj hL_10
            subst hL_10
            replace hF := some_inj hF
            subst hF
            refine wH_ret ?_
            exact fin0 (.inr rfl) [(vI 5)] ⟨rfl, trivial⟩ rfl rfl rfl
          · refine wH_iff rfl hc_22 ?_
            refine wH_seq ?_
            refine wH_region ?_
            refine h_far pl37_0 rfl 0 rfl (wt rfl) ?_
            refine h_ldr 0 0 (.inl rfl) (fun _ _ _ => trivial) sz9 ag9 rfl rfl (vS x_5.Key) rfl (wt rfl) ?_
            refine h_op (vS s_8) (wt rfl) rfl ?_
            refine h_op (vB (sLe x_5.Key s_8)) (wt rfl) rfl ?_
            refine h_op (vB (sLe x_5.Key s_8)) (wt rfl) rfl ?_
            refine h_nil ?_
            rcases cond_some hc_9 with ⟨hc_23, hc_9⟩ | ⟨hc_23, hc_9⟩
            · refine wH_ift rfl hc_23 ?_
              refine wH_seq ?_
              refine wH_region ?_
              refine h_op (vI 7) (wt rfl) rfl ?_
              refine h_nil ?_
              replace hc_9 := some_inj hc_9
              subst hc_9
              replace hL_10 := some_inj hL_10
              subst hL_10
              replace hF := some_inj hF
              subst hF
              refine wH_ret ?_
              exact fin0 (.inr rfl) [(vI 7)] ⟨rfl, trivial⟩ rfl rfl rfl
            · refine wH_iff rfl hc_23 ?_
              refine wH_seq ?_
              obtain ⟨v_24, h_25, hc_9⟩ := bind_some hc_9
              refine wH_join (β := Unit) (fun _ => ([(5, (.ref n_13 0 0)), (10, (vL Campaign.enc l_1)), (11, (vI (l_1.length : Int))), (12, (vI (k_3 : Int))), (37, (vB v_24))] : List (Nat × V))) (fun _ => ([(n_13, some (.cells 8 [(vS x_5.Key), (vS x_5.Class), (vI x_5.Time.From), (vI x_5.Time.To), (vL eS x_5.Tags), (vI x_5.Goal), (vI x_5.Most), (vI x_5.Cents)]))] : Hp)) (fun _ => True) ?_ ?_
              · refine wH_region ?_
                refine h_far pl37_2 rfl 2 rfl (wt rfl) ?_
                refine h_far pl34_0 rfl 2 rfl (wt rfl) ?_
                refine h_ldr 0 0 (.inl rfl) (fun _ _ _ => trivial) sz3 ag3 rfl rfl (vI x_5.Time.From) rfl (wt rfl) ?_
                refine h_op (vB (decide (x_5.Time.From < 0))) (wt rfl) rfl ?_
                rcases cond_some h_25 with ⟨hc_26, h_25⟩ | ⟨hc_26, h_25⟩
                · refine h_movb rfl hc_26 (wt rfl) ?_
                  refine h_skip (wg rfl rfl rfl) ?_
                  refine h_skip (wg rfl rfl rfl) ?_
                  refine h_skip (wg rfl rfl rfl) ?_
                  refine h_skip (wg rfl rfl rfl) ?_
                  refine h_skip (wg rfl rfl rfl) ?_
                  refine h_skip (wg rfl rfl rfl) ?_
                  refine h_skip (wg rfl rfl rfl) ?_
                  refine h_op (vB true) (wt rfl) rfl ?_
                  refine h_op (vB true) (wt rfl) rfl ?_
                  refine h_skip (wg rfl rfl rfl) ?_
                  refine h_skip (wg rfl rfl rfl) ?_
                  refine h_skip (wg rfl rfl rfl) ?_
                  refine h_skip (wg rfl rfl rfl) ?_
                  refine h_op (vB true) (wt rfl) rfl ?_
                  refine h_op (vB true) (wt rfl) rfl ?_
                  refine h_skip (wg rfl rfl rfl) ?_
                  refine h_skip (wg rfl rfl rfl) ?_
                  refine h_skip (wg rfl rfl rfl) ?_
                  refine h_skip (wg rfl rfl rfl) ?_
                  refine h_op (vB true) (wt rfl) rfl ?_
                  refine h_op (vB true) (wt rfl) rfl ?_
                  refine h_skip (wg rfl rfl rfl) ?_
                  refine h_skip (wg rfl rfl rfl) ?_
                  refine h_skip (wg rfl rfl rfl) ?_
                  refine h_skip (wg rfl rfl rfl) ?_
                  refine h_op (vB true) (wt rfl) rfl ?_
                  refine h_op (vB true) (wt rfl) rfl ?_
                  refine h_skip (wg rfl rfl rfl) ?_
                  refine h_skip (wg rfl rfl rfl) ?_
                  refine h_skip (wg rfl rfl rfl) ?_
                  refine h_skip (wg rfl rfl rfl) ?_
                  refine h_op (vB true) (wt rfl) rfl ?_
                  refine h_op (vB true) (wt rfl) rfl ?_
                  refine h_nil ?_
                  replace h_25 := some_inj h_25
                  subst h_25
                  exact cut_mk () trivial rfl rfl
                · refine h_movb rfl hc_26 (wt rfl) ?_
                  refine h_far pl37_2 rfl 2 rfl (wg rfl rfl rfl) ?_
                  refine h_far pl34_0 rfl 2 rfl (wg rfl rfl rfl) ?_
                  refine h_ldr 0 0 (.inl rfl) (fun _ _ _ => trivial) sz3 ag3 rfl rfl (vI x_5.Time.From) rfl (wg rfl rfl rfl) ?_
                  refine h_far pl37_2 rfl 2 rfl (wg rfl rfl rfl) ?_
                  refine h_far pl34_1 rfl 3 rfl (wg rfl rfl rfl) ?_
                  refine h_ldr 0 0 (.inl rfl) (fun _ _ _ => trivial) sz3 ag3 rfl rfl (vI x_5.Time.To) rfl (wg rfl rfl rfl) ?_
                  refine h_op (vB (decide (x_5.Time.From ≥ x_5.Time.To))) (wg rfl rfl rfl) rfl ?_
                  refine h_op (vB (decide (x_5.Time.From ≥ x_5.Time.To))) (wt rfl) rfl ?_
                  rcases cond_some h_25 with ⟨hc_27, h_25⟩ | ⟨hc_27, h_25⟩
                  · refine h_movb rfl hc_27 (wt rfl) ?_
                    refine h_skip (wg rfl rfl rfl) ?_
                    refine h_skip (wg rfl rfl rfl) ?_
                    refine h_skip (wg rfl rfl rfl) ?_
                    refine h_skip (wg rfl rfl rfl) ?_
                    refine h_op (vB true) (wt rfl) rfl ?_
                    refine h_op (vB true) (wt rfl) rfl ?_
                    refine h_skip (wg rfl rfl rfl) ?_
                    refine h_skip (wg rfl rfl rfl) ?_
                    refine h_skip (wg rfl rfl rfl) ?_
                    refine h_skip (wg rfl rfl rfl) ?_
                    refine h_op (vB true) (wt rfl) rfl ?_
                    refine h_op (vB true) (wt rfl) rfl ?_
                    refine h_skip (wg rfl rfl rfl) ?_
                    refine h_skip (wg rfl rfl rfl) ?_
                    refine h_skip (wg rfl rfl rfl) ?_
                    refine h_skip (wg rfl rfl rfl) ?_
                    refine h_op (vB true) (wt rfl) rfl ?_
                    refine h_op (vB true) (wt rfl) rfl ?_
                    refine h_skip (wg rfl rfl rfl) ?_
                    refine h_skip (wg rfl rfl rfl) ?_
                    refine h_skip (wg rfl rfl rfl) ?_
                    refine h_skip (wg rfl rfl rfl) ?_
                    refine h_op (vB true) (wt rfl) rfl ?_
                    refine h_op (vB true) (wt rfl) rfl ?_
                    refine h_nil ?_
                    replace h_25 := some_inj h_25
                    subst h_25
                    exact cut_mk () trivial rfl rfl
                  · refine h_movb rfl hc_27 (wt rfl) ?_
                    refine h_far pl37_2 rfl 2 rfl (wg rfl rfl rfl) ?_
                    refine h_far pl34_1 rfl 3 rfl (wg rfl rfl rfl) ?_
                    refine h_ldr 0 0 (.inl rfl) (fun _ _ _ => trivial) sz3 ag3 rfl rfl (vI x_5.Time.To) rfl (wg rfl rfl rfl) ?_
                    refine h_op (vB (decide (x_5.Time.To > 345686400000))) (wg rfl rfl rfl) rfl ?_
                    refine h_op (vB (decide (x_5.Time.To > 345686400000))) (wt rfl) rfl ?_
                    rcases cond_some h_25 with ⟨hc_28, h_25⟩ | ⟨hc_28, h_25⟩
                    · refine h_movb rfl hc_28 (wt rfl) ?_
                      refine h_skip (wg rfl rfl rfl) ?_
                      refine h_skip (wg rfl rfl rfl) ?_
                      refine h_skip (wg rfl rfl rfl) ?_
                      refine h_skip (wg rfl rfl rfl) ?_
                      refine h_op (vB true) (wt rfl) rfl ?_
                      refine h_op (vB true) (wt rfl) rfl ?_
                      refine h_skip (wg rfl rfl rfl) ?_
                      refine h_skip (wg rfl rfl rfl) ?_
                      refine h_skip (wg rfl rfl rfl) ?_
                      refine h_skip (wg rfl rfl rfl) ?_
                      refine h_op (vB true) (wt rfl) rfl ?_
                      refine h_op (vB true) (wt rfl) rfl ?_
                      refine h_skip (wg rfl rfl rfl) ?_
                      refine h_skip (wg rfl rfl rfl) ?_
                      refine h_skip (wg rfl rfl rfl) ?_
                      refine h_skip (wg rfl rfl rfl) ?_
                      refine h_op (vB true) (wt rfl) rfl ?_
                      refine h_op (vB true) (wt rfl) rfl ?_
                      refine h_nil ?_
                      replace h_25 := some_inj h_25
                      subst h_25
                      exact cut_mk () trivial rfl rfl
                    · refine h_movb rfl hc_28 (wt rfl) ?_
                      refine h_far pl37_4 rfl 5 rfl (wg rfl rfl rfl) ?_
                      refine h_ldr 0 0 (.inl rfl) (fun _ _ _ => trivial) sz3 ag3 rfl rfl (vI x_5.Goal) rfl (wg rfl rfl rfl) ?_
                      obtain ⟨r_29, hr_30, h_25⟩ := bind_some h_25
                      refine h_call0 (ref_in_ok hr_30) rfl hb47 rfl rfl rfl rfl (wg rfl rfl rfl) ?_
                      refine h_op (vB (!r_29)) (wg rfl rfl rfl) rfl ?_
                      refine h_op (vB (!r_29)) (wt rfl) rfl ?_
                      rcases cond_some h_25 with ⟨hc_31, h_25⟩ | ⟨hc_31, h_25⟩
                      · refine h_movb rfl hc_31 (wt rfl) ?_
                        refine h_skip (wg rfl rfl rfl) ?_
                        refine h_skip (wg rfl rfl rfl) ?_
                        refine h_skip (wg rfl rfl rfl) ?_
                        refine h_skip (wg rfl rfl rfl) ?_
                        refine h_op (vB true) (wt rfl) rfl ?_
                        refine h_op (vB true) (wt rfl) rfl ?_
                        refine h_skip (wg rfl rfl rfl) ?_
                        refine h_skip (wg rfl rfl rfl) ?_
                        refine h_skip (wg rfl rfl rfl) ?_
                        refine h_skip (wg rfl rfl rfl) ?_
                        refine h_op (vB true) (wt rfl) rfl ?_
                        refine h_op (vB true) (wt rfl) rfl ?_
                        refine h_nil ?_
                        replace h_25 := some_inj h_25
                        subst h_25
                        exact cut_mk () trivial rfl rfl
                      · refine h_movb rfl hc_31 (wt rfl) ?_
                        refine h_far pl37_5 rfl 6 rfl (wg rfl rfl rfl) ?_
                        refine h_ldr 0 0 (.inl rfl) (fun _ _ _ => trivial) sz3 ag3 rfl rfl (vI x_5.Most) rfl (wg rfl rfl rfl) ?_
                        obtain ⟨r_32, hr_33, h_25⟩ := bind_some h_25
                        refine h_call0 (ref_in_ok hr_33) rfl hb47 rfl rfl rfl rfl (wg rfl rfl rfl) ?_
                        refine h_op (vB (!r_32)) (wg rfl rfl rfl) rfl ?_
                        refine h_op (vB (!r_32)) (wt rfl) rfl ?_
                        rcases cond_some h_25 with ⟨hc_34, h_25⟩ | ⟨hc_34, h_25⟩
                        · refine h_movb rfl hc_34 (wt rfl) ?_
                          refine h_skip (wg rfl rfl rfl) ?_
                          refine h_skip (wg rfl rfl rfl) ?_
                          refine h_skip (wg rfl rfl rfl) ?_
                          refine h_skip (wg rfl rfl rfl) ?_
                          refine h_op (vB true) (wt rfl) rfl ?_
                          refine h_op (vB true) (wt rfl) rfl ?_
                          refine h_nil ?_
                          replace h_25 := some_inj h_25
                          subst h_25
                          exact cut_mk () trivial rfl rfl
                        · refine h_movb rfl hc_34 (wt rfl) ?_
                          refine h_far pl37_6 rfl 7 rfl (wg rfl rfl rfl) ?_
                          refine h_ldr 0 0 (.inl rfl) (fun _ _ _ => trivial) sz3 ag3 rfl rfl (vI x_5.Cents) rfl (wg rfl rfl rfl) ?_
                          obtain ⟨r_35, hr_36, h_25⟩ := bind_some h_25
                          refine h_call0 (ref_in_ok hr_36) rfl hb47 rfl rfl rfl rfl (wg rfl rfl rfl) ?_
                          refine h_op (vB (!r_35)) (wg rfl rfl rfl) rfl ?_
                          refine h_op (vB (!r_35)) (wt rfl) rfl ?_
                          refine h_op (vB (!r_35)) (wt rfl) rfl ?_
                          refine h_nil ?_
                          replace h_25 := some_inj h_25
                          subst h_25
                          exact cut_mk () trivial rfl rfl
              · rintro ⟨⟩ _ sl_ H_ hp_ hq_
                refine wH_at _ hp_ hq_ ?_
                rcases cond_some hc_9 with ⟨hc_37, hc_9⟩ | ⟨hc_37, hc_9⟩
                · refine wH_ift rfl hc_37 ?_
                  refine wH_seq ?_
                  refine wH_region ?_
                  refine h_op (vI 1) (wt rfl) rfl ?_
                  refine h_nil ?_
                  replace hc_9 := some_inj hc_9
                  subst hc_9
                  replace hL_10 := some_inj hL_10
                  subst hL_10
                  replace hF := some_inj hF
                  subst hF
                  refine wH_ret ?_
                  exact fin0 (.inr rfl) [(vI 1)] ⟨rfl, trivial⟩ rfl rfl rfl
                · refine wH_iff rfl hc_37 ?_
                  refine wH_skip ?_
                  refine wH_seq ?_
                  refine wH_region ?_
                  refine h_far pl37_0 rfl 0 rfl (wt rfl) ?_
                  refine h_ldr 0 0 (.inl rfl) (fun _ _ _ => trivial) sz9 ag9 rfl rfl (vS x_5.Key) rfl (wt rfl) ?_
                  refine h_op (vS x_5.Key) (wt rfl) rfl ?_
                  refine h_nil ?_
                  refine wH_seq ?_
                  refine wH_region ?_
                  refine h_far pl37_3 rfl 4 rfl (wt rfl) ?_
                  refine h_ldr 0 0 (.inl rfl) (fun _ _ _ => trivial) sz35 ag35 rfl rfl (vL eS x_5.Tags) rfl (wt rfl) ?_
                  obtain ⟨r_38, hr_39, hc_9⟩ := bind_some hc_9
                  refine h_call0 (ref_TagsFault_ok hr_39) rfl hb48 rfl rfl rfl rfl (wt rfl) ?_
                  refine h_op (vI r_38) (wt rfl) rfl ?_
                  refine h_nil ?_
                  refine wH_seq ?_
                  refine wH_region ?_
                  refine h_op (vI r_38) (wt rfl) rfl ?_
                  refine h_op (vB (r_38 != 0)) (wt rfl) rfl ?_
                  refine h_nil ?_
                  rcases cond_some hc_9 with ⟨hc_40, hc_9⟩ | ⟨hc_40, hc_9⟩
                  · refine wH_ift rfl hc_40 ?_
                    refine wH_seq ?_
                    refine wH_region ?_
                    refine h_op (vI r_38) (wt rfl) rfl ?_
                    refine h_op (vI r_38) (wt rfl) rfl ?_
                    refine h_nil ?_
                    replace hc_9 := some_inj hc_9
                    subst hc_9
                    replace hL_10 := some_inj hL_10
                    subst hL_10
                    replace hF := some_inj hF
                    subst hF
                    refine wH_ret ?_
                    exact fin0 (.inr rfl) [(vI r_38)] ⟨rfl, trivial⟩ rfl rfl rfl
                  · refine wH_iff rfl hc_40 ?_
                    refine wH_skip ?_
                    refine wH_region ?_
                    refine h_opw (w64_next hD_6 hn_7) (wt rfl) rfl ?_
                    refine h_op (vI ((k_3 + 1 : Nat) : Int)) (wt rfl) rfl ?_
                    refine h_nil ?_
                    replace hc_9 := some_inj hc_9
                    subst hc_9
                    exact loop_mk (k_3 + 1, l_4, x_5.Key) ⟨hL_10, drop_next hD_6⟩ (Nat.lt_succ_self _) rfl rfl
    · rintro s_8 ho_ sl_ H_ hp_ hq_
      subst ho_
      refine wH_at _ hp_ hq_ ?_
      refine wH_seq ?_
      refine wH_region ?_
      refine h_op (vI 0) (wt rfl) rfl ?_
      refine h_nil ?_
      replace hF := some_inj hF
      subst hF
      refine wH_ret ?_
      exact fin0 (.inr rfl) [(vI 0)] ⟨rfl, trivial⟩ rfl rfl rfl
theorem law_errs_ok {l_1 : (List Int)} {r : Int} (hF : law_errs l_1 = some r) :
    FnM Try.prog 12 [(vL eI l_1)] [] (vI r) [] := by
  refine FnM.of_wH ⟨Try.prog, 15, [], []⟩ rfl Try.func12 rfl rfl (Nat.le_of_ble_eq_true rfl) (by kernel_rfl) ?_
  unfold law_errs at hF
  refine wH_seq ?_
  refine wH_region ?_
  refine h_op (vI 0) (wt rfl) rfl ?_
  refine h_nil ?_
  refine wH_seq ?_
  refine wH_seq ?_
  refine wH_region ?_
  refine h_op (vL eI l_1) (wt rfl) rfl ?_
  refine h_len un87 rfl (wt rfl) ?_
  refine h_op (vI 0) (wt rfl) rfl ?_
  refine h_nil ?_
  obtain ⟨o_10, hj_11, hF⟩ := bind_some hF
  obtain ⟨hn_6, hj_11⟩ := forL_some hj_11
  refine wH_join (β := (Unit)) (fun (s_7 : Unit) => ([] : List (Nat × V))) (fun (s_7 : Unit) => ([] : Hp)) (fun p => o_10 = .go p) ?_ ?_
  · refine wH_block ?_
    refine wH_loop (β := Nat × (List Int) × (Unit)) (fun p => (fun (k_2 : Nat) (l_3 : List Int) (s_7 : Unit) => ([(5, (vL eI l_1)), (6, (vI (l_1.length : Int))), (7, (vI (k_2 : Int)))] : List (Nat × V))) p.1 p.2.1 p.2.2) (fun p => (fun (k_2 : Nat) (l_3 : List Int) (s_7 : Unit) => ([] : Hp)) p.1 p.2.1 p.2.2) (fun p => forR (fun k x s => law_errs_L1 k x s) p.2.1 p.1 p.2.2 = some o_10 ∧ (l_1).drop p.1 = p.2.1) (fun p => p.2.1.length) (0, l_1, ()) ⟨hj_11, rfl⟩ rfl rfl ?_
    rintro ⟨k_2, l_3, s_7⟩ ⟨hL_9, hD_5⟩
    dsimp only at hL_9 hD_5
    cases l_3 with
    | nil =>
      replace hL_9 := some_inj hL_9
      subst hL_9
      refine wH_seq (wH_region (h_op (vB (decide ((k_2 : Int) < (l_1.length : Int)))) (wt rfl) rfl (h_nil ?_)))
      refine wH_seq (wH_iff rfl (drop_nil hD_5) (wH_exit ?_))
      exact cut_mk (s_7) rfl rfl rfl
    | cons x_4 l_3 =>
      obtain ⟨c_, hc_8, hL_9⟩ := bind_some hL_9
      refine wH_seq (wH_region (h_op (vB (decide ((k_2 : Int) < (l_1.length : Int)))) (wt rfl) rfl (h_nil ?_)))
      refine wH_seq (wH_ift rfl (drop_cons hD_5) (wH_skip ?_))
      unfold law_errs_L1 at hc_8
      refine wH_seq ?_
      refine wH_block ?_
      refine wH_seq ?_
      refine wH_region ?_
      refine h_ia es87 rfl rfl (drop_idx hD_5) rfl (wt rfl) ?_
      refine h_ldc sz28 ag28 rfl (vI x_4) rfl (wt rfl) ?_
      refine h_op (vI x_4) (wt rfl) rfl ?_
      refine h_nil ?_
      refine wH_seq ?_
      refine wH_region ?_
      refine h_op (vI x_4) (wt rfl) rfl ?_
      refine h_op (vB (x_4 != 0)) (wt rfl) rfl ?_
      refine h_nil ?_
      rcases cond_some hc_8 with ⟨hc_12, hc_8⟩ | ⟨hc_12, hc_8⟩
      · refine wH_ift rfl hc_12 ?_
        refine wH_seq ?_
        refine wH_region ?_
        refine h_op (vI x_4) (wt rfl) rfl ?_
        refine h_op (vI x_4) (wt rfl) rfl ?_
        refine h_nil ?_
        replace hc_8 := some_inj hc_8
        subst hc_8
        replace hL_9 := some_inj hL_9
        subst hL_9
        replace hF := some_inj hF
        subst hF
        refine wH_ret ?_
        exact fin0 (.inr rfl) [(vI x_4)] ⟨rfl, trivial⟩ rfl rfl rfl
      · refine wH_iff rfl hc_12 ?_
        refine wH_skip ?_
        refine wH_region ?_
        refine h_opw (w64_next hD_5 hn_6) (wt rfl) rfl ?_
        refine h_op (vI ((k_2 + 1 : Nat) : Int)) (wt rfl) rfl ?_
        refine h_nil ?_
        replace hc_8 := some_inj hc_8
        subst hc_8
        exact loop_mk (k_2 + 1, l_3, ()) ⟨hL_9, drop_next hD_5⟩ (Nat.lt_succ_self _) rfl rfl
  · rintro s_7 ho_ sl_ H_ hp_ hq_
    subst ho_
    refine wH_at _ hp_ hq_ ?_
    refine wH_seq ?_
    refine wH_region ?_
    refine h_op (vI 0) (wt rfl) rfl ?_
    refine h_nil ?_
    replace hF := some_inj hF
    subst hF
    refine wH_ret ?_
    exact fin0 (.inr rfl) [(vI 0)] ⟨rfl, trivial⟩ rfl rfl rfl
theorem law_office_ok {s_1 : Stream} {r : (List Spot) × (List Campaign) × Int × Stream} (hF : law_office s_1 = some r) :
    FnM Try.prog 7 [(.ref (extN 0) 0 0)] [(.cells 2 [(vL eI s_1.L), (vI s_1.f_at)])] (.tup [(vL Spot.enc r.1), (vL Campaign.enc r.2.1), (vI r.2.2.1)]) [some (.cells 2 [(vL eI r.2.2.2.L), (vI r.2.2.2.f_at)])] := by
  refine FnM.of_wH ⟨Try.prog, 19, [], []⟩ rfl Try.func7 rfl rfl (Nat.le_of_ble_eq_true rfl) (by kernel_rfl) ?_
  unfold law_office at hF
  refine wH_seq ?_
  refine wH_region ?_
  refine h_op .nil (wt rfl) rfl ?_
  refine h_op .nil (wt rfl) rfl ?_
  refine h_op (vI 0) (wt rfl) rfl ?_
  refine h_nil ?_
  refine wH_seq ?_
  refine wH_region ?_
  refine h_op (.ref (extN 0) 0 0) (wt rfl) rfl ?_
  obtain ⟨r_2, hr_3, hF⟩ := bind_some hF
  refine h_callq 0 [0] (.inl rfl) (fun _ _ _ => trivial) (mk_Stream_Spots_ok hr_3) rfl hb40 rfl (by kernel_rfl) (by kernel_rfl) (by kernel_rfl) (by kernel_rfl) (by kernel_rfl) (by kernel_rfl) (by kernel_rfl) (by decide) (by kernel_rfl) (wt rfl) (vL Spot.enc r_2.1) (by kernel_rfl) ([((extN 0), some (.cells 2 [(vL eI r_2.2.L), (vI r_2.2.f_at)]))] : Hp) (by kernel_rfl) ?_
  refine h_op (.ref (extN 0) 0 0) (wt rfl) rfl ?_
  obtain ⟨r_5, hr_6, hF⟩ := bind_some hF
  refine h_callq 0 [0] (.inl rfl) (fun _ _ _ => trivial) (mk_Stream_Campaigns_ok hr_6) rfl hb41 rfl (by kernel_rfl) (by kernel_rfl) (by kernel_rfl) (by kernel_rfl) (by kernel_rfl) (by kernel_rfl) (by kernel_rfl) (by decide) (by kernel_rfl) (wt rfl) (vL Campaign.enc r_5.1) (by kernel_rfl) ([((extN 0), some (.cells 2 [(vL eI r_5.2.L), (vI r_5.2.f_at)]))] : Hp) (by kernel_rfl) ?_
  refine h_op (vL Spot.enc r_2.1) (wt rfl) rfl ?_
  refine h_op (vL Campaign.enc r_5.1) (wt rfl) rfl ?_
  refine h_nil ?_
  refine wH_seq ?_
  refine wH_region ?_
  refine h_op (vL Spot.enc r_2.1) (wt rfl) rfl ?_
  refine h_op (vL Campaign.enc r_5.1) (wt rfl) rfl ?_
  refine h_op (vL Spot.enc r_2.1) (wt rfl) rfl ?_
  obtain ⟨r_8, hr_9, hF⟩ := bind_some hF
  refine h_call0 (ref_SpotsFault_ok hr_9) rfl hb9 rfl rfl rfl rfl (wt rfl) ?_
  refine h_op (vL Campaign.enc r_5.1) (wt rfl) rfl ?_
  obtain ⟨r_10, hr_11, hF⟩ := bind_some hF
  refine h_call0 (ref_CampaignsFault_ok hr_11) rfl hb11 rfl rfl rfl rfl (wt rfl) ?_
  refine h_lit (([r_8, r_10] : List Int).map eI) es87 ez87 rfl rfl rfl rfl rfl (wt rfl) ?_
  obtain ⟨r_12, hr_13, hF⟩ := bind_some hF
  refine h_call0 (law_errs_ok hr_13) rfl hb12 rfl rfl rfl rfl (wt rfl) ?_
  refine h_op (vL Spot.enc r_2.1) (wt rfl) rfl ?_
  refine h_op (vL Campaign.enc r_5.1) (wt rfl) rfl ?_
  refine h_op (vI r_12) (wt rfl) rfl ?_
  refine h_nil ?_
  replace hF := some_inj hF
  subst hF
  refine wH_ret ?_
  exact finB (.inr rfl) [(vL Spot.enc r_2.1), (vL Campaign.enc r_5.1), (vI r_12)] _ [0] [extN 0] ⟨rfl, ⟨rfl, ⟨rfl, trivial⟩⟩⟩ (.cons (co_data rfl rfl) (.cons (co_data rfl rfl) (.cons (co_data rfl rfl) (.nil)))) (by kernel_rfl) ⟨(by kernel_rfl), trivial⟩ (by decide) (by kernel_rfl)
theorem kit_IsKey_ok {s_1 : ByteArray} {r : Bool} (hF : kit_IsKey s_1 = some r) :
    FnM Try.prog 42 [(vS s_1)] [] (vB r) [] := by
  refine FnM.of_wH ⟨Try.prog, 48, [], []⟩ rfl Try.func42 rfl rfl (Nat.le_of_ble_eq_true rfl) (by kernel_rfl) ?_
  unfold kit_IsKey at hF
  refine wH_seq ?_
  refine wH_region ?_
  refine h_op (vB false) (wt rfl) rfl ?_
  refine h_nil ?_
  refine wH_seq ?_
  refine wH_seq ?_
  refine wH_region ?_
  refine h_op (vI 0) (wt rfl) rfl ?_
  refine h_nil ?_
  obtain ⟨o_10, hj_11, hF⟩ := bind_some hF
  obtain ⟨nq_33, hj_11⟩ := loopO_iter hj_11
  refine wH_join (β := (Int)) (fun (s_7 : Int) => ([(0, (vS s_1))] : List (Nat × V))) (fun (s_7 : Int) => ([] : Hp)) (fun p => o_10 = .go p) ?_ ?_
  · refine wH_block ?_
    refine wH_loop (β := Nat × (Int)) (fun p => (fun (k_2 : Nat) (s_7 : Int) => ([(0, (vS s_1)), (3, (vI s_7))] : List (Nat × V))) p.1 p.2) (fun p => (fun (k_2 : Nat) (s_7 : Int) => ([] : Hp)) p.1 p.2) (fun p => iterN (fun s => kit_IsKey_L1 s_1 s) p.1 p.2 = some o_10) (fun p => p.1) (nq_33, 0) hj_11 rfl rfl ?_
    rintro ⟨k_2, s_7⟩ hL_9
    dsimp only at hL_9
    cases k_2 with
    | zero => cases hL_9
    | succ k_2 =>
      obtain ⟨c_, hc_8, hL_9⟩ := bind_some hL_9
      unfold kit_IsKey_L1 at hc_8
      refine wH_seq ?_
      refine wH_seq ?_
      refine wH_region ?_
      refine h_op (vI s_7) (wt rfl) rfl ?_
      refine h_op (vS s_1) (wt rfl) rfl ?_
      refine h_lens un9 rfl (wt rfl) ?_
      refine h_op (vB (decide (s_7 < (s_1.size : Int)))) (wt rfl) rfl ?_
      refine h_nil ?_
      rcases cond_some hc_8 with ⟨hc_12, hc_8⟩ | ⟨hc_12, hc_8⟩
      · refine wH_ift rfl hc_12 ?_
        refine wH_skip ?_
        refine wH_seq ?_
        refine wH_block ?_
        refine wH_seq ?_
        refine wH_region ?_
        refine h_op (vS s_1) (wt rfl) rfl ?_
        refine h_op (vI s_7) (wt rfl) rfl ?_
        obtain ⟨b_13, hy_14, hc_8⟩ := bind_some hc_8
        refine h_idxs un9 rfl rfl hy_14 (wt rfl) ?_
        refine h_op (.d (.int .u8 (b_13.toNat : Int))) (wt rfl) rfl ?_
        refine h_nil ?_
        refine wH_seq ?_
        obtain ⟨v_15, h_16, hc_8⟩ := bind_some hc_8
        refine wH_join (β := Unit) (fun _ => ([(0, (vS s_1)), (3, (vI s_7)), (40, (vB v_15))] : List (Nat × V))) (fun _ => ([] : Hp)) (fun _ => True) ?_ ?_
        · refine wH_region ?_
          refine h_op (.d (.int .u8 (b_13.toNat : Int))) (wt rfl) rfl ?_
          refine h_op (vB (decide ((b_13.toNat : Int) ≥ 97))) (wt rfl) rfl ?_
          rcases cond_some h_16 with ⟨hc_17, h_16⟩ | ⟨hc_17, h_16⟩
          · refine h_movb rfl hc_17 (wt rfl) ?_
            refine h_op (.d (.int .u8 (b_13.toNat : Int))) (wg rfl rfl rfl) rfl ?_
            refine h_op (vB (decide ((b_13.toNat : Int) ≤ 122))) (wg rfl rfl rfl) rfl ?_
            refine h_op (vB (decide ((b_13.toNat : Int) ≤ 122))) (wt rfl) rfl ?_
            rcases cond_some h_16 with ⟨hc_18, h_16⟩ | ⟨hc_18, h_16⟩
            · refine h_movb rfl hc_18 (wt rfl) ?_
              refine h_skip (wg rfl rfl rfl) ?_
              refine h_skip (wg rfl rfl rfl) ?_
              refine h_skip (wg rfl rfl rfl) ?_
              refine h_skip (wn rfl rfl) ?_
              refine h_skip (wn rfl rfl) ?_
              refine h_skip (wn rfl rfl) ?_
              refine h_skip (wn rfl rfl) ?_
              refine h_skip (wn rfl rfl) ?_
              refine h_skip (wn rfl rfl) ?_
              refine h_skip (wn rfl rfl) ?_
              refine h_skip (wn rfl rfl) ?_
              refine h_skip (wn rfl rfl) ?_
              refine h_skip (wn rfl rfl) ?_
              refine h_skip (wn rfl rfl) ?_
              refine h_skip (wn rfl rfl) ?_
              refine h_skip (wn rfl rfl) ?_
              refine h_skip (wn rfl rfl) ?_
              refine h_skip (wg rfl rfl rfl) ?_
              refine h_op (vB true) (wt rfl) rfl ?_
              refine h_op (vB false) (wt rfl) rfl ?_
              refine h_nil ?_
              replace h_16 := some_inj h_16
              subst h_16
              exact cut_mk () trivial rfl rfl
            · refine h_movb rfl hc_18 (wt rfl) ?_
              refine h_op (vI s_7) (wg rfl rfl rfl) rfl ?_
              refine h_op (vB (decide (s_7 > 0))) (wg rfl rfl rfl) rfl ?_
              rcases cond_some h_16 with ⟨hc_19, h_16⟩ | ⟨hc_19, h_16⟩
              · refine h_movb rfl hc_19 (wg rfl rfl rfl) ?_
                refine h_op (.d (.int .u8 (b_13.toNat : Int))) (wg rfl rfl rfl) rfl ?_
                refine h_op (vB (decide ((b_13.toNat : Int) ≥ 48))) (wg rfl rfl rfl) rfl ?_
                rcases cond_some h_16 with ⟨hc_20, h_16⟩ | ⟨hc_20, h_16⟩
                · refine h_movb rfl hc_20 (wg rfl rfl rfl) ?_
                  refine h_op (.d (.int .u8 (b_13.toNat : Int))) (wg rfl rfl rfl) rfl ?_
                  refine h_op (vB (decide ((b_13.toNat : Int) ≤ 57))) (wg rfl rfl rfl) rfl ?_
                  refine h_op (vB (decide ((b_13.toNat : Int) ≤ 57))) (wg rfl rfl rfl) rfl ?_
                  rcases cond_some h_16 with ⟨hc_21, h_16⟩ | ⟨hc_21, h_16⟩
                  · refine h_movb rfl hc_21 (wg rfl rfl rfl) ?_
                    refine h_skip (wg rfl rfl rfl) ?_
                    refine h_skip (wg rfl rfl rfl) ?_
                    refine h_op (vB true) (wg rfl rfl rfl) rfl ?_
                    refine h_op (vB true) (wg rfl rfl rfl) rfl ?_
                    refine h_skip (wg rfl rfl rfl) ?_
                    refine h_skip (wg rfl rfl rfl) ?_
                    refine h_op (vB true) (wg rfl rfl rfl) rfl ?_
                    refine h_op (vB true) (wg rfl rfl rfl) rfl ?_
                    refine h_op (vB true) (wt rfl) rfl ?_
                    refine h_op (vB false) (wt rfl) rfl ?_
                    refine h_nil ?_
                    replace h_16 := some_inj h_16
                    subst h_16
                    exact cut_mk () trivial rfl rfl
                  · refine h_movb rfl hc_21 (wg rfl rfl rfl) ?_
                    refine h_op (.d (.int .u8 (b_13.toNat : Int))) (wg rfl rfl rfl) rfl ?_
                    refine h_op (vB ((b_13.toNat : Int) == 45)) (wg rfl rfl rfl) rfl ?_
                    refine h_op (vB ((b_13.toNat : Int) == 45)) (wg rfl rfl rfl) rfl ?_
                    rcases cond_some h_16 with ⟨hc_22, h_16⟩ | ⟨hc_22, h_16⟩
                    · refine h_movb rfl hc_22 (wg rfl rfl rfl) ?_
                      refine h_skip (wg rfl rfl rfl) ?_
                      refine h_skip (wg rfl rfl rfl) ?_
                      refine h_op (vB true) (wg rfl rfl rfl) rfl ?_
                      refine h_op (vB true) (wg rfl rfl rfl) rfl ?_
                      refine h_op (vB true) (wt rfl) rfl ?_
                      refine h_op (vB false) (wt rfl) rfl ?_
                      refine h_nil ?_
                      replace h_16 := some_inj h_16
                      subst h_16
                      exact cut_mk () trivial rfl rfl
                    · refine h_movb rfl hc_22 (wg rfl rfl rfl) ?_
                      refine h_op (.d (.int .u8 (b_13.toNat : Int))) (wg rfl rfl rfl) rfl ?_
                      refine h_op (vB ((b_13.toNat : Int) == 95)) (wg rfl rfl rfl) rfl ?_
                      refine h_op (vB ((b_13.toNat : Int) == 95)) (wg rfl rfl rfl) rfl ?_
                      refine h_op (vB ((b_13.toNat : Int) == 95)) (wg rfl rfl rfl) rfl ?_
                      refine h_op (vB ((b_13.toNat : Int) == 95)) (wt rfl) rfl ?_
                      refine h_op (vB (!((b_13.toNat : Int) == 95))) (wt rfl) rfl ?_
                      refine h_nil ?_
                      replace h_16 := some_inj h_16
                      subst h_16
                      exact cut_mk () trivial rfl rfl
                · refine h_movb rfl hc_20 (wg rfl rfl rfl) ?_
                  refine h_skip (wg rfl rfl rfl) ?_
                  refine h_skip (wg rfl rfl rfl) ?_
                  refine h_op (vB false) (wg rfl rfl rfl) rfl ?_
                  refine h_op (vB false) (wg rfl rfl rfl) rfl ?_
                  refine h_op (.d (.int .u8 (b_13.toNat : Int))) (wg rfl rfl rfl) rfl ?_
                  refine h_op (vB ((b_13.toNat : Int) == 45)) (wg rfl rfl rfl) rfl ?_
                  refine h_op (vB ((b_13.toNat : Int) == 45)) (wg rfl rfl rfl) rfl ?_
                  rcases cond_some h_16 with ⟨hc_23, h_16⟩ | ⟨hc_23, h_16⟩
                  · refine h_movb rfl hc_23 (wg rfl rfl rfl) ?_
                    refine h_skip (wg rfl rfl rfl) ?_
                    refine h_skip (wg rfl rfl rfl) ?_
                    refine h_op (vB true) (wg rfl rfl rfl) rfl ?_
                    refine h_op (vB true) (wg rfl rfl rfl) rfl ?_
                    refine h_op (vB true) (wt rfl) rfl ?_
                    refine h_op (vB false) (wt rfl) rfl ?_
                    refine h_nil ?_
                    replace h_16 := some_inj h_16
                    subst h_16
                    exact cut_mk () trivial rfl rfl
                  · refine h_movb rfl hc_23 (wg rfl rfl rfl) ?_
                    refine h_op (.d (.int .u8 (b_13.toNat : Int))) (wg rfl rfl rfl) rfl ?_
                    refine h_op (vB ((b_13.toNat : Int) == 95)) (wg rfl rfl rfl) rfl ?_
                    refine h_op (vB ((b_13.toNat : Int) == 95)) (wg rfl rfl rfl) rfl ?_
                    refine h_op (vB ((b_13.toNat : Int) == 95)) (wg rfl rfl rfl) rfl ?_
                    refine h_op (vB ((b_13.toNat : Int) == 95)) (wt rfl) rfl ?_
                    refine h_op (vB (!((b_13.toNat : Int) == 95))) (wt rfl) rfl ?_
                    refine h_nil ?_
                    replace h_16 := some_inj h_16
                    subst h_16
                    exact cut_mk () trivial rfl rfl
              · refine h_movb rfl hc_19 (wg rfl rfl rfl) ?_
                refine h_skip (wg rfl rfl rfl) ?_
                refine h_skip (wg rfl rfl rfl) ?_
                refine h_skip (wg rfl rfl rfl) ?_
                refine h_skip (wn rfl rfl) ?_
                refine h_skip (wn rfl rfl) ?_
                refine h_skip (wg rfl rfl rfl) ?_
                refine h_skip (wg rfl rfl rfl) ?_
                refine h_skip (wn rfl rfl) ?_
                refine h_skip (wn rfl rfl) ?_
                refine h_skip (wg rfl rfl rfl) ?_
                refine h_skip (wg rfl rfl rfl) ?_
                refine h_skip (wn rfl rfl) ?_
                refine h_skip (wn rfl rfl) ?_
                refine h_skip (wg rfl rfl rfl) ?_
                refine h_op (vB false) (wg rfl rfl rfl) rfl ?_
                refine h_op (vB false) (wt rfl) rfl ?_
                refine h_op (vB true) (wt rfl) rfl ?_
                refine h_nil ?_
                replace h_16 := some_inj h_16
                subst h_16
                exact cut_mk () trivial rfl rfl
          · refine h_movb rfl hc_17 (wt rfl) ?_
            refine h_skip (wg rfl rfl rfl) ?_
            refine h_skip (wg rfl rfl rfl) ?_
            refine h_op (vB false) (wt rfl) rfl ?_
            refine h_op (vB false) (wt rfl) rfl ?_
            refine h_op (vI s_7) (wg rfl rfl rfl) rfl ?_
            refine h_op (vB (decide (s_7 > 0))) (wg rfl rfl rfl) rfl ?_
            rcases cond_some h_16 with ⟨hc_24, h_16⟩ | ⟨hc_24, h_16⟩
            · refine h_movb rfl hc_24 (wg rfl rfl rfl) ?_
              refine h_op (.d (.int .u8 (b_13.toNat : Int))) (wg rfl rfl rfl) rfl ?_
              refine h_op (vB (decide ((b_13.toNat : Int) ≥ 48))) (wg rfl rfl rfl) rfl ?_
              rcases cond_some h_16 with ⟨hc_25, h_16⟩ | ⟨hc_25, h_16⟩
              · refine h_movb rfl hc_25 (wg rfl rfl rfl) ?_
                refine h_op (.d (.int .u8 (b_13.toNat : Int))) (wg rfl rfl rfl) rfl ?_
                refine h_op (vB (decide ((b_13.toNat : Int) ≤ 57))) (wg rfl rfl rfl) rfl ?_
                refine h_op (vB (decide ((b_13.toNat : Int) ≤ 57))) (wg rfl rfl rfl) rfl ?_
                rcases cond_some h_16 with ⟨hc_26, h_16⟩ | ⟨hc_26, h_16⟩
                · refine h_movb rfl hc_26 (wg rfl rfl rfl) ?_
                  refine h_skip (wg rfl rfl rfl) ?_
                  refine h_skip (wg rfl rfl rfl) ?_
                  refine h_op (vB true) (wg rfl rfl rfl) rfl ?_
                  refine h_op (vB true) (wg rfl rfl rfl) rfl ?_
                  refine h_skip (wg rfl rfl rfl) ?_
                  refine h_skip (wg rfl rfl rfl) ?_
                  refine h_op (vB true) (wg rfl rfl rfl) rfl ?_
                  refine h_op (vB true) (wg rfl rfl rfl) rfl ?_
                  refine h_op (vB true) (wt rfl) rfl ?_
                  refine h_op (vB false) (wt rfl) rfl ?_
                  refine h_nil ?_
                  replace h_16 := some_inj h_16
                  subst h_16
                  exact cut_mk () trivial rfl rfl
                · refine h_movb rfl hc_26 (wg rfl rfl rfl) ?_
                  refine h_op (.d (.int .u8 (b_13.toNat : Int))) (wg rfl rfl rfl) rfl ?_
                  refine h_op (vB ((b_13.toNat : Int) == 45)) (wg rfl rfl rfl) rfl ?_
                  refine h_op (vB ((b_13.toNat : Int) == 45)) (wg rfl rfl rfl) rfl ?_
                  rcases cond_some h_16 with ⟨hc_27, h_16⟩ | ⟨hc_27, h_16⟩
                  · refine h_movb rfl hc_27 (wg rfl rfl rfl) ?_
                    refine h_skip (wg rfl rfl rfl) ?_
                    refine h_skip (wg rfl rfl rfl) ?_
                    refine h_op (vB true) (wg rfl rfl rfl) rfl ?_
                    refine h_op (vB true) (wg rfl rfl rfl) rfl ?_
                    refine h_op (vB true) (wt rfl) rfl ?_
                    refine h_op (vB false) (wt rfl) rfl ?_
                    refine h_nil ?_
                    replace h_16 := some_inj h_16
                    subst h_16
                    exact cut_mk () trivial rfl rfl
                  · refine h_movb rfl hc_27 (wg rfl rfl rfl) ?_
                    refine h_op (.d (.int .u8 (b_13.toNat : Int))) (wg rfl rfl rfl) rfl ?_
                    refine h_op (vB ((b_13.toNat : Int) == 95)) (wg rfl rfl rfl) rfl ?_
                    refine h_op (vB ((b_13.toNat : Int) == 95)) (wg rfl rfl rfl) rfl ?_
                    refine h_op (vB ((b_13.toNat : Int) == 95)) (wg rfl rfl rfl) rfl ?_
                    refine h_op (vB ((b_13.toNat : Int) == 95)) (wt rfl) rfl ?_
                    refine h_op (vB (!((b_13.toNat : Int) == 95))) (wt rfl) rfl ?_
                    refine h_nil ?_
                    replace h_16 := some_inj h_16
                    subst h_16
                    exact cut_mk () trivial rfl rfl
              · refine h_movb rfl hc_25 (wg rfl rfl rfl) ?_
                refine h_skip (wg rfl rfl rfl) ?_
                refine h_skip (wg rfl rfl rfl) ?_
                refine h_op (vB false) (wg rfl rfl rfl) rfl ?_
                refine h_op (vB false) (wg rfl rfl rfl) rfl ?_
                refine h_op (.d (.int .u8 (b_13.toNat : Int))) (wg rfl rfl rfl) rfl ?_
                refine h_op (vB ((b_13.toNat : Int) == 45)) (wg rfl rfl rfl) rfl ?_
                refine h_op (vB ((b_13.toNat : Int) == 45)) (wg rfl rfl rfl) rfl ?_
                rcases cond_some h_16 with ⟨hc_28, h_16⟩ | ⟨hc_28, h_16⟩
                · refine h_movb rfl hc_28 (wg rfl rfl rfl) ?_
                  refine h_skip (wg rfl rfl rfl) ?_
                  refine h_skip (wg rfl rfl rfl) ?_
                  refine h_op (vB true) (wg rfl rfl rfl) rfl ?_
                  refine h_op (vB true) (wg rfl rfl rfl) rfl ?_
                  refine h_op (vB true) (wt rfl) rfl ?_
                  refine h_op (vB false) (wt rfl) rfl ?_
                  refine h_nil ?_
                  replace h_16 := some_inj h_16
                  subst h_16
                  exact cut_mk () trivial rfl rfl
                · refine h_movb rfl hc_28 (wg rfl rfl rfl) ?_
                  refine h_op (.d (.int .u8 (b_13.toNat : Int))) (wg rfl rfl rfl) rfl ?_
                  refine h_op (vB ((b_13.toNat : Int) == 95)) (wg rfl rfl rfl) rfl ?_
                  refine h_op (vB ((b_13.toNat : Int) == 95)) (wg rfl rfl rfl) rfl ?_
                  refine h_op (vB ((b_13.toNat : Int) == 95)) (wg rfl rfl rfl) rfl ?_
                  refine h_op (vB ((b_13.toNat : Int) == 95)) (wt rfl) rfl ?_
                  refine h_op (vB (!((b_13.toNat : Int) == 95))) (wt rfl) rfl ?_
                  refine h_nil ?_
                  replace h_16 := some_inj h_16
                  subst h_16
                  exact cut_mk () trivial rfl rfl
            · refine h_movb rfl hc_24 (wg rfl rfl rfl) ?_
              refine h_skip (wg rfl rfl rfl) ?_
              refine h_skip (wg rfl rfl rfl) ?_
              refine h_skip (wg rfl rfl rfl) ?_
              refine h_skip (wn rfl rfl) ?_
              refine h_skip (wn rfl rfl) ?_
              refine h_skip (wg rfl rfl rfl) ?_
              refine h_skip (wg rfl rfl rfl) ?_
              refine h_skip (wn rfl rfl) ?_
              refine h_skip (wn rfl rfl) ?_
              refine h_skip (wg rfl rfl rfl) ?_
              refine h_skip (wg rfl rfl rfl) ?_
              refine h_skip (wn rfl rfl) ?_
              refine h_skip (wn rfl rfl) ?_
              refine h_skip (wg rfl rfl rfl) ?_
              refine h_op (vB false) (wg rfl rfl rfl) rfl ?_
              refine h_op (vB false) (wt rfl) rfl ?_
              refine h_op (vB true) (wt rfl) rfl ?_
              refine h_nil ?_
              replace h_16 := some_inj h_16
              subst h_16
              exact cut_mk () trivial rfl rfl
        · rintro ⟨⟩ _ sl_ H_ hp_ hq_
          refine wH_at _ hp_ hq_ ?_
          rcases cond_some hc_8 with ⟨hc_29, hc_8⟩ | ⟨hc_29, hc_8⟩
          · refine wH_ift rfl hc_29 ?_
            refine wH_seq ?_
            refine wH_region ?_
            refine h_op (vB false) (wt rfl) rfl ?_
            refine h_nil ?_
            replace hc_8 := some_inj hc_8
            subst hc_8
            replace hL_9 := some_inj hL_9
            subst hL_9
            replace hF := some_inj hF
            subst hF
            refine wH_ret ?_
            exact fin0 (.inr rfl) [(vB false)] ⟨rfl, trivial⟩ rfl rfl rfl
          · refine wH_iff rfl hc_29 ?_
            refine wH_skip ?_
            refine wH_region ?_
            refine h_op (vI s_7) (wt rfl) rfl ?_
            refine h_op (vI (w64 (s_7 + 1))) (wt rfl) rfl ?_
            refine h_op (vI (w64 (s_7 + 1))) (wt rfl) rfl ?_
            refine h_nil ?_
            replace hc_8 := some_inj hc_8
            subst hc_8
            exact loop_mk (k_2, (w64 (s_7 + 1))) hL_9 (Nat.lt_succ_self _) rfl rfl
      · refine wH_iff rfl hc_12 ?_
        refine wH_exit ?_
        replace hc_8 := some_inj hc_8
        subst hc_8
        replace hL_9 := some_inj hL_9
        subst hL_9
        exact cut_mk (s_7) rfl rfl rfl
  · rintro s_7 ho_ sl_ H_ hp_ hq_
    subst ho_
    refine wH_at _ hp_ hq_ ?_
    refine wH_seq ?_
    obtain ⟨v_30, h_31, hF⟩ := bind_some hF
    refine wH_join (β := Unit) (fun _ => ([(2, (vB v_30))] : List (Nat × V))) (fun _ => ([] : Hp)) (fun _ => True) ?_ ?_
    · refine wH_region ?_
      refine h_op (vS s_1) (wt rfl) rfl ?_
      refine h_op (vB (sNe s_1 (⟨#[]⟩ : ByteArray))) (wt rfl) rfl ?_
      rcases cond_some h_31 with ⟨hc_32, h_31⟩ | ⟨hc_32, h_31⟩
      · refine h_movb rfl hc_32 (wt rfl) ?_
        refine h_op (vS s_1) (wg rfl rfl rfl) rfl ?_
        refine h_lens un9 rfl (wg rfl rfl rfl) ?_
        refine h_op (vB (decide ((s_1.size : Int) ≤ 40))) (wg rfl rfl rfl) rfl ?_
        refine h_op (vB (decide ((s_1.size : Int) ≤ 40))) (wt rfl) rfl ?_
        refine h_op (vB (decide ((s_1.size : Int) ≤ 40))) (wt rfl) rfl ?_
        refine h_nil ?_
        replace h_31 := some_inj h_31
        subst h_31
        exact cut_mk () trivial rfl rfl
      · refine h_movb rfl hc_32 (wt rfl) ?_
        refine h_skip (wg rfl rfl rfl) ?_
        refine h_skip (wg rfl rfl rfl) ?_
        refine h_skip (wg rfl rfl rfl) ?_
        refine h_op (vB false) (wt rfl) rfl ?_
        refine h_op (vB false) (wt rfl) rfl ?_
        refine h_nil ?_
        replace h_31 := some_inj h_31
        subst h_31
        exact cut_mk () trivial rfl rfl
    · rintro ⟨⟩ _ sl_ H_ hp_ hq_
      refine wH_at _ hp_ hq_ ?_
      replace hF := some_inj hF
      subst hF
      refine wH_ret ?_
      exact fin0 (.inr rfl) [(vB v_30)] ⟨rfl, trivial⟩ rfl rfl rfl
theorem booking_isTime_ok {wv_1 : Window} {r : Bool} (hF : booking_isTime wv_1 = some r) :
    FnM Try.prog 43 [(.d (.agg (Window.enc wv_1)))] [] (vB r) [] := by
  refine FnM.of_wH ⟨Try.prog, 18, [], []⟩ rfl Try.func43 rfl rfl (Nat.le_of_ble_eq_true rfl) (by kernel_rfl) ?_
  unfold booking_isTime at hF
  refine wH_seq ?_
  refine wH_region ?_
  refine h_box 0 (.inl rfl) [(vI wv_1.From), (vI wv_1.To)] rfl rfl (wt rfl) (fun n_2 => ?_)
  refine h_op (vB false) (wt rfl) rfl ?_
  refine h_nil ?_
  refine wH_seq ?_
  obtain ⟨v_3, h_4, hF⟩ := bind_some hF
  refine wH_join (β := Unit) (fun _ => ([(2, (vB v_3))] : List (Nat × V))) (fun _ => ([(n_2, some (.cells 2 [(vI wv_1.From), (vI wv_1.To)]))] : Hp)) (fun _ => True) ?_ ?_
  · refine wH_region ?_
    refine h_far pl34_0 rfl 0 rfl (wt rfl) ?_
    refine h_ldr 0 0 (.inl rfl) (fun _ _ _ => trivial) sz3 ag3 rfl rfl (vI wv_1.From) rfl (wt rfl) ?_
    refine h_op (vB (decide (wv_1.From ≥ 0))) (wt rfl) rfl ?_
    rcases cond_some h_4 with ⟨hc_5, h_4⟩ | ⟨hc_5, h_4⟩
    · refine h_movb rfl hc_5 (wt rfl) ?_
      refine h_far pl34_0 rfl 0 rfl (wg rfl rfl rfl) ?_
      refine h_ldr 0 0 (.inl rfl) (fun _ _ _ => trivial) sz3 ag3 rfl rfl (vI wv_1.From) rfl (wg rfl rfl rfl) ?_
      refine h_far pl34_1 rfl 1 rfl (wg rfl rfl rfl) ?_
      refine h_ldr 0 0 (.inl rfl) (fun _ _ _ => trivial) sz3 ag3 rfl rfl (vI wv_1.To) rfl (wg rfl rfl rfl) ?_
      refine h_op (vB (decide (wv_1.From < wv_1.To))) (wg rfl rfl rfl) rfl ?_
      refine h_op (vB (decide (wv_1.From < wv_1.To))) (wt rfl) rfl ?_
      rcases cond_some h_4 with ⟨hc_6, h_4⟩ | ⟨hc_6, h_4⟩
      · refine h_movb rfl hc_6 (wt rfl) ?_
        refine h_far pl34_1 rfl 1 rfl (wg rfl rfl rfl) ?_
        refine h_ldr 0 0 (.inl rfl) (fun _ _ _ => trivial) sz3 ag3 rfl rfl (vI wv_1.To) rfl (wg rfl rfl rfl) ?_
        refine h_op (vB (decide (wv_1.To ≤ 345686400000))) (wg rfl rfl rfl) rfl ?_
        refine h_op (vB (decide (wv_1.To ≤ 345686400000))) (wt rfl) rfl ?_
        refine h_op (vB (decide (wv_1.To ≤ 345686400000))) (wt rfl) rfl ?_
        refine h_nil ?_
        replace h_4 := some_inj h_4
        subst h_4
        exact cut_mk () trivial rfl rfl
      · refine h_movb rfl hc_6 (wt rfl) ?_
        refine h_skip (wg rfl rfl rfl) ?_
        refine h_skip (wg rfl rfl rfl) ?_
        refine h_skip (wg rfl rfl rfl) ?_
        refine h_op (vB false) (wt rfl) rfl ?_
        refine h_op (vB false) (wt rfl) rfl ?_
        refine h_nil ?_
        replace h_4 := some_inj h_4
        subst h_4
        exact cut_mk () trivial rfl rfl
    · refine h_movb rfl hc_5 (wt rfl) ?_
      refine h_skip (wg rfl rfl rfl) ?_
      refine h_skip (wg rfl rfl rfl) ?_
      refine h_skip (wg rfl rfl rfl) ?_
      refine h_skip (wg rfl rfl rfl) ?_
      refine h_skip (wg rfl rfl rfl) ?_
      refine h_op (vB false) (wt rfl) rfl ?_
      refine h_op (vB false) (wt rfl) rfl ?_
      refine h_skip (wg rfl rfl rfl) ?_
      refine h_skip (wg rfl rfl rfl) ?_
      refine h_skip (wg rfl rfl rfl) ?_
      refine h_op (vB false) (wt rfl) rfl ?_
      refine h_op (vB false) (wt rfl) rfl ?_
      refine h_nil ?_
      replace h_4 := some_inj h_4
      subst h_4
      exact cut_mk () trivial rfl rfl
  · rintro ⟨⟩ _ sl_ H_ hp_ hq_
    refine wH_at _ hp_ hq_ ?_
    replace hF := some_inj hF
    subst hF
    refine wH_ret ?_
    exact fin0 (.inr rfl) [(vB v_3)] ⟨rfl, trivial⟩ rfl rfl rfl
theorem kit_Outside_ok {n_1 : Int} {low_2 : Int} {high_3 : Int} {r : Bool} (hF : kit_Outside n_1 low_2 high_3 = some r) :
    FnM Try.prog 44 [(vI n_1), (vI low_2), (vI high_3)] [] (vB r) [] := by
  refine FnM.of_wH ⟨Try.prog, 15, [], []⟩ rfl Try.func44 rfl rfl (Nat.le_of_ble_eq_true rfl) (by kernel_rfl) ?_
  unfold kit_Outside at hF
  refine wH_seq ?_
  refine wH_region ?_
  refine h_op (vB false) (wt rfl) rfl ?_
  refine h_nil ?_
  refine wH_seq ?_
  obtain ⟨v_4, h_5, hF⟩ := bind_some hF
  refine wH_join (β := Unit) (fun _ => ([(6, (vB v_4))] : List (Nat × V))) (fun _ => ([] : Hp)) (fun _ => True) ?_ ?_
  · refine wH_region ?_
    refine h_op (vI n_1) (wt rfl) rfl ?_
    refine h_op (vI low_2) (wt rfl) rfl ?_
    refine h_op (vB (decide (n_1 < low_2))) (wt rfl) rfl ?_
    rcases cond_some h_5 with ⟨hc_6, h_5⟩ | ⟨hc_6, h_5⟩
    · refine h_movb rfl hc_6 (wt rfl) ?_
      refine h_skip (wg rfl rfl rfl) ?_
      refine h_skip (wg rfl rfl rfl) ?_
      refine h_skip (wg rfl rfl rfl) ?_
      refine h_op (vB true) (wt rfl) rfl ?_
      refine h_op (vB true) (wt rfl) rfl ?_
      refine h_nil ?_
      replace h_5 := some_inj h_5
      subst h_5
      exact cut_mk () trivial rfl rfl
    · refine h_movb rfl hc_6 (wt rfl) ?_
      refine h_op (vI n_1) (wg rfl rfl rfl) rfl ?_
      refine h_op (vI high_3) (wg rfl rfl rfl) rfl ?_
      refine h_op (vB (decide (n_1 > high_3))) (wg rfl rfl rfl) rfl ?_
      refine h_op (vB (decide (n_1 > high_3))) (wt rfl) rfl ?_
      refine h_op (vB (decide (n_1 > high_3))) (wt rfl) rfl ?_
      refine h_nil ?_
      replace h_5 := some_inj h_5
      subst h_5
      exact cut_mk () trivial rfl rfl
  · rintro ⟨⟩ _ sl_ H_ hp_ hq_
    refine wH_at _ hp_ hq_ ?_
    replace hF := some_inj hF
    subst hF
    refine wH_ret ?_
    exact fin0 (.inr rfl) [(vB v_4)] ⟨rfl, trivial⟩ rfl rfl rfl
theorem kit_RisingFault_ok {l_1 : (List ByteArray)} {r : Int} (hF : kit_RisingFault l_1 = some r) :
    FnM Try.prog 84 [(vL eS l_1)] [] (vI r) [] := by
  refine FnM.of_wH ⟨Try.prog, 27, [], []⟩ rfl Try.func84 rfl rfl (Nat.le_of_ble_eq_true rfl) (by kernel_rfl) ?_
  unfold kit_RisingFault at hF
  refine wH_seq ?_
  refine wH_region ?_
  refine h_op (vI 0) (wt rfl) rfl ?_
  refine h_nil ?_
  refine wH_seq ?_
  refine wH_seq ?_
  refine wH_region ?_
  refine h_op (vL eS l_1) (wt rfl) rfl ?_
  refine h_len un35 rfl (wt rfl) ?_
  refine h_op (vI 0) (wt rfl) rfl ?_
  refine h_nil ?_
  obtain ⟨o_10, hj_11, hF⟩ := bind_some hF
  obtain ⟨hn_6, hj_11⟩ := forL_some hj_11
  refine wH_join (β := (Unit)) (fun (s_7 : Unit) => ([] : List (Nat × V))) (fun (s_7 : Unit) => ([] : Hp)) (fun p => o_10 = .go p) ?_ ?_
  · refine wH_block ?_
    refine wH_loop (β := Nat × (List ByteArray) × (Unit)) (fun p => (fun (k_2 : Nat) (l_3 : List ByteArray) (s_7 : Unit) => ([(0, (vL eS l_1)), (5, (vL eS l_1)), (6, (vI (l_1.length : Int))), (7, (vI (k_2 : Int)))] : List (Nat × V))) p.1 p.2.1 p.2.2) (fun p => (fun (k_2 : Nat) (l_3 : List ByteArray) (s_7 : Unit) => ([] : Hp)) p.1 p.2.1 p.2.2) (fun p => forR (fun k x s => kit_RisingFault_L1 l_1 k x s) p.2.1 p.1 p.2.2 = some o_10 ∧ (l_1).drop p.1 = p.2.1) (fun p => p.2.1.length) (0, l_1, ()) ⟨hj_11, rfl⟩ rfl rfl ?_
    rintro ⟨k_2, l_3, s_7⟩ ⟨hL_9, hD_5⟩
    dsimp only at hL_9 hD_5
    cases l_3 with
    | nil =>
      replace hL_9 := some_inj hL_9
      subst hL_9
      refine wH_seq (wH_region (h_op (vB (decide ((k_2 : Int) < (l_1.length : Int)))) (wt rfl) rfl (h_nil ?_)))
      refine wH_seq (wH_iff rfl (drop_nil hD_5) (wH_exit ?_))
      exact cut_mk (s_7) rfl rfl rfl
    | cons x_4 l_3 =>
      obtain ⟨c_, hc_8, hL_9⟩ := bind_some hL_9
      refine wH_seq (wH_region (h_op (vB (decide ((k_2 : Int) < (l_1.length : Int)))) (wt rfl) rfl (h_nil ?_)))
      refine wH_seq (wH_ift rfl (drop_cons hD_5) (wH_skip ?_))
      unfold kit_RisingFault_L1 at hc_8
      refine wH_seq ?_
      refine wH_block ?_
      refine wH_seq ?_
      refine wH_region ?_
      refine h_op (vI (k_2 : Int)) (wt rfl) rfl ?_
      refine h_ia es35 rfl rfl (drop_idx hD_5) rfl (wt rfl) ?_
      refine h_ldc sz9 ag9 rfl (vS x_4) rfl (wt rfl) ?_
      refine h_op (vI (k_2 : Int)) (wt rfl) rfl ?_
      refine h_op (vS x_4) (wt rfl) rfl ?_
      refine h_nil ?_
      refine wH_seq ?_
      refine wH_seq ?_
      refine wH_region ?_
      refine h_op (vS x_4) (wt rfl) rfl ?_
      obtain ⟨r_12, hr_13, hc_8⟩ := bind_some hc_8
      refine h_call0 (kit_IsKey_ok hr_13) rfl hb42 rfl rfl rfl rfl (wt rfl) ?_
      refine h_op (vB (!r_12)) (wt rfl) rfl ?_
      refine h_nil ?_
      rcases cond_some hc_8 with ⟨hc_14, hc_8⟩ | ⟨hc_14, hc_8⟩
      · refine wH_ift rfl hc_14 ?_
        refine wH_seq ?_
        refine wH_region ?_
        refine h_op (vI 5) (wt rfl) rfl ?_
        refine h_nil ?_
        replace hc_8 := some_inj hc_8
        subst hc_8
        replace hL_9 := some_inj hL_9
        subst hL_9
        replace hF := some_inj hF
        subst hF
        refine wH_ret ?_
        exact fin0 (.inr rfl) [(vI 5)] ⟨rfl, trivial⟩ rfl rfl rfl
      · refine wH_iff rfl hc_14 ?_
        refine wH_skip ?_
        refine wH_seq ?_
        obtain ⟨v_15, h_16, hc_8⟩ := bind_some hc_8
        refine wH_join (β := Unit) (fun _ => ([(0, (vL eS l_1)), (5, (vL eS l_1)), (6, (vI (l_1.length : Int))), (7, (vI (k_2 : Int))), (25, (vB v_15))] : List (Nat × V))) (fun _ => ([] : Hp)) (fun _ => True) ?_ ?_
        · refine wH_region ?_
          refine h_op (vI (k_2 : Int)) (wt rfl) rfl ?_
          refine h_op (vB (decide ((k_2 : Int) > 0))) (wt rfl) rfl ?_
          rcases cond_some h_16 with ⟨hc_17, h_16⟩ | ⟨hc_17, h_16⟩
          · refine h_movb rfl hc_17 (wt rfl) ?_
            refine h_op (vS x_4) (wg rfl rfl rfl) rfl ?_
            refine h_op (vL eS l_1) (wg rfl rfl rfl) rfl ?_
            refine h_op (vI (k_2 : Int)) (wg rfl rfl rfl) rfl ?_
            refine h_op (vI (w64 ((k_2 : Int) - 1))) (wg rfl rfl rfl) rfl ?_
            obtain ⟨y_18, hy_19, h_16⟩ := bind_some h_16
            refine h_ia es35 rfl rfl hy_19 rfl (wg rfl rfl rfl) ?_
            refine h_ldc sz9 ag9 rfl (vS y_18) rfl (wg rfl rfl rfl) ?_
            refine h_op (vB (sLe x_4 y_18)) (wg rfl rfl rfl) rfl ?_
            refine h_op (vB (sLe x_4 y_18)) (wt rfl) rfl ?_
            refine h_nil ?_
            replace h_16 := some_inj h_16
            subst h_16
            exact cut_mk () trivial rfl rfl
          · refine h_movb rfl hc_17 (wt rfl) ?_
            refine h_skip (wg rfl rfl rfl) ?_
            refine h_skip (wg rfl rfl rfl) ?_
            refine h_skip (wg rfl rfl rfl) ?_
            refine h_skip (wg rfl rfl rfl) ?_
            refine h_skip (wg rfl rfl rfl) ?_
            refine h_skip (wg rfl rfl rfl) ?_
            refine h_skip (wg rfl rfl rfl) ?_
            refine h_op (vB false) (wt rfl) rfl ?_
            refine h_nil ?_
            replace h_16 := some_inj h_16
            subst h_16
            exact cut_mk () trivial rfl rfl
        · rintro ⟨⟩ _ sl_ H_ hp_ hq_
          refine wH_at _ hp_ hq_ ?_
          rcases cond_some hc_8 with ⟨hc_20, hc_8⟩ | ⟨hc_20, hc_8⟩
          · refine wH_ift rfl hc_20 ?_
            refine wH_seq ?_
            refine wH_region ?_
            refine h_op (vI 7) (wt rfl) rfl ?_
            refine h_nil ?_
            replace hc_8 := some_inj hc_8
            subst hc_8
            replace hL_9 := some_inj hL_9
            subst hL_9
            replace hF := some_inj hF
            subst hF
            refine wH_ret ?_
            exact fin0 (.inr rfl) [(vI 7)] ⟨rfl, trivial⟩ rfl rfl rfl
          · refine wH_iff rfl hc_20 ?_
            refine wH_skip ?_
            refine wH_region ?_
            refine h_opw (w64_next hD_5 hn_6) (wt rfl) rfl ?_
            refine h_op (vI ((k_2 + 1 : Nat) : Int)) (wt rfl) rfl ?_
            refine h_nil ?_
            replace hc_8 := some_inj hc_8
            subst hc_8
            exact loop_mk (k_2 + 1, l_3, ()) ⟨hL_9, drop_next hD_5⟩ (Nat.lt_succ_self _) rfl rfl
  · rintro s_7 ho_ sl_ H_ hp_ hq_
    subst ho_
    refine wH_at _ hp_ hq_ ?_
    refine wH_seq ?_
    refine wH_region ?_
    refine h_op (vI 0) (wt rfl) rfl ?_
    refine h_nil ?_
    replace hF := some_inj hF
    subst hF
    refine wH_ret ?_
    exact fin0 (.inr rfl) [(vI 0)] ⟨rfl, trivial⟩ rfl rfl rfl
theorem booking_tagsFault_ok {l_1 : (List ByteArray)} {r : Int} (hF : booking_tagsFault l_1 = some r) :
    FnM Try.prog 45 [(vL eS l_1)] [] (vI r) [] := by
  refine FnM.of_wH ⟨Try.prog, 8, [], []⟩ rfl Try.func45 rfl rfl (Nat.le_of_ble_eq_true rfl) (by kernel_rfl) ?_
  unfold booking_tagsFault at hF
  refine wH_seq ?_
  refine wH_region ?_
  refine h_op (vI 0) (wt rfl) rfl ?_
  refine h_nil ?_
  refine wH_seq ?_
  refine wH_seq ?_
  refine wH_region ?_
  refine h_op (vL eS l_1) (wt rfl) rfl ?_
  refine h_len un35 rfl (wt rfl) ?_
  refine h_op (vB (decide ((l_1.length : Int) > 20))) (wt rfl) rfl ?_
  refine h_nil ?_
  rcases cond_some hF with ⟨hc_2, hF⟩ | ⟨hc_2, hF⟩
  · refine wH_ift rfl hc_2 ?_
    refine wH_seq ?_
    refine wH_region ?_
    refine h_op (vI 2) (wt rfl) rfl ?_
    refine h_nil ?_
    replace hF := some_inj hF
    subst hF
    refine wH_ret ?_
    exact fin0 (.inr rfl) [(vI 2)] ⟨rfl, trivial⟩ rfl rfl rfl
  · refine wH_iff rfl hc_2 ?_
    refine wH_skip ?_
    refine wH_seq ?_
    refine wH_region ?_
    refine h_op (vL eS l_1) (wt rfl) rfl ?_
    obtain ⟨r_3, hr_4, hF⟩ := bind_some hF
    refine h_call0 (kit_RisingFault_ok hr_4) rfl hb84 rfl rfl rfl rfl (wt rfl) ?_
    refine h_op (vI r_3) (wt rfl) rfl ?_
    refine h_nil ?_
    replace hF := some_inj hF
    subst hF
    refine wH_ret ?_
    exact fin0 (.inr rfl) [(vI r_3)] ⟨rfl, trivial⟩ rfl rfl rfl
theorem booking_CheckSpots_ok {l_1 : (List Spot)} {r : Int} (hF : booking_CheckSpots l_1 = some r) :
    FnM Try.prog 8 [(vL Spot.enc l_1)] [] (vI r) [] := by
  refine FnM.of_wH ⟨Try.prog, 52, [], []⟩ rfl Try.func8 rfl rfl (Nat.le_of_ble_eq_true rfl) (by kernel_rfl) ?_
  unfold booking_CheckSpots at hF
  refine wH_seq ?_
  refine wH_region ?_
  refine h_op (vI 0) (wt rfl) rfl ?_
  refine h_nil ?_
  refine wH_seq ?_
  refine wH_seq ?_
  refine wH_region ?_
  refine h_op (vL Spot.enc l_1) (wt rfl) rfl ?_
  refine h_len un26 rfl (wt rfl) ?_
  refine h_op (vB (decide ((l_1.length : Int) > 60))) (wt rfl) rfl ?_
  refine h_nil ?_
  rcases cond_some hF with ⟨hc_2, hF⟩ | ⟨hc_2, hF⟩
  · refine wH_ift rfl hc_2 ?_
    refine wH_seq ?_
    refine wH_region ?_
    refine h_op (vI 2) (wt rfl) rfl ?_
    refine h_nil ?_
    replace hF := some_inj hF
    subst hF
    refine wH_ret ?_
    exact fin0 (.inr rfl) [(vI 2)] ⟨rfl, trivial⟩ rfl rfl rfl
  · refine wH_iff rfl hc_2 ?_
    refine wH_skip ?_
    refine wH_seq ?_
    refine wH_seq ?_
    refine wH_region ?_
    refine h_op (vL Spot.enc l_1) (wt rfl) rfl ?_
    refine h_len un26 rfl (wt rfl) ?_
    refine h_op (vI 0) (wt rfl) rfl ?_
    refine h_nil ?_
    obtain ⟨o_11, hj_12, hF⟩ := bind_some hF
    obtain ⟨hn_7, hj_12⟩ := forL_some hj_12
    refine wH_join (β := (Unit)) (fun (s_8 : Unit) => ([] : List (Nat × V))) (fun (s_8 : Unit) => ([] : Hp)) (fun p => o_11 = .go p) ?_ ?_
    · refine wH_block ?_
      refine wH_loop (β := Nat × (List Spot) × (Unit)) (fun p => (fun (k_3 : Nat) (l_4 : List Spot) (s_8 : Unit) => ([(0, (vL Spot.enc l_1)), (9, (vL Spot.enc l_1)), (10, (vI (l_1.length : Int))), (11, (vI (k_3 : Int)))] : List (Nat × V))) p.1 p.2.1 p.2.2) (fun p => (fun (k_3 : Nat) (l_4 : List Spot) (s_8 : Unit) => ([] : Hp)) p.1 p.2.1 p.2.2) (fun p => forR (fun k x s => booking_CheckSpots_L1 l_1 k x s) p.2.1 p.1 p.2.2 = some o_11 ∧ (l_1).drop p.1 = p.2.1) (fun p => p.2.1.length) (0, l_1, ()) ⟨hj_12, rfl⟩ rfl rfl ?_
      rintro ⟨k_3, l_4, s_8⟩ ⟨hL_10, hD_6⟩
      dsimp only at hL_10 hD_6
      cases l_4 with
      | nil =>
        replace hL_10 := some_inj hL_10
        subst hL_10
        refine wH_seq (wH_region (h_op (vB (decide ((k_3 : Int) < (l_1.length : Int)))) (wt rfl) rfl (h_nil ?_)))
        refine wH_seq (wH_iff rfl (drop_nil hD_6) (wH_exit ?_))
        exact cut_mk (s_8) rfl rfl rfl
      | cons x_5 l_4 =>
        obtain ⟨c_, hc_9, hL_10⟩ := bind_some hL_10
        refine wH_seq (wH_region (h_op (vB (decide ((k_3 : Int) < (l_1.length : Int)))) (wt rfl) rfl (h_nil ?_)))
        refine wH_seq (wH_ift rfl (drop_cons hD_6) (wH_skip ?_))
        unfold booking_CheckSpots_L1 at hc_9
        refine wH_seq ?_
        refine wH_block ?_
        refine wH_seq ?_
        refine wH_region ?_
        refine h_op (vI (k_3 : Int)) (wt rfl) rfl ?_
        refine h_ia es26 rfl rfl (drop_idx hD_6) rfl (wt rfl) ?_
        refine h_ldc sz43 ag43 rfl (.d (.agg (Spot.enc x_5))) rfl (wt rfl) ?_
        refine h_alloc 0 (.inl rfl) z43 rfl (wt rfl) (fun n_13 => ?_)
        refine h_op (vI (k_3 : Int)) (wt rfl) rfl ?_
        refine h_str 0 (.inl rfl) (fun _ _ _ => trivial) 0 sz43 rfl rfl [(vS x_5.Key), (vI x_5.Time.From), (vI x_5.Time.To), (vI x_5.Room), (vL eS x_5.Tags)] rfl (wt rfl) ?_
        refine h_nil ?_
        refine wH_seq ?_
        refine wH_block ?_
        refine wH_seq ?_
        refine wH_region ?_
        refine h_far pl43_0 rfl 0 rfl (wt rfl) ?_
        refine h_ldr 0 0 (.inl rfl) (fun _ _ _ => trivial) sz9 ag9 rfl rfl (vS x_5.Key) rfl (wt rfl) ?_
        obtain ⟨r_14, hr_15, hc_9⟩ := bind_some hc_9
        refine h_call0 (kit_IsKey_ok hr_15) rfl hb42 rfl rfl rfl rfl (wt rfl) ?_
        refine h_op (vB (!r_14)) (wt rfl) rfl ?_
        refine h_op (vB (!r_14)) (wt rfl) rfl ?_
        refine h_nil ?_
        rcases cond_some hc_9 with ⟨hc_16, hc_9⟩ | ⟨hc_16, hc_9⟩
        · refine wH_ift rfl hc_16 ?_
          refine wH_seq ?_
          refine wH_region ?_
          refine h_op (vI 5) (wt rfl) rfl ?_
          refine h_nil ?_
          replace hc_9 := some_inj hc_9
          subst hc_9
          replace hL_10 := some_inj hL_10
          subst hL_10
          replace hF := some_inj hF
          subst hF
          refine wH_ret ?_
          exact fin0 (.inr rfl) [(vI 5)] ⟨rfl, trivial⟩ rfl rfl rfl
        · refine wH_iff rfl hc_16 ?_
          refine wH_seq ?_
          obtain ⟨v_17, h_18, hc_9⟩ := bind_some hc_9
          refine wH_join (β := Unit) (fun _ => ([(0, (vL Spot.enc l_1)), (4, (.ref n_13 0 0)), (9, (vL Spot.enc l_1)), (10, (vI (l_1.length : Int))), (11, (vI (k_3 : Int))), (21, (vB v_17))] : List (Nat × V))) (fun _ => ([(n_13, some (.cells 5 [(vS x_5.Key), (vI x_5.Time.From), (vI x_5.Time.To), (vI x_5.Room), (vL eS x_5.Tags)]))] : Hp)) (fun _ => True) ?_ ?_
          · refine wH_draws ?_
            refine h_op (vI (k_3 : Int)) (wt rfl) rfl ?_
            refine h_op (vB (decide ((k_3 : Int) > 0))) (wt rfl) rfl ?_
            rcases cond_some h_18 with ⟨hc_19, h_18⟩ | ⟨hc_19, h_18⟩
            · refine h_movb rfl hc_19 (wt rfl) ?_
              refine h_far pl43_0 rfl 0 rfl (wg rfl rfl rfl) ?_
              refine h_ldr 4 0 (.inr (by kernel_rfl)) (fun _ _ ag => trivial) sz9 ag9 rfl rfl (vS x_5.Key) rfl (wg rfl rfl rfl) ?_
              refine h_op (vL Spot.enc l_1) (wg rfl rfl rfl) rfl ?_
              refine h_op (vI (k_3 : Int)) (wg rfl rfl rfl) rfl ?_
              refine h_op (vI (w64 ((k_3 : Int) - 1))) (wg rfl rfl rfl) rfl ?_
              obtain ⟨y_20, hy_21, h_18⟩ := bind_some h_18
              refine h_ia es26 rfl rfl hy_21 rfl (wg rfl rfl rfl) ?_
              refine h_fac pl43_0 rfl [.str y_20.Key, .int .i64 y_20.Time.From, .int .i64 y_20.Time.To, .int .i64 y_20.Room, dl eS y_20.Tags] rfl rfl (wg rfl rfl rfl) ?_
              refine h_ldc sz9 ag9 rfl (vS y_20.Key) rfl (wg rfl rfl rfl) ?_
              refine h_op (vB (sLe x_5.Key y_20.Key)) (wg rfl rfl rfl) rfl ?_
              refine h_op (vB (sLe x_5.Key y_20.Key)) (wt rfl) rfl ?_
              refine h_op (vB (sLe x_5.Key y_20.Key)) (wt rfl) rfl ?_
              refine h_nil ?_
              replace h_18 := some_inj h_18
              subst h_18
              exact cut_mk () trivial rfl rfl
            · refine h_movb rfl hc_19 (wt rfl) ?_
              refine h_skip (wg rfl rfl rfl) ?_
              refine h_skip (wg rfl rfl rfl) ?_
              refine h_skip (wg rfl rfl rfl) ?_
              refine h_skip (wg rfl rfl rfl) ?_
              refine h_skip (wg rfl rfl rfl) ?_
              refine h_skip (wg rfl rfl rfl) ?_
              refine h_skip (wg rfl rfl rfl) ?_
              refine h_skip (wg rfl rfl rfl) ?_
              refine h_skip (wg rfl rfl rfl) ?_
              refine h_op (vB false) (wt rfl) rfl ?_
              refine h_op (vB false) (wt rfl) rfl ?_
              refine h_nil ?_
              replace h_18 := some_inj h_18
              subst h_18
              exact cut_mk () trivial rfl rfl
          · rintro ⟨⟩ _ sl_ H_ hp_ hq_
            refine wH_at _ hp_ hq_ ?_
            rcases cond_some hc_9 with ⟨hc_22, hc_9⟩ | ⟨hc_22, hc_9⟩
            · refine wH_ift rfl hc_22 ?_
              refine wH_seq ?_
              refine wH_region ?_
              refine h_op (vI 7) (wt rfl) rfl ?_
              refine h_nil ?_
              replace hc_9 := some_inj hc_9
              subst hc_9
              replace hL_10 := some_inj hL_10
              subst hL_10
              replace hF := some_inj hF
              subst hF
              refine wH_ret ?_
              exact fin0 (.inr rfl) [(vI 7)] ⟨rfl, trivial⟩ rfl rfl rfl
            · refine wH_iff rfl hc_22 ?_
              refine wH_seq ?_
              obtain ⟨v_23, h_24, hc_9⟩ := bind_some hc_9
              refine wH_join (β := Unit) (fun _ => ([(0, (vL Spot.enc l_1)), (4, (.ref n_13 0 0)), (9, (vL Spot.enc l_1)), (10, (vI (l_1.length : Int))), (11, (vI (k_3 : Int))), (35, (vB v_23))] : List (Nat × V))) (fun _ => ([(n_13, some (.cells 5 [(vS x_5.Key), (vI x_5.Time.From), (vI x_5.Time.To), (vI x_5.Room), (vL eS x_5.Tags)]))] : Hp)) (fun _ => True) ?_ ?_
              · refine wH_region ?_
                refine h_far pl43_1 rfl 1 rfl (wt rfl) ?_
                refine h_ldr 0 0 (.inl rfl) (fun _ _ _ => trivial) sz34 ag34 rfl rfl (.d (.agg (Window.enc x_5.Time))) rfl (wt rfl) ?_
                obtain ⟨r_25, hr_26, h_24⟩ := bind_some h_24
                refine h_call0 (booking_isTime_ok hr_26) rfl hb43 rfl rfl rfl rfl (wt rfl) ?_
                refine h_op (vB (!r_25)) (wt rfl) rfl ?_
                rcases cond_some h_24 with ⟨hc_27, h_24⟩ | ⟨hc_27, h_24⟩
                · refine h_movb rfl hc_27 (wt rfl) ?_
                  refine h_skip (wg rfl rfl rfl) ?_
                  refine h_skip (wg rfl rfl rfl) ?_
                  refine h_skip (wg rfl rfl rfl) ?_
                  refine h_op (vB true) (wt rfl) rfl ?_
                  refine h_op (vB true) (wt rfl) rfl ?_
                  refine h_nil ?_
                  replace h_24 := some_inj h_24
                  subst h_24
                  exact cut_mk () trivial rfl rfl
                · refine h_movb rfl hc_27 (wt rfl) ?_
                  refine h_far pl43_2 rfl 3 rfl (wg rfl rfl rfl) ?_
                  refine h_ldr 0 0 (.inl rfl) (fun _ _ _ => trivial) sz3 ag3 rfl rfl (vI x_5.Room) rfl (wg rfl rfl rfl) ?_
                  obtain ⟨r_28, hr_29, h_24⟩ := bind_some h_24
                  refine h_call0 (kit_Outside_ok hr_29) rfl hb44 rfl rfl rfl rfl (wg rfl rfl rfl) ?_
                  refine h_op (vB r_28) (wt rfl) rfl ?_
                  refine h_op (vB r_28) (wt rfl) rfl ?_
                  refine h_nil ?_
                  replace h_24 := some_inj h_24
                  subst h_24
                  exact cut_mk () trivial rfl rfl
              · rintro ⟨⟩ _ sl_ H_ hp_ hq_
                refine wH_at _ hp_ hq_ ?_
                rcases cond_some hc_9 with ⟨hc_30, hc_9⟩ | ⟨hc_30, hc_9⟩
                · refine wH_ift rfl hc_30 ?_
                  refine wH_seq ?_
                  refine wH_region ?_
                  refine h_op (vI 1) (wt rfl) rfl ?_
                  refine h_nil ?_
                  replace hc_9 := some_inj hc_9
                  subst hc_9
                  replace hL_10 := some_inj hL_10
                  subst hL_10
                  replace hF := some_inj hF
                  subst hF
                  refine wH_ret ?_
                  exact fin0 (.inr rfl) [(vI 1)] ⟨rfl, trivial⟩ rfl rfl rfl
                · refine wH_iff rfl hc_30 ?_
                  refine wH_skip ?_
                  refine wH_seq ?_
                  refine wH_region ?_
                  refine h_far pl43_3 rfl 4 rfl (wt rfl) ?_
                  refine h_ldr 0 0 (.inl rfl) (fun _ _ _ => trivial) sz35 ag35 rfl rfl (vL eS x_5.Tags) rfl (wt rfl) ?_
                  obtain ⟨r_31, hr_32, hc_9⟩ := bind_some hc_9
                  refine h_call0 (booking_tagsFault_ok hr_32) rfl hb45 rfl rfl rfl rfl (wt rfl) ?_
                  refine h_op (vI r_31) (wt rfl) rfl ?_
                  refine h_nil ?_
                  refine wH_seq ?_
                  refine wH_region ?_
                  refine h_op (vI r_31) (wt rfl) rfl ?_
                  refine h_op (vB (r_31 != 0)) (wt rfl) rfl ?_
                  refine h_nil ?_
                  rcases cond_some hc_9 with ⟨hc_33, hc_9⟩ | ⟨hc_33, hc_9⟩
                  · refine wH_ift rfl hc_33 ?_
                    refine wH_seq ?_
                    refine wH_region ?_
                    refine h_op (vI r_31) (wt rfl) rfl ?_
                    refine h_op (vI r_31) (wt rfl) rfl ?_
                    refine h_nil ?_
                    replace hc_9 := some_inj hc_9
                    subst hc_9
                    replace hL_10 := some_inj hL_10
                    subst hL_10
                    replace hF := some_inj hF
                    subst hF
                    refine wH_ret ?_
                    exact fin0 (.inr rfl) [(vI r_31)] ⟨rfl, trivial⟩ rfl rfl rfl
                  · refine wH_iff rfl hc_33 ?_
                    refine wH_skip ?_
                    refine wH_region ?_
                    refine h_opw (w64_next hD_6 hn_7) (wt rfl) rfl ?_
                    refine h_op (vI ((k_3 + 1 : Nat) : Int)) (wt rfl) rfl ?_
                    refine h_nil ?_
                    replace hc_9 := some_inj hc_9
                    subst hc_9
                    exact loop_mk (k_3 + 1, l_4, ()) ⟨hL_10, drop_next hD_6⟩ (Nat.lt_succ_self _) rfl rfl
    · rintro s_8 ho_ sl_ H_ hp_ hq_
      subst ho_
      refine wH_at _ hp_ hq_ ?_
      refine wH_seq ?_
      refine wH_region ?_
      refine h_op (vI 0) (wt rfl) rfl ?_
      refine h_nil ?_
      replace hF := some_inj hF
      subst hF
      refine wH_ret ?_
      exact fin0 (.inr rfl) [(vI 0)] ⟨rfl, trivial⟩ rfl rfl rfl
theorem booking_CheckCampaigns_ok {l_1 : (List Campaign)} {r : Int} (hF : booking_CheckCampaigns l_1 = some r) :
    FnM Try.prog 10 [(vL Campaign.enc l_1)] [] (vI r) [] := by
  refine FnM.of_wH ⟨Try.prog, 73, [], []⟩ rfl Try.func10 rfl rfl (Nat.le_of_ble_eq_true rfl) (by kernel_rfl) ?_
  unfold booking_CheckCampaigns at hF
  refine wH_seq ?_
  refine wH_region ?_
  refine h_op (vI 0) (wt rfl) rfl ?_
  refine h_nil ?_
  refine wH_seq ?_
  refine wH_seq ?_
  refine wH_region ?_
  refine h_op (vL Campaign.enc l_1) (wt rfl) rfl ?_
  refine h_len un27 rfl (wt rfl) ?_
  refine h_op (vB (decide ((l_1.length : Int) > 30))) (wt rfl) rfl ?_
  refine h_nil ?_
  rcases cond_some hF with ⟨hc_2, hF⟩ | ⟨hc_2, hF⟩
  · refine wH_ift rfl hc_2 ?_
    refine wH_seq ?_
    refine wH_region ?_
    refine h_op (vI 2) (wt rfl) rfl ?_
    refine h_nil ?_
    replace hF := some_inj hF
    subst hF
    refine wH_ret ?_
    exact fin0 (.inr rfl) [(vI 2)] ⟨rfl, trivial⟩ rfl rfl rfl
  · refine wH_iff rfl hc_2 ?_
    refine wH_skip ?_
    refine wH_seq ?_
    refine wH_seq ?_
    refine wH_region ?_
    refine h_op (vL Campaign.enc l_1) (wt rfl) rfl ?_
    refine h_len un27 rfl (wt rfl) ?_
    refine h_op (vI 0) (wt rfl) rfl ?_
    refine h_nil ?_
    obtain ⟨o_11, hj_12, hF⟩ := bind_some hF
    obtain ⟨hn_7, hj_12⟩ := forL_some hj_12
    refine wH_join (β := (Unit)) (fun (s_8 : Unit) => ([] : List (Nat × V))) (fun (s_8 : Unit) => ([] : Hp)) (fun p => o_11 = .go p) ?_ ?_
    · refine wH_block ?_
      refine wH_loop (β := Nat × (List Campaign) × (Unit)) (fun p => (fun (k_3 : Nat) (l_4 : List Campaign) (s_8 : Unit) => ([(0, (vL Campaign.enc l_1)), (9, (vL Campaign.enc l_1)), (10, (vI (l_1.length : Int))), (11, (vI (k_3 : Int)))] : List (Nat × V))) p.1 p.2.1 p.2.2) (fun p => (fun (k_3 : Nat) (l_4 : List Campaign) (s_8 : Unit) => ([] : Hp)) p.1 p.2.1 p.2.2) (fun p => forR (fun k x s => booking_CheckCampaigns_L1 l_1 k x s) p.2.1 p.1 p.2.2 = some o_11 ∧ (l_1).drop p.1 = p.2.1) (fun p => p.2.1.length) (0, l_1, ()) ⟨hj_12, rfl⟩ rfl rfl ?_
      rintro ⟨k_3, l_4, s_8⟩ ⟨hL_10, hD_6⟩
      dsimp only at hL_10 hD_6
      cases l_4 with
      | nil =>
        replace hL_10 := some_inj hL_10
        subst hL_10
        refine wH_seq (wH_region (h_op (vB (decide ((k_3 : Int) < (l_1.length : Int)))) (wt rfl) rfl (h_nil ?_)))
        refine wH_seq (wH_iff rfl (drop_nil hD_6) (wH_exit ?_))
        exact cut_mk (s_8) rfl rfl rfl
      | cons x_5 l_4 =>
        obtain ⟨c_, hc_9, hL_10⟩ := bind_some hL_10
        refine wH_seq (wH_region (h_op (vB (decide ((k_3 : Int) < (l_1.length : Int)))) (wt rfl) rfl (h_nil ?_)))
        refine wH_seq (wH_ift rfl (drop_cons hD_6) (wH_skip ?_))
        unfold booking_CheckCampaigns_L1 at hc_9
        refine wH_seq ?_
        refine wH_block ?_
        refine wH_seq ?_
        refine wH_region ?_
        refine h_op (vI (k_3 : Int)) (wt rfl) rfl ?_
        refine h_ia es27 rfl rfl (drop_idx hD_6) rfl (wt rfl) ?_
        refine h_ldc sz37 ag37 rfl (.d (.agg (Campaign.enc x_5))) rfl (wt rfl) ?_
        refine h_alloc 0 (.inl rfl) z37 rfl (wt rfl) (fun n_13 => ?_)
        refine h_op (vI (k_3 : Int)) (wt rfl) rfl ?_
        refine h_str 0 (.inl rfl) (fun _ _ _ => trivial) 0 sz37 rfl rfl [(vS x_5.Key), (vS x_5.Class), (vI x_5.Time.From), (vI x_5.Time.To), (vL eS x_5.Tags), (vI x_5.Goal), (vI x_5.Most), (vI x_5.Cents)] rfl (wt rfl) ?_
        refine h_nil ?_
        refine wH_seq ?_
        refine wH_block ?_
        refine wH_seq ?_
        obtain ⟨v_14, h_15, hc_9⟩ := bind_some hc_9
        refine wH_join (β := Unit) (fun _ => ([(0, (vL Campaign.enc l_1)), (3, (vI (k_3 : Int))), (4, (.ref n_13 0 0)), (9, (vL Campaign.enc l_1)), (10, (vI (l_1.length : Int))), (11, (vI (k_3 : Int))), (16, (vB v_14))] : List (Nat × V))) (fun _ => ([(n_13, some (.cells 8 [(vS x_5.Key), (vS x_5.Class), (vI x_5.Time.From), (vI x_5.Time.To), (vL eS x_5.Tags), (vI x_5.Goal), (vI x_5.Most), (vI x_5.Cents)]))] : Hp)) (fun _ => True) ?_ ?_
        · refine wH_region ?_
          refine h_far pl37_0 rfl 0 rfl (wt rfl) ?_
          refine h_ldr 0 0 (.inl rfl) (fun _ _ _ => trivial) sz9 ag9 rfl rfl (vS x_5.Key) rfl (wt rfl) ?_
          obtain ⟨r_16, hr_17, h_15⟩ := bind_some h_15
          refine h_call0 (kit_IsKey_ok hr_17) rfl hb42 rfl rfl rfl rfl (wt rfl) ?_
          refine h_op (vB (!r_16)) (wt rfl) rfl ?_
          rcases cond_some h_15 with ⟨hc_18, h_15⟩ | ⟨hc_18, h_15⟩
          · refine h_movb rfl hc_18 (wt rfl) ?_
            refine h_skip (wg rfl rfl rfl) ?_
            refine h_skip (wg rfl rfl rfl) ?_
            refine h_skip (wg rfl rfl rfl) ?_
            refine h_skip (wg rfl rfl rfl) ?_
            refine h_skip (wn rfl rfl) ?_
            refine h_skip (wn rfl rfl) ?_
            refine h_skip (wn rfl rfl) ?_
            refine h_skip (wn rfl rfl) ?_
            refine h_skip (wg rfl rfl rfl) ?_
            refine h_op (vB true) (wt rfl) rfl ?_
            refine h_op (vB true) (wt rfl) rfl ?_
            refine h_nil ?_
            replace h_15 := some_inj h_15
            subst h_15
            exact cut_mk () trivial rfl rfl
          · refine h_movb rfl hc_18 (wt rfl) ?_
            refine h_far pl37_1 rfl 1 rfl (wg rfl rfl rfl) ?_
            refine h_ldr 0 0 (.inl rfl) (fun _ _ _ => trivial) sz9 ag9 rfl rfl (vS x_5.Class) rfl (wg rfl rfl rfl) ?_
            refine h_op (vB (sNe x_5.Class (⟨#[]⟩ : ByteArray))) (wg rfl rfl rfl) rfl ?_
            rcases cond_some h_15 with ⟨hc_19, h_15⟩ | ⟨hc_19, h_15⟩
            · refine h_movb rfl hc_19 (wg rfl rfl rfl) ?_
              refine h_far pl37_1 rfl 1 rfl (wg rfl rfl rfl) ?_
              refine h_ldr 0 0 (.inl rfl) (fun _ _ _ => trivial) sz9 ag9 rfl rfl (vS x_5.Class) rfl (wg rfl rfl rfl) ?_
              obtain ⟨r_20, hr_21, h_15⟩ := bind_some h_15
              refine h_call0 (kit_IsKey_ok hr_21) rfl hb42 rfl rfl rfl rfl (wg rfl rfl rfl) ?_
              refine h_op (vB (!r_20)) (wg rfl rfl rfl) rfl ?_
              refine h_op (vB (!r_20)) (wg rfl rfl rfl) rfl ?_
              refine h_op (vB (!r_20)) (wt rfl) rfl ?_
              refine h_op (vB (!r_20)) (wt rfl) rfl ?_
              refine h_nil ?_
              replace h_15 := some_inj h_15
              subst h_15
              exact cut_mk () trivial rfl rfl
            · refine h_movb rfl hc_19 (wg rfl rfl rfl) ?_
              refine h_skip (wg rfl rfl rfl) ?_
              refine h_skip (wg rfl rfl rfl) ?_
              refine h_skip (wg rfl rfl rfl) ?_
              refine h_skip (wg rfl rfl rfl) ?_
              refine h_op (vB false) (wg rfl rfl rfl) rfl ?_
              refine h_op (vB false) (wt rfl) rfl ?_
              refine h_op (vB false) (wt rfl) rfl ?_
              refine h_nil ?_
              replace h_15 := some_inj h_15
              subst h_15
              exact cut_mk () trivial rfl rfl
        · rintro ⟨⟩ _ sl_ H_ hp_ hq_
          refine wH_at _ hp_ hq_ ?_
          rcases cond_some hc_9 with ⟨hc_22, hc_9⟩ | ⟨hc_22, hc_9⟩
          · refine wH_ift rfl hc_22 ?_
            refine wH_seq ?_
            refine wH_region ?_
            refine h_op (vI 5) (wt rfl) rfl ?_
            refine h_nil ?_
            replace hc_9 := some_inj hc_9
            subst hc_9
            replace hL_10 := some_inj hL_10
            subst hL_10
            replace hF := some_inj hF
            subst hF
            refine wH_ret ?_
            exact fin0 (.inr rfl) [(vI 5)] ⟨rfl, trivial⟩ rfl rfl rfl
          · refine wH_iff rfl hc_22 ?_
            refine wH_seq ?_
            obtain ⟨v_23, h_24, hc_9⟩ := bind_some hc_9
            refine wH_join (β := Unit) (fun _ => ([(0, (vL Campaign.enc l_1)), (4, (.ref n_13 0 0)), (9, (vL Campaign.enc l_1)), (10, (vI (l_1.length : Int))), (11, (vI (k_3 : Int))), (32, (vB v_23))] : List (Nat × V))) (fun _ => ([(n_13, some (.cells 8 [(vS x_5.Key), (vS x_5.Class), (vI x_5.Time.From), (vI x_5.Time.To), (vL eS x_5.Tags), (vI x_5.Goal), (vI x_5.Most), (vI x_5.Cents)]))] : Hp)) (fun _ => True) ?_ ?_
            · refine wH_draws ?_
              refine h_op (vI (k_3 : Int)) (wt rfl) rfl ?_
              refine h_op (vB (decide ((k_3 : Int) > 0))) (wt rfl) rfl ?_
              rcases cond_some h_24 with ⟨hc_25, h_24⟩ | ⟨hc_25, h_24⟩
              · refine h_movb rfl hc_25 (wt rfl) ?_
                refine h_far pl37_0 rfl 0 rfl (wg rfl rfl rfl) ?_
                refine h_ldr 4 0 (.inr (by kernel_rfl)) (fun _ _ ag => trivial) sz9 ag9 rfl rfl (vS x_5.Key) rfl (wg rfl rfl rfl) ?_
                refine h_op (vL Campaign.enc l_1) (wg rfl rfl rfl) rfl ?_
                refine h_op (vI (k_3 : Int)) (wg rfl rfl rfl) rfl ?_
                refine h_op (vI (w64 ((k_3 : Int) - 1))) (wg rfl rfl rfl) rfl ?_
                obtain ⟨y_26, hy_27, h_24⟩ := bind_some h_24
                refine h_ia es27 rfl rfl hy_27 rfl (wg rfl rfl rfl) ?_
                refine h_fac pl37_0 rfl [.str y_26.Key, .str y_26.Class, .int .i64 y_26.Time.From, .int .i64 y_26.Time.To, dl eS y_26.Tags, .int .i64 y_26.Goal, .int .i64 y_26.Most, .int .i64 y_26.Cents] rfl rfl (wg rfl rfl rfl) ?_
                refine h_ldc sz9 ag9 rfl (vS y_26.Key) rfl (wg rfl rfl rfl) ?_
                refine h_op (vB (sLe x_5.Key y_26.Key)) (wg rfl rfl rfl) rfl ?_
                refine h_op (vB (sLe x_5.Key y_26.Key)) (wt rfl) rfl ?_
                refine h_op (vB (sLe x_5.Key y_26.Key)) (wt rfl) rfl ?_
                refine h_nil ?_
                replace h_24 := some_inj h_24
                subst h_24
                exact cut_mk () trivial rfl rfl
              · refine h_movb rfl hc_25 (wt rfl) ?_
                refine h_skip (wg rfl rfl rfl) ?_
                refine h_skip (wg rfl rfl rfl) ?_
                refine h_skip (wg rfl rfl rfl) ?_
                refine h_skip (wg rfl rfl rfl) ?_
                refine h_skip (wg rfl rfl rfl) ?_
                refine h_skip (wg rfl rfl rfl) ?_
                refine h_skip (wg rfl rfl rfl) ?_
                refine h_skip (wg rfl rfl rfl) ?_
                refine h_skip (wg rfl rfl rfl) ?_
                refine h_op (vB false) (wt rfl) rfl ?_
                refine h_op (vB false) (wt rfl) rfl ?_
                refine h_nil ?_
                replace h_24 := some_inj h_24
                subst h_24
                exact cut_mk () trivial rfl rfl
            · rintro ⟨⟩ _ sl_ H_ hp_ hq_
              refine wH_at _ hp_ hq_ ?_
              rcases cond_some hc_9 with ⟨hc_28, hc_9⟩ | ⟨hc_28, hc_9⟩
              · refine wH_ift rfl hc_28 ?_
                refine wH_seq ?_
                refine wH_region ?_
                refine h_op (vI 7) (wt rfl) rfl ?_
                refine h_nil ?_
                replace hc_9 := some_inj hc_9
                subst hc_9
                replace hL_10 := some_inj hL_10
                subst hL_10
                replace hF := some_inj hF
                subst hF
                refine wH_ret ?_
                exact fin0 (.inr rfl) [(vI 7)] ⟨rfl, trivial⟩ rfl rfl rfl
              · refine wH_iff rfl hc_28 ?_
                refine wH_seq ?_
                obtain ⟨v_29, h_30, hc_9⟩ := bind_some hc_9
                refine wH_join (β := Unit) (fun _ => ([(0, (vL Campaign.enc l_1)), (4, (.ref n_13 0 0)), (9, (vL Campaign.enc l_1)), (10, (vI (l_1.length : Int))), (11, (vI (k_3 : Int))), (46, (vB v_29))] : List (Nat × V))) (fun _ => ([(n_13, some (.cells 8 [(vS x_5.Key), (vS x_5.Class), (vI x_5.Time.From), (vI x_5.Time.To), (vL eS x_5.Tags), (vI x_5.Goal), (vI x_5.Most), (vI x_5.Cents)]))] : Hp)) (fun _ => True) ?_ ?_
                · refine wH_region ?_
                  refine h_far pl37_2 rfl 2 rfl (wt rfl) ?_
                  refine h_ldr 0 0 (.inl rfl) (fun _ _ _ => trivial) sz34 ag34 rfl rfl (.d (.agg (Window.enc x_5.Time))) rfl (wt rfl) ?_
                  obtain ⟨r_31, hr_32, h_30⟩ := bind_some h_30
                  refine h_call0 (booking_isTime_ok hr_32) rfl hb43 rfl rfl rfl rfl (wt rfl) ?_
                  refine h_op (vB (!r_31)) (wt rfl) rfl ?_
                  rcases cond_some h_30 with ⟨hc_33, h_30⟩ | ⟨hc_33, h_30⟩
                  · refine h_movb rfl hc_33 (wt rfl) ?_
                    refine h_skip (wg rfl rfl rfl) ?_
                    refine h_skip (wg rfl rfl rfl) ?_
                    refine h_skip (wg rfl rfl rfl) ?_
                    refine h_op (vB true) (wt rfl) rfl ?_
                    refine h_op (vB true) (wt rfl) rfl ?_
                    refine h_skip (wg rfl rfl rfl) ?_
                    refine h_skip (wg rfl rfl rfl) ?_
                    refine h_skip (wg rfl rfl rfl) ?_
                    refine h_op (vB true) (wt rfl) rfl ?_
                    refine h_op (vB true) (wt rfl) rfl ?_
                    refine h_skip (wg rfl rfl rfl) ?_
                    refine h_skip (wg rfl rfl rfl) ?_
                    refine h_skip (wg rfl rfl rfl) ?_
                    refine h_op (vB true) (wt rfl) rfl ?_
                    refine h_op (vB true) (wt rfl) rfl ?_
                    refine h_nil ?_
                    replace h_30 := some_inj h_30
                    subst h_30
                    exact cut_mk () trivial rfl rfl
                  · refine h_movb rfl hc_33 (wt rfl) ?_
                    refine h_far pl37_4 rfl 5 rfl (wg rfl rfl rfl) ?_
                    refine h_ldr 0 0 (.inl rfl) (fun _ _ _ => trivial) sz3 ag3 rfl rfl (vI x_5.Goal) rfl (wg rfl rfl rfl) ?_
                    obtain ⟨r_34, hr_35, h_30⟩ := bind_some h_30
                    refine h_call0 (kit_Outside_ok hr_35) rfl hb44 rfl rfl rfl rfl (wg rfl rfl rfl) ?_
                    refine h_op (vB r_34) (wt rfl) rfl ?_
                    rcases cond_some h_30 with ⟨hc_36, h_30⟩ | ⟨hc_36, h_30⟩
                    · refine h_movb rfl hc_36 (wt rfl) ?_
                      refine h_skip (wg rfl rfl rfl) ?_
                      refine h_skip (wg rfl rfl rfl) ?_
                      refine h_skip (wg rfl rfl rfl) ?_
                      refine h_op (vB true) (wt rfl) rfl ?_
                      refine h_op (vB true) (wt rfl) rfl ?_
                      refine h_skip (wg rfl rfl rfl) ?_
                      refine h_skip (wg rfl rfl rfl) ?_
                      refine h_skip (wg rfl rfl rfl) ?_
                      refine h_op (vB true) (wt rfl) rfl ?_
                      refine h_op (vB true) (wt rfl) rfl ?_
                      refine h_nil ?_
                      replace h_30 := some_inj h_30
                      subst h_30
                      exact cut_mk () trivial rfl rfl
                    · refine h_movb rfl hc_36 (wt rfl) ?_
                      refine h_far pl37_5 rfl 6 rfl (wg rfl rfl rfl) ?_
                      refine h_ldr 0 0 (.inl rfl) (fun _ _ _ => trivial) sz3 ag3 rfl rfl (vI x_5.Most) rfl (wg rfl rfl rfl) ?_
                      obtain ⟨r_37, hr_38, h_30⟩ := bind_some h_30
                      refine h_call0 (kit_Outside_ok hr_38) rfl hb44 rfl rfl rfl rfl (wg rfl rfl rfl) ?_
                      refine h_op (vB r_37) (wt rfl) rfl ?_
                      rcases cond_some h_30 with ⟨hc_39, h_30⟩ | ⟨hc_39, h_30⟩
                      · refine h_movb rfl hc_39 (wt rfl) ?_
                        refine h_skip (wg rfl rfl rfl) ?_
                        refine h_skip (wg rfl rfl rfl) ?_
                        refine h_skip (wg rfl rfl rfl) ?_
                        refine h_op (vB true) (wt rfl) rfl ?_
                        refine h_op (vB true) (wt rfl) rfl ?_
                        refine h_nil ?_
                        replace h_30 := some_inj h_30
                        subst h_30
                        exact cut_mk () trivial rfl rfl
                      · refine h_movb rfl hc_39 (wt rfl) ?_
                        refine h_far pl37_6 rfl 7 rfl (wg rfl rfl rfl) ?_
                        refine h_ldr 0 0 (.inl rfl) (fun _ _ _ => trivial) sz3 ag3 rfl rfl (vI x_5.Cents) rfl (wg rfl rfl rfl) ?_
                        obtain ⟨r_40, hr_41, h_30⟩ := bind_some h_30
                        refine h_call0 (kit_Outside_ok hr_41) rfl hb44 rfl rfl rfl rfl (wg rfl rfl rfl) ?_
                        refine h_op (vB r_40) (wt rfl) rfl ?_
                        refine h_op (vB r_40) (wt rfl) rfl ?_
                        refine h_nil ?_
                        replace h_30 := some_inj h_30
                        subst h_30
                        exact cut_mk () trivial rfl rfl
                · rintro ⟨⟩ _ sl_ H_ hp_ hq_
                  refine wH_at _ hp_ hq_ ?_
                  rcases cond_some hc_9 with ⟨hc_42, hc_9⟩ | ⟨hc_42, hc_9⟩
                  · refine wH_ift rfl hc_42 ?_
                    refine wH_seq ?_
                    refine wH_region ?_
                    refine h_op (vI 1) (wt rfl) rfl ?_
                    refine h_nil ?_
                    replace hc_9 := some_inj hc_9
                    subst hc_9
                    replace hL_10 := some_inj hL_10
                    subst hL_10
                    replace hF := some_inj hF
                    subst hF
                    refine wH_ret ?_
                    exact fin0 (.inr rfl) [(vI 1)] ⟨rfl, trivial⟩ rfl rfl rfl
                  · refine wH_iff rfl hc_42 ?_
                    refine wH_skip ?_
                    refine wH_seq ?_
                    refine wH_region ?_
                    refine h_far pl37_3 rfl 4 rfl (wt rfl) ?_
                    refine h_ldr 0 0 (.inl rfl) (fun _ _ _ => trivial) sz35 ag35 rfl rfl (vL eS x_5.Tags) rfl (wt rfl) ?_
                    obtain ⟨r_43, hr_44, hc_9⟩ := bind_some hc_9
                    refine h_call0 (booking_tagsFault_ok hr_44) rfl hb45 rfl rfl rfl rfl (wt rfl) ?_
                    refine h_op (vI r_43) (wt rfl) rfl ?_
                    refine h_nil ?_
                    refine wH_seq ?_
                    refine wH_region ?_
                    refine h_op (vI r_43) (wt rfl) rfl ?_
                    refine h_op (vB (r_43 != 0)) (wt rfl) rfl ?_
                    refine h_nil ?_
                    rcases cond_some hc_9 with ⟨hc_45, hc_9⟩ | ⟨hc_45, hc_9⟩
                    · refine wH_ift rfl hc_45 ?_
                      refine wH_seq ?_
                      refine wH_region ?_
                      refine h_op (vI r_43) (wt rfl) rfl ?_
                      refine h_op (vI r_43) (wt rfl) rfl ?_
                      refine h_nil ?_
                      replace hc_9 := some_inj hc_9
                      subst hc_9
                      replace hL_10 := some_inj hL_10
                      subst hL_10
                      replace hF := some_inj hF
                      subst hF
                      refine wH_ret ?_
                      exact fin0 (.inr rfl) [(vI r_43)] ⟨rfl, trivial⟩ rfl rfl rfl
                    · refine wH_iff rfl hc_45 ?_
                      refine wH_skip ?_
                      refine wH_region ?_
                      refine h_opw (w64_next hD_6 hn_7) (wt rfl) rfl ?_
                      refine h_op (vI ((k_3 + 1 : Nat) : Int)) (wt rfl) rfl ?_
                      refine h_nil ?_
                      replace hc_9 := some_inj hc_9
                      subst hc_9
                      exact loop_mk (k_3 + 1, l_4, ()) ⟨hL_10, drop_next hD_6⟩ (Nat.lt_succ_self _) rfl rfl
    · rintro s_8 ho_ sl_ H_ hp_ hq_
      subst ho_
      refine wH_at _ hp_ hq_ ?_
      refine wH_seq ?_
      refine wH_region ?_
      refine h_op (vI 0) (wt rfl) rfl ?_
      refine h_nil ?_
      replace hF := some_inj hF
      subst hF
      refine wH_ret ?_
      exact fin0 (.inr rfl) [(vI 0)] ⟨rfl, trivial⟩ rfl rfl rfl
theorem booking_checkBoth_ok {spots_1 : (List Spot)} {l_2 : (List Campaign)} {r : Int} (hF : booking_checkBoth spots_1 l_2 = some r) :
    FnM Try.prog 49 [(vL Spot.enc spots_1), (vL Campaign.enc l_2)] [] (vI r) [] := by
  refine FnM.of_wH ⟨Try.prog, 13, [], []⟩ rfl Try.func49 rfl rfl (Nat.le_of_ble_eq_true rfl) (by kernel_rfl) ?_
  unfold booking_checkBoth at hF
  refine wH_seq ?_
  refine wH_region ?_
  refine h_op (vI 0) (wt rfl) rfl ?_
  refine h_nil ?_
  refine wH_seq ?_
  refine wH_seq ?_
  refine wH_region ?_
  refine h_op (vL Spot.enc spots_1) (wt rfl) rfl ?_
  obtain ⟨r_3, hr_4, hF⟩ := bind_some hF
  refine h_call0 (booking_CheckSpots_ok hr_4) rfl hb8 rfl rfl rfl rfl (wt rfl) ?_
  refine h_op (vI r_3) (wt rfl) rfl ?_
  refine h_nil ?_
  refine wH_seq ?_
  refine wH_region ?_
  refine h_op (vI r_3) (wt rfl) rfl ?_
  refine h_op (vB (r_3 != 0)) (wt rfl) rfl ?_
  refine h_nil ?_
  rcases cond_some hF with ⟨hc_5, hF⟩ | ⟨hc_5, hF⟩
  · refine wH_ift rfl hc_5 ?_
    refine wH_seq ?_
    refine wH_region ?_
    refine h_op (vI r_3) (wt rfl) rfl ?_
    refine h_op (vI r_3) (wt rfl) rfl ?_
    refine h_nil ?_
    replace hF := some_inj hF
    subst hF
    refine wH_ret ?_
    exact fin0 (.inr rfl) [(vI r_3)] ⟨rfl, trivial⟩ rfl rfl rfl
  · refine wH_iff rfl hc_5 ?_
    refine wH_skip ?_
    refine wH_seq ?_
    refine wH_region ?_
    refine h_op (vL Campaign.enc l_2) (wt rfl) rfl ?_
    obtain ⟨r_6, hr_7, hF⟩ := bind_some hF
    refine h_call0 (booking_CheckCampaigns_ok hr_7) rfl hb10 rfl rfl rfl rfl (wt rfl) ?_
    refine h_op (vI r_6) (wt rfl) rfl ?_
    refine h_nil ?_
    replace hF := some_inj hF
    subst hF
    refine wH_ret ?_
    exact fin0 (.inr rfl) [(vI r_6)] ⟨rfl, trivial⟩ rfl rfl rfl
theorem cmp_isNaN_string_ok {x_1 : ByteArray} {r : Bool} (hF : cmp_isNaN_string x_1 = some r) :
    FnM Try.prog 101 [(vS x_1)] [] (vB r) [] := by
  refine FnM.of_wH ⟨Try.prog, 6, [], []⟩ rfl Try.func101 rfl rfl (Nat.le_of_ble_eq_true rfl) (by kernel_rfl) ?_
  unfold cmp_isNaN_string at hF
  refine wH_seq ?_
  refine wH_region ?_
  refine h_op (vB false) (wt rfl) rfl ?_
  refine h_nil ?_
  refine wH_seq ?_
  refine wH_region ?_
  refine h_op (vS x_1) (wt rfl) rfl ?_
  refine h_op (vS x_1) (wt rfl) rfl ?_
  refine h_op (vB (sNe x_1 x_1)) (wt rfl) rfl ?_
  refine h_op (vB (sNe x_1 x_1)) (wt rfl) rfl ?_
  refine h_nil ?_
  replace hF := some_inj hF
  subst hF
  refine wH_ret ?_
  exact fin0 (.inr rfl) [(vB (sNe x_1 x_1))] ⟨rfl, trivial⟩ rfl rfl rfl
theorem cmp_Less_string_ok {x_1 : ByteArray} {y_2 : ByteArray} {r : Bool} (hF : cmp_Less_string x_1 y_2 = some r) :
    FnM Try.prog 99 [(vS x_1), (vS y_2)] [] (vB r) [] := by
  refine FnM.of_wH ⟨Try.prog, 17, [], []⟩ rfl Try.func99 rfl rfl (Nat.le_of_ble_eq_true rfl) (by kernel_rfl) ?_
  unfold cmp_Less_string at hF
  refine wH_seq ?_
  refine wH_region ?_
  refine h_op (vB false) (wt rfl) rfl ?_
  refine h_nil ?_
  refine wH_seq ?_
  obtain ⟨v_3, h_4, hF⟩ := bind_some hF
  refine wH_join (β := Unit) (fun _ => ([(4, (vB v_3))] : List (Nat × V))) (fun _ => ([] : Hp)) (fun _ => True) ?_ ?_
  · refine wH_region ?_
    refine h_op (vS x_1) (wt rfl) rfl ?_
    obtain ⟨r_5, hr_6, h_4⟩ := bind_some h_4
    refine h_call0 (cmp_isNaN_string_ok hr_6) rfl hb101 rfl rfl rfl rfl (wt rfl) ?_
    rcases cond_some h_4 with ⟨hc_7, h_4⟩ | ⟨hc_7, h_4⟩
    · refine h_movb rfl hc_7 (wt rfl) ?_
      refine h_op (vS y_2) (wg rfl rfl rfl) rfl ?_
      obtain ⟨r_8, hr_9, h_4⟩ := bind_some h_4
      refine h_call0 (cmp_isNaN_string_ok hr_9) rfl hb101 rfl rfl rfl rfl (wg rfl rfl rfl) ?_
      refine h_op (vB (!r_8)) (wg rfl rfl rfl) rfl ?_
      refine h_op (vB (!r_8)) (wt rfl) rfl ?_
      rcases cond_some h_4 with ⟨hc_10, h_4⟩ | ⟨hc_10, h_4⟩
      · refine h_movb rfl hc_10 (wt rfl) ?_
        refine h_skip (wg rfl rfl rfl) ?_
        refine h_skip (wg rfl rfl rfl) ?_
        refine h_skip (wg rfl rfl rfl) ?_
        refine h_op (vB true) (wt rfl) rfl ?_
        refine h_op (vB true) (wt rfl) rfl ?_
        refine h_nil ?_
        replace h_4 := some_inj h_4
        subst h_4
        exact cut_mk () trivial rfl rfl
      · refine h_movb rfl hc_10 (wt rfl) ?_
        refine h_op (vS x_1) (wg rfl rfl rfl) rfl ?_
        refine h_op (vS y_2) (wg rfl rfl rfl) rfl ?_
        refine h_op (vB (sLt x_1 y_2)) (wg rfl rfl rfl) rfl ?_
        refine h_op (vB (sLt x_1 y_2)) (wt rfl) rfl ?_
        refine h_op (vB (sLt x_1 y_2)) (wt rfl) rfl ?_
        refine h_nil ?_
        replace h_4 := some_inj h_4
        subst h_4
        exact cut_mk () trivial rfl rfl
    · refine h_movb rfl hc_7 (wt rfl) ?_
      refine h_skip (wg rfl rfl rfl) ?_
      refine h_skip (wg rfl rfl rfl) ?_
      refine h_skip (wg rfl rfl rfl) ?_
      refine h_op (vB false) (wt rfl) rfl ?_
      refine h_op (vB false) (wt rfl) rfl ?_
      refine h_op (vS x_1) (wg rfl rfl rfl) rfl ?_
      refine h_op (vS y_2) (wg rfl rfl rfl) rfl ?_
      refine h_op (vB (sLt x_1 y_2)) (wg rfl rfl rfl) rfl ?_
      refine h_op (vB (sLt x_1 y_2)) (wt rfl) rfl ?_
      refine h_op (vB (sLt x_1 y_2)) (wt rfl) rfl ?_
      refine h_nil ?_
      replace h_4 := some_inj h_4
      subst h_4
      exact cut_mk () trivial rfl rfl
  · rintro ⟨⟩ _ sl_ H_ hp_ hq_
    refine wH_at _ hp_ hq_ ?_
    replace hF := some_inj hF
    subst hF
    refine wH_ret ?_
    exact fin0 (.inr rfl) [(vB v_3)] ⟨rfl, trivial⟩ rfl rfl rfl
end Go.Proofs.Ytkjnmkompibhgaa.Law
