/-
  The machine computes these plain functions (written by a program of ours).
-/
import Derived.Test.YtkjnmkompibhgaaFacts
import Derived.Test.YtkjnmkompibhgaaDefs
import Derived.Test.YtkjnmkompibhgaaPf2
open Go Go.Eng Go.Proofs
namespace Go.Proofs.Ytkjnmkompibhgaa.Law
set_option maxRecDepth 100000
set_option linter.unusedVariables false
set_option maxHeartbeats 1000000
theorem slices_isNaN_string_ok {x_1 : ByteArray} {r : Bool} (hF : slices_isNaN_string x_1 = some r) :
    FnM Try.prog 100 [(vS x_1)] [] (vB r) [] := by
  refine FnM.of_wH ⟨Try.prog, 6, [], []⟩ rfl Try.func100 rfl rfl (Nat.le_of_ble_eq_true rfl) (by kernel_rfl) ?_
  unfold slices_isNaN_string at hF
  refine wH_seq ?_
  refine wH_region ?_
  refine h_op (vB false) (wt rfl) rfl ?_
  refine h_nil ?_
  refine wH_seq ?_
  refine wH_region ?_
  refine h_op (vS x_1) (wt rfl) rfl ?_
  refine h_op (vS x_1) (wt rfl) rfl ?_
  refine h_op (vB (sNe x_1 x_1)) (wt rfl) rfl ?_
  refine h_op (vB (sNe x_1 x_1)) (wt rfl) rfl ?_
  refine h_nil ?_
  replace hF := some_inj hF
  subst hF
  refine wH_ret ?_
  exact fin0 (.inr rfl) [(vB (sNe x_1 x_1))] ⟨rfl, trivial⟩ rfl rfl rfl
theorem slices_BinarySearch_string_string_ok {x_1 : (List ByteArray)} {target_2 : ByteArray} {r : Int × Bool} (hF : slices_BinarySearch_string_string x_1 target_2 = some r) :
    FnM Try.prog 87 [(vL eS x_1), (vS target_2)] [] (.tup [(vI r.1), (vB r.2)]) [] := by
  refine FnM.of_wH ⟨Try.prog, 54, [], []⟩ rfl Try.func87 rfl rfl (Nat.le_of_ble_eq_true rfl) (by kernel_rfl) ?_
  unfold slices_BinarySearch_string_string at hF
  refine wH_seq ?_
  refine wH_region ?_
  refine h_op (vI 0) (wt rfl) rfl ?_
  refine h_op (vB false) (wt rfl) rfl ?_
  refine h_nil ?_
  refine wH_seq ?_
  refine wH_region ?_
  refine h_op (vL eS x_1) (wt rfl) rfl ?_
  refine h_len un35 rfl (wt rfl) ?_
  refine h_op (vI (x_1.length : Int)) (wt rfl) rfl ?_
  refine h_nil ?_
  refine wH_seq ?_
  refine wH_region ?_
  refine h_op (vI (x_1.length : Int)) (wt rfl) rfl ?_
  refine h_op (vI 0) (wt rfl) rfl ?_
  refine h_op (vI (x_1.length : Int)) (wt rfl) rfl ?_
  refine h_nil ?_
  refine wH_seq ?_
  obtain ⟨o_11, hj_12, hF⟩ := bind_some hF
  obtain ⟨nq_34, hj_12⟩ := loopO_iter hj_12
  refine wH_join (β := (Int × Int)) (fun (s_8 : Int × Int) => ([(0, (vL eS x_1)), (1, (vS target_2)), (6, (vI (x_1.length : Int))), (7, (vI s_8.1))] : List (Nat × V))) (fun (s_8 : Int × Int) => ([] : Hp)) (fun p => o_11 = .go p) ?_ ?_
  · refine wH_block ?_
    refine wH_loop (β := Nat × (Int × Int)) (fun p => (fun (k_3 : Nat) (s_8 : Int × Int) => ([(0, (vL eS x_1)), (1, (vS target_2)), (6, (vI (x_1.length : Int))), (7, (vI s_8.1)), (8, (vI s_8.2))] : List (Nat × V))) p.1 p.2) (fun p => (fun (k_3 : Nat) (s_8 : Int × Int) => ([] : Hp)) p.1 p.2) (fun p => iterN (fun s => slices_BinarySearch_string_string_L1 x_1 target_2 s) p.1 p.2 = some o_11) (fun p => p.1) (nq_34, (0, (x_1.length : Int))) hj_12 rfl rfl ?_
    rintro ⟨k_3, s_8⟩ hL_10
    dsimp only at hL_10
    cases k_3 with
    | zero => cases hL_10
    | succ k_3 =>
      obtain ⟨c_, hc_9, hL_10⟩ := bind_some hL_10
      unfold slices_BinarySearch_string_string_L1 at hc_9
      refine wH_seq ?_
      refine wH_seq ?_
      refine wH_region ?_
      refine h_op (vI s_8.1) (wt rfl) rfl ?_
      refine h_op (vI s_8.2) (wt rfl) rfl ?_
      refine h_op (vB (decide (s_8.1 < s_8.2))) (wt rfl) rfl ?_
      refine h_nil ?_
      rcases cond_some hc_9 with ⟨hc_13, hc_9⟩ | ⟨hc_13, hc_9⟩
      · refine wH_ift rfl hc_13 ?_
        refine wH_skip ?_
        refine wH_block ?_
        refine wH_seq ?_
        refine wH_region ?_
        refine h_op (vI s_8.1) (wt rfl) rfl ?_
        refine h_op (vI s_8.2) (wt rfl) rfl ?_
        refine h_op (vI (w64 (s_8.1 + s_8.2))) (wt rfl) rfl ?_
        refine h_conv un3 un128 rfl (wt rfl) ?_
        obtain ⟨q_14, hz_15, hc_9⟩ := bind_some hc_9
        refine h_shr rfl rfl hz_15 (wt rfl) ?_
        refine h_conv un128 un3 rfl (wt rfl) ?_
        refine h_op (vI (w64 q_14)) (wt rfl) rfl ?_
        refine h_nil ?_
        refine wH_seq ?_
        refine wH_region ?_
        refine h_op (vL eS x_1) (wt rfl) rfl ?_
        refine h_op (vI (w64 q_14)) (wt rfl) rfl ?_
        obtain ⟨y_16, hy_17, hc_9⟩ := bind_some hc_9
        refine h_ia es35 rfl rfl hy_17 rfl (wt rfl) ?_
        refine h_ldc sz9 ag9 rfl (vS y_16) rfl (wt rfl) ?_
        refine h_op (vS target_2) (wt rfl) rfl ?_
        obtain ⟨r_18, hr_19, hc_9⟩ := bind_some hc_9
        refine h_call0 (cmp_Less_string_ok hr_19) rfl hb99 rfl rfl rfl rfl (wt rfl) ?_
        refine h_nil ?_
        rcases cond_some hc_9 with ⟨hc_20, hc_9⟩ | ⟨hc_20, hc_9⟩
        · refine wH_ift rfl hc_20 ?_
          refine wH_region ?_
          refine h_op (vI (w64 q_14)) (wt rfl) rfl ?_
          refine h_op (vI (w64 ((w64 q_14) + 1))) (wt rfl) rfl ?_
          refine h_op (vI (w64 ((w64 q_14) + 1))) (wt rfl) rfl ?_
          refine h_nil ?_
          replace hc_9 := some_inj hc_9
          subst hc_9
          exact loop_mk (k_3, ((w64 ((w64 q_14) + 1)), s_8.2)) hL_10 (Nat.lt_succ_self _) rfl rfl
        · refine wH_iff rfl hc_20 ?_
          refine wH_region ?_
          refine h_op (vI (w64 q_14)) (wt rfl) rfl ?_
          refine h_op (vI (w64 q_14)) (wt rfl) rfl ?_
          refine h_nil ?_
          replace hc_9 := some_inj hc_9
          subst hc_9
          exact loop_mk (k_3, (s_8.1, (w64 q_14))) hL_10 (Nat.lt_succ_self _) rfl rfl
      · refine wH_iff rfl hc_13 ?_
        refine wH_exit ?_
        replace hc_9 := some_inj hc_9
        subst hc_9
        replace hL_10 := some_inj hL_10
        subst hL_10
        exact cut_mk ((s_8.1, s_8.2)) rfl rfl rfl
  · rintro s_8 ho_ sl_ H_ hp_ hq_
    subst ho_
    refine wH_at _ hp_ hq_ ?_
    refine wH_seq ?_
    obtain ⟨v_21, h_22, hF⟩ := bind_some hF
    refine wH_join (β := Unit) (fun _ => ([(4, (vI s_8.1)), (5, (vB v_21))] : List (Nat × V))) (fun _ => ([] : Hp)) (fun _ => True) ?_ ?_
    · refine wH_region ?_
      refine h_op (vI s_8.1) (wt rfl) rfl ?_
      refine h_op (vI s_8.1) (wt rfl) rfl ?_
      refine h_op (vI (x_1.length : Int)) (wt rfl) rfl ?_
      refine h_op (vB (decide (s_8.1 < (x_1.length : Int)))) (wt rfl) rfl ?_
      rcases cond_some h_22 with ⟨hc_23, h_22⟩ | ⟨hc_23, h_22⟩
      · refine h_movb rfl hc_23 (wt rfl) ?_
        refine h_op (vL eS x_1) (wg rfl rfl rfl) rfl ?_
        refine h_op (vI s_8.1) (wg rfl rfl rfl) rfl ?_
        obtain ⟨y_24, hy_25, h_22⟩ := bind_some h_22
        refine h_ia es35 rfl rfl hy_25 rfl (wg rfl rfl rfl) ?_
        refine h_ldc sz9 ag9 rfl (vS y_24) rfl (wg rfl rfl rfl) ?_
        refine h_op (vS target_2) (wg rfl rfl rfl) rfl ?_
        refine h_op (vB (sEq y_24 target_2)) (wg rfl rfl rfl) rfl ?_
        rcases cond_some h_22 with ⟨hc_26, h_22⟩ | ⟨hc_26, h_22⟩
        · refine h_movb rfl hc_26 (wg rfl rfl rfl) ?_
          refine h_skip (wg rfl rfl rfl) ?_
          refine h_skip (wg rfl rfl rfl) ?_
          refine h_skip (wg rfl rfl rfl) ?_
          refine h_skip (wg rfl rfl rfl) ?_
          refine h_skip (wg rfl rfl rfl) ?_
          refine h_skip (wg rfl rfl rfl) ?_
          refine h_skip (wn rfl rfl) ?_
          refine h_skip (wn rfl rfl) ?_
          refine h_skip (wg rfl rfl rfl) ?_
          refine h_op (vB true) (wg rfl rfl rfl) rfl ?_
          refine h_op (vB true) (wt rfl) rfl ?_
          refine h_op (vI s_8.1) (wt rfl) rfl ?_
          refine h_op (vB true) (wt rfl) rfl ?_
          refine h_nil ?_
          replace h_22 := some_inj h_22
          subst h_22
          exact cut_mk () trivial rfl rfl
        · refine h_movb rfl hc_26 (wg rfl rfl rfl) ?_
          refine h_op (vL eS x_1) (wg rfl rfl rfl) rfl ?_
          refine h_op (vI s_8.1) (wg rfl rfl rfl) rfl ?_
          obtain ⟨y_27, hy_28, h_22⟩ := bind_some h_22
          refine h_ia es35 rfl rfl hy_28 rfl (wg rfl rfl rfl) ?_
          refine h_ldc sz9 ag9 rfl (vS y_27) rfl (wg rfl rfl rfl) ?_
          obtain ⟨r_29, hr_30, h_22⟩ := bind_some h_22
          refine h_call0 (slices_isNaN_string_ok hr_30) rfl hb100 rfl rfl rfl rfl (wg rfl rfl rfl) ?_
          rcases cond_some h_22 with ⟨hc_31, h_22⟩ | ⟨hc_31, h_22⟩
          · refine h_movb rfl hc_31 (wg rfl rfl rfl) ?_
            refine h_op (vS target_2) (wg rfl rfl rfl) rfl ?_
            obtain ⟨r_32, hr_33, h_22⟩ := bind_some h_22
            refine h_call0 (slices_isNaN_string_ok hr_33) rfl hb100 rfl rfl rfl rfl (wg rfl rfl rfl) ?_
            refine h_op (vB r_32) (wg rfl rfl rfl) rfl ?_
            refine h_op (vB r_32) (wg rfl rfl rfl) rfl ?_
            refine h_op (vB r_32) (wt rfl) rfl ?_
            refine h_op (vI s_8.1) (wt rfl) rfl ?_
            refine h_op (vB r_32) (wt rfl) rfl ?_
            refine h_nil ?_
            replace h_22 := some_inj h_22
            subst h_22
            exact cut_mk () trivial rfl rfl
          · refine h_movb rfl hc_31 (wg rfl rfl rfl) ?_
            refine h_skip (wg rfl rfl rfl) ?_
            refine h_skip (wg rfl rfl rfl) ?_
            refine h_op (vB false) (wg rfl rfl rfl) rfl ?_
            refine h_op (vB false) (wg rfl rfl rfl) rfl ?_
            refine h_op (vB false) (wt rfl) rfl ?_
            refine h_op (vI s_8.1) (wt rfl) rfl ?_
            refine h_op (vB false) (wt rfl) rfl ?_
            refine h_nil ?_
            replace h_22 := some_inj h_22
            subst h_22
            exact cut_mk () trivial rfl rfl
      · refine h_movb rfl hc_23 (wt rfl) ?_
        refine h_skip (wg rfl rfl rfl) ?_
        refine h_skip (wg rfl rfl rfl) ?_
        refine h_skip (wg rfl rfl rfl) ?_
        refine h_skip (wg rfl rfl rfl) ?_
        refine h_skip (wg rfl rfl rfl) ?_
        refine h_skip (wg rfl rfl rfl) ?_
        refine h_skip (wg rfl rfl rfl) ?_
        refine h_skip (wn rfl rfl) ?_
        refine h_skip (wn rfl rfl) ?_
        refine h_skip (wn rfl rfl) ?_
        refine h_skip (wn rfl rfl) ?_
        refine h_skip (wn rfl rfl) ?_
        refine h_skip (wn rfl rfl) ?_
        refine h_skip (wn rfl rfl) ?_
        refine h_skip (wn rfl rfl) ?_
        refine h_skip (wn rfl rfl) ?_
        refine h_skip (wg rfl rfl rfl) ?_
        refine h_op (vB false) (wt rfl) rfl ?_
        refine h_op (vI s_8.1) (wt rfl) rfl ?_
        refine h_op (vB false) (wt rfl) rfl ?_
        refine h_nil ?_
        replace h_22 := some_inj h_22
        subst h_22
        exact cut_mk () trivial rfl rfl
    · rintro ⟨⟩ _ sl_ H_ hp_ hq_
      refine wH_at _ hp_ hq_ ?_
      replace hF := some_inj hF
      subst hF
      refine wH_ret ?_
      exact fin0 (.inr rfl) [(vI s_8.1), (vB v_21)] ⟨rfl, ⟨rfl, trivial⟩⟩ rfl rfl rfl
theorem booking_suits_ok {c_1 : Campaign} {s_2 : Spot} {r : Bool} (hF : booking_suits c_1 s_2 = some r) :
    FnM Try.prog 50 [(.d (.agg (Campaign.enc c_1))), (.d (.agg (Spot.enc s_2)))] [] (vB r) [] := by
  refine FnM.of_wH ⟨Try.prog, 42, [], []⟩ rfl Try.func50 rfl rfl (Nat.le_of_ble_eq_true rfl) (by kernel_rfl) ?_
  unfold booking_suits at hF
  refine wH_seq ?_
  refine wH_region ?_
  refine h_box 0 (.inl rfl) [(vS c_1.Key), (vS c_1.Class), (vI c_1.Time.From), (vI c_1.Time.To), (vL eS c_1.Tags), (vI c_1.Goal), (vI c_1.Most), (vI c_1.Cents)] rfl rfl (wt rfl) (fun n_3 => ?_)
  refine h_box 0 (.inl rfl) [(vS s_2.Key), (vI s_2.Time.From), (vI s_2.Time.To), (vI s_2.Room), (vL eS s_2.Tags)] rfl rfl (wt rfl) (fun n_4 => ?_)
  refine h_op (vB false) (wt rfl) rfl ?_
  refine h_nil ?_
  refine wH_seq ?_
  refine wH_seq ?_
  obtain ⟨v_5, h_6, hF⟩ := bind_some hF
  refine wH_join (β := Unit) (fun _ => ([(2, (.ref n_3 0 0)), (3, (.ref n_4 0 0)), (24, (vB v_5))] : List (Nat × V))) (fun _ => ([(n_3, some (.cells 8 [(vS c_1.Key), (vS c_1.Class), (vI c_1.Time.From), (vI c_1.Time.To), (vL eS c_1.Tags), (vI c_1.Goal), (vI c_1.Most), (vI c_1.Cents)])), (n_4, some (.cells 5 [(vS s_2.Key), (vI s_2.Time.From), (vI s_2.Time.To), (vI s_2.Room), (vL eS s_2.Tags)]))] : Hp)) (fun _ => True) ?_ ?_
  · refine wH_region ?_
    refine h_far pl43_1 rfl 1 rfl (wt rfl) ?_
    refine h_far pl34_0 rfl 1 rfl (wt rfl) ?_
    refine h_ldr 0 1 (.inl rfl) (fun _ _ _ => trivial) sz3 ag3 rfl rfl (vI s_2.Time.From) rfl (wt rfl) ?_
    refine h_far pl37_2 rfl 2 rfl (wt rfl) ?_
    refine h_far pl34_0 rfl 2 rfl (wt rfl) ?_
    refine h_ldr 0 0 (.inl rfl) (fun _ _ _ => trivial) sz3 ag3 rfl rfl (vI c_1.Time.From) rfl (wt rfl) ?_
    refine h_op (vB (decide (s_2.Time.From < c_1.Time.From))) (wt rfl) rfl ?_
    rcases cond_some h_6 with ⟨hc_7, h_6⟩ | ⟨hc_7, h_6⟩
    · refine h_movb rfl hc_7 (wt rfl) ?_
      refine h_skip (wg rfl rfl rfl) ?_
      refine h_skip (wg rfl rfl rfl) ?_
      refine h_skip (wg rfl rfl rfl) ?_
      refine h_skip (wg rfl rfl rfl) ?_
      refine h_skip (wg rfl rfl rfl) ?_
      refine h_skip (wg rfl rfl rfl) ?_
      refine h_skip (wg rfl rfl rfl) ?_
      refine h_op (vB true) (wt rfl) rfl ?_
      refine h_nil ?_
      replace h_6 := some_inj h_6
      subst h_6
      exact cut_mk () trivial rfl rfl
    · refine h_movb rfl hc_7 (wt rfl) ?_
      refine h_far pl43_1 rfl 1 rfl (wg rfl rfl rfl) ?_
      refine h_far pl34_1 rfl 2 rfl (wg rfl rfl rfl) ?_
      refine h_ldr 0 1 (.inl rfl) (fun _ _ _ => trivial) sz3 ag3 rfl rfl (vI s_2.Time.To) rfl (wg rfl rfl rfl) ?_
      refine h_far pl37_2 rfl 2 rfl (wg rfl rfl rfl) ?_
      refine h_far pl34_1 rfl 3 rfl (wg rfl rfl rfl) ?_
      refine h_ldr 0 0 (.inl rfl) (fun _ _ _ => trivial) sz3 ag3 rfl rfl (vI c_1.Time.To) rfl (wg rfl rfl rfl) ?_
      refine h_op (vB (decide (s_2.Time.To > c_1.Time.To))) (wg rfl rfl rfl) rfl ?_
      refine h_op (vB (decide (s_2.Time.To > c_1.Time.To))) (wt rfl) rfl ?_
      refine h_nil ?_
      replace h_6 := some_inj h_6
      subst h_6
      exact cut_mk () trivial rfl rfl
  · rintro ⟨⟩ _ sl_ H_ hp_ hq_
    refine wH_at _ hp_ hq_ ?_
    rcases cond_some hF with ⟨hc_8, hF⟩ | ⟨hc_8, hF⟩
    · refine wH_ift rfl hc_8 ?_
      refine wH_seq ?_
      refine wH_region ?_
      refine h_op (vB false) (wt rfl) rfl ?_
      refine h_nil ?_
      replace hF := some_inj hF
      subst hF
      refine wH_ret ?_
      exact fin0 (.inr rfl) [(vB false)] ⟨rfl, trivial⟩ rfl rfl rfl
    · refine wH_iff rfl hc_8 ?_
      refine wH_skip ?_
      refine wH_seq ?_
      refine wH_seq ?_
      refine wH_region ?_
      refine h_far pl37_3 rfl 4 rfl (wt rfl) ?_
      refine h_ldr 0 0 (.inl rfl) (fun _ _ _ => trivial) sz35 ag35 rfl rfl (vL eS c_1.Tags) rfl (wt rfl) ?_
      refine h_len un35 rfl (wt rfl) ?_
      refine h_op (vI 0) (wt rfl) rfl ?_
      refine h_nil ?_
      obtain ⟨o_17, hj_18, hF⟩ := bind_some hF
      obtain ⟨hn_13, hj_18⟩ := forL_some hj_18
      refine wH_join (β := (Unit)) (fun (s_14 : Unit) => ([] : List (Nat × V))) (fun (s_14 : Unit) => ([(n_3, some (.cells 8 [(vS c_1.Key), (vS c_1.Class), (vI c_1.Time.From), (vI c_1.Time.To), (vL eS c_1.Tags), (vI c_1.Goal), (vI c_1.Most), (vI c_1.Cents)])), (n_4, some (.cells 5 [(vS s_2.Key), (vI s_2.Time.From), (vI s_2.Time.To), (vI s_2.Room), (vL eS s_2.Tags)]))] : Hp)) (fun p => o_17 = .go p) ?_ ?_
      · refine wH_block ?_
        refine wH_loop (β := Nat × (List ByteArray) × (Unit)) (fun p => (fun (k_9 : Nat) (l_10 : List ByteArray) (s_14 : Unit) => ([(3, (.ref n_4 0 0)), (26, (vL eS c_1.Tags)), (27, (vI (c_1.Tags.length : Int))), (28, (vI (k_9 : Int)))] : List (Nat × V))) p.1 p.2.1 p.2.2) (fun p => (fun (k_9 : Nat) (l_10 : List ByteArray) (s_14 : Unit) => ([(n_3, some (.cells 8 [(vS c_1.Key), (vS c_1.Class), (vI c_1.Time.From), (vI c_1.Time.To), (vL eS c_1.Tags), (vI c_1.Goal), (vI c_1.Most), (vI c_1.Cents)])), (n_4, some (.cells 5 [(vS s_2.Key), (vI s_2.Time.From), (vI s_2.Time.To), (vI s_2.Room), (vL eS s_2.Tags)]))] : Hp)) p.1 p.2.1 p.2.2) (fun p => forR (fun k x s => booking_suits_L1 s_2 k x s) p.2.1 p.1 p.2.2 = some o_17 ∧ (c_1.Tags).drop p.1 = p.2.1) (fun p => p.2.1.length) (0, c_1.Tags, ()) ⟨hj_18, rfl⟩ rfl rfl ?_
        rintro ⟨k_9, l_10, s_14⟩ ⟨hL_16, hD_12⟩
        dsimp only at hL_16 hD_12
        cases l_10 with
        | nil =>
          replace hL_16 := some_inj hL_16
          subst hL_16
          refine wH_seq (wH_region (h_op (vB (decide ((k_9 : Int) < (c_1.Tags.length : Int)))) (wt rfl) rfl (h_nil ?_)))
          refine wH_seq (wH_iff rfl (drop_nil hD_12) (wH_exit ?_))
          exact cut_mk (s_14) rfl rfl rfl
        | cons x_11 l_10 =>
          obtain ⟨c_, hc_15, hL_16⟩ := bind_some hL_16
          refine wH_seq (wH_region (h_op (vB (decide ((k_9 : Int) < (c_1.Tags.length : Int)))) (wt rfl) rfl (h_nil ?_)))
          refine wH_seq (wH_ift rfl (drop_cons hD_12) (wH_skip ?_))
          unfold booking_suits_L1 at hc_15
          refine wH_seq ?_
          refine wH_block ?_
          refine wH_seq ?_
          refine wH_region ?_
          refine h_ia es35 rfl rfl (drop_idx hD_12) rfl (wt rfl) ?_
          refine h_ldc sz9 ag9 rfl (vS x_11) rfl (wt rfl) ?_
          refine h_op (vS x_11) (wt rfl) rfl ?_
          refine h_nil ?_
          refine wH_seq ?_
          refine wH_region ?_
          refine h_far pl43_3 rfl 4 rfl (wt rfl) ?_
          refine h_ldr 0 1 (.inl rfl) (fun _ _ _ => trivial) sz35 ag35 rfl rfl (vL eS s_2.Tags) rfl (wt rfl) ?_
          refine h_op (vS x_11) (wt rfl) rfl ?_
          obtain ⟨r_19, hr_20, hc_15⟩ := bind_some hc_15
          refine h_call0 (slices_BinarySearch_string_string_ok hr_20) rfl hb87 rfl rfl rfl rfl (wt rfl) ?_
          refine h_op (.tup [(vI r_19.1), (vB r_19.2)]) (wt rfl) rfl ?_
          refine h_op (vI r_19.1) (wt rfl) rfl ?_
          refine h_op (vB r_19.2) (wt rfl) rfl ?_
          refine h_op (vI r_19.1) (wt rfl) rfl ?_
          refine h_op (vB r_19.2) (wt rfl) rfl ?_
          refine h_nil ?_
          refine wH_seq ?_
          refine wH_region ?_
          refine h_op (vB r_19.2) (wt rfl) rfl ?_
          refine h_op (vB (!r_19.2)) (wt rfl) rfl ?_
          refine h_nil ?_
          rcases cond_some hc_15 with ⟨hc_21, hc_15⟩ | ⟨hc_21, hc_15⟩
          · refine wH_ift rfl hc_21 ?_
            refine wH_seq ?_
            refine wH_region ?_
            refine h_op (vB false) (wt rfl) rfl ?_
            refine h_nil ?_
            replace hc_15 := some_inj hc_15
            subst hc_15
            replace hL_16 := some_inj hL_16
            subst hL_16
            replace hF := some_inj hF
            subst hF
            refine wH_ret ?_
            exact fin0 (.inr rfl) [(vB false)] ⟨rfl, trivial⟩ rfl rfl rfl
          · refine wH_iff rfl hc_21 ?_
            refine wH_skip ?_
            refine wH_region ?_
            refine h_opw (w64_next hD_12 hn_13) (wt rfl) rfl ?_
            refine h_op (vI ((k_9 + 1 : Nat) : Int)) (wt rfl) rfl ?_
            refine h_nil ?_
            replace hc_15 := some_inj hc_15
            subst hc_15
            exact loop_mk (k_9 + 1, l_10, ()) ⟨hL_16, drop_next hD_12⟩ (Nat.lt_succ_self _) rfl rfl
      · rintro s_14 ho_ sl_ H_ hp_ hq_
        subst ho_
        refine wH_at _ hp_ hq_ ?_
        refine wH_seq ?_
        refine wH_region ?_
        refine h_op (vB true) (wt rfl) rfl ?_
        refine h_nil ?_
        replace hF := some_inj hF
        subst hF
        refine wH_ret ?_
        exact fin0 (.inr rfl) [(vB true)] ⟨rfl, trivial⟩ rfl rfl rfl
theorem slices_Index_string_string_ok {s_1 : (List ByteArray)} {v_2 : ByteArray} {r : Int} (hF : slices_Index_string_string s_1 v_2 = some r) :
    FnM Try.prog 89 [(vL eS s_1), (vS v_2)] [] (vI r) [] := by
  refine FnM.of_wH ⟨Try.prog, 19, [], []⟩ rfl Try.func89 rfl rfl (Nat.le_of_ble_eq_true rfl) (by kernel_rfl) ?_
  unfold slices_Index_string_string at hF
  refine wH_seq ?_
  refine wH_region ?_
  refine h_op (vI 0) (wt rfl) rfl ?_
  refine h_nil ?_
  refine wH_seq ?_
  refine wH_seq ?_
  refine wH_region ?_
  refine h_op (vL eS s_1) (wt rfl) rfl ?_
  refine h_len un35 rfl (wt rfl) ?_
  refine h_op (vI 0) (wt rfl) rfl ?_
  refine h_nil ?_
  obtain ⟨o_11, hj_12, hF⟩ := bind_some hF
  obtain ⟨hn_7, hj_12⟩ := forL_some hj_12
  refine wH_join (β := (Unit)) (fun (s_8 : Unit) => ([] : List (Nat × V))) (fun (s_8 : Unit) => ([] : Hp)) (fun p => o_11 = .go p) ?_ ?_
  · refine wH_block ?_
    refine wH_loop (β := Nat × (List ByteArray) × (Unit)) (fun p => (fun (k_3 : Nat) (l_4 : List ByteArray) (s_8 : Unit) => ([(0, (vL eS s_1)), (1, (vS v_2)), (7, (vI (s_1.length : Int))), (8, (vI (k_3 : Int)))] : List (Nat × V))) p.1 p.2.1 p.2.2) (fun p => (fun (k_3 : Nat) (l_4 : List ByteArray) (s_8 : Unit) => ([] : Hp)) p.1 p.2.1 p.2.2) (fun p => forR (fun k x s => slices_Index_string_string_L1 v_2 k x s) p.2.1 p.1 p.2.2 = some o_11 ∧ (s_1).drop p.1 = p.2.1) (fun p => p.2.1.length) (0, s_1, ()) ⟨hj_12, rfl⟩ rfl rfl ?_
    rintro ⟨k_3, l_4, s_8⟩ ⟨hL_10, hD_6⟩
    dsimp only at hL_10 hD_6
    cases l_4 with
    | nil =>
      replace hL_10 := some_inj hL_10
      subst hL_10
      refine wH_seq (wH_region (h_op (vB (decide ((k_3 : Int) < (s_1.length : Int)))) (wt rfl) rfl (h_nil ?_)))
      refine wH_seq (wH_iff rfl (drop_nil hD_6) (wH_exit ?_))
      exact cut_mk (s_8) rfl rfl rfl
    | cons x_5 l_4 =>
      obtain ⟨c_, hc_9, hL_10⟩ := bind_some hL_10
      refine wH_seq (wH_region (h_op (vB (decide ((k_3 : Int) < (s_1.length : Int)))) (wt rfl) rfl (h_nil ?_)))
      refine wH_seq (wH_ift rfl (drop_cons hD_6) (wH_skip ?_))
      unfold slices_Index_string_string_L1 at hc_9
      refine wH_seq ?_
      refine wH_block ?_
      refine wH_seq ?_
      refine wH_region ?_
      refine h_op (vI (k_3 : Int)) (wt rfl) rfl ?_
      refine h_op (vI (k_3 : Int)) (wt rfl) rfl ?_
      refine h_nil ?_
      refine wH_seq ?_
      refine wH_region ?_
      refine h_op (vS v_2) (wt rfl) rfl ?_
      refine h_op (vL eS s_1) (wt rfl) rfl ?_
      refine h_op (vI (k_3 : Int)) (wt rfl) rfl ?_
      refine h_ia es35 rfl rfl (drop_idx hD_6) rfl (wt rfl) ?_
      refine h_ldc sz9 ag9 rfl (vS x_5) rfl (wt rfl) ?_
      refine h_op (vB (sEq v_2 x_5)) (wt rfl) rfl ?_
      refine h_nil ?_
      rcases cond_some hc_9 with ⟨hc_13, hc_9⟩ | ⟨hc_13, hc_9⟩
      · refine wH_ift rfl hc_13 ?_
        refine wH_seq ?_
        refine wH_region ?_
        refine h_op (vI (k_3 : Int)) (wt rfl) rfl ?_
        refine h_op (vI (k_3 : Int)) (wt rfl) rfl ?_
        refine h_nil ?_
        replace hc_9 := some_inj hc_9
        subst hc_9
        replace hL_10 := some_inj hL_10
        subst hL_10
        replace hF := some_inj hF
        subst hF
        refine wH_ret ?_
        exact fin0 (.inr rfl) [(vI (k_3 : Int))] ⟨rfl, trivial⟩ rfl rfl rfl
      · refine wH_iff rfl hc_13 ?_
        refine wH_skip ?_
        refine wH_region ?_
        refine h_opw (w64_next hD_6 hn_7) (wt rfl) rfl ?_
        refine h_op (vI ((k_3 + 1 : Nat) : Int)) (wt rfl) rfl ?_
        refine h_nil ?_
        replace hc_9 := some_inj hc_9
        subst hc_9
        exact loop_mk (k_3 + 1, l_4, ()) ⟨hL_10, drop_next hD_6⟩ (Nat.lt_succ_self _) rfl rfl
  · rintro s_8 ho_ sl_ H_ hp_ hq_
    subst ho_
    refine wH_at _ hp_ hq_ ?_
    refine wH_seq ?_
    refine wH_region ?_
    refine h_op (vI (-1)) (wt rfl) rfl ?_
    refine h_nil ?_
    replace hF := some_inj hF
    subst hF
    refine wH_ret ?_
    exact fin0 (.inr rfl) [(vI (-1))] ⟨rfl, trivial⟩ rfl rfl rfl
theorem slices_Contains_string_string_ok {s_1 : (List ByteArray)} {v_2 : ByteArray} {r : Bool} (hF : slices_Contains_string_string s_1 v_2 = some r) :
    FnM Try.prog 53 [(vL eS s_1), (vS v_2)] [] (vB r) [] := by
  refine FnM.of_wH ⟨Try.prog, 9, [], []⟩ rfl Try.func53 rfl rfl (Nat.le_of_ble_eq_true rfl) (by kernel_rfl) ?_
  unfold slices_Contains_string_string at hF
  refine wH_seq ?_
  refine wH_region ?_
  refine h_op (vB false) (wt rfl) rfl ?_
  refine h_nil ?_
  refine wH_seq ?_
  refine wH_region ?_
  refine h_op (vL eS s_1) (wt rfl) rfl ?_
  refine h_op (vS v_2) (wt rfl) rfl ?_
  obtain ⟨r_3, hr_4, hF⟩ := bind_some hF
  refine h_call0 (slices_Index_string_string_ok hr_4) rfl hb89 rfl rfl rfl rfl (wt rfl) ?_
  refine h_op (vB (decide (r_3 ≥ 0))) (wt rfl) rfl ?_
  refine h_op (vB (decide (r_3 ≥ 0))) (wt rfl) rfl ?_
  refine h_nil ?_
  replace hF := some_inj hF
  subst hF
  refine wH_ret ?_
  exact fin0 (.inr rfl) [(vB (decide (r_3 ≥ 0)))] ⟨rfl, trivial⟩ rfl rfl rfl
theorem ref_SuitsOf_1_ok {t_1 : ByteArray} {p_2 : Spot} {r : Bool} (hF : ref_SuitsOf_1 t_1 p_2 = some r) :
    FnM Try.prog 52 [(vS t_1), (.ref (extN 0) 0 0)] [(.cells 5 [(vS p_2.Key), (vI p_2.Time.From), (vI p_2.Time.To), (vI p_2.Room), (vL eS p_2.Tags)])] (vB r) [some (.cells 5 [(vS p_2.Key), (vI p_2.Time.From), (vI p_2.Time.To), (vI p_2.Room), (vL eS p_2.Tags)])] := by
  refine FnM.of_wH ⟨Try.prog, 9, [], []⟩ rfl Try.func52 rfl rfl (Nat.le_of_ble_eq_true rfl) (by kernel_rfl) ?_
  unfold ref_SuitsOf_1 at hF
  refine wH_seq ?_
  refine wH_region ?_
  refine h_op (vB false) (wt rfl) rfl ?_
  refine h_nil ?_
  refine wH_seq ?_
  refine wH_region ?_
  refine h_far pl43_3 rfl 4 rfl (wt rfl) ?_
  refine h_ldr 0 0 (.inl rfl) (fun _ _ _ => trivial) sz35 ag35 rfl rfl (vL eS p_2.Tags) rfl (wt rfl) ?_
  refine h_op (vS t_1) (wt rfl) rfl ?_
  obtain ⟨r_3, hr_4, hF⟩ := bind_some hF
  refine h_call0 (slices_Contains_string_string_ok hr_4) rfl hb53 rfl rfl rfl rfl (wt rfl) ?_
  refine h_op (vB (!r_3)) (wt rfl) rfl ?_
  refine h_op (vB (!r_3)) (wt rfl) rfl ?_
  refine h_nil ?_
  replace hF := some_inj hF
  subst hF
  refine wH_ret ?_
  exact finB (.inr rfl) [(vB (!r_3))] _ [0] [extN 0] ⟨rfl, trivial⟩ (.cons (co_data rfl rfl) (.nil)) (by kernel_rfl) ⟨(by kernel_rfl), trivial⟩ (by decide) (by kernel_rfl)
theorem slices_IndexFunc_string_string_ok {s_1 : (List ByteArray)} {f_2 : ByteArray → Option Bool} {r : Int} {gid : FuncId} {caps : List V} {Sin : List Box} (hfn : ∀ x0 r, f_2 x0 = some r → FnM Try.prog gid ([(vS x0)] ++ caps) Sin (vB r) (Sin.map some)) (hbF : hasBody Try.prog gid = true) (hcapF : caps.flatMap frz = [] ∧ caps.map co0 = caps) (hokF : okL Sin.length caps = true) (hsF : ∀ b ∈ Sin, b.ok Sin.length = true) (hmF : ∀ b ∈ Sin, b.mut = true) (hF : slices_IndexFunc_string_string s_1 f_2 = some r) :
    FnM Try.prog 88 [(vL eS s_1), (.fn gid caps)] Sin (vI r) (Sin.map some) := by
  refine FnM.of_wH ⟨Try.prog, 19, [], []⟩ rfl Try.func88 rfl rfl (Nat.le_of_ble_eq_true rfl) (by kernel_rfl) ?_
  unfold slices_IndexFunc_string_string at hF
  refine wH_seq ?_
  refine wH_region ?_
  refine h_op (vI 0) (wt rfl) rfl ?_
  refine h_nil ?_
  refine wH_seq ?_
  refine wH_seq ?_
  refine wH_region ?_
  refine h_op (vL eS s_1) (wt rfl) rfl ?_
  refine h_len un35 rfl (wt rfl) ?_
  refine h_op (vI 0) (wt rfl) rfl ?_
  refine h_nil ?_
  obtain ⟨o_11, hj_12, hF⟩ := bind_some hF
  obtain ⟨hn_7, hj_12⟩ := forL_some hj_12
  refine wH_join (β := (Unit)) (fun (s_8 : Unit) => ([] : List (Nat × V))) (fun (s_8 : Unit) => (initH 0 Sin)) (fun p => o_11 = .go p) ?_ ?_
  · refine wH_block ?_
    refine wH_loop (β := Nat × (List ByteArray) × (Unit)) (fun p => (fun (k_3 : Nat) (l_4 : List ByteArray) (s_8 : Unit) => ([(0, (vL eS s_1)), (1, (.fn gid caps)), (7, (vI (s_1.length : Int))), (8, (vI (k_3 : Int)))] : List (Nat × V))) p.1 p.2.1 p.2.2) (fun p => (fun (k_3 : Nat) (l_4 : List ByteArray) (s_8 : Unit) => (initH 0 Sin)) p.1 p.2.1 p.2.2) (fun p => forR (fun k x s => slices_IndexFunc_string_string_L1 f_2 k x s) p.2.1 p.1 p.2.2 = some o_11 ∧ (s_1).drop p.1 = p.2.1) (fun p => p.2.1.length) (0, s_1, ()) ⟨hj_12, rfl⟩ rfl (pre_self _) ?_
    rintro ⟨k_3, l_4, s_8⟩ ⟨hL_10, hD_6⟩
    dsimp only at hL_10 hD_6
    cases l_4 with
    | nil =>
      replace hL_10 := some_inj hL_10
      subst hL_10
      refine wH_seq (wH_region (h_op (vB (decide ((k_3 : Int) < (s_1.length : Int)))) (wt rfl) rfl (h_nil ?_)))
      refine wH_seq (wH_iff rfl (drop_nil hD_6) (wH_exit ?_))
      exact cut_mk (s_8) rfl rfl (pre_self _)
    | cons x_5 l_4 =>
      obtain ⟨c_, hc_9, hL_10⟩ := bind_some hL_10
      refine wH_seq (wH_region (h_op (vB (decide ((k_3 : Int) < (s_1.length : Int)))) (wt rfl) rfl (h_nil ?_)))
      refine wH_seq (wH_ift rfl (drop_cons hD_6) (wH_skip ?_))
      unfold slices_IndexFunc_string_string_L1 at hc_9
      refine wH_seq ?_
      refine wH_block ?_
      refine wH_seq ?_
      refine wH_region ?_
      refine h_op (vI (k_3 : Int)) (wt rfl) rfl ?_
      refine h_op (vI (k_3 : Int)) (wt rfl) rfl ?_
      refine h_nil ?_
      refine wH_seq ?_
      refine wH_region ?_
      refine h_op (.fn gid caps) (wt rfl) rfl ?_
      refine h_op (vL eS s_1) (wt rfl) rfl ?_
      refine h_op (vI (k_3 : Int)) (wt rfl) rfl ?_
      refine h_ia es35 rfl rfl (drop_idx hD_6) rfl (wt rfl) ?_
      refine h_ldc sz9 ag9 rfl (vS x_5) rfl (wt rfl) ?_
      obtain ⟨r_13, hr_14, hc_9⟩ := bind_some hc_9
      refine h_callS (hfn _ _ hr_14) rfl hbF rfl rfl hcapF hokF hsF hmF rfl (wt rfl) rfl ?_
      refine h_nil ?_
      rcases cond_some hc_9 with ⟨hc_15, hc_9⟩ | ⟨hc_15, hc_9⟩
      · refine wH_ift rfl hc_15 ?_
        refine wH_seq ?_
        refine wH_region ?_
        refine h_op (vI (k_3 : Int)) (wt rfl) rfl ?_
        refine h_op (vI (k_3 : Int)) (wt rfl) rfl ?_
        refine h_nil ?_
        replace hc_9 := some_inj hc_9
        subst hc_9
        replace hL_10 := some_inj hL_10
        subst hL_10
        replace hF := some_inj hF
        subst hF
        refine wH_ret ?_
        exact finS hsF (.inr rfl) [(vI (k_3 : Int))] ⟨rfl, trivial⟩ rfl rfl rfl
      · refine wH_iff rfl hc_15 ?_
        refine wH_skip ?_
        refine wH_region ?_
        refine h_opw (w64_next hD_6 hn_7) (wt rfl) rfl ?_
        refine h_op (vI ((k_3 + 1 : Nat) : Int)) (wt rfl) rfl ?_
        refine h_nil ?_
        replace hc_9 := some_inj hc_9
        subst hc_9
        exact loop_mk (k_3 + 1, l_4, ()) ⟨hL_10, drop_next hD_6⟩ (Nat.lt_succ_self _) rfl (pre_self _)
  · rintro s_8 ho_ sl_ H_ hp_ hq_
    subst ho_
    refine wH_at _ hp_ hq_ ?_
    refine wH_seq ?_
    refine wH_region ?_
    refine h_op (vI (-1)) (wt rfl) rfl ?_
    refine h_nil ?_
    replace hF := some_inj hF
    subst hF
    refine wH_ret ?_
    exact finS hsF (.inr rfl) [(vI (-1))] ⟨rfl, trivial⟩ rfl rfl rfl
theorem slices_ContainsFunc_string_string_ok {s_1 : (List ByteArray)} {f_2 : ByteArray → Option Bool} {r : Bool} {gid : FuncId} {caps : List V} {Sin : List Box} (hfn : ∀ x0 r, f_2 x0 = some r → FnM Try.prog gid ([(vS x0)] ++ caps) Sin (vB r) (Sin.map some)) (hbF : hasBody Try.prog gid = true) (hcapF : caps.flatMap frz = [] ∧ caps.map co0 = caps) (hokF : okL Sin.length caps = true) (hsF : ∀ b ∈ Sin, b.ok Sin.length = true) (hmF : ∀ b ∈ Sin, b.mut = true) (hF : slices_ContainsFunc_string_string s_1 f_2 = some r) :
    FnM Try.prog 51 [(vL eS s_1), (.fn gid caps)] Sin (vB r) (Sin.map some) := by
  refine FnM.of_wH ⟨Try.prog, 9, [], []⟩ rfl Try.func51 rfl rfl (Nat.le_of_ble_eq_true rfl) (by kernel_rfl) ?_
  unfold slices_ContainsFunc_string_string at hF
  refine wH_seq ?_
  refine wH_region ?_
  refine h_op (vB false) (wt rfl) rfl ?_
  refine h_nil ?_
  refine wH_seq ?_
  refine wH_region ?_
  refine h_op (vL eS s_1) (wt rfl) rfl ?_
  refine h_op (.fn gid caps) (wt rfl) rfl ?_
  obtain ⟨r_3, hr_4, hF⟩ := bind_some hF
  refine h_callS (slices_IndexFunc_string_string_ok (gid := gid) (caps := caps) (Sin := Sin) hfn hbF hcapF hokF hsF hmF hr_4) rfl hb88 rfl rfl ⟨rfl, rfl⟩ (by simp [okL, okV, hokF]) hsF hmF rfl (wt rfl) rfl ?_
  refine h_op (vB (decide (r_3 ≥ 0))) (wt rfl) rfl ?_
  refine h_op (vB (decide (r_3 ≥ 0))) (wt rfl) rfl ?_
  refine h_nil ?_
  replace hF := some_inj hF
  subst hF
  refine wH_ret ?_
  exact finS hsF (.inr rfl) [(vB (decide (r_3 ≥ 0)))] ⟨rfl, trivial⟩ rfl rfl rfl
theorem ref_SuitsOf_ok {c_1 : Campaign} {s_2 : Spot} {r : Bool} (hF : ref_SuitsOf c_1 s_2 = some r) :
    FnM Try.prog 16 [(.d (.agg (Campaign.enc c_1))), (.d (.agg (Spot.enc s_2)))] [] (vB r) [] := by
  refine FnM.of_wH ⟨Try.prog, 28, [], []⟩ rfl Try.func16 rfl rfl (Nat.le_of_ble_eq_true rfl) (by kernel_rfl) ?_
  unfold ref_SuitsOf at hF
  refine wH_seq ?_
  refine wH_region ?_
  refine h_box 0 (.inl rfl) [(vS c_1.Key), (vS c_1.Class), (vI c_1.Time.From), (vI c_1.Time.To), (vL eS c_1.Tags), (vI c_1.Goal), (vI c_1.Most), (vI c_1.Cents)] rfl rfl (wt rfl) (fun n_3 => ?_)
  refine h_box 0 (.inl rfl) [(vS s_2.Key), (vI s_2.Time.From), (vI s_2.Time.To), (vI s_2.Room), (vL eS s_2.Tags)] rfl rfl (wt rfl) (fun n_4 => ?_)
  refine h_op (vB false) (wt rfl) rfl ?_
  refine h_nil ?_
  refine wH_seq ?_
  obtain ⟨v_5, h_6, hF⟩ := bind_some hF
  refine wH_join (β := Unit) (fun _ => ([(4, (vB v_5))] : List (Nat × V))) (fun _ => ([(n_3, some (.cells 8 [(vS c_1.Key), (vS c_1.Class), (vI c_1.Time.From), (vI c_1.Time.To), (vL eS c_1.Tags), (vI c_1.Goal), (vI c_1.Most), (vI c_1.Cents)])), (n_4, some (.cells 5 [(vS s_2.Key), (vI s_2.Time.From), (vI s_2.Time.To), (vI s_2.Room), (vL eS s_2.Tags)]))] : Hp)) (fun _ => True) ?_ ?_
  · refine wH_region ?_
    refine h_far pl37_2 rfl 2 rfl (wt rfl) ?_
    refine h_far pl34_0 rfl 2 rfl (wt rfl) ?_
    refine h_ldr 0 0 (.inl rfl) (fun _ _ _ => trivial) sz3 ag3 rfl rfl (vI c_1.Time.From) rfl (wt rfl) ?_
    refine h_far pl43_1 rfl 1 rfl (wt rfl) ?_
    refine h_far pl34_0 rfl 1 rfl (wt rfl) ?_
    refine h_ldr 0 1 (.inl rfl) (fun _ _ _ => trivial) sz3 ag3 rfl rfl (vI s_2.Time.From) rfl (wt rfl) ?_
    refine h_op (vB (decide (c_1.Time.From ≤ s_2.Time.From))) (wt rfl) rfl ?_
    rcases cond_some h_6 with ⟨hc_7, h_6⟩ | ⟨hc_7, h_6⟩
    · refine h_movb rfl hc_7 (wt rfl) ?_
      refine h_far pl43_1 rfl 1 rfl (wg rfl rfl rfl) ?_
      refine h_far pl34_1 rfl 2 rfl (wg rfl rfl rfl) ?_
      refine h_ldr 0 1 (.inl rfl) (fun _ _ _ => trivial) sz3 ag3 rfl rfl (vI s_2.Time.To) rfl (wg rfl rfl rfl) ?_
      refine h_far pl37_2 rfl 2 rfl (wg rfl rfl rfl) ?_
      refine h_far pl34_1 rfl 3 rfl (wg rfl rfl rfl) ?_
      refine h_ldr 0 0 (.inl rfl) (fun _ _ _ => trivial) sz3 ag3 rfl rfl (vI c_1.Time.To) rfl (wg rfl rfl rfl) ?_
      refine h_op (vB (decide (s_2.Time.To ≤ c_1.Time.To))) (wg rfl rfl rfl) rfl ?_
      refine h_op (vB (decide (s_2.Time.To ≤ c_1.Time.To))) (wt rfl) rfl ?_
      rcases cond_some h_6 with ⟨hc_8, h_6⟩ | ⟨hc_8, h_6⟩
      · refine h_movb rfl hc_8 (wt rfl) ?_
        refine h_far pl37_3 rfl 4 rfl (wg rfl rfl rfl) ?_
        refine h_ldr 0 0 (.inl rfl) (fun _ _ _ => trivial) sz35 ag35 rfl rfl (vL eS c_1.Tags) rfl (wg rfl rfl rfl) ?_
        refine h_op (.fn 52 [(.ref n_4 0 0)]) (wg rfl rfl rfl) rfl ?_
        obtain ⟨r_9, hr_10, h_6⟩ := bind_some h_6
        refine h_callq 0 [1] (.inl rfl) (fun _ _ _ => trivial) (slices_ContainsFunc_string_string_ok (gid := 52) (caps := [.ref (extN 0) 0 0]) (Sin := [(.cells 5 [(vS s_2.Key), (vI s_2.Time.From), (vI s_2.Time.To), (vI s_2.Room), (vL eS s_2.Tags)])]) (fun _ _ h_ => ref_SuitsOf_1_ok h_) hb52 ⟨rfl, rfl⟩ (by kernel_rfl) (all_ok (by kernel_rfl)) (all_mut (by kernel_rfl)) hr_10) rfl hb51 rfl (by kernel_rfl) (by kernel_rfl) (by kernel_rfl) (by kernel_rfl) (by kernel_rfl) (by kernel_rfl) (by kernel_rfl) (by decide) (by kernel_rfl) (wg rfl rfl rfl) (vB r_9) (by kernel_rfl) ([(n_3, some (.cells 8 [(vS c_1.Key), (vS c_1.Class), (vI c_1.Time.From), (vI c_1.Time.To), (vL eS c_1.Tags), (vI c_1.Goal), (vI c_1.Most), (vI c_1.Cents)])), (n_4, some (.cells 5 [(vS s_2.Key), (vI s_2.Time.From), (vI s_2.Time.To), (vI s_2.Room), (vL eS s_2.Tags)]))] : Hp) (by kernel_rfl) ?_
        refine h_op (vB (!r_9)) (wg rfl rfl rfl) rfl ?_
        refine h_op (vB (!r_9)) (wt rfl) rfl ?_
        refine h_op (vB (!r_9)) (wt rfl) rfl ?_
        refine h_nil ?_
        replace h_6 := some_inj h_6
        subst h_6
        exact cut_mk () trivial rfl rfl
      · refine h_movb rfl hc_8 (wt rfl) ?_
        refine h_skip (wg rfl rfl rfl) ?_
        refine h_skip (wg rfl rfl rfl) ?_
        refine h_skip (wg rfl rfl rfl) ?_
        refine h_skip (wg rfl rfl rfl) ?_
        refine h_skip (wg rfl rfl rfl) ?_
        refine h_op (vB false) (wt rfl) rfl ?_
        refine h_op (vB false) (wt rfl) rfl ?_
        refine h_nil ?_
        replace h_6 := some_inj h_6
        subst h_6
        exact cut_mk () trivial rfl rfl
    · refine h_movb rfl hc_7 (wt rfl) ?_
      refine h_skip (wg rfl rfl rfl) ?_
      refine h_skip (wg rfl rfl rfl) ?_
      refine h_skip (wg rfl rfl rfl) ?_
      refine h_skip (wg rfl rfl rfl) ?_
      refine h_skip (wg rfl rfl rfl) ?_
      refine h_skip (wg rfl rfl rfl) ?_
      refine h_skip (wg rfl rfl rfl) ?_
      refine h_op (vB false) (wt rfl) rfl ?_
      refine h_op (vB false) (wt rfl) rfl ?_
      refine h_skip (wg rfl rfl rfl) ?_
      refine h_skip (wg rfl rfl rfl) ?_
      refine h_skip (wg rfl rfl rfl) ?_
      refine h_skip (wg rfl rfl rfl) ?_
      refine h_skip (wg rfl rfl rfl) ?_
      refine h_op (vB false) (wt rfl) rfl ?_
      refine h_op (vB false) (wt rfl) rfl ?_
      refine h_nil ?_
      replace h_6 := some_inj h_6
      subst h_6
      exact cut_mk () trivial rfl rfl
  · rintro ⟨⟩ _ sl_ H_ hp_ hq_
    refine wH_at _ hp_ hq_ ?_
    replace hF := some_inj hF
    subst hF
    refine wH_ret ?_
    exact fin0 (.inr rfl) [(vB v_5)] ⟨rfl, trivial⟩ rfl rfl rfl
theorem kit_IsMoment_ok {n_1 : Int} {r : Bool} (hF : kit_IsMoment n_1 = some r) :
    FnM Try.prog 90 [(vI n_1)] [] (vB r) [] := by
  refine FnM.of_wH ⟨Try.prog, 9, [], []⟩ rfl Try.func90 rfl rfl (Nat.le_of_ble_eq_true rfl) (by kernel_rfl) ?_
  unfold kit_IsMoment at hF
  refine wH_seq ?_
  refine wH_region ?_
  refine h_op (vB false) (wt rfl) rfl ?_
  refine h_nil ?_
  refine wH_seq ?_
  obtain ⟨v_2, h_3, hF⟩ := bind_some hF
  refine wH_join (β := Unit) (fun _ => ([(2, (vB v_2))] : List (Nat × V))) (fun _ => ([] : Hp)) (fun _ => True) ?_ ?_
  · refine wH_region ?_
    refine h_op (vI n_1) (wt rfl) rfl ?_
    refine h_op (vB (decide (n_1 ≥ 0))) (wt rfl) rfl ?_
    rcases cond_some h_3 with ⟨hc_4, h_3⟩ | ⟨hc_4, h_3⟩
    · refine h_movb rfl hc_4 (wt rfl) ?_
      refine h_op (vI n_1) (wg rfl rfl rfl) rfl ?_
      refine h_op (vB (decide (n_1 < 345686400000))) (wg rfl rfl rfl) rfl ?_
      refine h_op (vB (decide (n_1 < 345686400000))) (wt rfl) rfl ?_
      refine h_op (vB (decide (n_1 < 345686400000))) (wt rfl) rfl ?_
      refine h_nil ?_
      replace h_3 := some_inj h_3
      subst h_3
      exact cut_mk () trivial rfl rfl
    · refine h_movb rfl hc_4 (wt rfl) ?_
      refine h_skip (wg rfl rfl rfl) ?_
      refine h_skip (wg rfl rfl rfl) ?_
      refine h_op (vB false) (wt rfl) rfl ?_
      refine h_op (vB false) (wt rfl) rfl ?_
      refine h_nil ?_
      replace h_3 := some_inj h_3
      subst h_3
      exact cut_mk () trivial rfl rfl
  · rintro ⟨⟩ _ sl_ H_ hp_ hq_
    refine wH_at _ hp_ hq_ ?_
    replace hF := some_inj hF
    subst hF
    refine wH_ret ?_
    exact fin0 (.inr rfl) [(vB v_2)] ⟨rfl, trivial⟩ rfl rfl rfl
theorem booking_due_ok {c_1 : Campaign} {atv_2 : Int} {r : Int} (hF : booking_due c_1 atv_2 = some r) :
    FnM Try.prog 91 [(.d (.agg (Campaign.enc c_1))), (vI atv_2)] [] (vI r) [] := by
  refine FnM.of_wH ⟨Try.prog, 35, [], []⟩ rfl Try.func91 rfl rfl (Nat.le_of_ble_eq_true rfl) (by kernel_rfl) ?_
  unfold booking_due at hF
  refine wH_seq ?_
  refine wH_region ?_
  refine h_box 0 (.inl rfl) [(vS c_1.Key), (vS c_1.Class), (vI c_1.Time.From), (vI c_1.Time.To), (vL eS c_1.Tags), (vI c_1.Goal), (vI c_1.Most), (vI c_1.Cents)] rfl rfl (wt rfl) (fun n_3 => ?_)
  refine h_op (vI 0) (wt rfl) rfl ?_
  refine h_nil ?_
  refine wH_seq ?_
  refine wH_block ?_
  refine wH_seq ?_
  refine wH_region ?_
  refine h_op (vI atv_2) (wt rfl) rfl ?_
  refine h_far pl37_2 rfl 2 rfl (wt rfl) ?_
  refine h_far pl34_0 rfl 2 rfl (wt rfl) ?_
  refine h_ldr 0 0 (.inl rfl) (fun _ _ _ => trivial) sz3 ag3 rfl rfl (vI c_1.Time.From) rfl (wt rfl) ?_
  refine h_op (vB (decide (atv_2 < c_1.Time.From))) (wt rfl) rfl ?_
  refine h_op (vB (decide (atv_2 < c_1.Time.From))) (wt rfl) rfl ?_
  refine h_nil ?_
  rcases cond_some hF with ⟨hc_4, hF⟩ | ⟨hc_4, hF⟩
  · refine wH_ift rfl hc_4 ?_
    refine wH_seq ?_
    refine wH_region ?_
    refine h_op (vI 0) (wt rfl) rfl ?_
    refine h_nil ?_
    replace hF := some_inj hF
    subst hF
    refine wH_ret ?_
    exact fin0 (.inr rfl) [(vI 0)] ⟨rfl, trivial⟩ rfl rfl rfl
  · refine wH_iff rfl hc_4 ?_
    refine wH_seq ?_
    refine wH_region ?_
    refine h_op (vI atv_2) (wt rfl) rfl ?_
    refine h_far pl37_2 rfl 2 rfl (wt rfl) ?_
    refine h_far pl34_1 rfl 3 rfl (wt rfl) ?_
    refine h_ldr 0 0 (.inl rfl) (fun _ _ _ => trivial) sz3 ag3 rfl rfl (vI c_1.Time.To) rfl (wt rfl) ?_
    refine h_op (vB (decide (atv_2 ≥ c_1.Time.To))) (wt rfl) rfl ?_
    refine h_op (vB (decide (atv_2 ≥ c_1.Time.To))) (wt rfl) rfl ?_
    refine h_nil ?_
    rcases cond_some hF with ⟨hc_5, hF⟩ | ⟨hc_5, hF⟩
    · refine wH_ift rfl hc_5 ?_
      refine wH_seq ?_
      refine wH_region ?_
      refine h_far pl37_4 rfl 5 rfl (wt rfl) ?_
      refine h_ldr 0 0 (.inl rfl) (fun _ _ _ => trivial) sz3 ag3 rfl rfl (vI c_1.Goal) rfl (wt rfl) ?_
      refine h_op (vI c_1.Goal) (wt rfl) rfl ?_
      refine h_nil ?_
      replace hF := some_inj hF
      subst hF
      refine wH_ret ?_
      exact fin0 (.inr rfl) [(vI c_1.Goal)] ⟨rfl, trivial⟩ rfl rfl rfl
    · refine wH_iff rfl hc_5 ?_
      refine wH_skip ?_
      refine wH_seq ?_
      refine wH_region ?_
      refine h_far pl37_4 rfl 5 rfl (wt rfl) ?_
      refine h_ldr 0 0 (.inl rfl) (fun _ _ _ => trivial) sz3 ag3 rfl rfl (vI c_1.Goal) rfl (wt rfl) ?_
      refine h_op (vI atv_2) (wt rfl) rfl ?_
      refine h_far pl37_2 rfl 2 rfl (wt rfl) ?_
      refine h_far pl34_0 rfl 2 rfl (wt rfl) ?_
      refine h_ldr 0 0 (.inl rfl) (fun _ _ _ => trivial) sz3 ag3 rfl rfl (vI c_1.Time.From) rfl (wt rfl) ?_
      refine h_op (vI (w64 (atv_2 - c_1.Time.From))) (wt rfl) rfl ?_
      refine h_op (vI (w64 (c_1.Goal * (w64 (atv_2 - c_1.Time.From))))) (wt rfl) rfl ?_
      refine h_far pl37_2 rfl 2 rfl (wt rfl) ?_
      refine h_far pl34_1 rfl 3 rfl (wt rfl) ?_
      refine h_ldr 0 0 (.inl rfl) (fun _ _ _ => trivial) sz3 ag3 rfl rfl (vI c_1.Time.To) rfl (wt rfl) ?_
      refine h_far pl37_2 rfl 2 rfl (wt rfl) ?_
      refine h_far pl34_0 rfl 2 rfl (wt rfl) ?_
      refine h_ldr 0 0 (.inl rfl) (fun _ _ _ => trivial) sz3 ag3 rfl rfl (vI c_1.Time.From) rfl (wt rfl) ?_
      refine h_op (vI (w64 (c_1.Time.To - c_1.Time.From))) (wt rfl) rfl ?_
      obtain ⟨q_6, hz_7, hF⟩ := bind_some hF
      refine h_quo rfl rfl hz_7 (wt rfl) ?_
      refine h_op (vI q_6) (wt rfl) rfl ?_
      refine h_nil ?_
      replace hF := some_inj hF
      subst hF
      refine wH_ret ?_
      exact fin0 (.inr rfl) [(vI q_6)] ⟨rfl, trivial⟩ rfl rfl rfl
theorem booking_Due_ok {c_1 : Campaign} {atv_2 : Int} {r : Int × Int} (hF : booking_Due c_1 atv_2 = some r) :
    FnM Try.prog 54 [(.d (.agg (Campaign.enc c_1))), (vI atv_2)] [] (.tup [(vI r.1), (vI r.2)]) [] := by
  refine FnM.of_wH ⟨Try.prog, 19, [], []⟩ rfl Try.func54 rfl rfl (Nat.le_of_ble_eq_true rfl) (by kernel_rfl) ?_
  unfold booking_Due at hF
  refine wH_seq ?_
  refine wH_region ?_
  refine h_box 0 (.inl rfl) [(vS c_1.Key), (vS c_1.Class), (vI c_1.Time.From), (vI c_1.Time.To), (vL eS c_1.Tags), (vI c_1.Goal), (vI c_1.Most), (vI c_1.Cents)] rfl rfl (wt rfl) (fun n_3 => ?_)
  refine h_op (vI 0) (wt rfl) rfl ?_
  refine h_op (vI 0) (wt rfl) rfl ?_
  refine h_nil ?_
  refine wH_seq ?_
  refine wH_seq ?_
  refine wH_region ?_
  refine h_ldr 0 0 (.inl rfl) (fun _ _ _ => trivial) sz37 ag37 rfl rfl (.d (.agg (Campaign.enc c_1))) rfl (wt rfl) ?_
  refine h_lit (([c_1] : List Campaign).map Campaign.enc) es27 ez27 rfl rfl rfl rfl rfl (wt rfl) ?_
  obtain ⟨r_4, hr_5, hF⟩ := bind_some hF
  refine h_call0 (booking_CheckCampaigns_ok hr_5) rfl hb10 rfl rfl rfl rfl (wt rfl) ?_
  refine h_op (vI r_4) (wt rfl) rfl ?_
  refine h_nil ?_
  refine wH_seq ?_
  refine wH_region ?_
  refine h_op (vI r_4) (wt rfl) rfl ?_
  refine h_op (vB (r_4 != 0)) (wt rfl) rfl ?_
  refine h_nil ?_
  rcases cond_some hF with ⟨hc_6, hF⟩ | ⟨hc_6, hF⟩
  · refine wH_ift rfl hc_6 ?_
    refine wH_seq ?_
    refine wH_region ?_
    refine h_op (vI r_4) (wt rfl) rfl ?_
    refine h_op (vI 0) (wt rfl) rfl ?_
    refine h_op (vI r_4) (wt rfl) rfl ?_
    refine h_nil ?_
    replace hF := some_inj hF
    subst hF
    refine wH_ret ?_
    exact fin0 (.inr rfl) [(vI 0), (vI r_4)] ⟨rfl, ⟨rfl, trivial⟩⟩ rfl rfl rfl
  · refine wH_iff rfl hc_6 ?_
    refine wH_skip ?_
    refine wH_seq ?_
    refine wH_seq ?_
    refine wH_region ?_
    refine h_op (vI atv_2) (wt rfl) rfl ?_
    obtain ⟨r_7, hr_8, hF⟩ := bind_some hF
    refine h_call0 (kit_IsMoment_ok hr_8) rfl hb90 rfl rfl rfl rfl (wt rfl) ?_
    refine h_op (vB (!r_7)) (wt rfl) rfl ?_
    refine h_nil ?_
    rcases cond_some hF with ⟨hc_9, hF⟩ | ⟨hc_9, hF⟩
    · refine wH_ift rfl hc_9 ?_
      refine wH_seq ?_
      refine wH_region ?_
      refine h_op (vI 0) (wt rfl) rfl ?_
      refine h_op (vI 1) (wt rfl) rfl ?_
      refine h_nil ?_
      replace hF := some_inj hF
      subst hF
      refine wH_ret ?_
      exact fin0 (.inr rfl) [(vI 0), (vI 1)] ⟨rfl, ⟨rfl, trivial⟩⟩ rfl rfl rfl
    · refine wH_iff rfl hc_9 ?_
      refine wH_skip ?_
      refine wH_seq ?_
      refine wH_region ?_
      refine h_ldr 0 0 (.inl rfl) (fun _ _ _ => trivial) sz37 ag37 rfl rfl (.d (.agg (Campaign.enc c_1))) rfl (wt rfl) ?_
      refine h_op (vI atv_2) (wt rfl) rfl ?_
      obtain ⟨r_10, hr_11, hF⟩ := bind_some hF
      refine h_call0 (booking_due_ok hr_11) rfl hb91 rfl rfl rfl rfl (wt rfl) ?_
      refine h_op (vI r_10) (wt rfl) rfl ?_
      refine h_op (vI 0) (wt rfl) rfl ?_
      refine h_nil ?_
      replace hF := some_inj hF
      subst hF
      refine wH_ret ?_
      exact fin0 (.inr rfl) [(vI r_10), (vI 0)] ⟨rfl, ⟨rfl, trivial⟩⟩ rfl rfl rfl
theorem law_booked_ok {r : Bool} (hF : law_booked  = some r) :
    FnM Try.prog 17 [] [] (vB r) [] := by
  refine FnM.of_wH ⟨Try.prog, 15, [], []⟩ rfl Try.func17 rfl rfl (Nat.le_of_ble_eq_true rfl) (by kernel_rfl) ?_
  unfold law_booked at hF
  refine wH_seq ?_
  refine wH_region ?_
  refine h_op (vB false) (wt rfl) rfl ?_
  refine h_nil ?_
  refine wH_seq ?_
  refine wH_region ?_
  refine h_op (.d (.agg (Window.enc (⟨0, 100⟩ : Window)))) (wt rfl) (by kernel_rfl) ?_
  refine h_op (.agg [(vS (⟨#[97]⟩ : ByteArray)), (vS (⟨#[]⟩ : ByteArray)), (vI 0), (vI 100), .nil, (vI 10), (vI 0), (vI 0)]) (wt rfl) (by kernel_rfl) ?_
  obtain ⟨r_1, hr_2, hF⟩ := bind_some hF
  refine h_call0 (booking_Due_ok hr_2) rfl hb54 rfl rfl rfl rfl (wt rfl) ?_
  refine h_op (.tup [(vI r_1.1), (vI r_1.2)]) (wt rfl) rfl ?_
  refine h_op (vI r_1.1) (wt rfl) rfl ?_
  refine h_op (vI r_1.2) (wt rfl) rfl ?_
  refine h_op (vI r_1.1) (wt rfl) rfl ?_
  refine h_op (vI r_1.2) (wt rfl) rfl ?_
  refine h_nil ?_
  refine wH_seq ?_
  obtain ⟨v_3, h_4, hF⟩ := bind_some hF
  refine wH_join (β := Unit) (fun _ => ([(0, (vB v_3))] : List (Nat × V))) (fun _ => ([] : Hp)) (fun _ => True) ?_ ?_
  · refine wH_region ?_
    refine h_op (vI r_1.2) (wt rfl) rfl ?_
    refine h_op (vB (r_1.2 == 0)) (wt rfl) rfl ?_
    rcases cond_some h_4 with ⟨hc_5, h_4⟩ | ⟨hc_5, h_4⟩
    · refine h_movb rfl hc_5 (wt rfl) ?_
      refine h_op (vI r_1.1) (wg rfl rfl rfl) rfl ?_
      refine h_op (vB (r_1.1 == 5)) (wg rfl rfl rfl) rfl ?_
      refine h_op (vB (r_1.1 == 5)) (wt rfl) rfl ?_
      refine h_op (vB (r_1.1 == 5)) (wt rfl) rfl ?_
      refine h_nil ?_
      replace h_4 := some_inj h_4
      subst h_4
      exact cut_mk () trivial rfl rfl
    · refine h_movb rfl hc_5 (wt rfl) ?_
      refine h_skip (wg rfl rfl rfl) ?_
      refine h_skip (wg rfl rfl rfl) ?_
      refine h_op (vB false) (wt rfl) rfl ?_
      refine h_op (vB false) (wt rfl) rfl ?_
      refine h_nil ?_
      replace h_4 := some_inj h_4
      subst h_4
      exact cut_mk () trivial rfl rfl
  · rintro ⟨⟩ _ sl_ H_ hp_ hq_
    refine wH_at _ hp_ hq_ ?_
    replace hF := some_inj hF
    subst hF
    refine wH_ret ?_
    exact fin0 (.inr rfl) [(vB v_3)] ⟨rfl, trivial⟩ rfl rfl rfl
theorem mk_Stream_Shares_ok {s_1 : Stream} {spots_2 : (List Spot)} {l_3 : (List Campaign)} {r : (List Share) × Stream} (hF : mk_Stream_Shares s_1 spots_2 l_3 = some r) :
    FnM Try.prog 18 [(.ref (extN 0) 0 0), (vL Spot.enc spots_2), (vL Campaign.enc l_3)] [(.cells 2 [(vL eI s_1.L), (vI s_1.f_at)])] (vL Share.enc r.1) [some (.cells 2 [(vL eI r.2.L), (vI r.2.f_at)])] := by
  refine FnM.of_wH ⟨Try.prog, 83, [], []⟩ rfl Try.func18 rfl rfl (Nat.le_of_ble_eq_true rfl) (by kernel_rfl) ?_
  unfold mk_Stream_Shares at hF
  refine wH_seq ?_
  refine wH_region ?_
  refine h_op .nil (wt rfl) rfl ?_
  refine h_nil ?_
  refine wH_seq ?_
  refine wH_region ?_
  refine h_op .nil (wt rfl) rfl ?_
  refine h_nil ?_
  refine wH_seq ?_
  refine wH_seq ?_
  refine wH_region ?_
  refine h_op (vL Campaign.enc l_3) (wt rfl) rfl ?_
  refine h_len un27 rfl (wt rfl) ?_
  refine h_op (vI 0) (wt rfl) rfl ?_
  refine h_nil ?_
  refine wH_new (fun n_10 => ?_)
  obtain ⟨o_15, hj_16, hF⟩ := bind_some hF
  obtain ⟨hn_8, hj_16⟩ := forL_some hj_16
  refine wH_join (β := ((List Share) × (List Int) × Int) × Nm) (fun p => (fun (s_9 : (List Share) × (List Int) × Int) (n_12 : Nm) => ([(0, (.ref (extN 0) 0 0)), (7, (gV n_12 3 s_9.1))] : List (Nat × V))) p.1 p.2) (fun p => (fun (s_9 : (List Share) × (List Int) × Int) (n_12 : Nm) => ([((extN 0), some (.cells 2 [(vL eI s_9.2.1), (vI s_9.2.2)])), (n_12, gB 3 Share.enc s_9.1)] : Hp)) p.1 p.2) (fun p => o_15 = .go p.1) ?_ ?_
  · refine wH_block ?_
    refine wH_loop (β := Nat × (List Campaign) × ((List Share) × (List Int) × Int) × Nm) (fun p => (fun (k_4 : Nat) (l_5 : List Campaign) (s_9 : (List Share) × (List Int) × Int) (n_12 : Nm) => ([(0, (.ref (extN 0) 0 0)), (1, (vL Spot.enc spots_2)), (7, (gV n_12 3 s_9.1)), (13, (vL Campaign.enc l_3)), (14, (vI (l_3.length : Int))), (15, (vI (k_4 : Int)))] : List (Nat × V))) p.1 p.2.1 p.2.2.1 p.2.2.2) (fun p => (fun (k_4 : Nat) (l_5 : List Campaign) (s_9 : (List Share) × (List Int) × Int) (n_12 : Nm) => ([((extN 0), some (.cells 2 [(vL eI s_9.2.1), (vI s_9.2.2)])), (n_12, gB 3 Share.enc s_9.1)] : Hp)) p.1 p.2.1 p.2.2.1 p.2.2.2) (fun p => forR (fun k x s => mk_Stream_Shares_L2 spots_2 k x s) p.2.1 p.1 p.2.2.1 = some o_15 ∧ (l_3).drop p.1 = p.2.1) (fun p => p.2.1.length) (0, l_3, (([] : List Share), s_1.L, s_1.f_at), n_10) ⟨hj_16, rfl⟩ rfl rfl ?_
    rintro ⟨k_4, l_5, s_9, n_12⟩ ⟨hL_14, hD_7⟩
    dsimp only at hL_14 hD_7
    cases l_5 with
    | nil =>
      replace hL_14 := some_inj hL_14
      subst hL_14
      refine wH_seq (wH_region (h_op (vB (decide ((k_4 : Int) < (l_3.length : Int)))) (wt rfl) rfl (h_nil ?_)))
      refine wH_seq (wH_iff rfl (drop_nil hD_7) (wH_exit ?_))
      exact cut_mk (s_9, n_12) rfl rfl rfl
    | cons x_6 l_5 =>
      obtain ⟨c_, hc_13, hL_14⟩ := bind_some hL_14
      refine wH_seq (wH_region (h_op (vB (decide ((k_4 : Int) < (l_3.length : Int)))) (wt rfl) rfl (h_nil ?_)))
      refine wH_seq (wH_ift rfl (drop_cons hD_7) (wH_skip ?_))
      unfold mk_Stream_Shares_L2 at hc_13
      refine wH_seq ?_
      refine wH_block ?_
      refine wH_seq ?_
      refine wH_region ?_
      refine h_ia es27 rfl rfl (drop_idx hD_7) rfl (wt rfl) ?_
      refine h_ldc sz37 ag37 rfl (.d (.agg (Campaign.enc x_6))) rfl (wt rfl) ?_
      refine h_alloc 0 (.inl rfl) z37 rfl (wt rfl) (fun n_17 => ?_)
      refine h_str 0 (.inl rfl) (fun _ _ _ => trivial) 2 sz37 rfl rfl [(vS x_6.Key), (vS x_6.Class), (vI x_6.Time.From), (vI x_6.Time.To), (vL eS x_6.Tags), (vI x_6.Goal), (vI x_6.Most), (vI x_6.Cents)] rfl (wt rfl) ?_
      refine h_nil ?_
      refine wH_seq ?_
      refine wH_region ?_
      refine h_op (vL Spot.enc spots_2) (wt rfl) rfl ?_
      refine h_len un26 rfl (wt rfl) ?_
      refine h_op (vI 0) (wt rfl) rfl ?_
      refine h_nil ?_
      obtain ⟨o_28, hj_29, hc_13⟩ := bind_some hc_13
      obtain ⟨hn_22, hj_29⟩ := forL_some hj_29
      refine wH_join (β := ((List Share) × (List Int) × Int) × Nm) (fun p => (fun (s_23 : (List Share) × (List Int) × Int) (n_25 : Nm) => ([(0, (.ref (extN 0) 0 0)), (1, (vL Spot.enc spots_2)), (7, (gV n_25 3 s_23.1)), (13, (vL Campaign.enc l_3)), (14, (vI (l_3.length : Int))), (15, (vI (k_4 : Int)))] : List (Nat × V))) p.1 p.2) (fun p => (fun (s_23 : (List Share) × (List Int) × Int) (n_25 : Nm) => ([((extN 0), some (.cells 2 [(vL eI s_23.2.1), (vI s_23.2.2)])), (n_25, gB 3 Share.enc s_23.1), (n_17, some (.cells 8 [(vS x_6.Key), (vS x_6.Class), (vI x_6.Time.From), (vI x_6.Time.To), (vL eS x_6.Tags), (vI x_6.Goal), (vI x_6.Most), (vI x_6.Cents)]))] : Hp)) p.1 p.2) (fun p => o_28 = .go p.1) ?_ ?_
      · refine wH_block ?_
        refine wH_loop (β := Nat × (List Spot) × ((List Share) × (List Int) × Int) × Nm) (fun p => (fun (k_18 : Nat) (l_19 : List Spot) (s_23 : (List Share) × (List Int) × Int) (n_25 : Nm) => ([(0, (.ref (extN 0) 0 0)), (1, (vL Spot.enc spots_2)), (7, (gV n_25 3 s_23.1)), (9, (.ref n_17 0 0)), (13, (vL Campaign.enc l_3)), (14, (vI (l_3.length : Int))), (15, (vI (k_4 : Int))), (19, (vL Spot.enc spots_2)), (20, (vI (spots_2.length : Int))), (21, (vI (k_18 : Int)))] : List (Nat × V))) p.1 p.2.1 p.2.2.1 p.2.2.2) (fun p => (fun (k_18 : Nat) (l_19 : List Spot) (s_23 : (List Share) × (List Int) × Int) (n_25 : Nm) => ([((extN 0), some (.cells 2 [(vL eI s_23.2.1), (vI s_23.2.2)])), (n_25, gB 3 Share.enc s_23.1), (n_17, some (.cells 8 [(vS x_6.Key), (vS x_6.Class), (vI x_6.Time.From), (vI x_6.Time.To), (vL eS x_6.Tags), (vI x_6.Goal), (vI x_6.Most), (vI x_6.Cents)]))] : Hp)) p.1 p.2.1 p.2.2.1 p.2.2.2) (fun p => forR (fun k x s => mk_Stream_Shares_L1 x_6 k x s) p.2.1 p.1 p.2.2.1 = some o_28 ∧ (spots_2).drop p.1 = p.2.1) (fun p => p.2.1.length) (0, spots_2, (s_9.1, s_9.2.1, s_9.2.2), n_12) ⟨hj_29, rfl⟩ rfl rfl ?_
        rintro ⟨k_18, l_19, s_23, n_25⟩ ⟨hL_27, hD_21⟩
        dsimp only at hL_27 hD_21
        cases l_19 with
        | nil =>
          replace hL_27 := some_inj hL_27
          subst hL_27
          refine wH_seq (wH_region (h_op (vB (decide ((k_18 : Int) < (spots_2.length : Int)))) (wt rfl) rfl (h_nil ?_)))
          refine wH_seq (wH_iff rfl (drop_nil hD_21) (wH_exit ?_))
          exact cut_mk (s_23, n_25) rfl rfl rfl
        | cons x_20 l_19 =>
          obtain ⟨c_, hc_26, hL_27⟩ := bind_some hL_27
          refine wH_seq (wH_region (h_op (vB (decide ((k_18 : Int) < (spots_2.length : Int)))) (wt rfl) rfl (h_nil ?_)))
          refine wH_seq (wH_ift rfl (drop_cons hD_21) (wH_skip ?_))
          unfold mk_Stream_Shares_L1 at hc_26
          refine wH_seq ?_
          refine wH_block ?_
          refine wH_seq ?_
          refine wH_region ?_
          refine h_ia es26 rfl rfl (drop_idx hD_21) rfl (wt rfl) ?_
          refine h_ldc sz43 ag43 rfl (.d (.agg (Spot.enc x_20))) rfl (wt rfl) ?_
          refine h_alloc 0 (.inl rfl) z43 rfl (wt rfl) (fun n_30 => ?_)
          refine h_str 0 (.inl rfl) (fun _ _ _ => trivial) 3 sz43 rfl rfl [(vS x_20.Key), (vI x_20.Time.From), (vI x_20.Time.To), (vI x_20.Room), (vL eS x_20.Tags)] rfl (wt rfl) ?_
          refine h_nil ?_
          refine wH_seq ?_
          obtain ⟨v_31, h_32, hc_26⟩ := bind_some hc_26
          refine wH_join (β := Unit) (fun _ => ([(0, (.ref (extN 0) 0 0)), (1, (vL Spot.enc spots_2)), (7, (gV n_25 3 s_23.1)), (9, (.ref n_17 0 0)), (11, (.ref n_30 0 0)), (13, (vL Campaign.enc l_3)), (14, (vI (l_3.length : Int))), (15, (vI (k_4 : Int))), (19, (vL Spot.enc spots_2)), (20, (vI (spots_2.length : Int))), (21, (vI (k_18 : Int))), (35, (vB v_31.1))] : List (Nat × V))) (fun _ => ([((extN 0), some (.cells 2 [(vL eI v_31.2.1), (vI v_31.2.2)])), (n_25, gB 3 Share.enc s_23.1), (n_17, some (.cells 8 [(vS x_6.Key), (vS x_6.Class), (vI x_6.Time.From), (vI x_6.Time.To), (vL eS x_6.Tags), (vI x_6.Goal), (vI x_6.Most), (vI x_6.Cents)])), (n_30, some (.cells 5 [(vS x_20.Key), (vI x_20.Time.From), (vI x_20.Time.To), (vI x_20.Room), (vL eS x_20.Tags)]))] : Hp)) (fun _ => True) ?_ ?_
          · refine wH_region ?_
            refine h_op (.ref (extN 0) 0 0) (wt rfl) rfl ?_
            obtain ⟨r_33, hr_34, h_32⟩ := bind_some h_32
            refine h_callq 0 [0] (.inl rfl) (fun _ _ _ => trivial) (mk_Stream_Flip_ok hr_34) rfl hb55 rfl (by kernel_rfl) (by kernel_rfl) (by kernel_rfl) (by kernel_rfl) (by kernel_rfl) (by kernel_rfl) (by kernel_rfl) (by decide) (by kernel_rfl) (wt rfl) (vB r_33.1) (by kernel_rfl) ([((extN 0), some (.cells 2 [(vL eI r_33.2.L), (vI r_33.2.f_at)])), (n_25, gB 3 Share.enc s_23.1), (n_17, some (.cells 8 [(vS x_6.Key), (vS x_6.Class), (vI x_6.Time.From), (vI x_6.Time.To), (vL eS x_6.Tags), (vI x_6.Goal), (vI x_6.Most), (vI x_6.Cents)])), (n_30, some (.cells 5 [(vS x_20.Key), (vI x_20.Time.From), (vI x_20.Time.To), (vI x_20.Room), (vL eS x_20.Tags)]))] : Hp) (by kernel_rfl) ?_
            rcases cond_some h_32 with ⟨hc_36, h_32⟩ | ⟨hc_36, h_32⟩
            · refine h_movb rfl hc_36 (wt rfl) ?_
              refine h_ldr 0 2 (.inl rfl) (fun _ _ _ => trivial) sz37 ag37 rfl rfl (.d (.agg (Campaign.enc x_6))) rfl (wg rfl rfl rfl) ?_
              refine h_ldr 0 3 (.inl rfl) (fun _ _ _ => trivial) sz43 ag43 rfl rfl (.d (.agg (Spot.enc x_20))) rfl (wg rfl rfl rfl) ?_
              obtain ⟨r_37, hr_38, h_32⟩ := bind_some h_32
              refine h_call0 (ref_SuitsOf_ok hr_38) rfl hb16 rfl rfl rfl rfl (wg rfl rfl rfl) ?_
              rcases cond_some h_32 with ⟨hc_39, h_32⟩ | ⟨hc_39, h_32⟩
              · refine h_movb rfl hc_39 (wg rfl rfl rfl) ?_
                refine h_skip (wg rfl rfl rfl) ?_
                refine h_skip (wg rfl rfl rfl) ?_
                refine h_op (vB true) (wg rfl rfl rfl) rfl ?_
                refine h_op (vB true) (wt rfl) rfl ?_
                refine h_nil ?_
                replace h_32 := some_inj h_32
                subst h_32
                exact cut_mk () trivial rfl rfl
              · refine h_movb rfl hc_39 (wg rfl rfl rfl) ?_
                refine h_op (.ref (extN 0) 0 0) (wg rfl rfl rfl) rfl ?_
                obtain ⟨r_40, hr_41, h_32⟩ := bind_some h_32
                refine h_callq 0 [0] (.inl rfl) (fun _ _ _ => trivial) (mk_Stream_Flip_ok hr_41) rfl hb55 rfl (by kernel_rfl) (by kernel_rfl) (by kernel_rfl) (by kernel_rfl) (by kernel_rfl) (by kernel_rfl) (by kernel_rfl) (by decide) (by kernel_rfl) (wg rfl rfl rfl) (vB r_40.1) (by kernel_rfl) ([((extN 0), some (.cells 2 [(vL eI r_40.2.L), (vI r_40.2.f_at)])), (n_25, gB 3 Share.enc s_23.1), (n_17, some (.cells 8 [(vS x_6.Key), (vS x_6.Class), (vI x_6.Time.From), (vI x_6.Time.To), (vL eS x_6.Tags), (vI x_6.Goal), (vI x_6.Most), (vI x_6.Cents)])), (n_30, some (.cells 5 [(vS x_20.Key), (vI x_20.Time.From), (vI x_20.Time.To), (vI x_20.Room), (vL eS x_20.Tags)]))] : Hp) (by kernel_rfl) ?_
                refine h_op (vB r_40.1) (wg rfl rfl rfl) rfl ?_
                refine h_op (vB r_40.1) (wt rfl) rfl ?_
                refine h_nil ?_
                replace h_32 := some_inj h_32
                subst h_32
                exact cut_mk () trivial rfl rfl
            · refine h_movb rfl hc_36 (wt rfl) ?_
              refine h_skip (wg rfl rfl rfl) ?_
              refine h_skip (wg rfl rfl rfl) ?_
              refine h_skip (wg rfl rfl rfl) ?_
              refine h_skip (wg rfl rfl rfl) ?_
              refine h_skip (wn rfl rfl) ?_
              refine h_skip (wn rfl rfl) ?_
              refine h_skip (wg rfl rfl rfl) ?_
              refine h_op (vB false) (wt rfl) rfl ?_
              refine h_nil ?_
              replace h_32 := some_inj h_32
              subst h_32
              exact cut_mk () trivial rfl rfl
          · rintro ⟨⟩ _ sl_ H_ hp_ hq_
            refine wH_at _ hp_ hq_ ?_
            obtain ⟨v_43, h_44, hc_26⟩ := bind_some hc_26
            refine wH_join (β := Nm) (fun (n_45 : Nm) => ([(0, (.ref (extN 0) 0 0)), (1, (vL Spot.enc spots_2)), (7, (gV n_45 3 v_43.1)), (9, (.ref n_17 0 0)), (13, (vL Campaign.enc l_3)), (14, (vI (l_3.length : Int))), (15, (vI (k_4 : Int))), (19, (vL Spot.enc spots_2)), (20, (vI (spots_2.length : Int))), (21, (vI (k_18 : Int)))] : List (Nat × V))) (fun (n_45 : Nm) => ([((extN 0), some (.cells 2 [(vL eI v_43.2.1), (vI v_43.2.2)])), (n_45, gB 3 Share.enc v_43.1), (n_17, some (.cells 8 [(vS x_6.Key), (vS x_6.Class), (vI x_6.Time.From), (vI x_6.Time.To), (vL eS x_6.Tags), (vI x_6.Goal), (vI x_6.Most), (vI x_6.Cents)])), (n_30, some (.cells 5 [(vS x_20.Key), (vI x_20.Time.From), (vI x_20.Time.To), (vI x_20.Room), (vL eS x_20.Tags)]))] : Hp)) (fun _ => True) ?_ ?_
            · rcases cond_some h_44 with ⟨hc_46, h_44⟩ | ⟨hc_46, h_44⟩
              · refine wH_ift rfl hc_46 ?_
                refine wH_draws ?_
                refine h_op (gV n_25 3 s_23.1) (wt rfl) rfl ?_
                refine h_far pl37_0 rfl 0 rfl (wt rfl) ?_
                refine h_ldr 2 2 (.inr (by kernel_rfl)) (fun _ _ ag => trivial) sz9 ag9 rfl rfl (vS x_6.Key) rfl (wt rfl) ?_
                refine h_far pl43_0 rfl 0 rfl (wt rfl) ?_
                refine h_ldr 4 3 (.inr (by kernel_rfl)) (fun _ _ ag => ⟨.inl ⟨rfl, rfl⟩, trivial⟩) sz9 ag9 rfl rfl (vS x_20.Key) rfl (wt rfl) ?_
                refine h_op (.ref (extN 0) 0 0) (wt rfl) rfl ?_
                refine h_lit (([1, 1, 1, 2, 0] : List Int).map eI) es22 ez22 rfl rfl rfl rfl rfl (wt rfl) ?_
                obtain ⟨r_47, hr_48, h_44⟩ := bind_some h_44
                refine h_callq 7 [0] (.inr (by kernel_rfl)) (fun _ _ ag => by exact ⟨.inr (.inl (dis1 (ag_ne ag (i := 0) (j := 2) rfl rfl (by decide)))), ⟨.inr (.inl (dis1 (ag_ne ag (i := 0) (j := 3) rfl rfl (by decide)))), trivial⟩⟩) (mk_Stream_Pick_ok hr_48) rfl hb29 rfl (by kernel_rfl) (by kernel_rfl) (by kernel_rfl) (by kernel_rfl) (by kernel_rfl) (by kernel_rfl) (by kernel_rfl) (by decide) (by kernel_rfl) (wt rfl) (vI r_47.1) (by kernel_rfl) ([((extN 0), some (.cells 2 [(vL eI r_47.2.L), (vI r_47.2.f_at)])), (n_25, gB 3 Share.enc s_23.1), (n_17, some (.cells 8 [(vS x_6.Key), (vS x_6.Class), (vI x_6.Time.From), (vI x_6.Time.To), (vL eS x_6.Tags), (vI x_6.Goal), (vI x_6.Most), (vI x_6.Cents)])), (n_30, some (.cells 5 [(vS x_20.Key), (vI x_20.Time.From), (vI x_20.Time.To), (vI x_20.Room), (vL eS x_20.Tags)]))] : Hp) (by kernel_rfl) ?_
                refine h_op (.d (.agg (Share.enc (⟨x_6.Key, x_20.Key, r_47.1⟩ : Share)))) (wt rfl) (by kernel_rfl) ?_
                refine h_lit (([(⟨x_6.Key, x_20.Key, r_47.1⟩ : Share)] : List Share).map Share.enc) es49 ez49 rfl rfl rfl rfl rfl (wt rfl) ?_
                obtain ⟨a_50, hz_51, h_44⟩ := bind_some h_44
                refine h_appg 10 (.inr (by kernel_rfl)) (fun _ _ ag => ⟨.inr (.inr (by kernel_rfl)), ⟨.inr (.inr (by kernel_rfl)), ⟨.inr (.inr (by kernel_rfl)), trivial⟩⟩⟩) (i := 1) el49 el49 sz62 z62 rfl (by decide) by62 (by decide) (fun _ => rfl) rfl rfl rfl hz_51 (wt rfl) (fun n_52 => ?_)
                refine h_op (gV n_52 3 a_50) (wt rfl) rfl ?_
                refine h_nil ?_
                replace h_44 := some_inj h_44
                subst h_44
                exact cut_mk n_52 trivial rfl rfl
              · refine wH_iff rfl hc_46 ?_
                refine wH_skip ?_
                replace h_44 := some_inj h_44
                subst h_44
                exact cut_mk n_25 trivial rfl rfl
            · rintro n_45 _ sl_ H_ hp_ hq_
              refine wH_at _ hp_ hq_ ?_
              refine wH_region ?_
              refine h_opw (w64_next hD_21 hn_22) (wt rfl) rfl ?_
              refine h_op (vI ((k_18 + 1 : Nat) : Int)) (wt rfl) rfl ?_
              refine h_nil ?_
              replace hc_26 := some_inj hc_26
              subst hc_26
              exact loop_mk (k_18 + 1, l_19, (v_43.1, v_43.2.1, v_43.2.2), n_45) ⟨hL_27, drop_next hD_21⟩ (Nat.lt_succ_self _) rfl rfl
      · rintro ⟨s_23, n_25⟩ ho_ sl_ H_ hp_ hq_
        subst ho_
        refine wH_at _ hp_ hq_ ?_
        refine wH_region ?_
        refine h_opw (w64_next hD_7 hn_8) (wt rfl) rfl ?_
        refine h_op (vI ((k_4 + 1 : Nat) : Int)) (wt rfl) rfl ?_
        refine h_nil ?_
        replace hc_13 := some_inj hc_13
        subst hc_13
        exact loop_mk (k_4 + 1, l_5, (s_23.1, s_23.2.1, s_23.2.2), n_25) ⟨hL_14, drop_next hD_7⟩ (Nat.lt_succ_self _) rfl rfl
  · rintro ⟨s_9, n_12⟩ ho_ sl_ H_ hp_ hq_
    subst ho_
    refine wH_at _ hp_ hq_ ?_
    refine wH_seq ?_
    refine wH_seq ?_
    obtain ⟨v_53, h_54, hF⟩ := bind_some hF
    refine wH_join (β := Unit) (fun _ => ([(0, (.ref (extN 0) 0 0)), (7, (gV n_12 3 s_9.1)), (55, (vB v_53.1))] : List (Nat × V))) (fun _ => ([((extN 0), some (.cells 2 [(vL eI v_53.2.1), (vI v_53.2.2)])), (n_12, gB 3 Share.enc s_9.1)] : Hp)) (fun _ => True) ?_ ?_
    · refine wH_region ?_
      refine h_op (gV n_12 3 s_9.1) (wt rfl) rfl ?_
      refine h_leng un49 rfl (wt rfl) ?_
      refine h_op (vB (decide ((s_9.1.length : Int) > 0))) (wt rfl) rfl ?_
      rcases cond_some h_54 with ⟨hc_55, h_54⟩ | ⟨hc_55, h_54⟩
      · refine h_movb rfl hc_55 (wt rfl) ?_
        refine h_op (.ref (extN 0) 0 0) (wg rfl rfl rfl) rfl ?_
        obtain ⟨r_56, hr_57, h_54⟩ := bind_some h_54
        refine h_callq 0 [0] (.inl rfl) (fun _ _ _ => trivial) (mk_Stream_Flip_ok hr_57) rfl hb55 rfl (by kernel_rfl) (by kernel_rfl) (by kernel_rfl) (by kernel_rfl) (by kernel_rfl) (by kernel_rfl) (by kernel_rfl) (by decide) (by kernel_rfl) (wg rfl rfl rfl) (vB r_56.1) (by kernel_rfl) ([((extN 0), some (.cells 2 [(vL eI r_56.2.L), (vI r_56.2.f_at)])), (n_12, gB 3 Share.enc s_9.1)] : Hp) (by kernel_rfl) ?_
        refine h_op (vB r_56.1) (wt rfl) rfl ?_
        refine h_nil ?_
        replace h_54 := some_inj h_54
        subst h_54
        exact cut_mk () trivial rfl rfl
      · refine h_movb rfl hc_55 (wt rfl) ?_
        refine h_skip (wg rfl rfl rfl) ?_
        refine h_skip (wg rfl rfl rfl) ?_
        refine h_op (vB false) (wt rfl) rfl ?_
        refine h_nil ?_
        replace h_54 := some_inj h_54
        subst h_54
        exact cut_mk () trivial rfl rfl
    · rintro ⟨⟩ _ sl_ H_ hp_ hq_
      refine wH_at _ hp_ hq_ ?_
      obtain ⟨v_59, h_60, hF⟩ := bind_some hF
      refine wH_join (β := Unit) (fun _ => ([(7, (gV n_12 3 v_59.1))] : List (Nat × V))) (fun _ => ([((extN 0), some (.cells 2 [(vL eI v_59.2.1), (vI v_59.2.2)])), (n_12, gB 3 Share.enc v_59.1)] : Hp)) (fun _ => True) ?_ ?_
      · rcases cond_some h_60 with ⟨hc_61, h_60⟩ | ⟨hc_61, h_60⟩
        · refine wH_ift rfl hc_61 ?_
          refine wH_seq ?_
          refine wH_region ?_
          refine h_op (gV n_12 3 s_9.1) (wt rfl) rfl ?_
          refine h_op (.ref (extN 0) 0 0) (wt rfl) rfl ?_
          refine h_op (gV n_12 3 s_9.1) (wt rfl) rfl ?_
          refine h_leng un49 rfl (wt rfl) ?_
          obtain ⟨r_62, hr_63, h_60⟩ := bind_some h_60
          refine h_callq 0 [0] (.inl rfl) (fun _ _ _ => trivial) (mk_Stream_Next_ok hr_63) rfl hb56 rfl (by kernel_rfl) (by kernel_rfl) (by kernel_rfl) (by kernel_rfl) (by kernel_rfl) (by kernel_rfl) (by kernel_rfl) (by decide) (by kernel_rfl) (wt rfl) (vI r_62.1) (by kernel_rfl) ([((extN 0), some (.cells 2 [(vL eI r_62.2.L), (vI r_62.2.f_at)])), (n_12, gB 3 Share.enc s_9.1)] : Hp) (by kernel_rfl) ?_
          obtain ⟨_, hi_65, h_60⟩ := bind_some h_60
          refine h_iavg es49 rfl rfl (inR_0 hi_65) (inR_lt hi_65) (wt rfl) ?_
          refine h_op (.ref n_12 (0 + (r_62.1).toNat) 0) (wt rfl) rfl ?_
          refine h_nil ?_
          refine wH_draws ?_
          refine h_op (.ref n_12 (0 + (r_62.1).toNat) 0) (wt rfl) rfl ?_
          refine h_op (.ref n_12 (0 + (r_62.1).toNat) 0) (wt rfl) rfl ?_
          refine h_op (.ref (extN 0) 0 0) (wt rfl) rfl ?_
          refine h_op (.ref n_12 (0 + (r_62.1).toNat) 0) (wt rfl) rfl ?_
          refine h_op (.ref n_12 (0 + (r_62.1).toNat) 0) (wt rfl) rfl ?_
          refine h_far pl62_0 rfl 0 rfl (wt rfl) ?_
          obtain ⟨e_66, hy_67, h_60⟩ := bind_some h_60
          refine h_ldvg 6 1 (.inr (by kernel_rfl)) (fun _ _ ag => trivial) sz9 ag9 rfl rfl hy_67 (vS e_66.Campaign) rfl (wt rfl) ?_
          refine h_lit (([e_66.Campaign, (⟨#[110, 111, 110, 101]⟩ : ByteArray)] : List ByteArray).map eS) es35 ez35 rfl rfl rfl rfl rfl (wt rfl) ?_
          obtain ⟨r_68, hr_69, h_60⟩ := bind_some h_60
          refine h_callq 8 [0] (.inr (by kernel_rfl)) (fun _ _ ag => by exact ⟨.inr (.inr (by kernel_rfl)), trivial⟩) (mk_Stream_Some_ok hr_69) rfl hb28 rfl (by kernel_rfl) (by kernel_rfl) (by kernel_rfl) (by kernel_rfl) (by kernel_rfl) (by kernel_rfl) (by kernel_rfl) (by decide) (by kernel_rfl) (wt rfl) (vS r_68.1) (by kernel_rfl) ([((extN 0), some (.cells 2 [(vL eI r_68.2.L), (vI r_68.2.f_at)])), (n_12, gB 3 Share.enc s_9.1)] : Hp) (by kernel_rfl) ?_
          refine h_op (.ref (extN 0) 0 0) (wt rfl) rfl ?_
          refine h_op (.ref n_12 (0 + (r_62.1).toNat) 0) (wt rfl) rfl ?_
          refine h_op (.ref n_12 (0 + (r_62.1).toNat) 0) (wt rfl) rfl ?_
          refine h_far pl62_1 rfl 1 rfl (wt rfl) ?_
          obtain ⟨e_71, hy_72, h_60⟩ := bind_some h_60
          refine h_ldvg 13 1 (.inr (by kernel_rfl)) (fun _ _ ag => ⟨.inl ⟨rfl, rfl⟩, ⟨.inr (.inl (dis1 (ag_ne ag (i := 1) (j := 0) rfl rfl (by decide)))), trivial⟩⟩) sz9 ag9 rfl rfl hy_72 (vS e_71.Spot) rfl (wt rfl) ?_
          refine h_lit (([e_71.Spot, (⟨#[110, 111, 110, 101]⟩ : ByteArray), (⟨#[115, 97]⟩ : ByteArray)] : List ByteArray).map eS) es35 ez35 rfl rfl rfl rfl rfl (wt rfl) ?_
          obtain ⟨r_73, hr_74, h_60⟩ := bind_some h_60
          refine h_callq 15 [0] (.inr (by kernel_rfl)) (fun _ _ ag => by exact ⟨.inr (.inr (by kernel_rfl)), ⟨.inr (.inr (by kernel_rfl)), ⟨.inr (.inr (by kernel_rfl)), trivial⟩⟩⟩) (mk_Stream_Some_ok hr_74) rfl hb28 rfl (by kernel_rfl) (by kernel_rfl) (by kernel_rfl) (by kernel_rfl) (by kernel_rfl) (by kernel_rfl) (by kernel_rfl) (by decide) (by kernel_rfl) (wt rfl) (vS r_73.1) (by kernel_rfl) ([((extN 0), some (.cells 2 [(vL eI r_73.2.L), (vI r_73.2.f_at)])), (n_12, gB 3 Share.enc s_9.1)] : Hp) (by kernel_rfl) ?_
          refine h_op (.ref n_12 (0 + (r_62.1).toNat) 0) (wt rfl) rfl ?_
          refine h_far pl62_0 rfl 0 rfl (wt rfl) ?_
          obtain ⟨e_76, hy_77, h_60⟩ := bind_some h_60
          refine h_stvg 18 (.inr (by kernel_rfl)) (fun _ _ ag => ⟨.inr (.inr (by kernel_rfl)), ⟨.inr (.inr (by kernel_rfl)), ⟨.inr (.inr (by kernel_rfl)), ⟨.inr (.inr (by kernel_rfl)), trivial⟩⟩⟩⟩) 1 sz9 rfl rfl hy_77 (⟨r_68.1, e_76.Spot, e_76.Many⟩ : Share) rfl (wt rfl) ?_
          refine h_re (v' := (gV n_12 3 (s_9.1.set (0 + (r_62.1).toNat) (⟨r_68.1, e_76.Spot, e_76.Many⟩ : Share)))) 7 rfl (gV_len (by simp)) ?_
          refine h_re (v' := (gV n_12 3 (s_9.1.set (0 + (r_62.1).toNat) (⟨r_68.1, e_76.Spot, e_76.Many⟩ : Share)))) 56 rfl (gV_len (by simp)) ?_
          refine h_re (v' := (gV n_12 3 (s_9.1.set (0 + (r_62.1).toNat) (⟨r_68.1, e_76.Spot, e_76.Many⟩ : Share)))) 58 rfl (gV_len (by simp)) ?_
          refine h_op (.ref n_12 (0 + (r_62.1).toNat) 0) (wt rfl) rfl ?_
          refine h_far pl62_1 rfl 1 rfl (wt rfl) ?_
          obtain ⟨e_78, hy_79, h_60⟩ := bind_some h_60
          refine h_stvg 21 (.inr (by kernel_rfl)) (fun _ _ ag => ⟨.inr (.inr (by kernel_rfl)), ⟨.inr (.inr (by kernel_rfl)), ⟨.inr (.inr (by kernel_rfl)), ⟨.inr (.inr (by kernel_rfl)), ⟨.inr (.inr (by kernel_rfl)), trivial⟩⟩⟩⟩⟩) 1 sz9 rfl rfl hy_79 (⟨e_78.Campaign, r_73.1, e_78.Many⟩ : Share) rfl (wt rfl) ?_
          refine h_re (v' := (gV n_12 3 ((s_9.1.set (0 + (r_62.1).toNat) (⟨r_68.1, e_76.Spot, e_76.Many⟩ : Share)).set (0 + (r_62.1).toNat) (⟨e_78.Campaign, r_73.1, e_78.Many⟩ : Share)))) 7 rfl (gV_len (by simp)) ?_
          refine h_re (v' := (gV n_12 3 ((s_9.1.set (0 + (r_62.1).toNat) (⟨r_68.1, e_76.Spot, e_76.Many⟩ : Share)).set (0 + (r_62.1).toNat) (⟨e_78.Campaign, r_73.1, e_78.Many⟩ : Share)))) 56 rfl (gV_len (by simp)) ?_
          refine h_re (v' := (gV n_12 3 ((s_9.1.set (0 + (r_62.1).toNat) (⟨r_68.1, e_76.Spot, e_76.Many⟩ : Share)).set (0 + (r_62.1).toNat) (⟨e_78.Campaign, r_73.1, e_78.Many⟩ : Share)))) 58 rfl (gV_len (by simp)) ?_
          refine h_nil ?_
          replace h_60 := some_inj h_60
          subst h_60
          exact cut_mk () trivial rfl rfl
        · refine wH_iff rfl hc_61 ?_
          refine wH_skip ?_
          replace h_60 := some_inj h_60
          subst h_60
          exact cut_mk () trivial rfl rfl
      · rintro ⟨⟩ _ sl_ H_ hp_ hq_
        refine wH_at _ hp_ hq_ ?_
        refine wH_seq ?_
        refine wH_region ?_
        refine h_op (gV n_12 3 v_59.1) (wt rfl) rfl ?_
        refine h_op (gV n_12 3 v_59.1) (wt rfl) rfl ?_
        refine h_nil ?_
        refine wH_frozg 1 rfl ?_
        refine wH_cog 6 1 rfl rfl ?_
        refine wH_cog 7 1 rfl rfl ?_
        refine wH_cog 82 1 rfl rfl ?_
        replace hF := some_inj hF
        subst hF
        refine wH_ret ?_
        exact finB (.inr rfl) [(vL Share.enc v_59.1)] _ [0] [extN 0] ⟨rfl, trivial⟩ (.cons (co_data rfl rfl) (.nil)) (by kernel_rfl) ⟨(by kernel_rfl), trivial⟩ (by decide) (by kernel_rfl)
theorem ref_SharesFault_1_ok {c_1 : Campaign} {p_2 : Share} {r : Bool} (hF : ref_SharesFault_1 c_1 p_2 = some r) :
    FnM Try.prog 58 [(.d (.agg (Campaign.enc c_1))), (.ref (extN 0) 0 0)] [(.cells 3 [(vS p_2.Campaign), (vS p_2.Spot), (vI p_2.Many)])] (vB r) [some (.cells 3 [(vS p_2.Campaign), (vS p_2.Spot), (vI p_2.Many)])] := by
  refine FnM.of_wH ⟨Try.prog, 9, [], []⟩ rfl Try.func58 rfl rfl (Nat.le_of_ble_eq_true rfl) (by kernel_rfl) ?_
  unfold ref_SharesFault_1 at hF
  refine wH_seq ?_
  refine wH_region ?_
  refine h_box 0 (.inl rfl) [(vS c_1.Key), (vS c_1.Class), (vI c_1.Time.From), (vI c_1.Time.To), (vL eS c_1.Tags), (vI c_1.Goal), (vI c_1.Most), (vI c_1.Cents)] rfl rfl (wt rfl) (fun n_3 => ?_)
  refine h_op (vB false) (wt rfl) rfl ?_
  refine h_nil ?_
  refine wH_seq ?_
  refine wH_region ?_
  refine h_far pl37_0 rfl 0 rfl (wt rfl) ?_
  refine h_ldr 0 1 (.inl rfl) (fun _ _ _ => trivial) sz9 ag9 rfl rfl (vS c_1.Key) rfl (wt rfl) ?_
  refine h_far pl62_0 rfl 0 rfl (wt rfl) ?_
  refine h_ldr 0 0 (.inl rfl) (fun _ _ _ => trivial) sz9 ag9 rfl rfl (vS p_2.Campaign) rfl (wt rfl) ?_
  refine h_op (vB (sEq c_1.Key p_2.Campaign)) (wt rfl) rfl ?_
  refine h_op (vB (sEq c_1.Key p_2.Campaign)) (wt rfl) rfl ?_
  refine h_nil ?_
  replace hF := some_inj hF
  subst hF
  refine wH_ret ?_
  exact finB (.inr rfl) [(vB (sEq c_1.Key p_2.Campaign))] _ [0] [extN 0] ⟨rfl, trivial⟩ (.cons (co_data rfl rfl) (.nil)) (by kernel_rfl) ⟨(by kernel_rfl), trivial⟩ (by decide) (by kernel_rfl)
theorem slices_IndexFunc_api_Campaign_api_Campaign_ok {s_1 : (List Campaign)} {f_2 : Campaign → Option Bool} {r : Int} {gid : FuncId} {caps : List V} {Sin : List Box} (hfn : ∀ x0 r, f_2 x0 = some r → FnM Try.prog gid ([(.d (.agg (Campaign.enc x0)))] ++ caps) Sin (vB r) (Sin.map some)) (hbF : hasBody Try.prog gid = true) (hcapF : caps.flatMap frz = [] ∧ caps.map co0 = caps) (hokF : okL Sin.length caps = true) (hsF : ∀ b ∈ Sin, b.ok Sin.length = true) (hmF : ∀ b ∈ Sin, b.mut = true) (hF : slices_IndexFunc_api_Campaign_api_Campaign s_1 f_2 = some r) :
    FnM Try.prog 57 [(vL Campaign.enc s_1), (.fn gid caps)] Sin (vI r) (Sin.map some) := by
  refine FnM.of_wH ⟨Try.prog, 19, [], []⟩ rfl Try.func57 rfl rfl (Nat.le_of_ble_eq_true rfl) (by kernel_rfl) ?_
  unfold slices_IndexFunc_api_Campaign_api_Campaign at hF
  refine wH_seq ?_
  refine wH_region ?_
  refine h_op (vI 0) (wt rfl) rfl ?_
  refine h_nil ?_
  refine wH_seq ?_
  refine wH_seq ?_
  refine wH_region ?_
  refine h_op (vL Campaign.enc s_1) (wt rfl) rfl ?_
  refine h_len un27 rfl (wt rfl) ?_
  refine h_op (vI 0) (wt rfl) rfl ?_
  refine h_nil ?_
  obtain ⟨o_11, hj_12, hF⟩ := bind_some hF
  obtain ⟨hn_7, hj_12⟩ := forL_some hj_12
  refine wH_join (β := (Unit)) (fun (s_8 : Unit) => ([] : List (Nat × V))) (fun (s_8 : Unit) => (initH 0 Sin)) (fun p => o_11 = .go p) ?_ ?_
  · refine wH_block ?_
    refine wH_loop (β := Nat × (List Campaign) × (Unit)) (fun p => (fun (k_3 : Nat) (l_4 : List Campaign) (s_8 : Unit) => ([(0, (vL Campaign.enc s_1)), (1, (.fn gid caps)), (7, (vI (s_1.length : Int))), (8, (vI (k_3 : Int)))] : List (Nat × V))) p.1 p.2.1 p.2.2) (fun p => (fun (k_3 : Nat) (l_4 : List Campaign) (s_8 : Unit) => (initH 0 Sin)) p.1 p.2.1 p.2.2) (fun p => forR (fun k x s => slices_IndexFunc_api_Campaign_api_Campaign_L1 f_2 k x s) p.2.1 p.1 p.2.2 = some o_11 ∧ (s_1).drop p.1 = p.2.1) (fun p => p.2.1.length) (0, s_1, ()) ⟨hj_12, rfl⟩ rfl (pre_self _) ?_
    rintro ⟨k_3, l_4, s_8⟩ ⟨hL_10, hD_6⟩
    dsimp only at hL_10 hD_6
    cases l_4 with
    | nil =>
      replace hL_10 := some_inj hL_10
      subst hL_10
      refine wH_seq (wH_region (h_op (vB (decide ((k_3 : Int) < (s_1.length : Int)))) (wt rfl) rfl (h_nil ?_)))
      refine wH_seq (wH_iff rfl (drop_nil hD_6) (wH_exit ?_))
      exact cut_mk (s_8) rfl rfl (pre_self _)
    | cons x_5 l_4 =>
      obtain ⟨c_, hc_9, hL_10⟩ := bind_some hL_10
      refine wH_seq (wH_region (h_op (vB (decide ((k_3 : Int) < (s_1.length : Int)))) (wt rfl) rfl (h_nil ?_)))
      refine wH_seq (wH_ift rfl (drop_cons hD_6) (wH_skip ?_))
      unfold slices_IndexFunc_api_Campaign_api_Campaign_L1 at hc_9
      refine wH_seq ?_
      refine wH_block ?_
      refine wH_seq ?_
      refine wH_region ?_
      refine h_op (vI (k_3 : Int)) (wt rfl) rfl ?_
      refine h_op (vI (k_3 : Int)) (wt rfl) rfl ?_
      refine h_nil ?_
      refine wH_seq ?_
      refine wH_region ?_
      refine h_op (.fn gid caps) (wt rfl) rfl ?_
      refine h_op (vL Campaign.enc s_1) (wt rfl) rfl ?_
      refine h_op (vI (k_3 : Int)) (wt rfl) rfl ?_
      refine h_ia es27 rfl rfl (drop_idx hD_6) rfl (wt rfl) ?_
      refine h_ldc sz37 ag37 rfl (.d (.agg (Campaign.enc x_5))) rfl (wt rfl) ?_
      obtain ⟨r_13, hr_14, hc_9⟩ := bind_some hc_9
      refine h_callS (hfn _ _ hr_14) rfl hbF rfl rfl hcapF hokF hsF hmF rfl (wt rfl) rfl ?_
      refine h_nil ?_
      rcases cond_some hc_9 with ⟨hc_15, hc_9⟩ | ⟨hc_15, hc_9⟩
      · refine wH_ift rfl hc_15 ?_
        refine wH_seq ?_
        refine wH_region ?_
        refine h_op (vI (k_3 : Int)) (wt rfl) rfl ?_
        refine h_op (vI (k_3 : Int)) (wt rfl) rfl ?_
        refine h_nil ?_
        replace hc_9 := some_inj hc_9
        subst hc_9
        replace hL_10 := some_inj hL_10
        subst hL_10
        replace hF := some_inj hF
        subst hF
        refine wH_ret ?_
        exact finS hsF (.inr rfl) [(vI (k_3 : Int))] ⟨rfl, trivial⟩ rfl rfl rfl
      · refine wH_iff rfl hc_15 ?_
        refine wH_skip ?_
        refine wH_region ?_
        refine h_opw (w64_next hD_6 hn_7) (wt rfl) rfl ?_
        refine h_op (vI ((k_3 + 1 : Nat) : Int)) (wt rfl) rfl ?_
        refine h_nil ?_
        replace hc_9 := some_inj hc_9
        subst hc_9
        exact loop_mk (k_3 + 1, l_4, ()) ⟨hL_10, drop_next hD_6⟩ (Nat.lt_succ_self _) rfl (pre_self _)
  · rintro s_8 ho_ sl_ H_ hp_ hq_
    subst ho_
    refine wH_at _ hp_ hq_ ?_
    refine wH_seq ?_
    refine wH_region ?_
    refine h_op (vI (-1)) (wt rfl) rfl ?_
    refine h_nil ?_
    replace hF := some_inj hF
    subst hF
    refine wH_ret ?_
    exact finS hsF (.inr rfl) [(vI (-1))] ⟨rfl, trivial⟩ rfl rfl rfl
theorem ref_SharesFault_2_ok {y_1 : Spot} {p_2 : Share} {r : Bool} (hF : ref_SharesFault_2 y_1 p_2 = some r) :
    FnM Try.prog 60 [(.d (.agg (Spot.enc y_1))), (.ref (extN 0) 0 0)] [(.cells 3 [(vS p_2.Campaign), (vS p_2.Spot), (vI p_2.Many)])] (vB r) [some (.cells 3 [(vS p_2.Campaign), (vS p_2.Spot), (vI p_2.Many)])] := by
  refine FnM.of_wH ⟨Try.prog, 9, [], []⟩ rfl Try.func60 rfl rfl (Nat.le_of_ble_eq_true rfl) (by kernel_rfl) ?_
  unfold ref_SharesFault_2 at hF
  refine wH_seq ?_
  refine wH_region ?_
  refine h_box 0 (.inl rfl) [(vS y_1.Key), (vI y_1.Time.From), (vI y_1.Time.To), (vI y_1.Room), (vL eS y_1.Tags)] rfl rfl (wt rfl) (fun n_3 => ?_)
  refine h_op (vB false) (wt rfl) rfl ?_
  refine h_nil ?_
  refine wH_seq ?_
  refine wH_region ?_
  refine h_far pl43_0 rfl 0 rfl (wt rfl) ?_
  refine h_ldr 0 1 (.inl rfl) (fun _ _ _ => trivial) sz9 ag9 rfl rfl (vS y_1.Key) rfl (wt rfl) ?_
  refine h_far pl62_1 rfl 1 rfl (wt rfl) ?_
  refine h_ldr 0 0 (.inl rfl) (fun _ _ _ => trivial) sz9 ag9 rfl rfl (vS p_2.Spot) rfl (wt rfl) ?_
  refine h_op (vB (sEq y_1.Key p_2.Spot)) (wt rfl) rfl ?_
  refine h_op (vB (sEq y_1.Key p_2.Spot)) (wt rfl) rfl ?_
  refine h_nil ?_
  replace hF := some_inj hF
  subst hF
  refine wH_ret ?_
  exact finB (.inr rfl) [(vB (sEq y_1.Key p_2.Spot))] _ [0] [extN 0] ⟨rfl, trivial⟩ (.cons (co_data rfl rfl) (.nil)) (by kernel_rfl) ⟨(by kernel_rfl), trivial⟩ (by decide) (by kernel_rfl)
theorem slices_IndexFunc_api_Spot_api_Spot_ok {s_1 : (List Spot)} {f_2 : Spot → Option Bool} {r : Int} {gid : FuncId} {caps : List V} {Sin : List Box} (hfn : ∀ x0 r, f_2 x0 = some r → FnM Try.prog gid ([(.d (.agg (Spot.enc x0)))] ++ caps) Sin (vB r) (Sin.map some)) (hbF : hasBody Try.prog gid = true) (hcapF : caps.flatMap frz = [] ∧ caps.map co0 = caps) (hokF : okL Sin.length caps = true) (hsF : ∀ b ∈ Sin, b.ok Sin.length = true) (hmF : ∀ b ∈ Sin, b.mut = true) (hF : slices_IndexFunc_api_Spot_api_Spot s_1 f_2 = some r) :
    FnM Try.prog 59 [(vL Spot.enc s_1), (.fn gid caps)] Sin (vI r) (Sin.map some) := by
  refine FnM.of_wH ⟨Try.prog, 19, [], []⟩ rfl Try.func59 rfl rfl (Nat.le_of_ble_eq_true rfl) (by kernel_rfl) ?_
  unfold slices_IndexFunc_api_Spot_api_Spot at hF
  refine wH_seq ?_
  refine wH_region ?_
  refine h_op (vI 0) (wt rfl) rfl ?_
  refine h_nil ?_
  refine wH_seq ?_
  refine wH_seq ?_
  refine wH_region ?_
  refine h_op (vL Spot.enc s_1) (wt rfl) rfl ?_
  refine h_len un26 rfl (wt rfl) ?_
  refine h_op (vI 0) (wt rfl) rfl ?_
  refine h_nil ?_
  obtain ⟨o_11, hj_12, hF⟩ := bind_some hF
  obtain ⟨hn_7, hj_12⟩ := forL_some hj_12
  refine wH_join (β := (Unit)) (fun (s_8 : Unit) => ([] : List (Nat × V))) (fun (s_8 : Unit) => (initH 0 Sin)) (fun p => o_11 = .go p) ?_ ?_
  · refine wH_block ?_
    refine wH_loop (β := Nat × (List Spot) × (Unit)) (fun p => (fun (k_3 : Nat) (l_4 : List Spot) (s_8 : Unit) => ([(0, (vL Spot.enc s_1)), (1, (.fn gid caps)), (7, (vI (s_1.length : Int))), (8, (vI (k_3 : Int)))] : List (Nat × V))) p.1 p.2.1 p.2.2) (fun p => (fun (k_3 : Nat) (l_4 : List Spot) (s_8 : Unit) => (initH 0 Sin)) p.1 p.2.1 p.2.2) (fun p => forR (fun k x s => slices_IndexFunc_api_Spot_api_Spot_L1 f_2 k x s) p.2.1 p.1 p.2.2 = some o_11 ∧ (s_1).drop p.1 = p.2.1) (fun p => p.2.1.length) (0, s_1, ()) ⟨hj_12, rfl⟩ rfl (pre_self _) ?_
    rintro ⟨k_3, l_4, s_8⟩ ⟨hL_10, hD_6⟩
    dsimp only at hL_10 hD_6
    cases l_4 with
    | nil =>
      replace hL_10 := some_inj hL_10
      subst hL_10
      refine wH_seq (wH_region (h_op (vB (decide ((k_3 : Int) < (s_1.length : Int)))) (wt rfl) rfl (h_nil ?_)))
      refine wH_seq (wH_iff rfl (drop_nil hD_6) (wH_exit ?_))
      exact cut_mk (s_8) rfl rfl (pre_self _)
    | cons x_5 l_4 =>
      obtain ⟨c_, hc_9, hL_10⟩ := bind_some hL_10
      refine wH_seq (wH_region (h_op (vB (decide ((k_3 : Int) < (s_1.length : Int)))) (wt rfl) rfl (h_nil ?_)))
      refine wH_seq (wH_ift rfl (drop_cons hD_6) (wH_skip ?_))
      unfold slices_IndexFunc_api_Spot_api_Spot_L1 at hc_9
      refine wH_seq ?_
      refine wH_block ?_
      refine wH_seq ?_
      refine wH_region ?_
      refine h_op (vI (k_3 : Int)) (wt rfl) rfl ?_
      refine h_op (vI (k_3 : Int)) (wt rfl) rfl ?_
      refine h_nil ?_
      refine wH_seq ?_
      refine wH_region ?_
      refine h_op (.fn gid caps) (wt rfl) rfl ?_
      refine h_op (vL Spot.enc s_1) (wt rfl) rfl ?_
      refine h_op (vI (k_3 : Int)) (wt rfl) rfl ?_
      refine h_ia es26 rfl rfl (drop_idx hD_6) rfl (wt rfl) ?_
      refine h_ldc sz43 ag43 rfl (.d (.agg (Spot.enc x_5))) rfl (wt rfl) ?_
      obtain ⟨r_13, hr_14, hc_9⟩ := bind_some hc_9
      refine h_callS (hfn _ _ hr_14) rfl hbF rfl rfl hcapF hokF hsF hmF rfl (wt rfl) rfl ?_
      refine h_nil ?_
      rcases cond_some hc_9 with ⟨hc_15, hc_9⟩ | ⟨hc_15, hc_9⟩
      · refine wH_ift rfl hc_15 ?_
        refine wH_seq ?_
        refine wH_region ?_
        refine h_op (vI (k_3 : Int)) (wt rfl) rfl ?_
        refine h_op (vI (k_3 : Int)) (wt rfl) rfl ?_
        refine h_nil ?_
        replace hc_9 := some_inj hc_9
        subst hc_9
        replace hL_10 := some_inj hL_10
        subst hL_10
        replace hF := some_inj hF
        subst hF
        refine wH_ret ?_
        exact finS hsF (.inr rfl) [(vI (k_3 : Int))] ⟨rfl, trivial⟩ rfl rfl rfl
      · refine wH_iff rfl hc_15 ?_
        refine wH_skip ?_
        refine wH_region ?_
        refine h_opw (w64_next hD_6 hn_7) (wt rfl) rfl ?_
        refine h_op (vI ((k_3 + 1 : Nat) : Int)) (wt rfl) rfl ?_
        refine h_nil ?_
        replace hc_9 := some_inj hc_9
        subst hc_9
        exact loop_mk (k_3 + 1, l_4, ()) ⟨hL_10, drop_next hD_6⟩ (Nat.lt_succ_self _) rfl (pre_self _)
  · rintro s_8 ho_ sl_ H_ hp_ hq_
    subst ho_
    refine wH_at _ hp_ hq_ ?_
    refine wH_seq ?_
    refine wH_region ?_
    refine h_op (vI (-1)) (wt rfl) rfl ?_
    refine h_nil ?_
    replace hF := some_inj hF
    subst hF
    refine wH_ret ?_
    exact finS hsF (.inr rfl) [(vI (-1))] ⟨rfl, trivial⟩ rfl rfl rfl
theorem cmp_Compare_string_ok {x_1 : ByteArray} {y_2 : ByteArray} {r : Int} (hF : cmp_Compare_string x_1 y_2 = some r) :
    FnM Try.prog 93 [(vS x_1), (vS y_2)] [] (vI r) [] := by
  refine FnM.of_wH ⟨Try.prog, 20, [], []⟩ rfl Try.func93 rfl rfl (Nat.le_of_ble_eq_true rfl) (by kernel_rfl) ?_
  unfold cmp_Compare_string at hF
  refine wH_seq ?_
  refine wH_region ?_
  refine h_op (vI 0) (wt rfl) rfl ?_
  refine h_nil ?_
  refine wH_seq ?_
  refine wH_region ?_
  refine h_op (vS x_1) (wt rfl) rfl ?_
  obtain ⟨r_3, hr_4, hF⟩ := bind_some hF
  refine h_call0 (cmp_isNaN_string_ok hr_4) rfl hb101 rfl rfl rfl rfl (wt rfl) ?_
  refine h_op (vB r_3) (wt rfl) rfl ?_
  refine h_nil ?_
  refine wH_seq ?_
  refine wH_region ?_
  refine h_op (vS y_2) (wt rfl) rfl ?_
  obtain ⟨r_5, hr_6, hF⟩ := bind_some hF
  refine h_call0 (cmp_isNaN_string_ok hr_6) rfl hb101 rfl rfl rfl rfl (wt rfl) ?_
  refine h_op (vB r_5) (wt rfl) rfl ?_
  refine h_nil ?_
  refine wH_seq ?_
  refine wH_seq ?_
  refine wH_region ?_
  refine h_op (vB r_3) (wt rfl) rfl ?_
  refine h_nil ?_
  rcases cond_some hF with ⟨hc_7, hF⟩ | ⟨hc_7, hF⟩
  · refine wH_ift rfl hc_7 ?_
    refine wH_seq ?_
    refine wH_seq ?_
    refine wH_region ?_
    refine h_op (vB r_5) (wt rfl) rfl ?_
    refine h_nil ?_
    rcases cond_some hF with ⟨hc_8, hF⟩ | ⟨hc_8, hF⟩
    · refine wH_ift rfl hc_8 ?_
      refine wH_seq ?_
      refine wH_region ?_
      refine h_op (vI 0) (wt rfl) rfl ?_
      refine h_nil ?_
      replace hF := some_inj hF
      subst hF
      refine wH_ret ?_
      exact fin0 (.inr rfl) [(vI 0)] ⟨rfl, trivial⟩ rfl rfl rfl
    · refine wH_iff rfl hc_8 ?_
      refine wH_skip ?_
      refine wH_seq ?_
      refine wH_region ?_
      refine h_op (vI (-1)) (wt rfl) rfl ?_
      refine h_nil ?_
      replace hF := some_inj hF
      subst hF
      refine wH_ret ?_
      exact fin0 (.inr rfl) [(vI (-1))] ⟨rfl, trivial⟩ rfl rfl rfl
  · refine wH_iff rfl hc_7 ?_
    refine wH_skip ?_
    refine wH_seq ?_
    refine wH_seq ?_
    refine wH_region ?_
    refine h_op (vB r_5) (wt rfl) rfl ?_
    refine h_nil ?_
    rcases cond_some hF with ⟨hc_9, hF⟩ | ⟨hc_9, hF⟩
    · refine wH_ift rfl hc_9 ?_
      refine wH_seq ?_
      refine wH_region ?_
      refine h_op (vI 1) (wt rfl) rfl ?_
      refine h_nil ?_
      replace hF := some_inj hF
      subst hF
      refine wH_ret ?_
      exact fin0 (.inr rfl) [(vI 1)] ⟨rfl, trivial⟩ rfl rfl rfl
    · refine wH_iff rfl hc_9 ?_
      refine wH_skip ?_
      refine wH_seq ?_
      refine wH_seq ?_
      refine wH_region ?_
      refine h_op (vS x_1) (wt rfl) rfl ?_
      refine h_op (vS y_2) (wt rfl) rfl ?_
      refine h_op (vB (sLt x_1 y_2)) (wt rfl) rfl ?_
      refine h_nil ?_
      rcases cond_some hF with ⟨hc_10, hF⟩ | ⟨hc_10, hF⟩
      · refine wH_ift rfl hc_10 ?_
        refine wH_seq ?_
        refine wH_region ?_
        refine h_op (vI (-1)) (wt rfl) rfl ?_
        refine h_nil ?_
        replace hF := some_inj hF
        subst hF
        refine wH_ret ?_
        exact fin0 (.inr rfl) [(vI (-1))] ⟨rfl, trivial⟩ rfl rfl rfl
      · refine wH_iff rfl hc_10 ?_
        refine wH_skip ?_
        refine wH_seq ?_
        refine wH_seq ?_
        refine wH_region ?_
        refine h_op (vS x_1) (wt rfl) rfl ?_
        refine h_op (vS y_2) (wt rfl) rfl ?_
        refine h_op (vB (sGt x_1 y_2)) (wt rfl) rfl ?_
        refine h_nil ?_
        rcases cond_some hF with ⟨hc_11, hF⟩ | ⟨hc_11, hF⟩
        · refine wH_ift rfl hc_11 ?_
          refine wH_seq ?_
          refine wH_region ?_
          refine h_op (vI 1) (wt rfl) rfl ?_
          refine h_nil ?_
          replace hF := some_inj hF
          subst hF
          refine wH_ret ?_
          exact fin0 (.inr rfl) [(vI 1)] ⟨rfl, trivial⟩ rfl rfl rfl
        · refine wH_iff rfl hc_11 ?_
          refine wH_skip ?_
          refine wH_seq ?_
          refine wH_region ?_
          refine h_op (vI 0) (wt rfl) rfl ?_
          refine h_nil ?_
          replace hF := some_inj hF
          subst hF
          refine wH_ret ?_
          exact fin0 (.inr rfl) [(vI 0)] ⟨rfl, trivial⟩ rfl rfl rfl
theorem slices_Compare_string_string_ok {s1_1 : (List ByteArray)} {s2_2 : (List ByteArray)} {r : Int} (hF : slices_Compare_string_string s1_1 s2_2 = some r) :
    FnM Try.prog 61 [(vL eS s1_1), (vL eS s2_2)] [] (vI r) [] := by
  refine FnM.of_wH ⟨Try.prog, 36, [], []⟩ rfl Try.func61 rfl rfl (Nat.le_of_ble_eq_true rfl) (by kernel_rfl) ?_
  unfold slices_Compare_string_string at hF
  refine wH_seq ?_
  refine wH_region ?_
  refine h_op (vI 0) (wt rfl) rfl ?_
  refine h_nil ?_
  refine wH_seq ?_
  refine wH_seq ?_
  refine wH_region ?_
  refine h_op (vL eS s1_1) (wt rfl) rfl ?_
  refine h_len un35 rfl (wt rfl) ?_
  refine h_op (vI 0) (wt rfl) rfl ?_
  refine h_nil ?_
  obtain ⟨o_11, hj_12, hF⟩ := bind_some hF
  obtain ⟨hn_7, hj_12⟩ := forL_some hj_12
  refine wH_join (β := (Unit)) (fun (s_8 : Unit) => ([(0, (vL eS s1_1)), (1, (vL eS s2_2))] : List (Nat × V))) (fun (s_8 : Unit) => ([] : Hp)) (fun p => o_11 = .go p) ?_ ?_
  · refine wH_block ?_
    refine wH_loop (β := Nat × (List ByteArray) × (Unit)) (fun p => (fun (k_3 : Nat) (l_4 : List ByteArray) (s_8 : Unit) => ([(0, (vL eS s1_1)), (1, (vL eS s2_2)), (9, (vL eS s1_1)), (10, (vI (s1_1.length : Int))), (11, (vI (k_3 : Int)))] : List (Nat × V))) p.1 p.2.1 p.2.2) (fun p => (fun (k_3 : Nat) (l_4 : List ByteArray) (s_8 : Unit) => ([] : Hp)) p.1 p.2.1 p.2.2) (fun p => forR (fun k x s => slices_Compare_string_string_L1 s2_2 k x s) p.2.1 p.1 p.2.2 = some o_11 ∧ (s1_1).drop p.1 = p.2.1) (fun p => p.2.1.length) (0, s1_1, ()) ⟨hj_12, rfl⟩ rfl rfl ?_
    rintro ⟨k_3, l_4, s_8⟩ ⟨hL_10, hD_6⟩
    dsimp only at hL_10 hD_6
    cases l_4 with
    | nil =>
      replace hL_10 := some_inj hL_10
      subst hL_10
      refine wH_seq (wH_region (h_op (vB (decide ((k_3 : Int) < (s1_1.length : Int)))) (wt rfl) rfl (h_nil ?_)))
      refine wH_seq (wH_iff rfl (drop_nil hD_6) (wH_exit ?_))
      exact cut_mk (s_8) rfl rfl rfl
    | cons x_5 l_4 =>
      obtain ⟨c_, hc_9, hL_10⟩ := bind_some hL_10
      refine wH_seq (wH_region (h_op (vB (decide ((k_3 : Int) < (s1_1.length : Int)))) (wt rfl) rfl (h_nil ?_)))
      refine wH_seq (wH_ift rfl (drop_cons hD_6) (wH_skip ?_))
      unfold slices_Compare_string_string_L1 at hc_9
      refine wH_seq ?_
      refine wH_block ?_
      refine wH_seq ?_
      refine wH_region ?_
      refine h_op (vI (k_3 : Int)) (wt rfl) rfl ?_
      refine h_ia es35 rfl rfl (drop_idx hD_6) rfl (wt rfl) ?_
      refine h_ldc sz9 ag9 rfl (vS x_5) rfl (wt rfl) ?_
      refine h_op (vI (k_3 : Int)) (wt rfl) rfl ?_
      refine h_op (vS x_5) (wt rfl) rfl ?_
      refine h_nil ?_
      refine wH_seq ?_
      refine wH_seq ?_
      refine wH_region ?_
      refine h_op (vI (k_3 : Int)) (wt rfl) rfl ?_
      refine h_op (vL eS s2_2) (wt rfl) rfl ?_
      refine h_len un35 rfl (wt rfl) ?_
      refine h_op (vB (decide ((k_3 : Int) ≥ (s2_2.length : Int)))) (wt rfl) rfl ?_
      refine h_nil ?_
      rcases cond_some hc_9 with ⟨hc_13, hc_9⟩ | ⟨hc_13, hc_9⟩
      · refine wH_ift rfl hc_13 ?_
        refine wH_seq ?_
        refine wH_region ?_
        refine h_op (vI 1) (wt rfl) rfl ?_
        refine h_nil ?_
        replace hc_9 := some_inj hc_9
        subst hc_9
        replace hL_10 := some_inj hL_10
        subst hL_10
        replace hF := some_inj hF
        subst hF
        refine wH_ret ?_
        exact fin0 (.inr rfl) [(vI 1)] ⟨rfl, trivial⟩ rfl rfl rfl
      · refine wH_iff rfl hc_13 ?_
        refine wH_skip ?_
        refine wH_seq ?_
        refine wH_region ?_
        refine h_op (vL eS s2_2) (wt rfl) rfl ?_
        refine h_op (vI (k_3 : Int)) (wt rfl) rfl ?_
        obtain ⟨y_14, hy_15, hc_9⟩ := bind_some hc_9
        refine h_ia es35 rfl rfl hy_15 rfl (wt rfl) ?_
        refine h_ldc sz9 ag9 rfl (vS y_14) rfl (wt rfl) ?_
        refine h_op (vS y_14) (wt rfl) rfl ?_
        refine h_nil ?_
        refine wH_seq ?_
        refine wH_region ?_
        refine h_op (vS x_5) (wt rfl) rfl ?_
        refine h_op (vS y_14) (wt rfl) rfl ?_
        obtain ⟨r_16, hr_17, hc_9⟩ := bind_some hc_9
        refine h_call0 (cmp_Compare_string_ok hr_17) rfl hb93 rfl rfl rfl rfl (wt rfl) ?_
        refine h_op (vI r_16) (wt rfl) rfl ?_
        refine h_nil ?_
        refine wH_seq ?_
        refine wH_region ?_
        refine h_op (vI r_16) (wt rfl) rfl ?_
        refine h_op (vB (r_16 != 0)) (wt rfl) rfl ?_
        refine h_nil ?_
        rcases cond_some hc_9 with ⟨hc_18, hc_9⟩ | ⟨hc_18, hc_9⟩
        · refine wH_ift rfl hc_18 ?_
          refine wH_seq ?_
          refine wH_region ?_
          refine h_op (vI r_16) (wt rfl) rfl ?_
          refine h_op (vI r_16) (wt rfl) rfl ?_
          refine h_nil ?_
          replace hc_9 := some_inj hc_9
          subst hc_9
          replace hL_10 := some_inj hL_10
          subst hL_10
          replace hF := some_inj hF
          subst hF
          refine wH_ret ?_
          exact fin0 (.inr rfl) [(vI r_16)] ⟨rfl, trivial⟩ rfl rfl rfl
        · refine wH_iff rfl hc_18 ?_
          refine wH_skip ?_
          refine wH_region ?_
          refine h_opw (w64_next hD_6 hn_7) (wt rfl) rfl ?_
          refine h_op (vI ((k_3 + 1 : Nat) : Int)) (wt rfl) rfl ?_
          refine h_nil ?_
          replace hc_9 := some_inj hc_9
          subst hc_9
          exact loop_mk (k_3 + 1, l_4, ()) ⟨hL_10, drop_next hD_6⟩ (Nat.lt_succ_self _) rfl rfl
  · rintro s_8 ho_ sl_ H_ hp_ hq_
    subst ho_
    refine wH_at _ hp_ hq_ ?_
    refine wH_seq ?_
    refine wH_seq ?_
    refine wH_region ?_
    refine h_op (vL eS s1_1) (wt rfl) rfl ?_
    refine h_len un35 rfl (wt rfl) ?_
    refine h_op (vL eS s2_2) (wt rfl) rfl ?_
    refine h_len un35 rfl (wt rfl) ?_
    refine h_op (vB (decide ((s1_1.length : Int) < (s2_2.length : Int)))) (wt rfl) rfl ?_
    refine h_nil ?_
    rcases cond_some hF with ⟨hc_19, hF⟩ | ⟨hc_19, hF⟩
    · refine wH_ift rfl hc_19 ?_
      refine wH_seq ?_
      refine wH_region ?_
      refine h_op (vI (-1)) (wt rfl) rfl ?_
      refine h_nil ?_
      replace hF := some_inj hF
      subst hF
      refine wH_ret ?_
      exact fin0 (.inr rfl) [(vI (-1))] ⟨rfl, trivial⟩ rfl rfl rfl
    · refine wH_iff rfl hc_19 ?_
      refine wH_skip ?_
      refine wH_seq ?_
      refine wH_region ?_
      refine h_op (vI 0) (wt rfl) rfl ?_
      refine h_nil ?_
      replace hF := some_inj hF
      subst hF
      refine wH_ret ?_
      exact fin0 (.inr rfl) [(vI 0)] ⟨rfl, trivial⟩ rfl rfl rfl
theorem ref_SharesFault_ok {spots_1 : (List Spot)} {l_2 : (List Campaign)} {s_3 : (List Share)} {r : Int} (hF : ref_SharesFault spots_1 l_2 s_3 = some r) :
    FnM Try.prog 19 [(vL Spot.enc spots_1), (vL Campaign.enc l_2), (vL Share.enc s_3)] [] (vI r) [] := by
  refine FnM.of_wH ⟨Try.prog, 131, [], []⟩ rfl Try.func19 rfl rfl (Nat.le_of_ble_eq_true rfl) (by kernel_rfl) ?_
  unfold ref_SharesFault at hF
  refine wH_seq ?_
  refine wH_region ?_
  refine h_op (vI 0) (wt rfl) rfl ?_
  refine h_nil ?_
  refine wH_seq ?_
  refine wH_seq ?_
  refine wH_region ?_
  refine h_op (vL Share.enc s_3) (wt rfl) rfl ?_
  refine h_len un49 rfl (wt rfl) ?_
  refine h_op (vB (decide ((s_3.length : Int) > 1800))) (wt rfl) rfl ?_
  refine h_nil ?_
  rcases cond_some hF with ⟨hc_4, hF⟩ | ⟨hc_4, hF⟩
  · refine wH_ift rfl hc_4 ?_
    refine wH_seq ?_
    refine wH_region ?_
    refine h_op (vI 2) (wt rfl) rfl ?_
    refine h_nil ?_
    replace hF := some_inj hF
    subst hF
    refine wH_ret ?_
    exact fin0 (.inr rfl) [(vI 2)] ⟨rfl, trivial⟩ rfl rfl rfl
  · refine wH_iff rfl hc_4 ?_
    refine wH_skip ?_
    refine wH_seq ?_
    refine wH_region ?_
    refine h_mkmap 0 (.inl rfl) (wt rfl) (fun n_5 => ?_)
    refine h_reH (b' := some (bM D.str (D.int .i64) ([] : List (ByteArray × Int)))) 0 rfl rfl ?_
    refine h_mkmap 0 (.inl rfl) (wt rfl) (fun n_6 => ?_)
    refine h_reH (b' := some (bM D.str (D.int .i64) ([] : List (ByteArray × Int)))) 1 rfl rfl ?_
    refine h_op (.map n_5) (wt rfl) rfl ?_
    refine h_op (.map n_6) (wt rfl) rfl ?_
    refine h_nil ?_
    refine wH_seq ?_
    refine wH_seq ?_
    refine wH_region ?_
    refine h_op (vL Share.enc s_3) (wt rfl) rfl ?_
    refine h_len un49 rfl (wt rfl) ?_
    refine h_op (vI 0) (wt rfl) rfl ?_
    refine h_nil ?_
    obtain ⟨o_15, hj_16, hF⟩ := bind_some hF
    obtain ⟨hn_11, hj_16⟩ := forL_some hj_16
    refine wH_join (β := ((List (ByteArray × Int)) × (List (ByteArray × Int)))) (fun (s_12 : (List (ByteArray × Int)) × (List (ByteArray × Int))) => ([(0, (vL Spot.enc spots_1)), (1, (vL Campaign.enc l_2)), (7, (.map n_5)), (8, (.map n_6))] : List (Nat × V))) (fun (s_12 : (List (ByteArray × Int)) × (List (ByteArray × Int))) => ([(n_5, some (bM D.str (D.int .i64) s_12.1)), (n_6, some (bM D.str (D.int .i64) s_12.2))] : Hp)) (fun p => o_15 = .go p) ?_ ?_
    · refine wH_block ?_
      refine wH_loop (β := Nat × (List Share) × ((List (ByteArray × Int)) × (List (ByteArray × Int)))) (fun p => (fun (k_7 : Nat) (l_8 : List Share) (s_12 : (List (ByteArray × Int)) × (List (ByteArray × Int))) => ([(0, (vL Spot.enc spots_1)), (1, (vL Campaign.enc l_2)), (2, (vL Share.enc s_3)), (7, (.map n_5)), (8, (.map n_6)), (22, (vL Share.enc s_3)), (23, (vI (s_3.length : Int))), (24, (vI (k_7 : Int)))] : List (Nat × V))) p.1 p.2.1 p.2.2) (fun p => (fun (k_7 : Nat) (l_8 : List Share) (s_12 : (List (ByteArray × Int)) × (List (ByteArray × Int))) => ([(n_5, some (bM D.str (D.int .i64) s_12.1)), (n_6, some (bM D.str (D.int .i64) s_12.2))] : Hp)) p.1 p.2.1 p.2.2) (fun p => forR (fun k x s => ref_SharesFault_L1 l_2 spots_1 s_3 k x s) p.2.1 p.1 p.2.2 = some o_15 ∧ (s_3).drop p.1 = p.2.1) (fun p => p.2.1.length) (0, s_3, (([] : List (ByteArray × Int)), ([] : List (ByteArray × Int)))) ⟨hj_16, rfl⟩ rfl rfl ?_
      rintro ⟨k_7, l_8, s_12⟩ ⟨hL_14, hD_10⟩
      dsimp only at hL_14 hD_10
      cases l_8 with
      | nil =>
        replace hL_14 := some_inj hL_14
        subst hL_14
        refine wH_seq (wH_region (h_op (vB (decide ((k_7 : Int) < (s_3.length : Int)))) (wt rfl) rfl (h_nil ?_)))
        refine wH_seq (wH_iff rfl (drop_nil hD_10) (wH_exit ?_))
        exact cut_mk (s_12) rfl rfl rfl
      | cons x_9 l_8 =>
        obtain ⟨c_, hc_13, hL_14⟩ := bind_some hL_14
        refine wH_seq (wH_region (h_op (vB (decide ((k_7 : Int) < (s_3.length : Int)))) (wt rfl) rfl (h_nil ?_)))
        refine wH_seq (wH_ift rfl (drop_cons hD_10) (wH_skip ?_))
        unfold ref_SharesFault_L1 at hc_13
        refine wH_seq ?_
        refine wH_block ?_
        refine wH_seq ?_
        refine wH_region ?_
        refine h_op (vI (k_7 : Int)) (wt rfl) rfl ?_
        refine h_ia es49 rfl rfl (drop_idx hD_10) rfl (wt rfl) ?_
        refine h_ldc sz62 ag62 rfl (.d (.agg (Share.enc x_9))) rfl (wt rfl) ?_
        refine h_alloc 0 (.inl rfl) z62 rfl (wt rfl) (fun n_17 => ?_)
        refine h_op (vI (k_7 : Int)) (wt rfl) rfl ?_
        refine h_str 0 (.inl rfl) (fun _ _ _ => trivial) 2 sz62 rfl rfl [(vS x_9.Campaign), (vS x_9.Spot), (vI x_9.Many)] rfl (wt rfl) ?_
        refine h_nil ?_
        refine wH_seq ?_
        refine wH_region ?_
        refine h_op (vL Campaign.enc l_2) (wt rfl) rfl ?_
        refine h_op (.fn 58 [(.ref n_17 0 0)]) (wt rfl) rfl ?_
        obtain ⟨r_18, hr_19, hc_13⟩ := bind_some hc_13
        refine h_callq 0 [2] (.inl rfl) (fun _ _ _ => trivial) (slices_IndexFunc_api_Campaign_api_Campaign_ok (gid := 58) (caps := [.ref (extN 0) 0 0]) (Sin := [(.cells 3 [(vS x_9.Campaign), (vS x_9.Spot), (vI x_9.Many)])]) (fun _ _ h_ => ref_SharesFault_1_ok h_) hb58 ⟨rfl, rfl⟩ (by kernel_rfl) (all_ok (by kernel_rfl)) (all_mut (by kernel_rfl)) hr_19) rfl hb57 rfl (by kernel_rfl) (by kernel_rfl) (by kernel_rfl) (by kernel_rfl) (by kernel_rfl) (by kernel_rfl) (by kernel_rfl) (by decide) (by kernel_rfl) (wt rfl) (vI r_18) (by kernel_rfl) ([(n_5, some (bM D.str (D.int .i64) s_12.1)), (n_6, some (bM D.str (D.int .i64) s_12.2)), (n_17, some (.cells 3 [(vS x_9.Campaign), (vS x_9.Spot), (vI x_9.Many)]))] : Hp) (by kernel_rfl) ?_
        refine h_op (vI r_18) (wt rfl) rfl ?_
        refine h_nil ?_
        refine wH_seq ?_
        refine wH_region ?_
        refine h_op (vL Spot.enc spots_1) (wt rfl) rfl ?_
        refine h_op (.fn 60 [(.ref n_17 0 0)]) (wt rfl) rfl ?_
        obtain ⟨r_21, hr_22, hc_13⟩ := bind_some hc_13
        refine h_callq 0 [2] (.inl rfl) (fun _ _ _ => trivial) (slices_IndexFunc_api_Spot_api_Spot_ok (gid := 60) (caps := [.ref (extN 0) 0 0]) (Sin := [(.cells 3 [(vS x_9.Campaign), (vS x_9.Spot), (vI x_9.Many)])]) (fun _ _ h_ => ref_SharesFault_2_ok h_) hb60 ⟨rfl, rfl⟩ (by kernel_rfl) (all_ok (by kernel_rfl)) (all_mut (by kernel_rfl)) hr_22) rfl hb59 rfl (by kernel_rfl) (by kernel_rfl) (by kernel_rfl) (by kernel_rfl) (by kernel_rfl) (by kernel_rfl) (by kernel_rfl) (by decide) (by kernel_rfl) (wt rfl) (vI r_21) (by kernel_rfl) ([(n_5, some (bM D.str (D.int .i64) s_12.1)), (n_6, some (bM D.str (D.int .i64) s_12.2)), (n_17, some (.cells 3 [(vS x_9.Campaign), (vS x_9.Spot), (vI x_9.Many)]))] : Hp) (by kernel_rfl) ?_
        refine h_op (vI r_21) (wt rfl) rfl ?_
        refine h_nil ?_
        refine wH_seq ?_
        refine wH_block ?_
        refine wH_seq ?_
        obtain ⟨v_24, h_25, hc_13⟩ := bind_some hc_13
        refine wH_join (β := Unit) (fun _ => ([(0, (vL Spot.enc spots_1)), (1, (vL Campaign.enc l_2)), (2, (vL Share.enc s_3)), (7, (.map n_5)), (8, (.map n_6)), (9, (vI (k_7 : Int))), (10, (.ref n_17 0 0)), (11, (vI r_18)), (12, (vI r_21)), (22, (vL Share.enc s_3)), (23, (vI (s_3.length : Int))), (24, (vI (k_7 : Int))), (35, (vB v_24))] : List (Nat × V))) (fun _ => ([(n_5, some (bM D.str (D.int .i64) s_12.1)), (n_6, some (bM D.str (D.int .i64) s_12.2)), (n_17, some (.cells 3 [(vS x_9.Campaign), (vS x_9.Spot), (vI x_9.Many)]))] : Hp)) (fun _ => True) ?_ ?_
        · refine wH_region ?_
          refine h_op (vI r_18) (wt rfl) rfl ?_
          refine h_op (vB (decide (r_18 < 0))) (wt rfl) rfl ?_
          rcases cond_some h_25 with ⟨hc_26, h_25⟩ | ⟨hc_26, h_25⟩
          · refine h_movb rfl hc_26 (wt rfl) ?_
            refine h_skip (wg rfl rfl rfl) ?_
            refine h_skip (wg rfl rfl rfl) ?_
            refine h_op (vB true) (wt rfl) rfl ?_
            refine h_op (vB true) (wt rfl) rfl ?_
            refine h_nil ?_
            replace h_25 := some_inj h_25
            subst h_25
            exact cut_mk () trivial rfl rfl
          · refine h_movb rfl hc_26 (wt rfl) ?_
            refine h_op (vI r_21) (wg rfl rfl rfl) rfl ?_
            refine h_op (vB (decide (r_21 < 0))) (wg rfl rfl rfl) rfl ?_
            refine h_op (vB (decide (r_21 < 0))) (wt rfl) rfl ?_
            refine h_op (vB (decide (r_21 < 0))) (wt rfl) rfl ?_
            refine h_nil ?_
            replace h_25 := some_inj h_25
            subst h_25
            exact cut_mk () trivial rfl rfl
        · rintro ⟨⟩ _ sl_ H_ hp_ hq_
          refine wH_at _ hp_ hq_ ?_
          rcases cond_some hc_13 with ⟨hc_27, hc_13⟩ | ⟨hc_27, hc_13⟩
          · refine wH_ift rfl hc_27 ?_
            refine wH_seq ?_
            refine wH_region ?_
            refine h_op (vI 8) (wt rfl) rfl ?_
            refine h_nil ?_
            replace hc_13 := some_inj hc_13
            subst hc_13
            replace hL_14 := some_inj hL_14
            subst hL_14
            replace hF := some_inj hF
            subst hF
            refine wH_ret ?_
            exact fin0 (.inr rfl) [(vI 8)] ⟨rfl, trivial⟩ rfl rfl rfl
          · refine wH_iff rfl hc_27 ?_
            refine wH_seq ?_
            refine wH_draws ?_
            refine h_op (vL Campaign.enc l_2) (wt rfl) rfl ?_
            refine h_op (vI r_18) (wt rfl) rfl ?_
            obtain ⟨y_28, hy_29, hc_13⟩ := bind_some hc_13
            refine h_ia es27 rfl rfl hy_29 rfl (wt rfl) ?_
            refine h_ldc sz37 ag37 rfl (.d (.agg (Campaign.enc y_28))) rfl (wt rfl) ?_
            refine h_op (vL Spot.enc spots_1) (wt rfl) rfl ?_
            refine h_op (vI r_21) (wt rfl) rfl ?_
            obtain ⟨y_30, hy_31, hc_13⟩ := bind_some hc_13
            refine h_ia es26 rfl rfl hy_31 rfl (wt rfl) ?_
            refine h_ldc sz43 ag43 rfl (.d (.agg (Spot.enc y_30))) rfl (wt rfl) ?_
            obtain ⟨r_32, hr_33, hc_13⟩ := bind_some hc_13
            refine h_call0 (ref_SuitsOf_ok hr_33) rfl hb16 rfl rfl rfl rfl (wt rfl) ?_
            refine h_op (vB (!r_32)) (wt rfl) rfl ?_
            refine h_op (vB (!r_32)) (wt rfl) rfl ?_
            refine h_nil ?_
            rcases cond_some hc_13 with ⟨hc_34, hc_13⟩ | ⟨hc_34, hc_13⟩
            · refine wH_ift rfl hc_34 ?_
              refine wH_seq ?_
              refine wH_region ?_
              refine h_op (vI 16) (wt rfl) rfl ?_
              refine h_nil ?_
              replace hc_13 := some_inj hc_13
              subst hc_13
              replace hL_14 := some_inj hL_14
              subst hL_14
              replace hF := some_inj hF
              subst hF
              refine wH_ret ?_
              exact fin0 (.inr rfl) [(vI 16)] ⟨rfl, trivial⟩ rfl rfl rfl
            · refine wH_iff rfl hc_34 ?_
              refine wH_seq ?_
              refine wH_draws ?_
              refine h_far pl62_2 rfl 2 rfl (wt rfl) ?_
              refine h_ldr 1 2 (.inr (by kernel_rfl)) (fun _ _ ag => trivial) sz3 ag3 rfl rfl (vI x_9.Many) rfl (wt rfl) ?_
              refine h_op (vL Campaign.enc l_2) (wt rfl) rfl ?_
              refine h_op (vI r_18) (wt rfl) rfl ?_
              obtain ⟨y_35, hy_36, hc_13⟩ := bind_some hc_13
              refine h_ia es27 rfl rfl hy_36 rfl (wt rfl) ?_
              refine h_fac pl37_5 rfl [.int .i64 y_35.Most, .int .i64 y_35.Cents] rfl rfl (wt rfl) ?_
              refine h_ldc sz3 ag3 rfl (vI y_35.Most) rfl (wt rfl) ?_
              obtain ⟨r_37, hr_38, hc_13⟩ := bind_some hc_13
              refine h_call0 (ref_in_ok hr_38) rfl hb47 rfl rfl rfl rfl (wt rfl) ?_
              refine h_op (vB (!r_37)) (wt rfl) rfl ?_
              refine h_op (vB (!r_37)) (wt rfl) rfl ?_
              refine h_nil ?_
              rcases cond_some hc_13 with ⟨hc_39, hc_13⟩ | ⟨hc_39, hc_13⟩
              · refine wH_ift rfl hc_39 ?_
                refine wH_seq ?_
                refine wH_region ?_
                refine h_op (vI 1) (wt rfl) rfl ?_
                refine h_nil ?_
                replace hc_13 := some_inj hc_13
                subst hc_13
                replace hL_14 := some_inj hL_14
                subst hL_14
                replace hF := some_inj hF
                subst hF
                refine wH_ret ?_
                exact fin0 (.inr rfl) [(vI 1)] ⟨rfl, trivial⟩ rfl rfl rfl
              · refine wH_iff rfl hc_39 ?_
                refine wH_seq ?_
                obtain ⟨v_40, h_41, hc_13⟩ := bind_some hc_13
                refine wH_join (β := Unit) (fun _ => ([(0, (vL Spot.enc spots_1)), (1, (vL Campaign.enc l_2)), (2, (vL Share.enc s_3)), (7, (.map n_5)), (8, (.map n_6)), (10, (.ref n_17 0 0)), (22, (vL Share.enc s_3)), (23, (vI (s_3.length : Int))), (24, (vI (k_7 : Int))), (63, (vB v_40))] : List (Nat × V))) (fun _ => ([(n_5, some (bM D.str (D.int .i64) s_12.1)), (n_6, some (bM D.str (D.int .i64) s_12.2)), (n_17, some (.cells 3 [(vS x_9.Campaign), (vS x_9.Spot), (vI x_9.Many)]))] : Hp)) (fun _ => True) ?_ ?_
                · refine wH_draws ?_
                  refine h_op (vI (k_7 : Int)) (wt rfl) rfl ?_
                  refine h_op (vB (decide ((k_7 : Int) > 0))) (wt rfl) rfl ?_
                  rcases cond_some h_41 with ⟨hc_42, h_41⟩ | ⟨hc_42, h_41⟩
                  · refine h_movb rfl hc_42 (wt rfl) ?_
                    refine h_op (vL Share.enc s_3) (wg rfl rfl rfl) rfl ?_
                    refine h_op (vI (k_7 : Int)) (wg rfl rfl rfl) rfl ?_
                    refine h_op (vI (w64 ((k_7 : Int) - 1))) (wg rfl rfl rfl) rfl ?_
                    obtain ⟨y_43, hy_44, h_41⟩ := bind_some h_41
                    refine h_ia es49 rfl rfl hy_44 rfl (wg rfl rfl rfl) ?_
                    refine h_fac pl62_0 rfl [.str y_43.Campaign, .str y_43.Spot, .int .i64 y_43.Many] rfl rfl (wg rfl rfl rfl) ?_
                    refine h_ldc sz9 ag9 rfl (vS y_43.Campaign) rfl (wg rfl rfl rfl) ?_
                    refine h_op (vL Share.enc s_3) (wg rfl rfl rfl) rfl ?_
                    refine h_op (vI (k_7 : Int)) (wg rfl rfl rfl) rfl ?_
                    refine h_op (vI (w64 ((k_7 : Int) - 1))) (wg rfl rfl rfl) rfl ?_
                    obtain ⟨y_45, hy_46, h_41⟩ := bind_some h_41
                    refine h_ia es49 rfl rfl hy_46 rfl (wg rfl rfl rfl) ?_
                    refine h_fac pl62_1 rfl [.str y_45.Spot, .int .i64 y_45.Many] rfl rfl (wg rfl rfl rfl) ?_
                    refine h_ldc sz9 ag9 rfl (vS y_45.Spot) rfl (wg rfl rfl rfl) ?_
                    refine h_lit (([y_43.Campaign, y_45.Spot] : List ByteArray).map eS) es35 ez35 rfl rfl rfl rfl rfl (wg rfl rfl rfl) ?_
                    refine h_far pl62_0 rfl 0 rfl (wg rfl rfl rfl) ?_
                    refine h_ldr 17 2 (.inr (by kernel_rfl)) (fun _ _ ag => trivial) sz9 ag9 rfl rfl (vS x_9.Campaign) rfl (wg rfl rfl rfl) ?_
                    refine h_far pl62_1 rfl 1 rfl (wg rfl rfl rfl) ?_
                    refine h_ldr 19 2 (.inr (by kernel_rfl)) (fun _ _ ag => ⟨.inl ⟨rfl, rfl⟩, trivial⟩) sz9 ag9 rfl rfl (vS x_9.Spot) rfl (wg rfl rfl rfl) ?_
                    refine h_lit (([x_9.Campaign, x_9.Spot] : List ByteArray).map eS) es35 ez35 rfl rfl rfl rfl rfl (wg rfl rfl rfl) ?_
                    obtain ⟨r_47, hr_48, h_41⟩ := bind_some h_41
                    refine h_call0 (slices_Compare_string_string_ok hr_48) rfl hb61 rfl rfl rfl rfl (wg rfl rfl rfl) ?_
                    refine h_op (vB (decide (r_47 ≥ 0))) (wg rfl rfl rfl) rfl ?_
                    refine h_op (vB (decide (r_47 ≥ 0))) (wt rfl) rfl ?_
                    refine h_op (vB (decide (r_47 ≥ 0))) (wt rfl) rfl ?_
                    refine h_nil ?_
                    replace h_41 := some_inj h_41
                    subst h_41
                    exact cut_mk () trivial rfl rfl
                  · refine h_movb rfl hc_42 (wt rfl) ?_
                    refine h_skip (wg rfl rfl rfl) ?_
                    refine h_skip (wg rfl rfl rfl) ?_
                    refine h_skip (wg rfl rfl rfl) ?_
                    refine h_skip (wg rfl rfl rfl) ?_
                    refine h_skip (wg rfl rfl rfl) ?_
                    refine h_skip (wg rfl rfl rfl) ?_
                    refine h_skip (wg rfl rfl rfl) ?_
                    refine h_skip (wg rfl rfl rfl) ?_
                    refine h_skip (wg rfl rfl rfl) ?_
                    refine h_skip (wg rfl rfl rfl) ?_
                    refine h_skip (wg rfl rfl rfl) ?_
                    refine h_skip (wg rfl rfl rfl) ?_
                    refine h_skip (wg rfl rfl rfl) ?_
                    refine h_skip (wg rfl rfl rfl) ?_
                    refine h_skip (wg rfl rfl rfl) ?_
                    refine h_skip (wg rfl rfl rfl) ?_
                    refine h_skip (wg rfl rfl rfl) ?_
                    refine h_skip (wg rfl rfl rfl) ?_
                    refine h_skip (wg rfl rfl rfl) ?_
                    refine h_skip (wg rfl rfl rfl) ?_
                    refine h_op (vB false) (wt rfl) rfl ?_
                    refine h_op (vB false) (wt rfl) rfl ?_
                    refine h_nil ?_
                    replace h_41 := some_inj h_41
                    subst h_41
                    exact cut_mk () trivial rfl rfl
                · rintro ⟨⟩ _ sl_ H_ hp_ hq_
                  refine wH_at _ hp_ hq_ ?_
                  rcases cond_some hc_13 with ⟨hc_49, hc_13⟩ | ⟨hc_49, hc_13⟩
                  · refine wH_ift rfl hc_49 ?_
                    refine wH_seq ?_
                    refine wH_region ?_
                    refine h_op (vI 7) (wt rfl) rfl ?_
                    refine h_nil ?_
                    replace hc_13 := some_inj hc_13
                    subst hc_13
                    replace hL_14 := some_inj hL_14
                    subst hL_14
                    replace hF := some_inj hF
                    subst hF
                    refine wH_ret ?_
                    exact fin0 (.inr rfl) [(vI 7)] ⟨rfl, trivial⟩ rfl rfl rfl
                  · refine wH_iff rfl hc_49 ?_
                    refine wH_skip ?_
                    refine wH_seq ?_
                    refine wH_region ?_
                    refine h_op (.map n_5) (wt rfl) rfl ?_
                    refine h_far pl62_1 rfl 1 rfl (wt rfl) ?_
                    refine h_ldr 0 2 (.inl rfl) (fun _ _ _ => trivial) sz9 ag9 rfl rfl (vS x_9.Spot) rfl (wt rfl) ?_
                    refine h_lookup (eq := eqS) (kD := D.str) (vD := (D.int .i64)) (es := s_12.1) (k := x_9.Spot) (z := 0) 0 0 (.inl rfl) (fun _ _ _ => trivial) (fun _ _ => rfl) mt95 (by kernel_rfl) (by kernel_rfl) rfl rfl rfl (vI ((mGet eqS s_12.1 x_9.Spot).getD 0)) rfl (wt rfl) ?_
                    refine h_far pl62_2 rfl 2 rfl (wt rfl) ?_
                    refine h_ldr 0 2 (.inl rfl) (fun _ _ _ => trivial) sz3 ag3 rfl rfl (vI x_9.Many) rfl (wt rfl) ?_
                    refine h_op (vI (w64 (((mGet eqS s_12.1 x_9.Spot).getD 0) + x_9.Many))) (wt rfl) rfl ?_
                    refine h_mapset (eq := eqS) (kD := D.str) (vD := (D.int .i64)) (es := s_12.1) (k := x_9.Spot) (v := (w64 (((mGet eqS s_12.1 x_9.Spot).getD 0) + x_9.Many))) 0 0 (.inl rfl) (fun _ _ _ => trivial) (fun _ _ => rfl) mt95 (by kernel_rfl) rfl rfl rfl rfl (wt rfl) ?_
                    refine h_nil ?_
                    refine wH_region ?_
                    refine h_op (.map n_6) (wt rfl) rfl ?_
                    refine h_far pl62_0 rfl 0 rfl (wt rfl) ?_
                    refine h_ldr 0 2 (.inl rfl) (fun _ _ _ => trivial) sz9 ag9 rfl rfl (vS x_9.Campaign) rfl (wt rfl) ?_
                    refine h_lookup (eq := eqS) (kD := D.str) (vD := (D.int .i64)) (es := s_12.2) (k := x_9.Campaign) (z := 0) 0 1 (.inl rfl) (fun _ _ _ => trivial) (fun _ _ => rfl) mt95 (by kernel_rfl) (by kernel_rfl) rfl rfl rfl (vI ((mGet eqS s_12.2 x_9.Campaign).getD 0)) rfl (wt rfl) ?_
                    refine h_far pl62_2 rfl 2 rfl (wt rfl) ?_
                    refine h_ldr 0 2 (.inl rfl) (fun _ _ _ => trivial) sz3 ag3 rfl rfl (vI x_9.Many) rfl (wt rfl) ?_
                    refine h_op (vI (w64 (((mGet eqS s_12.2 x_9.Campaign).getD 0) + x_9.Many))) (wt rfl) rfl ?_
                    refine h_mapset (eq := eqS) (kD := D.str) (vD := (D.int .i64)) (es := s_12.2) (k := x_9.Campaign) (v := (w64 (((mGet eqS s_12.2 x_9.Campaign).getD 0) + x_9.Many))) 0 1 (.inl rfl) (fun _ _ _ => trivial) (fun _ _ => rfl) mt95 (by kernel_rfl) rfl rfl rfl rfl (wt rfl) ?_
                    refine h_nil ?_
                    refine wH_region ?_
                    refine h_opw (w64_next hD_10 hn_11) (wt rfl) rfl ?_
                    refine h_op (vI ((k_7 + 1 : Nat) : Int)) (wt rfl) rfl ?_
                    refine h_nil ?_
                    replace hc_13 := some_inj hc_13
                    subst hc_13
                    exact loop_mk (k_7 + 1, l_8, ((mSet eqS s_12.1 x_9.Spot (w64 (((mGet eqS s_12.1 x_9.Spot).getD 0) + x_9.Many))), (mSet eqS s_12.2 x_9.Campaign (w64 (((mGet eqS s_12.2 x_9.Campaign).getD 0) + x_9.Many))))) ⟨hL_14, drop_next hD_10⟩ (Nat.lt_succ_self _) rfl rfl
    · rintro s_12 ho_ sl_ H_ hp_ hq_
      subst ho_
      refine wH_at _ hp_ hq_ ?_
      refine wH_seq ?_
      refine wH_seq ?_
      refine wH_region ?_
      refine h_op (vL Spot.enc spots_1) (wt rfl) rfl ?_
      refine h_len un26 rfl (wt rfl) ?_
      refine h_op (vI 0) (wt rfl) rfl ?_
      refine h_nil ?_
      obtain ⟨o_58, hj_59, hF⟩ := bind_some hF
      obtain ⟨hn_54, hj_59⟩ := forL_some hj_59
      refine wH_join (β := (Unit)) (fun (s_55 : Unit) => ([(1, (vL Campaign.enc l_2)), (8, (.map n_6))] : List (Nat × V))) (fun (s_55 : Unit) => ([(n_5, some (bM D.str (D.int .i64) s_12.1)), (n_6, some (bM D.str (D.int .i64) s_12.2))] : Hp)) (fun p => o_58 = .go p) ?_ ?_
      · refine wH_block ?_
        refine wH_loop (β := Nat × (List Spot) × (Unit)) (fun p => (fun (k_50 : Nat) (l_51 : List Spot) (s_55 : Unit) => ([(1, (vL Campaign.enc l_2)), (7, (.map n_5)), (8, (.map n_6)), (103, (vL Spot.enc spots_1)), (104, (vI (spots_1.length : Int))), (105, (vI (k_50 : Int)))] : List (Nat × V))) p.1 p.2.1 p.2.2) (fun p => (fun (k_50 : Nat) (l_51 : List Spot) (s_55 : Unit) => ([(n_5, some (bM D.str (D.int .i64) s_12.1)), (n_6, some (bM D.str (D.int .i64) s_12.2))] : Hp)) p.1 p.2.1 p.2.2) (fun p => forR (fun k x s => ref_SharesFault_L2 s_12 k x s) p.2.1 p.1 p.2.2 = some o_58 ∧ (spots_1).drop p.1 = p.2.1) (fun p => p.2.1.length) (0, spots_1, ()) ⟨hj_59, rfl⟩ rfl rfl ?_
        rintro ⟨k_50, l_51, s_55⟩ ⟨hL_57, hD_53⟩
        dsimp only at hL_57 hD_53
        cases l_51 with
        | nil =>
          replace hL_57 := some_inj hL_57
          subst hL_57
          refine wH_seq (wH_region (h_op (vB (decide ((k_50 : Int) < (spots_1.length : Int)))) (wt rfl) rfl (h_nil ?_)))
          refine wH_seq (wH_iff rfl (drop_nil hD_53) (wH_exit ?_))
          exact cut_mk (s_55) rfl rfl rfl
        | cons x_52 l_51 =>
          obtain ⟨c_, hc_56, hL_57⟩ := bind_some hL_57
          refine wH_seq (wH_region (h_op (vB (decide ((k_50 : Int) < (spots_1.length : Int)))) (wt rfl) rfl (h_nil ?_)))
          refine wH_seq (wH_ift rfl (drop_cons hD_53) (wH_skip ?_))
          unfold ref_SharesFault_L2 at hc_56
          refine wH_seq ?_
          refine wH_block ?_
          refine wH_seq ?_
          refine wH_region ?_
          refine h_ia es26 rfl rfl (drop_idx hD_53) rfl (wt rfl) ?_
          refine h_ldc sz43 ag43 rfl (.d (.agg (Spot.enc x_52))) rfl (wt rfl) ?_
          refine h_alloc 0 (.inl rfl) z43 rfl (wt rfl) (fun n_60 => ?_)
          refine h_str 0 (.inl rfl) (fun _ _ _ => trivial) 2 sz43 rfl rfl [(vS x_52.Key), (vI x_52.Time.From), (vI x_52.Time.To), (vI x_52.Room), (vL eS x_52.Tags)] rfl (wt rfl) ?_
          refine h_nil ?_
          refine wH_seq ?_
          refine wH_region ?_
          refine h_op (.map n_5) (wt rfl) rfl ?_
          refine h_far pl43_0 rfl 0 rfl (wt rfl) ?_
          refine h_ldr 0 2 (.inl rfl) (fun _ _ _ => trivial) sz9 ag9 rfl rfl (vS x_52.Key) rfl (wt rfl) ?_
          refine h_lookup (eq := eqS) (kD := D.str) (vD := (D.int .i64)) (es := s_12.1) (k := x_52.Key) (z := 0) 0 0 (.inl rfl) (fun _ _ _ => trivial) (fun _ _ => rfl) mt95 (by kernel_rfl) (by kernel_rfl) rfl rfl rfl (vI ((mGet eqS s_12.1 x_52.Key).getD 0)) rfl (wt rfl) ?_
          refine h_far pl43_2 rfl 3 rfl (wt rfl) ?_
          refine h_ldr 0 2 (.inl rfl) (fun _ _ _ => trivial) sz3 ag3 rfl rfl (vI x_52.Room) rfl (wt rfl) ?_
          refine h_op (vB (decide (((mGet eqS s_12.1 x_52.Key).getD 0) > x_52.Room))) (wt rfl) rfl ?_
          refine h_nil ?_
          rcases cond_some hc_56 with ⟨hc_61, hc_56⟩ | ⟨hc_61, hc_56⟩
          · refine wH_ift rfl hc_61 ?_
            refine wH_seq ?_
            refine wH_region ?_
            refine h_op (vI 12) (wt rfl) rfl ?_
            refine h_nil ?_
            replace hc_56 := some_inj hc_56
            subst hc_56
            replace hL_57 := some_inj hL_57
            subst hL_57
            replace hF := some_inj hF
            subst hF
            refine wH_ret ?_
            exact fin0 (.inr rfl) [(vI 12)] ⟨rfl, trivial⟩ rfl rfl rfl
          · refine wH_iff rfl hc_61 ?_
            refine wH_skip ?_
            refine wH_region ?_
            refine h_opw (w64_next hD_53 hn_54) (wt rfl) rfl ?_
            refine h_op (vI ((k_50 + 1 : Nat) : Int)) (wt rfl) rfl ?_
            refine h_nil ?_
            replace hc_56 := some_inj hc_56
            subst hc_56
            exact loop_mk (k_50 + 1, l_51, ()) ⟨hL_57, drop_next hD_53⟩ (Nat.lt_succ_self _) rfl rfl
      · rintro s_55 ho_ sl_ H_ hp_ hq_
        subst ho_
        refine wH_at _ hp_ hq_ ?_
        refine wH_seq ?_
        refine wH_seq ?_
        refine wH_region ?_
        refine h_op (vL Campaign.enc l_2) (wt rfl) rfl ?_
        refine h_len un27 rfl (wt rfl) ?_
        refine h_op (vI 0) (wt rfl) rfl ?_
        refine h_nil ?_
        obtain ⟨o_70, hj_71, hF⟩ := bind_some hF
        obtain ⟨hn_66, hj_71⟩ := forL_some hj_71
        refine wH_join (β := (Unit)) (fun (s_67 : Unit) => ([] : List (Nat × V))) (fun (s_67 : Unit) => ([(n_5, some (bM D.str (D.int .i64) s_12.1)), (n_6, some (bM D.str (D.int .i64) s_12.2))] : Hp)) (fun p => o_70 = .go p) ?_ ?_
        · refine wH_block ?_
          refine wH_loop (β := Nat × (List Campaign) × (Unit)) (fun p => (fun (k_62 : Nat) (l_63 : List Campaign) (s_67 : Unit) => ([(8, (.map n_6)), (117, (vL Campaign.enc l_2)), (118, (vI (l_2.length : Int))), (119, (vI (k_62 : Int)))] : List (Nat × V))) p.1 p.2.1 p.2.2) (fun p => (fun (k_62 : Nat) (l_63 : List Campaign) (s_67 : Unit) => ([(n_5, some (bM D.str (D.int .i64) s_12.1)), (n_6, some (bM D.str (D.int .i64) s_12.2))] : Hp)) p.1 p.2.1 p.2.2) (fun p => forR (fun k x s => ref_SharesFault_L3 s_12 k x s) p.2.1 p.1 p.2.2 = some o_70 ∧ (l_2).drop p.1 = p.2.1) (fun p => p.2.1.length) (0, l_2, ()) ⟨hj_71, rfl⟩ rfl rfl ?_
          rintro ⟨k_62, l_63, s_67⟩ ⟨hL_69, hD_65⟩
          dsimp only at hL_69 hD_65
          cases l_63 with
          | nil =>
            replace hL_69 := some_inj hL_69
            subst hL_69
            refine wH_seq (wH_region (h_op (vB (decide ((k_62 : Int) < (l_2.length : Int)))) (wt rfl) rfl (h_nil ?_)))
            refine wH_seq (wH_iff rfl (drop_nil hD_65) (wH_exit ?_))
            exact cut_mk (s_67) rfl rfl rfl
          | cons x_64 l_63 =>
            obtain ⟨c_, hc_68, hL_69⟩ := bind_some hL_69
            refine wH_seq (wH_region (h_op (vB (decide ((k_62 : Int) < (l_2.length : Int)))) (wt rfl) rfl (h_nil ?_)))
            refine wH_seq (wH_ift rfl (drop_cons hD_65) (wH_skip ?_))
            unfold ref_SharesFault_L3 at hc_68
            refine wH_seq ?_
            refine wH_block ?_
            refine wH_seq ?_
            refine wH_region ?_
            refine h_ia es27 rfl rfl (drop_idx hD_65) rfl (wt rfl) ?_
            refine h_ldc sz37 ag37 rfl (.d (.agg (Campaign.enc x_64))) rfl (wt rfl) ?_
            refine h_alloc 0 (.inl rfl) z37 rfl (wt rfl) (fun n_72 => ?_)
            refine h_str 0 (.inl rfl) (fun _ _ _ => trivial) 2 sz37 rfl rfl [(vS x_64.Key), (vS x_64.Class), (vI x_64.Time.From), (vI x_64.Time.To), (vL eS x_64.Tags), (vI x_64.Goal), (vI x_64.Most), (vI x_64.Cents)] rfl (wt rfl) ?_
            refine h_nil ?_
            refine wH_seq ?_
            refine wH_region ?_
            refine h_op (.map n_6) (wt rfl) rfl ?_
            refine h_far pl37_0 rfl 0 rfl (wt rfl) ?_
            refine h_ldr 0 2 (.inl rfl) (fun _ _ _ => trivial) sz9 ag9 rfl rfl (vS x_64.Key) rfl (wt rfl) ?_
            refine h_lookup (eq := eqS) (kD := D.str) (vD := (D.int .i64)) (es := s_12.2) (k := x_64.Key) (z := 0) 0 1 (.inl rfl) (fun _ _ _ => trivial) (fun _ _ => rfl) mt95 (by kernel_rfl) (by kernel_rfl) rfl rfl rfl (vI ((mGet eqS s_12.2 x_64.Key).getD 0)) rfl (wt rfl) ?_
            refine h_far pl37_4 rfl 5 rfl (wt rfl) ?_
            refine h_ldr 0 2 (.inl rfl) (fun _ _ _ => trivial) sz3 ag3 rfl rfl (vI x_64.Goal) rfl (wt rfl) ?_
            refine h_op (vB (decide (((mGet eqS s_12.2 x_64.Key).getD 0) > x_64.Goal))) (wt rfl) rfl ?_
            refine h_nil ?_
            rcases cond_some hc_68 with ⟨hc_73, hc_68⟩ | ⟨hc_73, hc_68⟩
            · refine wH_ift rfl hc_73 ?_
              refine wH_seq ?_
              refine wH_region ?_
              refine h_op (vI 12) (wt rfl) rfl ?_
              refine h_nil ?_
              replace hc_68 := some_inj hc_68
              subst hc_68
              replace hL_69 := some_inj hL_69
              subst hL_69
              replace hF := some_inj hF
              subst hF
              refine wH_ret ?_
              exact fin0 (.inr rfl) [(vI 12)] ⟨rfl, trivial⟩ rfl rfl rfl
            · refine wH_iff rfl hc_73 ?_
              refine wH_skip ?_
              refine wH_region ?_
              refine h_opw (w64_next hD_65 hn_66) (wt rfl) rfl ?_
              refine h_op (vI ((k_62 + 1 : Nat) : Int)) (wt rfl) rfl ?_
              refine h_nil ?_
              replace hc_68 := some_inj hc_68
              subst hc_68
              exact loop_mk (k_62 + 1, l_63, ()) ⟨hL_69, drop_next hD_65⟩ (Nat.lt_succ_self _) rfl rfl
        · rintro s_67 ho_ sl_ H_ hp_ hq_
          subst ho_
          refine wH_at _ hp_ hq_ ?_
          refine wH_seq ?_
          refine wH_region ?_
          refine h_op (vI 0) (wt rfl) rfl ?_
          refine h_nil ?_
          replace hF := some_inj hF
          subst hF
          refine wH_ret ?_
          exact fin0 (.inr rfl) [(vI 0)] ⟨rfl, trivial⟩ rfl rfl rfl
theorem internal_bytealg_CompareString_ok {a_1 : ByteArray} {b_2 : ByteArray} {r : Int} (hF : internal_bytealg_CompareString a_1 b_2 = some r) :
    FnM Try.prog 108 [(vS a_1), (vS b_2)] [] (vI r) [] := by
  refine FnM.of_wH ⟨Try.prog, 8, [], []⟩ rfl Try.func108 rfl rfl (Nat.le_of_ble_eq_true rfl) (by kernel_rfl) ?_
  unfold internal_bytealg_CompareString at hF
  refine wH_seq ?_
  refine wH_region ?_
  refine h_op (vI 0) (wt rfl) rfl ?_
  refine h_nil ?_
  refine wH_seq ?_
  refine wH_region ?_
  refine h_op (vS a_1) (wt rfl) rfl ?_
  refine h_op (vS b_2) (wt rfl) rfl ?_
  refine h_ext (ext_cmpB (f := 110) Try.func110 rfl rfl (by kernel_rfl) (by kernel_rfl) _ _) rfl nb110 rfl (wt rfl) ?_
  refine h_op (vI (cmpB a_1 b_2)) (wt rfl) rfl ?_
  refine h_nil ?_
  replace hF := some_inj hF
  subst hF
  refine wH_ret ?_
  exact fin0 (.inr rfl) [(vI (cmpB a_1 b_2))] ⟨rfl, trivial⟩ rfl rfl rfl
theorem strings_Compare_ok {a_1 : ByteArray} {b_2 : ByteArray} {r : Int} (hF : strings_Compare a_1 b_2 = some r) :
    FnM Try.prog 104 [(vS a_1), (vS b_2)] [] (vI r) [] := by
  refine FnM.of_wH ⟨Try.prog, 8, [], []⟩ rfl Try.func104 rfl rfl (Nat.le_of_ble_eq_true rfl) (by kernel_rfl) ?_
  unfold strings_Compare at hF
  refine wH_seq ?_
  refine wH_region ?_
  refine h_op (vI 0) (wt rfl) rfl ?_
  refine h_nil ?_
  refine wH_seq ?_
  refine wH_region ?_
  refine h_op (vS a_1) (wt rfl) rfl ?_
  refine h_op (vS b_2) (wt rfl) rfl ?_
  obtain ⟨r_3, hr_4, hF⟩ := bind_some hF
  refine h_call0 (internal_bytealg_CompareString_ok hr_4) rfl hb108 rfl rfl rfl rfl (wt rfl) ?_
  refine h_op (vI r_3) (wt rfl) rfl ?_
  refine h_nil ?_
  replace hF := some_inj hF
  subst hF
  refine wH_ret ?_
  exact fin0 (.inr rfl) [(vI r_3)] ⟨rfl, trivial⟩ rfl rfl rfl
theorem booking_campAt_1_ok {c_1 : Campaign} {k_2 : ByteArray} {r : Int} (hF : booking_campAt_1 c_1 k_2 = some r) :
    FnM Try.prog 103 [(.d (.agg (Campaign.enc c_1))), (vS k_2)] [] (vI r) [] := by
  refine FnM.of_wH ⟨Try.prog, 9, [], []⟩ rfl Try.func103 rfl rfl (Nat.le_of_ble_eq_true rfl) (by kernel_rfl) ?_
  unfold booking_campAt_1 at hF
  refine wH_seq ?_
  refine wH_region ?_
  refine h_box 0 (.inl rfl) [(vS c_1.Key), (vS c_1.Class), (vI c_1.Time.From), (vI c_1.Time.To), (vL eS c_1.Tags), (vI c_1.Goal), (vI c_1.Most), (vI c_1.Cents)] rfl rfl (wt rfl) (fun n_3 => ?_)
  refine h_op (vI 0) (wt rfl) rfl ?_
  refine h_nil ?_
  refine wH_seq ?_
  refine wH_region ?_
  refine h_far pl37_0 rfl 0 rfl (wt rfl) ?_
  refine h_ldr 0 0 (.inl rfl) (fun _ _ _ => trivial) sz9 ag9 rfl rfl (vS c_1.Key) rfl (wt rfl) ?_
  refine h_op (vS k_2) (wt rfl) rfl ?_
  obtain ⟨r_4, hr_5, hF⟩ := bind_some hF
  refine h_call0 (strings_Compare_ok hr_5) rfl hb104 rfl rfl rfl rfl (wt rfl) ?_
  refine h_op (vI r_4) (wt rfl) rfl ?_
  refine h_nil ?_
  replace hF := some_inj hF
  subst hF
  refine wH_ret ?_
  exact fin0 (.inr rfl) [(vI r_4)] ⟨rfl, trivial⟩ rfl rfl rfl
end Go.Proofs.Ytkjnmkompibhgaa.Law
