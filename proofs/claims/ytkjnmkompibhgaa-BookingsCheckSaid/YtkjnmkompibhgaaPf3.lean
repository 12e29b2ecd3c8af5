/-
  The machine computes these plain functions (written by a program of ours).
-/
import Derived.Test.YtkjnmkompibhgaaFacts
import Derived.Test.YtkjnmkompibhgaaDefs
import Derived.Test.YtkjnmkompibhgaaPf2
open Go Go.Eng Go.Proofs
namespace Go.Proofs.Ytkjnmkompibhgaa.Law
set_option maxRecDepth 100000
set_option linter.unusedVariables false
set_option maxHeartbeats 1000000
theorem slices_BinarySearch_string_string_ok {x_1 : (List ByteArray)} {target_2 : ByteArray} {r : Int × Bool} (hF : slices_BinarySearch_string_string x_1 target_2 = some r) :
    FnM Try.prog 87 [(vL eS x_1), (vS target_2)] [] (.tup [(vI r.1), (vB r.2)]) [] := by
  refine FnM.of_wH ⟨Try.prog, 54, [], []⟩ rfl Try.func87 rfl rfl (Nat.le_of_ble_eq_true rfl) (by kernel_rfl) ?_
  unfold slices_BinarySearch_string_string at hF
  refine wH_seq ?_
  refine wH_region ?_
  refine h_op (vI 0) (wt rfl) rfl ?_
  refine h_op (vB false) (wt rfl) rfl ?_
  refine h_nil ?_
  refine wH_seq ?_
  refine wH_region ?_
  refine h_op (vL eS x_1) (wt rfl) rfl ?_
  refine h_len un35 rfl (wt rfl) ?_
  refine h_op (vI (x_1.length : Int)) (wt rfl) rfl ?_
  refine h_nil ?_
  refine wH_seq ?_
  refine wH_region ?_
  refine h_op (vI (x_1.length : Int)) (wt rfl) rfl ?_
  refine h_op (vI 0) (wt rfl) rfl ?_
  refine h_op (vI (x_1.length : Int)) (wt rfl) rfl ?_
  refine h_nil ?_
  refine wH_seq ?_
  obtain ⟨o_11, hj_12, hF⟩ := bind_some hF
  obtain ⟨nq_34, hj_12⟩ := loopO_iter hj_12
  refine wH_join (β := (Int × Int)) (fun (s_8 : Int × Int) => ([(0, (vL eS x_1)), (1, (vS target_2)), (6, (vI (x_1.length : Int))), (7, (vI s_8.1))] : List (Nat × V))) (fun (s_8 : Int × Int) => ([] : Hp)) (fun p => o_11 = .go p) ?_ ?_
  · refine wH_block ?_
    refine wH_loop (β := Nat × (Int × Int)) (fun p => (fun (k_3 : Nat) (s_8 : Int × Int) => ([(0, (vL eS x_1)), (1, (vS target_2)), (6, (vI (x_1.length : Int))), (7, (vI s_8.1)), (8, (vI s_8.2))] : List (Nat × V))) p.1 p.2) (fun p => (fun (k_3 : Nat) (s_8 : Int × Int) => ([] : Hp)) p.1 p.2) (fun p => iterN (fun s => slices_BinarySearch_string_string_L1 x_1 target_2 s) p.1 p.2 = some o_11) (fun p => p.1) (nq_34, (0, (x_1.length : Int))) hj_12 rfl rfl ?_
    rintro ⟨k_3, s_8⟩ hL_10
    dsimp only at hL_10
    cases k_3 with
    | zero => cases hL_10
    | succ k_3 =>
      obtain ⟨c_, hc_9, hL_10⟩ := bind_some hL_10
      unfold slices_BinarySearch_string_string_L1 at hc_9
      refine wH_seq ?_
      refine wH_seq ?_
      refine wH_region ?_
      refine h_op (vI s_8.1) (wt rfl) rfl ?_
      refine h_op (vI s_8.2) (wt rfl) rfl ?_
      refine h_op (vB (decide (s_8.1 < s_8.2))) (wt rfl) rfl ?_
      refine h_nil ?_
      rcases cond_some hc_9 with ⟨hc_13, hc_9⟩ | ⟨hc_13, hc_9⟩
      · refine wH_ift rfl hc_13 ?_
        refine wH_skip ?_
        refine wH_block ?_
        refine wH_seq ?_
        refine wH_region ?_
        refine h_op (vI s_8.1) (wt rfl) rfl ?_
        refine h_op (vI s_8.2) (wt rfl) rfl ?_
        refine h_op (vI (w64 (s_8.1 + s_8.2))) (wt rfl) rfl ?_
        refine h_conv un3 un128 rfl (wt rfl) ?_
        obtain ⟨q_14, hz_15, hc_9⟩ := bind_some hc_9
        refine h_shr rfl rfl hz_15 (wt rfl) ?_
        refine h_conv un128 un3 rfl (wt rfl) ?_
        refine h_op (vI (w64 q_14)) (wt rfl) rfl ?_
        refine h_nil ?_
        refine wH_seq ?_
        refine wH_region ?_
        refine h_op (vL eS x_1) (wt rfl) rfl ?_
        refine h_op (vI (w64 q_14)) (wt rfl) rfl ?_
        obtain ⟨y_16, hy_17, hc_9⟩ := bind_some hc_9
        refine h_ia es35 rfl rfl hy_17 rfl (wt rfl) ?_
        refine h_ldc sz9 ag9 rfl (vS y_16) rfl (wt rfl) ?_
        refine h_op (vS target_2) (wt rfl) rfl ?_
        obtain ⟨r_18, hr_19, hc_9⟩ := bind_some hc_9
        refine h_call0 (cmp_Less_string_ok hr_19) rfl hb99 rfl rfl rfl rfl (wt rfl) ?_
        refine h_nil ?_
        rcases cond_some hc_9 with ⟨hc_20, hc_9⟩ | ⟨hc_20, hc_9⟩
        · refine wH_ift rfl hc_20 ?_
          refine wH_region ?_
          refine h_op (vI (w64 q_14)) (wt rfl) rfl ?_
          refine h_op (vI (w64 ((w64 q_14) + 1))) (wt rfl) rfl ?_
          refine h_op (vI (w64 ((w64 q_14) + 1))) (wt rfl) rfl ?_
          refine h_nil ?_
          replace hc_9 := some_inj hc_9
          subst hc_9
          exact loop_mk (k_3, ((w64 ((w64 q_14) + 1)), s_8.2)) hL_10 (Nat.lt_succ_self _) rfl rfl
        · refine wH_iff rfl hc_20 ?_
          refine wH_region ?_
          refine h_op (vI (w64 q_14)) (wt rfl) rfl ?_
          refine h_op (vI (w64 q_14)) (wt rfl) rfl ?_
          refine h_nil ?_
          replace hc_9 := some_inj hc_9
          subst hc_9
          exact loop_mk (k_3, (s_8.1, (w64 q_14))) hL_10 (Nat.lt_succ_self _) rfl rfl
      · refine wH_iff rfl hc_13 ?_
        refine wH_exit ?_
        replace hc_9 := some_inj hc_9
        subst hc_9
        replace hL_10 := some_inj hL_10
        subst hL_10
        exact cut_mk ((s_8.1, s_8.2)) rfl rfl rfl
  · rintro s_8 ho_ sl_ H_ hp_ hq_
    subst ho_
    refine wH_at _ hp_ hq_ ?_
    refine wH_seq ?_
    obtain ⟨v_21, h_22, hF⟩ := bind_some hF
    refine wH_join (β := Unit) (fun _ => ([(4, (vI s_8.1)), (5, (vB v_21))] : List (Nat × V))) (fun _ => ([] : Hp)) (fun _ => True) ?_ ?_
    · refine wH_region ?_
      refine h_op (vI s_8.1) (wt rfl) rfl ?_
      refine h_op (vI s_8.1) (wt rfl) rfl ?_
      refine h_op (vI (x_1.length : Int)) (wt rfl) rfl ?_
      refine h_op (vB (decide (s_8.1 < (x_1.length : Int)))) (wt rfl) rfl ?_
      rcases cond_some h_22 with ⟨hc_23, h_22⟩ | ⟨hc_23, h_22⟩
      · refine h_movb rfl hc_23 (wt rfl) ?_
        refine h_op (vL eS x_1) (wg rfl rfl rfl) rfl ?_
        refine h_op (vI s_8.1) (wg rfl rfl rfl) rfl ?_
        obtain ⟨y_24, hy_25, h_22⟩ := bind_some h_22
        refine h_ia es35 rfl rfl hy_25 rfl (wg rfl rfl rfl) ?_
        refine h_ldc sz9 ag9 rfl (vS y_24) rfl (wg rfl rfl rfl) ?_
        refine h_op (vS target_2) (wg rfl rfl rfl) rfl ?_
        refine h_op (vB (sEq y_24 target_2)) (wg rfl rfl rfl) rfl ?_
        rcases cond_some h_22 with ⟨hc_26, h_22⟩ | ⟨hc_26, h_22⟩
        · refine h_movb rfl hc_26 (wg rfl rfl rfl) ?_
          refine h_skip (wg rfl rfl rfl) ?_
          refine h_skip (wg rfl rfl rfl) ?_
          refine h_skip (wg rfl rfl rfl) ?_
          refine h_skip (wg rfl rfl rfl) ?_
          refine h_skip (wg rfl rfl rfl) ?_
          refine h_skip (wg rfl rfl rfl) ?_
          refine h_skip (wn rfl rfl) ?_
          refine h_skip (wn rfl rfl) ?_
          refine h_skip (wg rfl rfl rfl) ?_
          refine h_op (vB true) (wg rfl rfl rfl) rfl ?_
          refine h_op (vB true) (wt rfl) rfl ?_
          refine h_op (vI s_8.1) (wt rfl) rfl ?_
          refine h_op (vB true) (wt rfl) rfl ?_
          refine h_nil ?_
          replace h_22 := some_inj h_22
          subst h_22
          exact cut_mk () trivial rfl rfl
        · refine h_movb rfl hc_26 (wg rfl rfl rfl) ?_
          refine h_op (vL eS x_1) (wg rfl rfl rfl) rfl ?_
          refine h_op (vI s_8.1) (wg rfl rfl rfl) rfl ?_
          obtain ⟨y_27, hy_28, h_22⟩ := bind_some h_22
          refine h_ia es35 rfl rfl hy_28 rfl (wg rfl rfl rfl) ?_
          refine h_ldc sz9 ag9 rfl (vS y_27) rfl (wg rfl rfl rfl) ?_
          obtain ⟨r_29, hr_30, h_22⟩ := bind_some h_22
          refine h_call0 (slices_isNaN_string_ok hr_30) rfl hb100 rfl rfl rfl rfl (wg rfl rfl rfl) ?_
          rcases cond_some h_22 with ⟨hc_31, h_22⟩ | ⟨hc_31, h_22⟩
          · refine h_movb rfl hc_31 (wg rfl rfl rfl) ?_
            refine h_op (vS target_2) (wg rfl rfl rfl) rfl ?_
            obtain ⟨r_32, hr_33, h_22⟩ := bind_some h_22
            refine h_call0 (slices_isNaN_string_ok hr_33) rfl hb100 rfl rfl rfl rfl (wg rfl rfl rfl) ?_
            refine h_op (vB r_32) (wg rfl rfl rfl) rfl ?_
            refine h_op (vB r_32) (wg rfl rfl rfl) rfl ?_
            refine h_op (vB r_32) (wt rfl) rfl ?_
            refine h_op (vI s_8.1) (wt rfl) rfl ?_
            refine h_op (vB r_32) (wt rfl) rfl ?_
            refine h_nil ?_
            replace h_22 := some_inj h_22
            subst h_22
            exact cut_mk () trivial rfl rfl
          · refine h_movb rfl hc_31 (wg rfl rfl rfl) ?_
            refine h_skip (wg rfl rfl rfl) ?_
            refine h_skip (wg rfl rfl rfl) ?_
            refine h_op (vB false) (wg rfl rfl rfl) rfl ?_
            refine h_op (vB false) (wg rfl rfl rfl) rfl ?_
            refine h_op (vB false) (wt rfl) rfl ?_
            refine h_op (vI s_8.1) (wt rfl) rfl ?_
            refine h_op (vB false) (wt rfl) rfl ?_
            refine h_nil ?_
            replace h_22 := some_inj h_22
            subst h_22
            exact cut_mk () trivial rfl rfl
      · refine h_movb rfl hc_23 (wt rfl) ?_
        refine h_skip (wg rfl rfl rfl) ?_
        refine h_skip (wg rfl rfl rfl) ?_
        refine h_skip (wg rfl rfl rfl) ?_
        refine h_skip (wg rfl rfl rfl) ?_
        refine h_skip (wg rfl rfl rfl) ?_
        refine h_skip (wg rfl rfl rfl) ?_
        refine h_skip (wg rfl rfl rfl) ?_
        refine h_skip (wn rfl rfl) ?_
        refine h_skip (wn rfl rfl) ?_
        refine h_skip (wn rfl rfl) ?_
        refine h_skip (wn rfl rfl) ?_
        refine h_skip (wn rfl rfl) ?_
        refine h_skip (wn rfl rfl) ?_
        refine h_skip (wn rfl rfl) ?_
        refine h_skip (wn rfl rfl) ?_
        refine h_skip (wn rfl rfl) ?_
        refine h_skip (wg rfl rfl rfl) ?_
        refine h_op (vB false) (wt rfl) rfl ?_
        refine h_op (vI s_8.1) (wt rfl) rfl ?_
        refine h_op (vB false) (wt rfl) rfl ?_
        refine h_nil ?_
        replace h_22 := some_inj h_22
        subst h_22
        exact cut_mk () trivial rfl rfl
    · rintro ⟨⟩ _ sl_ H_ hp_ hq_
      refine wH_at _ hp_ hq_ ?_
      replace hF := some_inj hF
      subst hF
      refine wH_ret ?_
      exact fin0 (.inr rfl) [(vI s_8.1), (vB v_21)] rfl rfl rfl rfl
theorem booking_suits_ok {c_1 : Campaign} {s_2 : Spot} {r : Bool} (hF : booking_suits c_1 s_2 = some r) :
    FnM Try.prog 50 [(.d (.agg (Campaign.enc c_1))), (.d (.agg (Spot.enc s_2)))] [] (vB r) [] := by
  refine FnM.of_wH ⟨Try.prog, 42, [], []⟩ rfl Try.func50 rfl rfl (Nat.le_of_ble_eq_true rfl) (by kernel_rfl) ?_
  unfold booking_suits at hF
  refine wH_seq ?_
  refine wH_region ?_
  refine h_box [(vS c_1.Key), (vS c_1.Class), (vI c_1.Time.From), (vI c_1.Time.To), (vL eS c_1.Tags), (vI c_1.Goal), (vI c_1.Most), (vI c_1.Cents)] rfl rfl (wt rfl) (fun n_3 => ?_)
  refine h_box [(vS s_2.Key), (vI s_2.Time.From), (vI s_2.Time.To), (vI s_2.Room), (vL eS s_2.Tags)] rfl rfl (wt rfl) (fun n_4 => ?_)
  refine h_op (vB false) (wt rfl) rfl ?_
  refine h_nil ?_
  refine wH_seq ?_
  refine wH_seq ?_
  obtain ⟨v_5, h_6, hF⟩ := bind_some hF
  refine wH_join (β := Unit) (fun _ => ([(2, (.ref n_3 0 0)), (3, (.ref n_4 0 0)), (24, (vB v_5))] : List (Nat × V))) (fun _ => ([(n_3, some (.cells 8 [(vS c_1.Key), (vS c_1.Class), (vI c_1.Time.From), (vI c_1.Time.To), (vL eS c_1.Tags), (vI c_1.Goal), (vI c_1.Most), (vI c_1.Cents)])), (n_4, some (.cells 5 [(vS s_2.Key), (vI s_2.Time.From), (vI s_2.Time.To), (vI s_2.Room), (vL eS s_2.Tags)]))] : Hp)) (fun _ => True) ?_ ?_
  · refine wH_region ?_
    refine h_far pl43_1 rfl 1 rfl (wt rfl) ?_
    refine h_far pl34_0 rfl 1 rfl (wt rfl) ?_
    refine h_ldr 1 sz3 ag3 rfl rfl (vI s_2.Time.From) rfl (wt rfl) ?_
    refine h_far pl37_2 rfl 2 rfl (wt rfl) ?_
    refine h_far pl34_0 rfl 2 rfl (wt rfl) ?_
    refine h_ldr 0 sz3 ag3 rfl rfl (vI c_1.Time.From) rfl (wt rfl) ?_
    refine h_op (vB (decide (s_2.Time.From < c_1.Time.From))) (wt rfl) rfl ?_
    rcases cond_some h_6 with ⟨hc_7, h_6⟩ | ⟨hc_7, h_6⟩
    · refine h_movb rfl hc_7 (wt rfl) ?_
      refine h_skip (wg rfl rfl rfl) ?_
      refine h_skip (wg rfl rfl rfl) ?_
      refine h_skip (wg rfl rfl rfl) ?_
      refine h_skip (wg rfl rfl rfl) ?_
      refine h_skip (wg rfl rfl rfl) ?_
      refine h_skip (wg rfl rfl rfl) ?_
      refine h_skip (wg rfl rfl rfl) ?_
      refine h_op (vB true) (wt rfl) rfl ?_
      refine h_nil ?_
      replace h_6 := some_inj h_6
      subst h_6
      exact cut_mk () trivial rfl rfl
    · refine h_movb rfl hc_7 (wt rfl) ?_
      refine h_far pl43_1 rfl 1 rfl (wg rfl rfl rfl) ?_
      refine h_far pl34_1 rfl 2 rfl (wg rfl rfl rfl) ?_
      refine h_ldr 1 sz3 ag3 rfl rfl (vI s_2.Time.To) rfl (wg rfl rfl rfl) ?_
      refine h_far pl37_2 rfl 2 rfl (wg rfl rfl rfl) ?_
      refine h_far pl34_1 rfl 3 rfl (wg rfl rfl rfl) ?_
      refine h_ldr 0 sz3 ag3 rfl rfl (vI c_1.Time.To) rfl (wg rfl rfl rfl) ?_
      refine h_op (vB (decide (s_2.Time.To > c_1.Time.To))) (wg rfl rfl rfl) rfl ?_
      refine h_op (vB (decide (s_2.Time.To > c_1.Time.To))) (wt rfl) rfl ?_
      refine h_nil ?_
      replace h_6 := some_inj h_6
      subst h_6
      exact cut_mk () trivial rfl rfl
  · rintro ⟨⟩ _ sl_ H_ hp_ hq_
    refine wH_at _ hp_ hq_ ?_
    rcases cond_some hF with ⟨hc_8, hF⟩ | ⟨hc_8, hF⟩
    · refine wH_ift rfl hc_8 ?_
      refine wH_seq ?_
      refine wH_region ?_
      refine h_op (vB false) (wt rfl) rfl ?_
      refine h_nil ?_
      replace hF := some_inj hF
      subst hF
      refine wH_ret ?_
      exact fin0 (.inr rfl) [(vB false)] rfl rfl rfl rfl
    · refine wH_iff rfl hc_8 ?_
      refine wH_skip ?_
      refine wH_seq ?_
      refine wH_seq ?_
      refine wH_region ?_
      refine h_far pl37_3 rfl 4 rfl (wt rfl) ?_
      refine h_ldr 0 sz35 ag35 rfl rfl (vL eS c_1.Tags) rfl (wt rfl) ?_
      refine h_len un35 rfl (wt rfl) ?_
      refine h_op (vI 0) (wt rfl) rfl ?_
      refine h_nil ?_
      obtain ⟨o_17, hj_18, hF⟩ := bind_some hF
      obtain ⟨hn_13, hj_18⟩ := forL_some hj_18
      refine wH_join (β := (Unit)) (fun (s_14 : Unit) => ([] : List (Nat × V))) (fun (s_14 : Unit) => ([(n_3, some (.cells 8 [(vS c_1.Key), (vS c_1.Class), (vI c_1.Time.From), (vI c_1.Time.To), (vL eS c_1.Tags), (vI c_1.Goal), (vI c_1.Most), (vI c_1.Cents)])), (n_4, some (.cells 5 [(vS s_2.Key), (vI s_2.Time.From), (vI s_2.Time.To), (vI s_2.Room), (vL eS s_2.Tags)]))] : Hp)) (fun p => o_17 = .go p) ?_ ?_
      · refine wH_block ?_
        refine wH_loop (β := Nat × (List ByteArray) × (Unit)) (fun p => (fun (k_9 : Nat) (l_10 : List ByteArray) (s_14 : Unit) => ([(3, (.ref n_4 0 0)), (26, (vL eS c_1.Tags)), (27, (vI (c_1.Tags.length : Int))), (28, (vI (k_9 : Int)))] : List (Nat × V))) p.1 p.2.1 p.2.2) (fun p => (fun (k_9 : Nat) (l_10 : List ByteArray) (s_14 : Unit) => ([(n_3, some (.cells 8 [(vS c_1.Key), (vS c_1.Class), (vI c_1.Time.From), (vI c_1.Time.To), (vL eS c_1.Tags), (vI c_1.Goal), (vI c_1.Most), (vI c_1.Cents)])), (n_4, some (.cells 5 [(vS s_2.Key), (vI s_2.Time.From), (vI s_2.Time.To), (vI s_2.Room), (vL eS s_2.Tags)]))] : Hp)) p.1 p.2.1 p.2.2) (fun p => forR (fun k x s => booking_suits_L1 s_2 k x s) p.2.1 p.1 p.2.2 = some o_17 ∧ (c_1.Tags).drop p.1 = p.2.1) (fun p => p.2.1.length) (0, c_1.Tags, ()) ⟨hj_18, rfl⟩ rfl rfl ?_
        rintro ⟨k_9, l_10, s_14⟩ ⟨hL_16, hD_12⟩
        dsimp only at hL_16 hD_12
        cases l_10 with
        | nil =>
          replace hL_16 := some_inj hL_16
          subst hL_16
          refine wH_seq (wH_region (h_op (vB (decide ((k_9 : Int) < (c_1.Tags.length : Int)))) (wt rfl) rfl (h_nil ?_)))
          refine wH_seq (wH_iff rfl (drop_nil hD_12) (wH_exit ?_))
          exact cut_mk (s_14) rfl rfl rfl
        | cons x_11 l_10 =>
          obtain ⟨c_, hc_15, hL_16⟩ := bind_some hL_16
          refine wH_seq (wH_region (h_op (vB (decide ((k_9 : Int) < (c_1.Tags.length : Int)))) (wt rfl) rfl (h_nil ?_)))
          refine wH_seq (wH_ift rfl (drop_cons hD_12) (wH_skip ?_))
          unfold booking_suits_L1 at hc_15
          refine wH_seq ?_
          refine wH_block ?_
          refine wH_seq ?_
          refine wH_region ?_
          refine h_ia es35 rfl rfl (drop_idx hD_12) rfl (wt rfl) ?_
          refine h_ldc sz9 ag9 rfl (vS x_11) rfl (wt rfl) ?_
          refine h_op (vS x_11) (wt rfl) rfl ?_
          refine h_nil ?_
          refine wH_seq ?_
          refine wH_region ?_
          refine h_far pl43_3 rfl 4 rfl (wt rfl) ?_
          refine h_ldr 1 sz35 ag35 rfl rfl (vL eS s_2.Tags) rfl (wt rfl) ?_
          refine h_op (vS x_11) (wt rfl) rfl ?_
          obtain ⟨r_19, hr_20, hc_15⟩ := bind_some hc_15
          refine h_call0 (slices_BinarySearch_string_string_ok hr_20) rfl hb87 rfl rfl rfl rfl (wt rfl) ?_
          refine h_op (.tup [(vI r_19.1), (vB r_19.2)]) (wt rfl) rfl ?_
          refine h_op (vI r_19.1) (wt rfl) rfl ?_
          refine h_op (vB r_19.2) (wt rfl) rfl ?_
          refine h_op (vI r_19.1) (wt rfl) rfl ?_
          refine h_op (vB r_19.2) (wt rfl) rfl ?_
          refine h_nil ?_
          refine wH_seq ?_
          refine wH_region ?_
          refine h_op (vB r_19.2) (wt rfl) rfl ?_
          refine h_op (vB (!r_19.2)) (wt rfl) rfl ?_
          refine h_nil ?_
          rcases cond_some hc_15 with ⟨hc_21, hc_15⟩ | ⟨hc_21, hc_15⟩
          · refine wH_ift rfl hc_21 ?_
            refine wH_seq ?_
            refine wH_region ?_
            refine h_op (vB false) (wt rfl) rfl ?_
            refine h_nil ?_
            replace hc_15 := some_inj hc_15
            subst hc_15
            replace hL_16 := some_inj hL_16
            subst hL_16
            replace hF := some_inj hF
            subst hF
            refine wH_ret ?_
            exact fin0 (.inr rfl) [(vB false)] rfl rfl rfl rfl
          · refine wH_iff rfl hc_21 ?_
            refine wH_skip ?_
            refine wH_region ?_
            refine h_opw (w64_next hD_12 hn_13) (wt rfl) rfl ?_
            refine h_op (vI ((k_9 + 1 : Nat) : Int)) (wt rfl) rfl ?_
            refine h_nil ?_
            replace hc_15 := some_inj hc_15
            subst hc_15
            exact loop_mk (k_9 + 1, l_10, ()) ⟨hL_16, drop_next hD_12⟩ (Nat.lt_succ_self _) rfl rfl
      · rintro s_14 ho_ sl_ H_ hp_ hq_
        subst ho_
        refine wH_at _ hp_ hq_ ?_
        refine wH_seq ?_
        refine wH_region ?_
        refine h_op (vB true) (wt rfl) rfl ?_
        refine h_nil ?_
        replace hF := some_inj hF
        subst hF
        refine wH_ret ?_
        exact fin0 (.inr rfl) [(vB true)] rfl rfl rfl rfl
theorem booking_Room_ok {spots_1 : (List Spot)} {c_2 : Campaign} {r : Int × Int} (hF : booking_Room spots_1 c_2 = some r) :
    FnM Try.prog 13 [(vL Spot.enc spots_1), (.d (.agg (Campaign.enc c_2)))] [] (.tup [(vI r.1), (vI r.2)]) [] := by
  refine FnM.of_wH ⟨Try.prog, 35, [], []⟩ rfl Try.func13 rfl rfl (Nat.le_of_ble_eq_true rfl) (by kernel_rfl) ?_
  unfold booking_Room at hF
  refine wH_seq ?_
  refine wH_region ?_
  refine h_box [(vS c_2.Key), (vS c_2.Class), (vI c_2.Time.From), (vI c_2.Time.To), (vL eS c_2.Tags), (vI c_2.Goal), (vI c_2.Most), (vI c_2.Cents)] rfl rfl (wt rfl) (fun n_3 => ?_)
  refine h_op (vI 0) (wt rfl) rfl ?_
  refine h_op (vI 0) (wt rfl) rfl ?_
  refine h_nil ?_
  refine wH_seq ?_
  refine wH_seq ?_
  refine wH_region ?_
  refine h_op (vL Spot.enc spots_1) (wt rfl) rfl ?_
  refine h_ldr 0 sz37 ag37 rfl rfl (.d (.agg (Campaign.enc c_2))) rfl (wt rfl) ?_
  refine h_lit (([c_2] : List Campaign).map Campaign.enc) es27 ez27 rfl rfl rfl rfl rfl (wt rfl) ?_
  obtain ⟨r_4, hr_5, hF⟩ := bind_some hF
  refine h_call0 (booking_checkBoth_ok hr_5) rfl hb49 rfl rfl rfl rfl (wt rfl) ?_
  refine h_op (vI r_4) (wt rfl) rfl ?_
  refine h_nil ?_
  refine wH_seq ?_
  refine wH_region ?_
  refine h_op (vI r_4) (wt rfl) rfl ?_
  refine h_op (vB (r_4 != 0)) (wt rfl) rfl ?_
  refine h_nil ?_
  rcases cond_some hF with ⟨hc_6, hF⟩ | ⟨hc_6, hF⟩
  · refine wH_ift rfl hc_6 ?_
    refine wH_seq ?_
    refine wH_region ?_
    refine h_op (vI r_4) (wt rfl) rfl ?_
    refine h_op (vI 0) (wt rfl) rfl ?_
    refine h_op (vI r_4) (wt rfl) rfl ?_
    refine h_nil ?_
    replace hF := some_inj hF
    subst hF
    refine wH_ret ?_
    exact fin0 (.inr rfl) [(vI 0), (vI r_4)] rfl rfl rfl rfl
  · refine wH_iff rfl hc_6 ?_
    refine wH_skip ?_
    refine wH_seq ?_
    refine wH_region ?_
    refine h_op (vI 0) (wt rfl) rfl ?_
    refine h_nil ?_
    refine wH_seq ?_
    refine wH_seq ?_
    refine wH_region ?_
    refine h_op (vL Spot.enc spots_1) (wt rfl) rfl ?_
    refine h_len un26 rfl (wt rfl) ?_
    refine h_op (vI 0) (wt rfl) rfl ?_
    refine h_nil ?_
    obtain ⟨o_15, hj_16, hF⟩ := bind_some hF
    obtain ⟨hn_11, hj_16⟩ := forL_some hj_16
    refine wH_join (β := (Int)) (fun (s_12 : Int) => ([(7, (vI s_12))] : List (Nat × V))) (fun (s_12 : Int) => ([(n_3, some (.cells 8 [(vS c_2.Key), (vS c_2.Class), (vI c_2.Time.From), (vI c_2.Time.To), (vL eS c_2.Tags), (vI c_2.Goal), (vI c_2.Most), (vI c_2.Cents)]))] : Hp)) (fun p => o_15 = .go p) ?_ ?_
    · refine wH_block ?_
      refine wH_loop (β := Nat × (List Spot) × (Int)) (fun p => (fun (k_7 : Nat) (l_8 : List Spot) (s_12 : Int) => ([(3, (.ref n_3 0 0)), (7, (vI s_12)), (17, (vL Spot.enc spots_1)), (18, (vI (spots_1.length : Int))), (19, (vI (k_7 : Int)))] : List (Nat × V))) p.1 p.2.1 p.2.2) (fun p => (fun (k_7 : Nat) (l_8 : List Spot) (s_12 : Int) => ([(n_3, some (.cells 8 [(vS c_2.Key), (vS c_2.Class), (vI c_2.Time.From), (vI c_2.Time.To), (vL eS c_2.Tags), (vI c_2.Goal), (vI c_2.Most), (vI c_2.Cents)]))] : Hp)) p.1 p.2.1 p.2.2) (fun p => forR (fun k x s => booking_Room_L1 c_2 k x s) p.2.1 p.1 p.2.2 = some o_15 ∧ (spots_1).drop p.1 = p.2.1) (fun p => p.2.1.length) (0, spots_1, 0) ⟨hj_16, rfl⟩ rfl rfl ?_
      rintro ⟨k_7, l_8, s_12⟩ ⟨hL_14, hD_10⟩
      dsimp only at hL_14 hD_10
      cases l_8 with
      | nil =>
        replace hL_14 := some_inj hL_14
        subst hL_14
        refine wH_seq (wH_region (h_op (vB (decide ((k_7 : Int) < (spots_1.length : Int)))) (wt rfl) rfl (h_nil ?_)))
        refine wH_seq (wH_iff rfl (drop_nil hD_10) (wH_exit ?_))
        exact cut_mk (s_12) rfl rfl rfl
      | cons x_9 l_8 =>
        obtain ⟨c_, hc_13, hL_14⟩ := bind_some hL_14
        refine wH_seq (wH_region (h_op (vB (decide ((k_7 : Int) < (spots_1.length : Int)))) (wt rfl) rfl (h_nil ?_)))
        refine wH_seq (wH_ift rfl (drop_cons hD_10) (wH_skip ?_))
        unfold booking_Room_L1 at hc_13
        refine wH_seq ?_
        refine wH_block ?_
        refine wH_seq ?_
        refine wH_region ?_
        refine h_ia es26 rfl rfl (drop_idx hD_10) rfl (wt rfl) ?_
        refine h_ldc sz43 ag43 rfl (.d (.agg (Spot.enc x_9))) rfl (wt rfl) ?_
        refine h_alloc z43 rfl (wt rfl) (fun n_17 => ?_)
        refine h_str 1 sz43 rfl rfl [(vS x_9.Key), (vI x_9.Time.From), (vI x_9.Time.To), (vI x_9.Room), (vL eS x_9.Tags)] rfl (wt rfl) ?_
        refine h_nil ?_
        refine wH_seq ?_
        refine wH_region ?_
        refine h_ldr 0 sz37 ag37 rfl rfl (.d (.agg (Campaign.enc c_2))) rfl (wt rfl) ?_
        refine h_ldr 1 sz43 ag43 rfl rfl (.d (.agg (Spot.enc x_9))) rfl (wt rfl) ?_
        obtain ⟨r_18, hr_19, hc_13⟩ := bind_some hc_13
        refine h_call0 (booking_suits_ok hr_19) rfl hb50 rfl rfl rfl rfl (wt rfl) ?_
        refine h_nil ?_
        obtain ⟨v_20, h_21, hc_13⟩ := bind_some hc_13
        refine wH_join (β := Unit) (fun _ => ([(3, (.ref n_3 0 0)), (7, (vI v_20)), (17, (vL Spot.enc spots_1)), (18, (vI (spots_1.length : Int))), (19, (vI (k_7 : Int)))] : List (Nat × V))) (fun _ => ([(n_3, some (.cells 8 [(vS c_2.Key), (vS c_2.Class), (vI c_2.Time.From), (vI c_2.Time.To), (vL eS c_2.Tags), (vI c_2.Goal), (vI c_2.Most), (vI c_2.Cents)])), (n_17, some (.cells 5 [(vS x_9.Key), (vI x_9.Time.From), (vI x_9.Time.To), (vI x_9.Room), (vL eS x_9.Tags)]))] : Hp)) (fun _ => True) ?_ ?_
        · rcases cond_some h_21 with ⟨hc_22, h_21⟩ | ⟨hc_22, h_21⟩
          · refine wH_ift rfl hc_22 ?_
            refine wH_region ?_
            refine h_op (vI s_12) (wt rfl) rfl ?_
            refine h_far pl43_2 rfl 3 rfl (wt rfl) ?_
            refine h_ldr 1 sz3 ag3 rfl rfl (vI x_9.Room) rfl (wt rfl) ?_
            refine h_far pl37_5 rfl 6 rfl (wt rfl) ?_
            refine h_ldr 0 sz3 ag3 rfl rfl (vI c_2.Most) rfl (wt rfl) ?_
            refine h_minmax (vI (minI x_9.Room c_2.Most)) rfl (.inl rfl) (wt rfl) ?_
            refine h_op (vI (w64 (s_12 + (minI x_9.Room c_2.Most)))) (wt rfl) rfl ?_
            refine h_op (vI (w64 (s_12 + (minI x_9.Room c_2.Most)))) (wt rfl) rfl ?_
            refine h_nil ?_
            replace h_21 := some_inj h_21
            subst h_21
            exact cut_mk () trivial rfl rfl
          · refine wH_iff rfl hc_22 ?_
            refine wH_skip ?_
            replace h_21 := some_inj h_21
            subst h_21
            exact cut_mk () trivial rfl rfl
        · rintro ⟨⟩ _ sl_ H_ hp_ hq_
          refine wH_at _ hp_ hq_ ?_
          refine wH_region ?_
          refine h_opw (w64_next hD_10 hn_11) (wt rfl) rfl ?_
          refine h_op (vI ((k_7 + 1 : Nat) : Int)) (wt rfl) rfl ?_
          refine h_nil ?_
          replace hc_13 := some_inj hc_13
          subst hc_13
          exact loop_mk (k_7 + 1, l_8, v_20) ⟨hL_14, drop_next hD_10⟩ (Nat.lt_succ_self _) rfl rfl
    · rintro s_12 ho_ sl_ H_ hp_ hq_
      subst ho_
      refine wH_at _ hp_ hq_ ?_
      refine wH_seq ?_
      refine wH_region ?_
      refine h_op (vI s_12) (wt rfl) rfl ?_
      refine h_op (vI s_12) (wt rfl) rfl ?_
      refine h_op (vI 0) (wt rfl) rfl ?_
      refine h_nil ?_
      replace hF := some_inj hF
      subst hF
      refine wH_ret ?_
      exact fin0 (.inr rfl) [(vI s_12), (vI 0)] rfl rfl rfl rfl
theorem slices_Index_string_string_ok {s_1 : (List ByteArray)} {v_2 : ByteArray} {r : Int} (hF : slices_Index_string_string s_1 v_2 = some r) :
    FnM Try.prog 89 [(vL eS s_1), (vS v_2)] [] (vI r) [] := by
  refine FnM.of_wH ⟨Try.prog, 19, [], []⟩ rfl Try.func89 rfl rfl (Nat.le_of_ble_eq_true rfl) (by kernel_rfl) ?_
  unfold slices_Index_string_string at hF
  refine wH_seq ?_
  refine wH_region ?_
  refine h_op (vI 0) (wt rfl) rfl ?_
  refine h_nil ?_
  refine wH_seq ?_
  refine wH_seq ?_
  refine wH_region ?_
  refine h_op (vL eS s_1) (wt rfl) rfl ?_
  refine h_len un35 rfl (wt rfl) ?_
  refine h_op (vI 0) (wt rfl) rfl ?_
  refine h_nil ?_
  obtain ⟨o_11, hj_12, hF⟩ := bind_some hF
  obtain ⟨hn_7, hj_12⟩ := forL_some hj_12
  refine wH_join (β := (Unit)) (fun (s_8 : Unit) => ([] : List (Nat × V))) (fun (s_8 : Unit) => ([] : Hp)) (fun p => o_11 = .go p) ?_ ?_
  · refine wH_block ?_
    refine wH_loop (β := Nat × (List ByteArray) × (Unit)) (fun p => (fun (k_3 : Nat) (l_4 : List ByteArray) (s_8 : Unit) => ([(0, (vL eS s_1)), (1, (vS v_2)), (7, (vI (s_1.length : Int))), (8, (vI (k_3 : Int)))] : List (Nat × V))) p.1 p.2.1 p.2.2) (fun p => (fun (k_3 : Nat) (l_4 : List ByteArray) (s_8 : Unit) => ([] : Hp)) p.1 p.2.1 p.2.2) (fun p => forR (fun k x s => slices_Index_string_string_L1 v_2 k x s) p.2.1 p.1 p.2.2 = some o_11 ∧ (s_1).drop p.1 = p.2.1) (fun p => p.2.1.length) (0, s_1, ()) ⟨hj_12, rfl⟩ rfl rfl ?_
    rintro ⟨k_3, l_4, s_8⟩ ⟨hL_10, hD_6⟩
    dsimp only at hL_10 hD_6
    cases l_4 with
    | nil =>
      replace hL_10 := some_inj hL_10
      subst hL_10
      refine wH_seq (wH_region (h_op (vB (decide ((k_3 : Int) < (s_1.length : Int)))) (wt rfl) rfl (h_nil ?_)))
      refine wH_seq (wH_iff rfl (drop_nil hD_6) (wH_exit ?_))
      exact cut_mk (s_8) rfl rfl rfl
    | cons x_5 l_4 =>
      obtain ⟨c_, hc_9, hL_10⟩ := bind_some hL_10
      refine wH_seq (wH_region (h_op (vB (decide ((k_3 : Int) < (s_1.length : Int)))) (wt rfl) rfl (h_nil ?_)))
      refine wH_seq (wH_ift rfl (drop_cons hD_6) (wH_skip ?_))
      unfold slices_Index_string_string_L1 at hc_9
      refine wH_seq ?_
      refine wH_block ?_
      refine wH_seq ?_
      refine wH_region ?_
      refine h_op (vI (k_3 : Int)) (wt rfl) rfl ?_
      refine h_op (vI (k_3 : Int)) (wt rfl) rfl ?_
      refine h_nil ?_
      refine wH_seq ?_
      refine wH_region ?_
      refine h_op (vS v_2) (wt rfl) rfl ?_
      refine h_op (vL eS s_1) (wt rfl) rfl ?_
      refine h_op (vI (k_3 : Int)) (wt rfl) rfl ?_
      refine h_ia es35 rfl rfl (drop_idx hD_6) rfl (wt rfl) ?_
      refine h_ldc sz9 ag9 rfl (vS x_5) rfl (wt rfl) ?_
      refine h_op (vB (sEq v_2 x_5)) (wt rfl) rfl ?_
      refine h_nil ?_
      rcases cond_some hc_9 with ⟨hc_13, hc_9⟩ | ⟨hc_13, hc_9⟩
      · refine wH_ift rfl hc_13 ?_
        refine wH_seq ?_
        refine wH_region ?_
        refine h_op (vI (k_3 : Int)) (wt rfl) rfl ?_
        refine h_op (vI (k_3 : Int)) (wt rfl) rfl ?_
        refine h_nil ?_
        replace hc_9 := some_inj hc_9
        subst hc_9
        replace hL_10 := some_inj hL_10
        subst hL_10
        replace hF := some_inj hF
        subst hF
        refine wH_ret ?_
        exact fin0 (.inr rfl) [(vI (k_3 : Int))] rfl rfl rfl rfl
      · refine wH_iff rfl hc_13 ?_
        refine wH_skip ?_
        refine wH_region ?_
        refine h_opw (w64_next hD_6 hn_7) (wt rfl) rfl ?_
        refine h_op (vI ((k_3 + 1 : Nat) : Int)) (wt rfl) rfl ?_
        refine h_nil ?_
        replace hc_9 := some_inj hc_9
        subst hc_9
        exact loop_mk (k_3 + 1, l_4, ()) ⟨hL_10, drop_next hD_6⟩ (Nat.lt_succ_self _) rfl rfl
  · rintro s_8 ho_ sl_ H_ hp_ hq_
    subst ho_
    refine wH_at _ hp_ hq_ ?_
    refine wH_seq ?_
    refine wH_region ?_
    refine h_op (vI (-1)) (wt rfl) rfl ?_
    refine h_nil ?_
    replace hF := some_inj hF
    subst hF
    refine wH_ret ?_
    exact fin0 (.inr rfl) [(vI (-1))] rfl rfl rfl rfl
theorem slices_Contains_string_string_ok {s_1 : (List ByteArray)} {v_2 : ByteArray} {r : Bool} (hF : slices_Contains_string_string s_1 v_2 = some r) :
    FnM Try.prog 53 [(vL eS s_1), (vS v_2)] [] (vB r) [] := by
  refine FnM.of_wH ⟨Try.prog, 9, [], []⟩ rfl Try.func53 rfl rfl (Nat.le_of_ble_eq_true rfl) (by kernel_rfl) ?_
  unfold slices_Contains_string_string at hF
  refine wH_seq ?_
  refine wH_region ?_
  refine h_op (vB false) (wt rfl) rfl ?_
  refine h_nil ?_
  refine wH_seq ?_
  refine wH_region ?_
  refine h_op (vL eS s_1) (wt rfl) rfl ?_
  refine h_op (vS v_2) (wt rfl) rfl ?_
  obtain ⟨r_3, hr_4, hF⟩ := bind_some hF
  refine h_call0 (slices_Index_string_string_ok hr_4) rfl hb89 rfl rfl rfl rfl (wt rfl) ?_
  refine h_op (vB (decide (r_3 ≥ 0))) (wt rfl) rfl ?_
  refine h_op (vB (decide (r_3 ≥ 0))) (wt rfl) rfl ?_
  refine h_nil ?_
  replace hF := some_inj hF
  subst hF
  refine wH_ret ?_
  exact fin0 (.inr rfl) [(vB (decide (r_3 ≥ 0)))] rfl rfl rfl rfl
theorem ref_SuitsOf_1_ok {t_1 : ByteArray} {p_2 : Spot} {r : Bool} (hF : ref_SuitsOf_1 t_1 p_2 = some r) :
    FnM Try.prog 52 [(vS t_1), (.ref (extN 0) 0 0)] [(.cells 5 [(vS p_2.Key), (vI p_2.Time.From), (vI p_2.Time.To), (vI p_2.Room), (vL eS p_2.Tags)])] (vB r) [some (.cells 5 [(vS p_2.Key), (vI p_2.Time.From), (vI p_2.Time.To), (vI p_2.Room), (vL eS p_2.Tags)])] := by
  refine FnM.of_wH ⟨Try.prog, 9, [], []⟩ rfl Try.func52 rfl rfl (Nat.le_of_ble_eq_true rfl) (by kernel_rfl) ?_
  unfold ref_SuitsOf_1 at hF
  refine wH_seq ?_
  refine wH_region ?_
  refine h_op (vB false) (wt rfl) rfl ?_
  refine h_nil ?_
  refine wH_seq ?_
  refine wH_region ?_
  refine h_far pl43_3 rfl 4 rfl (wt rfl) ?_
  refine h_ldr 0 sz35 ag35 rfl rfl (vL eS p_2.Tags) rfl (wt rfl) ?_
  refine h_op (vS t_1) (wt rfl) rfl ?_
  obtain ⟨r_3, hr_4, hF⟩ := bind_some hF
  refine h_call0 (slices_Contains_string_string_ok hr_4) rfl hb53 rfl rfl rfl rfl (wt rfl) ?_
  refine h_op (vB (!r_3)) (wt rfl) rfl ?_
  refine h_op (vB (!r_3)) (wt rfl) rfl ?_
  refine h_nil ?_
  replace hF := some_inj hF
  subst hF
  refine wH_ret ?_
  exact finB (.inr rfl) [(vB (!r_3))] _ [0] [extN 0] rfl (.cons (co_data rfl rfl) (.nil)) (by kernel_rfl) ⟨(by kernel_rfl), trivial⟩ (by decide) (by kernel_rfl)
theorem slices_IndexFunc_string_string_ok {s_1 : (List ByteArray)} {f_2 : ByteArray → Option Bool} {r : Int} {gid : FuncId} {caps : List V} {Sin : List Box} (hfn : ∀ x0 r, f_2 x0 = some r → FnM Try.prog gid ([(vS x0)] ++ caps) Sin (vB r) (Sin.map some)) (hbF : hasBody Try.prog gid = true) (hcapF : caps.flatMap frz = [] ∧ caps.map co0 = caps) (hokF : okL Sin.length caps = true) (hsF : ∀ b ∈ Sin, b.ok Sin.length = true) (hmF : ∀ b ∈ Sin, b.mut = true) (hF : slices_IndexFunc_string_string s_1 f_2 = some r) :
    FnM Try.prog 88 [(vL eS s_1), (.fn gid caps)] Sin (vI r) (Sin.map some) := by
  refine FnM.of_wH ⟨Try.prog, 19, [], []⟩ rfl Try.func88 rfl rfl (Nat.le_of_ble_eq_true rfl) (by kernel_rfl) ?_
  unfold slices_IndexFunc_string_string at hF
  refine wH_seq ?_
  refine wH_region ?_
  refine h_op (vI 0) (wt rfl) rfl ?_
  refine h_nil ?_
  refine wH_seq ?_
  refine wH_seq ?_
  refine wH_region ?_
  refine h_op (vL eS s_1) (wt rfl) rfl ?_
  refine h_len un35 rfl (wt rfl) ?_
  refine h_op (vI 0) (wt rfl) rfl ?_
  refine h_nil ?_
  obtain ⟨o_11, hj_12, hF⟩ := bind_some hF
  obtain ⟨hn_7, hj_12⟩ := forL_some hj_12
  refine wH_join (β := (Unit)) (fun (s_8 : Unit) => ([] : List (Nat × V))) (fun (s_8 : Unit) => (initH 0 Sin)) (fun p => o_11 = .go p) ?_ ?_
  · refine wH_block ?_
    refine wH_loop (β := Nat × (List ByteArray) × (Unit)) (fun p => (fun (k_3 : Nat) (l_4 : List ByteArray) (s_8 : Unit) => ([(0, (vL eS s_1)), (1, (.fn gid caps)), (7, (vI (s_1.length : Int))), (8, (vI (k_3 : Int)))] : List (Nat × V))) p.1 p.2.1 p.2.2) (fun p => (fun (k_3 : Nat) (l_4 : List ByteArray) (s_8 : Unit) => (initH 0 Sin)) p.1 p.2.1 p.2.2) (fun p => forR (fun k x s => slices_IndexFunc_string_string_L1 f_2 k x s) p.2.1 p.1 p.2.2 = some o_11 ∧ (s_1).drop p.1 = p.2.1) (fun p => p.2.1.length) (0, s_1, ()) ⟨hj_12, rfl⟩ rfl (pre_self _) ?_
    rintro ⟨k_3, l_4, s_8⟩ ⟨hL_10, hD_6⟩
    dsimp only at hL_10 hD_6
    cases l_4 with
    | nil =>
      replace hL_10 := some_inj hL_10
      subst hL_10
      refine wH_seq (wH_region (h_op (vB (decide ((k_3 : Int) < (s_1.length : Int)))) (wt rfl) rfl (h_nil ?_)))
      refine wH_seq (wH_iff rfl (drop_nil hD_6) (wH_exit ?_))
      exact cut_mk (s_8) rfl rfl (pre_self _)
    | cons x_5 l_4 =>
      obtain ⟨c_, hc_9, hL_10⟩ := bind_some hL_10
      refine wH_seq (wH_region (h_op (vB (decide ((k_3 : Int) < (s_1.length : Int)))) (wt rfl) rfl (h_nil ?_)))
      refine wH_seq (wH_ift rfl (drop_cons hD_6) (wH_skip ?_))
      unfold slices_IndexFunc_string_string_L1 at hc_9
      refine wH_seq ?_
      refine wH_block ?_
      refine wH_seq ?_
      refine wH_region ?_
      refine h_op (vI (k_3 : Int)) (wt rfl) rfl ?_
      refine h_op (vI (k_3 : Int)) (wt rfl) rfl ?_
      refine h_nil ?_
      refine wH_seq ?_
      refine wH_region ?_
      refine h_op (.fn gid caps) (wt rfl) rfl ?_
      refine h_op (vL eS s_1) (wt rfl) rfl ?_
      refine h_op (vI (k_3 : Int)) (wt rfl) rfl ?_
      refine h_ia es35 rfl rfl (drop_idx hD_6) rfl (wt rfl) ?_
      refine h_ldc sz9 ag9 rfl (vS x_5) rfl (wt rfl) ?_
      obtain ⟨r_13, hr_14, hc_9⟩ := bind_some hc_9
      refine h_callS (hfn _ _ hr_14) rfl hbF rfl rfl hcapF hokF hsF hmF rfl (wt rfl) rfl ?_
      refine h_nil ?_
      rcases cond_some hc_9 with ⟨hc_15, hc_9⟩ | ⟨hc_15, hc_9⟩
      · refine wH_ift rfl hc_15 ?_
        refine wH_seq ?_
        refine wH_region ?_
        refine h_op (vI (k_3 : Int)) (wt rfl) rfl ?_
        refine h_op (vI (k_3 : Int)) (wt rfl) rfl ?_
        refine h_nil ?_
        replace hc_9 := some_inj hc_9
        subst hc_9
        replace hL_10 := some_inj hL_10
        subst hL_10
        replace hF := some_inj hF
        subst hF
        refine wH_ret ?_
        exact finS hsF (.inr rfl) [(vI (k_3 : Int))] rfl rfl rfl rfl
      · refine wH_iff rfl hc_15 ?_
        refine wH_skip ?_
        refine wH_region ?_
        refine h_opw (w64_next hD_6 hn_7) (wt rfl) rfl ?_
        refine h_op (vI ((k_3 + 1 : Nat) : Int)) (wt rfl) rfl ?_
        refine h_nil ?_
        replace hc_9 := some_inj hc_9
        subst hc_9
        exact loop_mk (k_3 + 1, l_4, ()) ⟨hL_10, drop_next hD_6⟩ (Nat.lt_succ_self _) rfl (pre_self _)
  · rintro s_8 ho_ sl_ H_ hp_ hq_
    subst ho_
    refine wH_at _ hp_ hq_ ?_
    refine wH_seq ?_
    refine wH_region ?_
    refine h_op (vI (-1)) (wt rfl) rfl ?_
    refine h_nil ?_
    replace hF := some_inj hF
    subst hF
    refine wH_ret ?_
    exact finS hsF (.inr rfl) [(vI (-1))] rfl rfl rfl rfl
theorem slices_ContainsFunc_string_string_ok {s_1 : (List ByteArray)} {f_2 : ByteArray → Option Bool} {r : Bool} {gid : FuncId} {caps : List V} {Sin : List Box} (hfn : ∀ x0 r, f_2 x0 = some r → FnM Try.prog gid ([(vS x0)] ++ caps) Sin (vB r) (Sin.map some)) (hbF : hasBody Try.prog gid = true) (hcapF : caps.flatMap frz = [] ∧ caps.map co0 = caps) (hokF : okL Sin.length caps = true) (hsF : ∀ b ∈ Sin, b.ok Sin.length = true) (hmF : ∀ b ∈ Sin, b.mut = true) (hF : slices_ContainsFunc_string_string s_1 f_2 = some r) :
    FnM Try.prog 51 [(vL eS s_1), (.fn gid caps)] Sin (vB r) (Sin.map some) := by
  refine FnM.of_wH ⟨Try.prog, 9, [], []⟩ rfl Try.func51 rfl rfl (Nat.le_of_ble_eq_true rfl) (by kernel_rfl) ?_
  unfold slices_ContainsFunc_string_string at hF
  refine wH_seq ?_
  refine wH_region ?_
  refine h_op (vB false) (wt rfl) rfl ?_
  refine h_nil ?_
  refine wH_seq ?_
  refine wH_region ?_
  refine h_op (vL eS s_1) (wt rfl) rfl ?_
  refine h_op (.fn gid caps) (wt rfl) rfl ?_
  obtain ⟨r_3, hr_4, hF⟩ := bind_some hF
  refine h_callS (slices_IndexFunc_string_string_ok (gid := gid) (caps := caps) (Sin := Sin) hfn hbF hcapF hokF hsF hmF hr_4) rfl hb88 rfl rfl ⟨rfl, rfl⟩ (by simp [okL, okV, hokF]) hsF hmF rfl (wt rfl) rfl ?_
  refine h_op (vB (decide (r_3 ≥ 0))) (wt rfl) rfl ?_
  refine h_op (vB (decide (r_3 ≥ 0))) (wt rfl) rfl ?_
  refine h_nil ?_
  replace hF := some_inj hF
  subst hF
  refine wH_ret ?_
  exact finS hsF (.inr rfl) [(vB (decide (r_3 ≥ 0)))] rfl rfl rfl rfl
theorem ref_SuitsOf_ok {c_1 : Campaign} {s_2 : Spot} {r : Bool} (hF : ref_SuitsOf c_1 s_2 = some r) :
    FnM Try.prog 16 [(.d (.agg (Campaign.enc c_1))), (.d (.agg (Spot.enc s_2)))] [] (vB r) [] := by
  refine FnM.of_wH ⟨Try.prog, 28, [], []⟩ rfl Try.func16 rfl rfl (Nat.le_of_ble_eq_true rfl) (by kernel_rfl) ?_
  unfold ref_SuitsOf at hF
  refine wH_seq ?_
  refine wH_region ?_
  refine h_box [(vS c_1.Key), (vS c_1.Class), (vI c_1.Time.From), (vI c_1.Time.To), (vL eS c_1.Tags), (vI c_1.Goal), (vI c_1.Most), (vI c_1.Cents)] rfl rfl (wt rfl) (fun n_3 => ?_)
  refine h_box [(vS s_2.Key), (vI s_2.Time.From), (vI s_2.Time.To), (vI s_2.Room), (vL eS s_2.Tags)] rfl rfl (wt rfl) (fun n_4 => ?_)
  refine h_op (vB false) (wt rfl) rfl ?_
  refine h_nil ?_
  refine wH_seq ?_
  obtain ⟨v_5, h_6, hF⟩ := bind_some hF
  refine wH_join (β := Unit) (fun _ => ([(4, (vB v_5))] : List (Nat × V))) (fun _ => ([(n_3, some (.cells 8 [(vS c_1.Key), (vS c_1.Class), (vI c_1.Time.From), (vI c_1.Time.To), (vL eS c_1.Tags), (vI c_1.Goal), (vI c_1.Most), (vI c_1.Cents)])), (n_4, some (.cells 5 [(vS s_2.Key), (vI s_2.Time.From), (vI s_2.Time.To), (vI s_2.Room), (vL eS s_2.Tags)]))] : Hp)) (fun _ => True) ?_ ?_
  · refine wH_region ?_
    refine h_far pl37_2 rfl 2 rfl (wt rfl) ?_
    refine h_far pl34_0 rfl 2 rfl (wt rfl) ?_
    refine h_ldr 0 sz3 ag3 rfl rfl (vI c_1.Time.From) rfl (wt rfl) ?_
    refine h_far pl43_1 rfl 1 rfl (wt rfl) ?_
    refine h_far pl34_0 rfl 1 rfl (wt rfl) ?_
    refine h_ldr 1 sz3 ag3 rfl rfl (vI s_2.Time.From) rfl (wt rfl) ?_
    refine h_op (vB (decide (c_1.Time.From ≤ s_2.Time.From))) (wt rfl) rfl ?_
    rcases cond_some h_6 with ⟨hc_7, h_6⟩ | ⟨hc_7, h_6⟩
    · refine h_movb rfl hc_7 (wt rfl) ?_
      refine h_far pl43_1 rfl 1 rfl (wg rfl rfl rfl) ?_
      refine h_far pl34_1 rfl 2 rfl (wg rfl rfl rfl) ?_
      refine h_ldr 1 sz3 ag3 rfl rfl (vI s_2.Time.To) rfl (wg rfl rfl rfl) ?_
      refine h_far pl37_2 rfl 2 rfl (wg rfl rfl rfl) ?_
      refine h_far pl34_1 rfl 3 rfl (wg rfl rfl rfl) ?_
      refine h_ldr 0 sz3 ag3 rfl rfl (vI c_1.Time.To) rfl (wg rfl rfl rfl) ?_
      refine h_op (vB (decide (s_2.Time.To ≤ c_1.Time.To))) (wg rfl rfl rfl) rfl ?_
      refine h_op (vB (decide (s_2.Time.To ≤ c_1.Time.To))) (wt rfl) rfl ?_
      rcases cond_some h_6 with ⟨hc_8, h_6⟩ | ⟨hc_8, h_6⟩
      · refine h_movb rfl hc_8 (wt rfl) ?_
        refine h_far pl37_3 rfl 4 rfl (wg rfl rfl rfl) ?_
        refine h_ldr 0 sz35 ag35 rfl rfl (vL eS c_1.Tags) rfl (wg rfl rfl rfl) ?_
        refine h_op (.fn 52 [(.ref n_4 0 0)]) (wg rfl rfl rfl) rfl ?_
        obtain ⟨r_9, hr_10, h_6⟩ := bind_some h_6
        refine h_calln [1] 0 (slices_ContainsFunc_string_string_ok (gid := 52) (caps := [.ref (extN 0) 0 0]) (Sin := [(.cells 5 [(vS s_2.Key), (vI s_2.Time.From), (vI s_2.Time.To), (vI s_2.Room), (vL eS s_2.Tags)])]) (fun _ _ h_ => ref_SuitsOf_1_ok h_) hb52 ⟨rfl, rfl⟩ (by kernel_rfl) (all_ok (by kernel_rfl)) (all_mut (by kernel_rfl)) hr_10) rfl hb51 rfl (by kernel_rfl) (by kernel_rfl) (by kernel_rfl) (by kernel_rfl) (by kernel_rfl) (by kernel_rfl) (by kernel_rfl) (by decide) (by kernel_rfl) (by kernel_rfl) (wg rfl rfl rfl) (fun nu_11 => (vB r_9)) (fun _ => by kernel_rfl) (fun nu_11 => ([(n_3, some (.cells 8 [(vS c_1.Key), (vS c_1.Class), (vI c_1.Time.From), (vI c_1.Time.To), (vL eS c_1.Tags), (vI c_1.Goal), (vI c_1.Most), (vI c_1.Cents)])), (n_4, some (.cells 5 [(vS s_2.Key), (vI s_2.Time.From), (vI s_2.Time.To), (vI s_2.Room), (vL eS s_2.Tags)]))] : Hp)) (fun _ => by kernel_rfl) ?_
        intro nu_11
        refine h_op (vB (!r_9)) (wg rfl rfl rfl) rfl ?_
        refine h_op (vB (!r_9)) (wt rfl) rfl ?_
        refine h_op (vB (!r_9)) (wt rfl) rfl ?_
        refine h_nil ?_
        replace h_6 := some_inj h_6
        subst h_6
        exact cut_mk () trivial rfl rfl
      · refine h_movb rfl hc_8 (wt rfl) ?_
        refine h_skip (wg rfl rfl rfl) ?_
        refine h_skip (wg rfl rfl rfl) ?_
        refine h_skip (wg rfl rfl rfl) ?_
        refine h_skip (wg rfl rfl rfl) ?_
        refine h_skip (wg rfl rfl rfl) ?_
        refine h_op (vB false) (wt rfl) rfl ?_
        refine h_op (vB false) (wt rfl) rfl ?_
        refine h_nil ?_
        replace h_6 := some_inj h_6
        subst h_6
        exact cut_mk () trivial rfl rfl
    · refine h_movb rfl hc_7 (wt rfl) ?_
      refine h_skip (wg rfl rfl rfl) ?_
      refine h_skip (wg rfl rfl rfl) ?_
      refine h_skip (wg rfl rfl rfl) ?_
      refine h_skip (wg rfl rfl rfl) ?_
      refine h_skip (wg rfl rfl rfl) ?_
      refine h_skip (wg rfl rfl rfl) ?_
      refine h_skip (wg rfl rfl rfl) ?_
      refine h_op (vB false) (wt rfl) rfl ?_
      refine h_op (vB false) (wt rfl) rfl ?_
      refine h_skip (wg rfl rfl rfl) ?_
      refine h_skip (wg rfl rfl rfl) ?_
      refine h_skip (wg rfl rfl rfl) ?_
      refine h_skip (wg rfl rfl rfl) ?_
      refine h_skip (wg rfl rfl rfl) ?_
      refine h_op (vB false) (wt rfl) rfl ?_
      refine h_op (vB false) (wt rfl) rfl ?_
      refine h_nil ?_
      replace h_6 := some_inj h_6
      subst h_6
      exact cut_mk () trivial rfl rfl
  · rintro ⟨⟩ _ sl_ H_ hp_ hq_
    refine wH_at _ hp_ hq_ ?_
    replace hF := some_inj hF
    subst hF
    refine wH_ret ?_
    exact fin0 (.inr rfl) [(vB v_5)] rfl rfl rfl rfl
theorem ref_RoomOf_ok {spots_1 : (List Spot)} {c_2 : Campaign} {r : Int} (hF : ref_RoomOf spots_1 c_2 = some r) :
    FnM Try.prog 14 [(vL Spot.enc spots_1), (.d (.agg (Campaign.enc c_2)))] [] (vI r) [] := by
  refine FnM.of_wH ⟨Try.prog, 26, [], []⟩ rfl Try.func14 rfl rfl (Nat.le_of_ble_eq_true rfl) (by kernel_rfl) ?_
  unfold ref_RoomOf at hF
  refine wH_seq ?_
  refine wH_region ?_
  refine h_box [(vS c_2.Key), (vS c_2.Class), (vI c_2.Time.From), (vI c_2.Time.To), (vL eS c_2.Tags), (vI c_2.Goal), (vI c_2.Most), (vI c_2.Cents)] rfl rfl (wt rfl) (fun n_3 => ?_)
  refine h_op (vI 0) (wt rfl) rfl ?_
  refine h_nil ?_
  refine wH_seq ?_
  refine wH_region ?_
  refine h_op (vI 0) (wt rfl) rfl ?_
  refine h_nil ?_
  refine wH_seq ?_
  refine wH_seq ?_
  refine wH_region ?_
  refine h_op (vL Spot.enc spots_1) (wt rfl) rfl ?_
  refine h_len un26 rfl (wt rfl) ?_
  refine h_op (vI 0) (wt rfl) rfl ?_
  refine h_nil ?_
  obtain ⟨o_12, hj_13, hF⟩ := bind_some hF
  obtain ⟨hn_8, hj_13⟩ := forL_some hj_13
  refine wH_join (β := (Int)) (fun (s_9 : Int) => ([(5, (vI s_9))] : List (Nat × V))) (fun (s_9 : Int) => ([(n_3, some (.cells 8 [(vS c_2.Key), (vS c_2.Class), (vI c_2.Time.From), (vI c_2.Time.To), (vL eS c_2.Tags), (vI c_2.Goal), (vI c_2.Most), (vI c_2.Cents)]))] : Hp)) (fun p => o_12 = .go p) ?_ ?_
  · refine wH_block ?_
    refine wH_loop (β := Nat × (List Spot) × (Int)) (fun p => (fun (k_4 : Nat) (l_5 : List Spot) (s_9 : Int) => ([(3, (.ref n_3 0 0)), (5, (vI s_9)), (8, (vL Spot.enc spots_1)), (9, (vI (spots_1.length : Int))), (10, (vI (k_4 : Int)))] : List (Nat × V))) p.1 p.2.1 p.2.2) (fun p => (fun (k_4 : Nat) (l_5 : List Spot) (s_9 : Int) => ([(n_3, some (.cells 8 [(vS c_2.Key), (vS c_2.Class), (vI c_2.Time.From), (vI c_2.Time.To), (vL eS c_2.Tags), (vI c_2.Goal), (vI c_2.Most), (vI c_2.Cents)]))] : Hp)) p.1 p.2.1 p.2.2) (fun p => forR (fun k x s => ref_RoomOf_L1 c_2 k x s) p.2.1 p.1 p.2.2 = some o_12 ∧ (spots_1).drop p.1 = p.2.1) (fun p => p.2.1.length) (0, spots_1, 0) ⟨hj_13, rfl⟩ rfl rfl ?_
    rintro ⟨k_4, l_5, s_9⟩ ⟨hL_11, hD_7⟩
    dsimp only at hL_11 hD_7
    cases l_5 with
    | nil =>
      replace hL_11 := some_inj hL_11
      subst hL_11
      refine wH_seq (wH_region (h_op (vB (decide ((k_4 : Int) < (spots_1.length : Int)))) (wt rfl) rfl (h_nil ?_)))
      refine wH_seq (wH_iff rfl (drop_nil hD_7) (wH_exit ?_))
      exact cut_mk (s_9) rfl rfl rfl
    | cons x_6 l_5 =>
      obtain ⟨c_, hc_10, hL_11⟩ := bind_some hL_11
      refine wH_seq (wH_region (h_op (vB (decide ((k_4 : Int) < (spots_1.length : Int)))) (wt rfl) rfl (h_nil ?_)))
      refine wH_seq (wH_ift rfl (drop_cons hD_7) (wH_skip ?_))
      unfold ref_RoomOf_L1 at hc_10
      refine wH_seq ?_
      refine wH_block ?_
      refine wH_seq ?_
      refine wH_region ?_
      refine h_ia es26 rfl rfl (drop_idx hD_7) rfl (wt rfl) ?_
      refine h_ldc sz43 ag43 rfl (.d (.agg (Spot.enc x_6))) rfl (wt rfl) ?_
      refine h_alloc z43 rfl (wt rfl) (fun n_14 => ?_)
      refine h_str 1 sz43 rfl rfl [(vS x_6.Key), (vI x_6.Time.From), (vI x_6.Time.To), (vI x_6.Room), (vL eS x_6.Tags)] rfl (wt rfl) ?_
      refine h_nil ?_
      refine wH_seq ?_
      refine wH_region ?_
      refine h_ldr 0 sz37 ag37 rfl rfl (.d (.agg (Campaign.enc c_2))) rfl (wt rfl) ?_
      refine h_ldr 1 sz43 ag43 rfl rfl (.d (.agg (Spot.enc x_6))) rfl (wt rfl) ?_
      obtain ⟨r_15, hr_16, hc_10⟩ := bind_some hc_10
      refine h_call0 (ref_SuitsOf_ok hr_16) rfl hb16 rfl rfl rfl rfl (wt rfl) ?_
      refine h_nil ?_
      obtain ⟨v_17, h_18, hc_10⟩ := bind_some hc_10
      refine wH_join (β := Unit) (fun _ => ([(3, (.ref n_3 0 0)), (5, (vI v_17)), (8, (vL Spot.enc spots_1)), (9, (vI (spots_1.length : Int))), (10, (vI (k_4 : Int)))] : List (Nat × V))) (fun _ => ([(n_3, some (.cells 8 [(vS c_2.Key), (vS c_2.Class), (vI c_2.Time.From), (vI c_2.Time.To), (vL eS c_2.Tags), (vI c_2.Goal), (vI c_2.Most), (vI c_2.Cents)])), (n_14, some (.cells 5 [(vS x_6.Key), (vI x_6.Time.From), (vI x_6.Time.To), (vI x_6.Room), (vL eS x_6.Tags)]))] : Hp)) (fun _ => True) ?_ ?_
      · rcases cond_some h_18 with ⟨hc_19, h_18⟩ | ⟨hc_19, h_18⟩
        · refine wH_ift rfl hc_19 ?_
          refine wH_region ?_
          refine h_op (vI s_9) (wt rfl) rfl ?_
          refine h_far pl43_2 rfl 3 rfl (wt rfl) ?_
          refine h_ldr 1 sz3 ag3 rfl rfl (vI x_6.Room) rfl (wt rfl) ?_
          refine h_far pl37_5 rfl 6 rfl (wt rfl) ?_
          refine h_ldr 0 sz3 ag3 rfl rfl (vI c_2.Most) rfl (wt rfl) ?_
          refine h_minmax (vI (minI x_6.Room c_2.Most)) rfl (.inl rfl) (wt rfl) ?_
          refine h_op (vI (w64 (s_9 + (minI x_6.Room c_2.Most)))) (wt rfl) rfl ?_
          refine h_op (vI (w64 (s_9 + (minI x_6.Room c_2.Most)))) (wt rfl) rfl ?_
          refine h_nil ?_
          replace h_18 := some_inj h_18
          subst h_18
          exact cut_mk () trivial rfl rfl
        · refine wH_iff rfl hc_19 ?_
          refine wH_skip ?_
          replace h_18 := some_inj h_18
          subst h_18
          exact cut_mk () trivial rfl rfl
      · rintro ⟨⟩ _ sl_ H_ hp_ hq_
        refine wH_at _ hp_ hq_ ?_
        refine wH_region ?_
        refine h_opw (w64_next hD_7 hn_8) (wt rfl) rfl ?_
        refine h_op (vI ((k_4 + 1 : Nat) : Int)) (wt rfl) rfl ?_
        refine h_nil ?_
        replace hc_10 := some_inj hc_10
        subst hc_10
        exact loop_mk (k_4 + 1, l_5, v_17) ⟨hL_11, drop_next hD_7⟩ (Nat.lt_succ_self _) rfl rfl
  · rintro s_9 ho_ sl_ H_ hp_ hq_
    subst ho_
    refine wH_at _ hp_ hq_ ?_
    refine wH_seq ?_
    refine wH_region ?_
    refine h_op (vI s_9) (wt rfl) rfl ?_
    refine h_op (vI s_9) (wt rfl) rfl ?_
    refine h_nil ?_
    replace hF := some_inj hF
    subst hF
    refine wH_ret ?_
    exact fin0 (.inr rfl) [(vI s_9)] rfl rfl rfl rfl
theorem booking_Suits_ok {c_1 : Campaign} {s_2 : Spot} {r : Bool × Int} (hF : booking_Suits c_1 s_2 = some r) :
    FnM Try.prog 15 [(.d (.agg (Campaign.enc c_1))), (.d (.agg (Spot.enc s_2)))] [] (.tup [(vB r.1), (vI r.2)]) [] := by
  refine FnM.of_wH ⟨Try.prog, 18, [], []⟩ rfl Try.func15 rfl rfl (Nat.le_of_ble_eq_true rfl) (by kernel_rfl) ?_
  unfold booking_Suits at hF
  refine wH_seq ?_
  refine wH_region ?_
  refine h_box [(vS c_1.Key), (vS c_1.Class), (vI c_1.Time.From), (vI c_1.Time.To), (vL eS c_1.Tags), (vI c_1.Goal), (vI c_1.Most), (vI c_1.Cents)] rfl rfl (wt rfl) (fun n_3 => ?_)
  refine h_box [(vS s_2.Key), (vI s_2.Time.From), (vI s_2.Time.To), (vI s_2.Room), (vL eS s_2.Tags)] rfl rfl (wt rfl) (fun n_4 => ?_)
  refine h_op (vB false) (wt rfl) rfl ?_
  refine h_op (vI 0) (wt rfl) rfl ?_
  refine h_nil ?_
  refine wH_seq ?_
  refine wH_seq ?_
  refine wH_region ?_
  refine h_ldr 1 sz43 ag43 rfl rfl (.d (.agg (Spot.enc s_2))) rfl (wt rfl) ?_
  refine h_lit (([s_2] : List Spot).map Spot.enc) es26 ez26 rfl rfl rfl rfl rfl (wt rfl) ?_
  refine h_ldr 0 sz37 ag37 rfl rfl (.d (.agg (Campaign.enc c_1))) rfl (wt rfl) ?_
  refine h_lit (([c_1] : List Campaign).map Campaign.enc) es27 ez27 rfl rfl rfl rfl rfl (wt rfl) ?_
  obtain ⟨r_5, hr_6, hF⟩ := bind_some hF
  refine h_call0 (booking_checkBoth_ok hr_6) rfl hb49 rfl rfl rfl rfl (wt rfl) ?_
  refine h_op (vI r_5) (wt rfl) rfl ?_
  refine h_nil ?_
  refine wH_seq ?_
  refine wH_region ?_
  refine h_op (vI r_5) (wt rfl) rfl ?_
  refine h_op (vB (r_5 != 0)) (wt rfl) rfl ?_
  refine h_nil ?_
  rcases cond_some hF with ⟨hc_7, hF⟩ | ⟨hc_7, hF⟩
  · refine wH_ift rfl hc_7 ?_
    refine wH_seq ?_
    refine wH_region ?_
    refine h_op (vI r_5) (wt rfl) rfl ?_
    refine h_op (vB false) (wt rfl) rfl ?_
    refine h_op (vI r_5) (wt rfl) rfl ?_
    refine h_nil ?_
    replace hF := some_inj hF
    subst hF
    refine wH_ret ?_
    exact fin0 (.inr rfl) [(vB false), (vI r_5)] rfl rfl rfl rfl
  · refine wH_iff rfl hc_7 ?_
    refine wH_skip ?_
    refine wH_seq ?_
    refine wH_region ?_
    refine h_ldr 0 sz37 ag37 rfl rfl (.d (.agg (Campaign.enc c_1))) rfl (wt rfl) ?_
    refine h_ldr 1 sz43 ag43 rfl rfl (.d (.agg (Spot.enc s_2))) rfl (wt rfl) ?_
    obtain ⟨r_8, hr_9, hF⟩ := bind_some hF
    refine h_call0 (booking_suits_ok hr_9) rfl hb50 rfl rfl rfl rfl (wt rfl) ?_
    refine h_op (vB r_8) (wt rfl) rfl ?_
    refine h_op (vI 0) (wt rfl) rfl ?_
    refine h_nil ?_
    replace hF := some_inj hF
    subst hF
    refine wH_ret ?_
    exact fin0 (.inr rfl) [(vB r_8), (vI 0)] rfl rfl rfl rfl
theorem kit_IsMoment_ok {n_1 : Int} {r : Bool} (hF : kit_IsMoment n_1 = some r) :
    FnM Try.prog 90 [(vI n_1)] [] (vB r) [] := by
  refine FnM.of_wH ⟨Try.prog, 9, [], []⟩ rfl Try.func90 rfl rfl (Nat.le_of_ble_eq_true rfl) (by kernel_rfl) ?_
  unfold kit_IsMoment at hF
  refine wH_seq ?_
  refine wH_region ?_
  refine h_op (vB false) (wt rfl) rfl ?_
  refine h_nil ?_
  refine wH_seq ?_
  obtain ⟨v_2, h_3, hF⟩ := bind_some hF
  refine wH_join (β := Unit) (fun _ => ([(2, (vB v_2))] : List (Nat × V))) (fun _ => ([] : Hp)) (fun _ => True) ?_ ?_
  · refine wH_region ?_
    refine h_op (vI n_1) (wt rfl) rfl ?_
    refine h_op (vB (decide (n_1 ≥ 0))) (wt rfl) rfl ?_
    rcases cond_some h_3 with ⟨hc_4, h_3⟩ | ⟨hc_4, h_3⟩
    · refine h_movb rfl hc_4 (wt rfl) ?_
      refine h_op (vI n_1) (wg rfl rfl rfl) rfl ?_
      refine h_op (vB (decide (n_1 < 345686400000))) (wg rfl rfl rfl) rfl ?_
      refine h_op (vB (decide (n_1 < 345686400000))) (wt rfl) rfl ?_
      refine h_op (vB (decide (n_1 < 345686400000))) (wt rfl) rfl ?_
      refine h_nil ?_
      replace h_3 := some_inj h_3
      subst h_3
      exact cut_mk () trivial rfl rfl
    · refine h_movb rfl hc_4 (wt rfl) ?_
      refine h_skip (wg rfl rfl rfl) ?_
      refine h_skip (wg rfl rfl rfl) ?_
      refine h_op (vB false) (wt rfl) rfl ?_
      refine h_op (vB false) (wt rfl) rfl ?_
      refine h_nil ?_
      replace h_3 := some_inj h_3
      subst h_3
      exact cut_mk () trivial rfl rfl
  · rintro ⟨⟩ _ sl_ H_ hp_ hq_
    refine wH_at _ hp_ hq_ ?_
    replace hF := some_inj hF
    subst hF
    refine wH_ret ?_
    exact fin0 (.inr rfl) [(vB v_2)] rfl rfl rfl rfl
theorem booking_due_ok {c_1 : Campaign} {atv_2 : Int} {r : Int} (hF : booking_due c_1 atv_2 = some r) :
    FnM Try.prog 91 [(.d (.agg (Campaign.enc c_1))), (vI atv_2)] [] (vI r) [] := by
  refine FnM.of_wH ⟨Try.prog, 35, [], []⟩ rfl Try.func91 rfl rfl (Nat.le_of_ble_eq_true rfl) (by kernel_rfl) ?_
  unfold booking_due at hF
  refine wH_seq ?_
  refine wH_region ?_
  refine h_box [(vS c_1.Key), (vS c_1.Class), (vI c_1.Time.From), (vI c_1.Time.To), (vL eS c_1.Tags), (vI c_1.Goal), (vI c_1.Most), (vI c_1.Cents)] rfl rfl (wt rfl) (fun n_3 => ?_)
  refine h_op (vI 0) (wt rfl) rfl ?_
  refine h_nil ?_
  refine wH_seq ?_
  refine wH_block ?_
  refine wH_seq ?_
  refine wH_region ?_
  refine h_op (vI atv_2) (wt rfl) rfl ?_
  refine h_far pl37_2 rfl 2 rfl (wt rfl) ?_
  refine h_far pl34_0 rfl 2 rfl (wt rfl) ?_
  refine h_ldr 0 sz3 ag3 rfl rfl (vI c_1.Time.From) rfl (wt rfl) ?_
  refine h_op (vB (decide (atv_2 < c_1.Time.From))) (wt rfl) rfl ?_
  refine h_op (vB (decide (atv_2 < c_1.Time.From))) (wt rfl) rfl ?_
  refine h_nil ?_
  rcases cond_some hF with ⟨hc_4, hF⟩ | ⟨hc_4, hF⟩
  · refine wH_ift rfl hc_4 ?_
    refine wH_seq ?_
    refine wH_region ?_
    refine h_op (vI 0) (wt rfl) rfl ?_
    refine h_nil ?_
    replace hF := some_inj hF
    subst hF
    refine wH_ret ?_
    exact fin0 (.inr rfl) [(vI 0)] rfl rfl rfl rfl
  · refine wH_iff rfl hc_4 ?_
    refine wH_seq ?_
    refine wH_region ?_
    refine h_op (vI atv_2) (wt rfl) rfl ?_
    refine h_far pl37_2 rfl 2 rfl (wt rfl) ?_
    refine h_far pl34_1 rfl 3 rfl (wt rfl) ?_
    refine h_ldr 0 sz3 ag3 rfl rfl (vI c_1.Time.To) rfl (wt rfl) ?_
    refine h_op (vB (decide (atv_2 ≥ c_1.Time.To))) (wt rfl) rfl ?_
    refine h_op (vB (decide (atv_2 ≥ c_1.Time.To))) (wt rfl) rfl ?_
    refine h_nil ?_
    rcases cond_some hF with ⟨hc_5, hF⟩ | ⟨hc_5, hF⟩
    · refine wH_ift rfl hc_5 ?_
      refine wH_seq ?_
      refine wH_region ?_
      refine h_far pl37_4 rfl 5 rfl (wt rfl) ?_
      refine h_ldr 0 sz3 ag3 rfl rfl (vI c_1.Goal) rfl (wt rfl) ?_
      refine h_op (vI c_1.Goal) (wt rfl) rfl ?_
      refine h_nil ?_
      replace hF := some_inj hF
      subst hF
      refine wH_ret ?_
      exact fin0 (.inr rfl) [(vI c_1.Goal)] rfl rfl rfl rfl
    · refine wH_iff rfl hc_5 ?_
      refine wH_skip ?_
      refine wH_seq ?_
      refine wH_region ?_
      refine h_far pl37_4 rfl 5 rfl (wt rfl) ?_
      refine h_ldr 0 sz3 ag3 rfl rfl (vI c_1.Goal) rfl (wt rfl) ?_
      refine h_op (vI atv_2) (wt rfl) rfl ?_
      refine h_far pl37_2 rfl 2 rfl (wt rfl) ?_
      refine h_far pl34_0 rfl 2 rfl (wt rfl) ?_
      refine h_ldr 0 sz3 ag3 rfl rfl (vI c_1.Time.From) rfl (wt rfl) ?_
      refine h_op (vI (w64 (atv_2 - c_1.Time.From))) (wt rfl) rfl ?_
      refine h_op (vI (w64 (c_1.Goal * (w64 (atv_2 - c_1.Time.From))))) (wt rfl) rfl ?_
      refine h_far pl37_2 rfl 2 rfl (wt rfl) ?_
      refine h_far pl34_1 rfl 3 rfl (wt rfl) ?_
      refine h_ldr 0 sz3 ag3 rfl rfl (vI c_1.Time.To) rfl (wt rfl) ?_
      refine h_far pl37_2 rfl 2 rfl (wt rfl) ?_
      refine h_far pl34_0 rfl 2 rfl (wt rfl) ?_
      refine h_ldr 0 sz3 ag3 rfl rfl (vI c_1.Time.From) rfl (wt rfl) ?_
      refine h_op (vI (w64 (c_1.Time.To - c_1.Time.From))) (wt rfl) rfl ?_
      obtain ⟨q_6, hz_7, hF⟩ := bind_some hF
      refine h_quo rfl rfl hz_7 (wt rfl) ?_
      refine h_op (vI q_6) (wt rfl) rfl ?_
      refine h_nil ?_
      replace hF := some_inj hF
      subst hF
      refine wH_ret ?_
      exact fin0 (.inr rfl) [(vI q_6)] rfl rfl rfl rfl
theorem booking_Due_ok {c_1 : Campaign} {atv_2 : Int} {r : Int × Int} (hF : booking_Due c_1 atv_2 = some r) :
    FnM Try.prog 54 [(.d (.agg (Campaign.enc c_1))), (vI atv_2)] [] (.tup [(vI r.1), (vI r.2)]) [] := by
  refine FnM.of_wH ⟨Try.prog, 19, [], []⟩ rfl Try.func54 rfl rfl (Nat.le_of_ble_eq_true rfl) (by kernel_rfl) ?_
  unfold booking_Due at hF
  refine wH_seq ?_
  refine wH_region ?_
  refine h_box [(vS c_1.Key), (vS c_1.Class), (vI c_1.Time.From), (vI c_1.Time.To), (vL eS c_1.Tags), (vI c_1.Goal), (vI c_1.Most), (vI c_1.Cents)] rfl rfl (wt rfl) (fun n_3 => ?_)
  refine h_op (vI 0) (wt rfl) rfl ?_
  refine h_op (vI 0) (wt rfl) rfl ?_
  refine h_nil ?_
  refine wH_seq ?_
  refine wH_seq ?_
  refine wH_region ?_
  refine h_ldr 0 sz37 ag37 rfl rfl (.d (.agg (Campaign.enc c_1))) rfl (wt rfl) ?_
  refine h_lit (([c_1] : List Campaign).map Campaign.enc) es27 ez27 rfl rfl rfl rfl rfl (wt rfl) ?_
  obtain ⟨r_4, hr_5, hF⟩ := bind_some hF
  refine h_call0 (booking_CheckCampaigns_ok hr_5) rfl hb10 rfl rfl rfl rfl (wt rfl) ?_
  refine h_op (vI r_4) (wt rfl) rfl ?_
  refine h_nil ?_
  refine wH_seq ?_
  refine wH_region ?_
  refine h_op (vI r_4) (wt rfl) rfl ?_
  refine h_op (vB (r_4 != 0)) (wt rfl) rfl ?_
  refine h_nil ?_
  rcases cond_some hF with ⟨hc_6, hF⟩ | ⟨hc_6, hF⟩
  · refine wH_ift rfl hc_6 ?_
    refine wH_seq ?_
    refine wH_region ?_
    refine h_op (vI r_4) (wt rfl) rfl ?_
    refine h_op (vI 0) (wt rfl) rfl ?_
    refine h_op (vI r_4) (wt rfl) rfl ?_
    refine h_nil ?_
    replace hF := some_inj hF
    subst hF
    refine wH_ret ?_
    exact fin0 (.inr rfl) [(vI 0), (vI r_4)] rfl rfl rfl rfl
  · refine wH_iff rfl hc_6 ?_
    refine wH_skip ?_
    refine wH_seq ?_
    refine wH_seq ?_
    refine wH_region ?_
    refine h_op (vI atv_2) (wt rfl) rfl ?_
    obtain ⟨r_7, hr_8, hF⟩ := bind_some hF
    refine h_call0 (kit_IsMoment_ok hr_8) rfl hb90 rfl rfl rfl rfl (wt rfl) ?_
    refine h_op (vB (!r_7)) (wt rfl) rfl ?_
    refine h_nil ?_
    rcases cond_some hF with ⟨hc_9, hF⟩ | ⟨hc_9, hF⟩
    · refine wH_ift rfl hc_9 ?_
      refine wH_seq ?_
      refine wH_region ?_
      refine h_op (vI 0) (wt rfl) rfl ?_
      refine h_op (vI 1) (wt rfl) rfl ?_
      refine h_nil ?_
      replace hF := some_inj hF
      subst hF
      refine wH_ret ?_
      exact fin0 (.inr rfl) [(vI 0), (vI 1)] rfl rfl rfl rfl
    · refine wH_iff rfl hc_9 ?_
      refine wH_skip ?_
      refine wH_seq ?_
      refine wH_region ?_
      refine h_ldr 0 sz37 ag37 rfl rfl (.d (.agg (Campaign.enc c_1))) rfl (wt rfl) ?_
      refine h_op (vI atv_2) (wt rfl) rfl ?_
      obtain ⟨r_10, hr_11, hF⟩ := bind_some hF
      refine h_call0 (booking_due_ok hr_11) rfl hb91 rfl rfl rfl rfl (wt rfl) ?_
      refine h_op (vI r_10) (wt rfl) rfl ?_
      refine h_op (vI 0) (wt rfl) rfl ?_
      refine h_nil ?_
      replace hF := some_inj hF
      subst hF
      refine wH_ret ?_
      exact fin0 (.inr rfl) [(vI r_10), (vI 0)] rfl rfl rfl rfl
theorem law_booked_ok {r : Bool} (hF : law_booked  = some r) :
    FnM Try.prog 17 [] [] (vB r) [] := by
  refine FnM.of_wH ⟨Try.prog, 15, [], []⟩ rfl Try.func17 rfl rfl (Nat.le_of_ble_eq_true rfl) (by kernel_rfl) ?_
  unfold law_booked at hF
  refine wH_seq ?_
  refine wH_region ?_
  refine h_op (vB false) (wt rfl) rfl ?_
  refine h_nil ?_
  refine wH_seq ?_
  refine wH_region ?_
  refine h_op (.d (.agg (Window.enc (⟨0, 100⟩ : Window)))) (wt rfl) (by kernel_rfl) ?_
  refine h_op (.agg [(vS (⟨#[97]⟩ : ByteArray)), (vS (⟨#[]⟩ : ByteArray)), (vI 0), (vI 100), .nil, (vI 10), (vI 0), (vI 0)]) (wt rfl) (by kernel_rfl) ?_
  obtain ⟨r_1, hr_2, hF⟩ := bind_some hF
  refine h_call0 (booking_Due_ok hr_2) rfl hb54 rfl rfl rfl rfl (wt rfl) ?_
  refine h_op (.tup [(vI r_1.1), (vI r_1.2)]) (wt rfl) rfl ?_
  refine h_op (vI r_1.1) (wt rfl) rfl ?_
  refine h_op (vI r_1.2) (wt rfl) rfl ?_
  refine h_op (vI r_1.1) (wt rfl) rfl ?_
  refine h_op (vI r_1.2) (wt rfl) rfl ?_
  refine h_nil ?_
  refine wH_seq ?_
  obtain ⟨v_3, h_4, hF⟩ := bind_some hF
  refine wH_join (β := Unit) (fun _ => ([(0, (vB v_3))] : List (Nat × V))) (fun _ => ([] : Hp)) (fun _ => True) ?_ ?_
  · refine wH_region ?_
    refine h_op (vI r_1.2) (wt rfl) rfl ?_
    refine h_op (vB (r_1.2 == 0)) (wt rfl) rfl ?_
    rcases cond_some h_4 with ⟨hc_5, h_4⟩ | ⟨hc_5, h_4⟩
    · refine h_movb rfl hc_5 (wt rfl) ?_
      refine h_op (vI r_1.1) (wg rfl rfl rfl) rfl ?_
      refine h_op (vB (r_1.1 == 5)) (wg rfl rfl rfl) rfl ?_
      refine h_op (vB (r_1.1 == 5)) (wt rfl) rfl ?_
      refine h_op (vB (r_1.1 == 5)) (wt rfl) rfl ?_
      refine h_nil ?_
      replace h_4 := some_inj h_4
      subst h_4
      exact cut_mk () trivial rfl rfl
    · refine h_movb rfl hc_5 (wt rfl) ?_
      refine h_skip (wg rfl rfl rfl) ?_
      refine h_skip (wg rfl rfl rfl) ?_
      refine h_op (vB false) (wt rfl) rfl ?_
      refine h_op (vB false) (wt rfl) rfl ?_
      refine h_nil ?_
      replace h_4 := some_inj h_4
      subst h_4
      exact cut_mk () trivial rfl rfl
  · rintro ⟨⟩ _ sl_ H_ hp_ hq_
    refine wH_at _ hp_ hq_ ?_
    replace hF := some_inj hF
    subst hF
    refine wH_ret ?_
    exact fin0 (.inr rfl) [(vB v_3)] rfl rfl rfl rfl
theorem law_BookingsCheck_ok {l_1 : (List Int)} {r : Bool} (hF : law_BookingsCheck l_1 = some r) :
    FnM Try.prog 3 [(vL eI l_1)] [] (vB r) [] := by
  refine FnM.of_wH ⟨Try.prog, 108, [], []⟩ rfl Try.func3 rfl rfl (Nat.le_of_ble_eq_true rfl) (by kernel_rfl) ?_
  unfold law_BookingsCheck at hF
  refine wH_seq ?_
  refine wH_region ?_
  refine h_op (vB false) (wt rfl) rfl ?_
  refine h_nil ?_
  refine wH_seq ?_
  refine wH_region ?_
  refine h_op (vL eI l_1) (wt rfl) rfl ?_
  refine h_op (.d (.agg (Stream.enc (⟨l_1, 0⟩ : Stream)))) (wt rfl) (by kernel_rfl) ?_
  refine h_box [(vL eI l_1), (vI 0)] rfl rfl (wt rfl) (fun n_2 => ?_)
  refine h_op (.ref n_2 0 0) (wt rfl) rfl ?_
  refine h_nil ?_
  refine wH_seq ?_
  refine wH_region ?_
  refine h_op (.ref n_2 0 0) (wt rfl) rfl ?_
  obtain ⟨r_3, hr_4, hF⟩ := bind_some hF
  refine h_calln [0] 0 (law_office_ok hr_4) rfl hb7 rfl (by kernel_rfl) (by kernel_rfl) (by kernel_rfl) (by kernel_rfl) (by kernel_rfl) (by kernel_rfl) (by kernel_rfl) (by decide) (by kernel_rfl) (by kernel_rfl) (wt rfl) (fun nu_5 => (.tup [(vL Spot.enc r_3.1), (vL Campaign.enc r_3.2.1), (vI r_3.2.2.1)])) (fun _ => by kernel_rfl) (fun nu_5 => ([(n_2, some (.cells 2 [(vL eI r_3.2.2.2.L), (vI r_3.2.2.2.f_at)]))] : Hp)) (fun _ => by kernel_rfl) ?_
  intro nu_5
  refine h_op (.tup [(vL Spot.enc r_3.1), (vL Campaign.enc r_3.2.1), (vI r_3.2.2.1)]) (wt rfl) rfl ?_
  refine h_op (vL Spot.enc r_3.1) (wt rfl) rfl ?_
  refine h_op (vL Campaign.enc r_3.2.1) (wt rfl) rfl ?_
  refine h_op (vI r_3.2.2.1) (wt rfl) rfl ?_
  refine h_op (vL Spot.enc r_3.1) (wt rfl) rfl ?_
  refine h_op (vL Campaign.enc r_3.2.1) (wt rfl) rfl ?_
  refine h_op (vI r_3.2.2.1) (wt rfl) rfl ?_
  refine h_nil ?_
  refine wH_seq ?_
  refine wH_seq ?_
  obtain ⟨v_6, h_7, hF⟩ := bind_some hF
  refine wH_join (β := Unit) (fun _ => ([(4, (vL Spot.enc r_3.1)), (5, (vL Campaign.enc r_3.2.1)), (38, (vB v_6))] : List (Nat × V))) (fun _ => ([(n_2, some (.cells 2 [(vL eI r_3.2.2.2.L), (vI r_3.2.2.2.f_at)]))] : Hp)) (fun _ => True) ?_ ?_
  · refine wH_region ?_
    refine h_op (vL Spot.enc r_3.1) (wt rfl) rfl ?_
    obtain ⟨r_8, hr_9, h_7⟩ := bind_some h_7
    refine h_call0 (booking_CheckSpots_ok hr_9) rfl hb8 rfl rfl rfl rfl (wt rfl) ?_
    refine h_op (vL Spot.enc r_3.1) (wt rfl) rfl ?_
    obtain ⟨r_10, hr_11, h_7⟩ := bind_some h_7
    refine h_call0 (ref_SpotsFault_ok hr_11) rfl hb9 rfl rfl rfl rfl (wt rfl) ?_
    refine h_op (vB (r_8 != r_10)) (wt rfl) rfl ?_
    rcases cond_some h_7 with ⟨hc_12, h_7⟩ | ⟨hc_12, h_7⟩
    · refine h_movb rfl hc_12 (wt rfl) ?_
      refine h_skip (wg rfl rfl rfl) ?_
      refine h_skip (wg rfl rfl rfl) ?_
      refine h_skip (wg rfl rfl rfl) ?_
      refine h_skip (wg rfl rfl rfl) ?_
      refine h_skip (wg rfl rfl rfl) ?_
      refine h_op (vB true) (wt rfl) rfl ?_
      refine h_nil ?_
      replace h_7 := some_inj h_7
      subst h_7
      exact cut_mk () trivial rfl rfl
    · refine h_movb rfl hc_12 (wt rfl) ?_
      refine h_op (vL Campaign.enc r_3.2.1) (wg rfl rfl rfl) rfl ?_
      obtain ⟨r_13, hr_14, h_7⟩ := bind_some h_7
      refine h_call0 (booking_CheckCampaigns_ok hr_14) rfl hb10 rfl rfl rfl rfl (wg rfl rfl rfl) ?_
      refine h_op (vL Campaign.enc r_3.2.1) (wg rfl rfl rfl) rfl ?_
      obtain ⟨r_15, hr_16, h_7⟩ := bind_some h_7
      refine h_call0 (ref_CampaignsFault_ok hr_16) rfl hb11 rfl rfl rfl rfl (wg rfl rfl rfl) ?_
      refine h_op (vB (r_13 != r_15)) (wg rfl rfl rfl) rfl ?_
      refine h_op (vB (r_13 != r_15)) (wt rfl) rfl ?_
      refine h_nil ?_
      replace h_7 := some_inj h_7
      subst h_7
      exact cut_mk () trivial rfl rfl
  · rintro ⟨⟩ _ sl_ H_ hp_ hq_
    refine wH_at _ hp_ hq_ ?_
    rcases cond_some hF with ⟨hc_17, hF⟩ | ⟨hc_17, hF⟩
    · refine wH_ift rfl hc_17 ?_
      refine wH_seq ?_
      refine wH_region ?_
      refine h_op (vB false) (wt rfl) rfl ?_
      refine h_nil ?_
      replace hF := some_inj hF
      subst hF
      refine wH_ret ?_
      exact fin0 (.inr rfl) [(vB false)] rfl rfl rfl rfl
    · refine wH_iff rfl hc_17 ?_
      refine wH_skip ?_
      refine wH_seq ?_
      refine wH_seq ?_
      refine wH_region ?_
      refine h_op (vL Campaign.enc r_3.2.1) (wt rfl) rfl ?_
      refine h_len un27 rfl (wt rfl) ?_
      refine h_op (vI 0) (wt rfl) rfl ?_
      refine h_nil ?_
      obtain ⟨o_26, hj_27, hF⟩ := bind_some hF
      obtain ⟨hn_22, hj_27⟩ := forL_some hj_27
      refine wH_join (β := (Unit)) (fun (s_23 : Unit) => ([] : List (Nat × V))) (fun (s_23 : Unit) => ([(n_2, some (.cells 2 [(vL eI r_3.2.2.2.L), (vI r_3.2.2.2.f_at)]))] : Hp)) (fun p => o_26 = .go p) ?_ ?_
      · refine wH_block ?_
        refine wH_loop (β := Nat × (List Campaign) × (Unit)) (fun p => (fun (k_18 : Nat) (l_19 : List Campaign) (s_23 : Unit) => ([(4, (vL Spot.enc r_3.1)), (39, (vL Campaign.enc r_3.2.1)), (40, (vI (r_3.2.1.length : Int))), (41, (vI (k_18 : Int)))] : List (Nat × V))) p.1 p.2.1 p.2.2) (fun p => (fun (k_18 : Nat) (l_19 : List Campaign) (s_23 : Unit) => ([(n_2, some (.cells 2 [(vL eI r_3.2.2.2.L), (vI r_3.2.2.2.f_at)]))] : Hp)) p.1 p.2.1 p.2.2) (fun p => forR (fun k x s => law_BookingsCheck_L2 r_3 k x s) p.2.1 p.1 p.2.2 = some o_26 ∧ (r_3.2.1).drop p.1 = p.2.1) (fun p => p.2.1.length) (0, r_3.2.1, ()) ⟨hj_27, rfl⟩ rfl rfl ?_
        rintro ⟨k_18, l_19, s_23⟩ ⟨hL_25, hD_21⟩
        dsimp only at hL_25 hD_21
        cases l_19 with
        | nil =>
          replace hL_25 := some_inj hL_25
          subst hL_25
          refine wH_seq (wH_region (h_op (vB (decide ((k_18 : Int) < (r_3.2.1.length : Int)))) (wt rfl) rfl (h_nil ?_)))
          refine wH_seq (wH_iff rfl (drop_nil hD_21) (wH_exit ?_))
          exact cut_mk (s_23) rfl rfl rfl
        | cons x_20 l_19 =>
          obtain ⟨c_, hc_24, hL_25⟩ := bind_some hL_25
          refine wH_seq (wH_region (h_op (vB (decide ((k_18 : Int) < (r_3.2.1.length : Int)))) (wt rfl) rfl (h_nil ?_)))
          refine wH_seq (wH_ift rfl (drop_cons hD_21) (wH_skip ?_))
          unfold law_BookingsCheck_L2 at hc_24
          refine wH_seq ?_
          refine wH_block ?_
          refine wH_seq ?_
          refine wH_region ?_
          refine h_ia es27 rfl rfl (drop_idx hD_21) rfl (wt rfl) ?_
          refine h_ldc sz37 ag37 rfl (.d (.agg (Campaign.enc x_20))) rfl (wt rfl) ?_
          refine h_alloc z37 rfl (wt rfl) (fun n_28 => ?_)
          refine h_str 1 sz37 rfl rfl [(vS x_20.Key), (vS x_20.Class), (vI x_20.Time.From), (vI x_20.Time.To), (vL eS x_20.Tags), (vI x_20.Goal), (vI x_20.Most), (vI x_20.Cents)] rfl (wt rfl) ?_
          refine h_nil ?_
          refine wH_seq ?_
          refine wH_draws ?_
          refine h_op (vL Spot.enc r_3.1) (wt rfl) rfl ?_
          obtain ⟨r_29, hr_30, hc_24⟩ := bind_some hc_24
          refine h_call0 (ref_SpotsFault_ok hr_30) rfl hb9 rfl rfl rfl rfl (wt rfl) ?_
          refine h_ldr 1 sz37 ag37 rfl rfl (.d (.agg (Campaign.enc x_20))) rfl (wt rfl) ?_
          refine h_lit (([x_20] : List Campaign).map Campaign.enc) es27 ez27 rfl rfl rfl rfl rfl (wt rfl) ?_
          obtain ⟨r_31, hr_32, hc_24⟩ := bind_some hc_24
          refine h_call0 (ref_CampaignsFault_ok hr_32) rfl hb11 rfl rfl rfl rfl (wt rfl) ?_
          refine h_lit (([r_29, r_31] : List Int).map eI) es87 ez87 rfl rfl rfl rfl rfl (wt rfl) ?_
          obtain ⟨r_33, hr_34, hc_24⟩ := bind_some hc_24
          refine h_call0 (law_errs_ok hr_34) rfl hb12 rfl rfl rfl rfl (wt rfl) ?_
          refine h_op (vI r_33) (wt rfl) rfl ?_
          refine h_nil ?_
          refine wH_seq ?_
          refine wH_region ?_
          refine h_op (vL Spot.enc r_3.1) (wt rfl) rfl ?_
          refine h_ldr 1 sz37 ag37 rfl rfl (.d (.agg (Campaign.enc x_20))) rfl (wt rfl) ?_
          obtain ⟨r_35, hr_36, hc_24⟩ := bind_some hc_24
          refine h_call0 (booking_Room_ok hr_36) rfl hb13 rfl rfl rfl rfl (wt rfl) ?_
          refine h_op (.tup [(vI r_35.1), (vI r_35.2)]) (wt rfl) rfl ?_
          refine h_op (vI r_35.1) (wt rfl) rfl ?_
          refine h_op (vI r_35.2) (wt rfl) rfl ?_
          refine h_op (vI r_35.1) (wt rfl) rfl ?_
          refine h_op (vI r_35.2) (wt rfl) rfl ?_
          refine h_nil ?_
          refine wH_seq ?_
          refine wH_region ?_
          refine h_op (vI 0) (wt rfl) rfl ?_
          refine h_nil ?_
          refine wH_seq ?_
          refine wH_seq ?_
          refine wH_region ?_
          refine h_op (vI r_33) (wt rfl) rfl ?_
          refine h_op (vB (r_33 == 0)) (wt rfl) rfl ?_
          refine h_nil ?_
          obtain ⟨v_37, h_38, hc_24⟩ := bind_some hc_24
          refine wH_join (β := Unit) (fun _ => ([(4, (vL Spot.enc r_3.1)), (8, (.ref n_28 0 0)), (9, (vI r_33)), (10, (vI r_35.1)), (11, (vI r_35.2)), (12, (vI v_37)), (39, (vL Campaign.enc r_3.2.1)), (40, (vI (r_3.2.1.length : Int))), (41, (vI (k_18 : Int)))] : List (Nat × V))) (fun _ => ([(n_2, some (.cells 2 [(vL eI r_3.2.2.2.L), (vI r_3.2.2.2.f_at)])), (n_28, some (.cells 8 [(vS x_20.Key), (vS x_20.Class), (vI x_20.Time.From), (vI x_20.Time.To), (vL eS x_20.Tags), (vI x_20.Goal), (vI x_20.Most), (vI x_20.Cents)]))] : Hp)) (fun _ => True) ?_ ?_
          · rcases cond_some h_38 with ⟨hc_39, h_38⟩ | ⟨hc_39, h_38⟩
            · refine wH_ift rfl hc_39 ?_
              refine wH_region ?_
              refine h_op (vL Spot.enc r_3.1) (wt rfl) rfl ?_
              refine h_ldr 1 sz37 ag37 rfl rfl (.d (.agg (Campaign.enc x_20))) rfl (wt rfl) ?_
              obtain ⟨r_40, hr_41, h_38⟩ := bind_some h_38
              refine h_call0 (ref_RoomOf_ok hr_41) rfl hb14 rfl rfl rfl rfl (wt rfl) ?_
              refine h_op (vI r_40) (wt rfl) rfl ?_
              refine h_nil ?_
              replace h_38 := some_inj h_38
              subst h_38
              exact cut_mk () trivial rfl rfl
            · refine wH_iff rfl hc_39 ?_
              refine wH_skip ?_
              replace h_38 := some_inj h_38
              subst h_38
              exact cut_mk () trivial rfl rfl
          · rintro ⟨⟩ _ sl_ H_ hp_ hq_
            refine wH_at _ hp_ hq_ ?_
            refine wH_seq ?_
            refine wH_seq ?_
            obtain ⟨v_42, h_43, hc_24⟩ := bind_some hc_24
            refine wH_join (β := Unit) (fun _ => ([(4, (vL Spot.enc r_3.1)), (8, (.ref n_28 0 0)), (39, (vL Campaign.enc r_3.2.1)), (40, (vI (r_3.2.1.length : Int))), (41, (vI (k_18 : Int))), (70, (vB v_42))] : List (Nat × V))) (fun _ => ([(n_2, some (.cells 2 [(vL eI r_3.2.2.2.L), (vI r_3.2.2.2.f_at)])), (n_28, some (.cells 8 [(vS x_20.Key), (vS x_20.Class), (vI x_20.Time.From), (vI x_20.Time.To), (vL eS x_20.Tags), (vI x_20.Goal), (vI x_20.Most), (vI x_20.Cents)]))] : Hp)) (fun _ => True) ?_ ?_
            · refine wH_region ?_
              refine h_op (vI r_35.2) (wt rfl) rfl ?_
              refine h_op (vI r_33) (wt rfl) rfl ?_
              refine h_op (vB (r_35.2 != r_33)) (wt rfl) rfl ?_
              rcases cond_some h_43 with ⟨hc_44, h_43⟩ | ⟨hc_44, h_43⟩
              · refine h_movb rfl hc_44 (wt rfl) ?_
                refine h_skip (wg rfl rfl rfl) ?_
                refine h_skip (wg rfl rfl rfl) ?_
                refine h_skip (wg rfl rfl rfl) ?_
                refine h_op (vB true) (wt rfl) rfl ?_
                refine h_nil ?_
                replace h_43 := some_inj h_43
                subst h_43
                exact cut_mk () trivial rfl rfl
              · refine h_movb rfl hc_44 (wt rfl) ?_
                refine h_op (vI r_35.1) (wg rfl rfl rfl) rfl ?_
                refine h_op (vI v_37) (wg rfl rfl rfl) rfl ?_
                refine h_op (vB (r_35.1 != v_37)) (wg rfl rfl rfl) rfl ?_
                refine h_op (vB (r_35.1 != v_37)) (wt rfl) rfl ?_
                refine h_nil ?_
                replace h_43 := some_inj h_43
                subst h_43
                exact cut_mk () trivial rfl rfl
            · rintro ⟨⟩ _ sl_ H_ hp_ hq_
              refine wH_at _ hp_ hq_ ?_
              rcases cond_some hc_24 with ⟨hc_45, hc_24⟩ | ⟨hc_45, hc_24⟩
              · refine wH_ift rfl hc_45 ?_
                refine wH_seq ?_
                refine wH_region ?_
                refine h_op (vB false) (wt rfl) rfl ?_
                refine h_nil ?_
                replace hc_24 := some_inj hc_24
                subst hc_24
                replace hL_25 := some_inj hL_25
                subst hL_25
                replace hF := some_inj hF
                subst hF
                refine wH_ret ?_
                exact fin0 (.inr rfl) [(vB false)] rfl rfl rfl rfl
              · refine wH_iff rfl hc_45 ?_
                refine wH_skip ?_
                refine wH_seq ?_
                refine wH_region ?_
                refine h_op (vL Spot.enc r_3.1) (wt rfl) rfl ?_
                refine h_len un26 rfl (wt rfl) ?_
                refine h_op (vI 0) (wt rfl) rfl ?_
                refine h_nil ?_
                obtain ⟨o_54, hj_55, hc_24⟩ := bind_some hc_24
                obtain ⟨hn_50, hj_55⟩ := forL_some hj_55
                refine wH_join (β := (Unit)) (fun (s_51 : Unit) => ([(4, (vL Spot.enc r_3.1)), (39, (vL Campaign.enc r_3.2.1)), (40, (vI (r_3.2.1.length : Int))), (41, (vI (k_18 : Int)))] : List (Nat × V))) (fun (s_51 : Unit) => ([(n_2, some (.cells 2 [(vL eI r_3.2.2.2.L), (vI r_3.2.2.2.f_at)])), (n_28, some (.cells 8 [(vS x_20.Key), (vS x_20.Class), (vI x_20.Time.From), (vI x_20.Time.To), (vL eS x_20.Tags), (vI x_20.Goal), (vI x_20.Most), (vI x_20.Cents)]))] : Hp)) (fun p => o_54 = .go p) ?_ ?_
                · refine wH_block ?_
                  refine wH_loop (β := Nat × (List Spot) × (Unit)) (fun p => (fun (k_46 : Nat) (l_47 : List Spot) (s_51 : Unit) => ([(4, (vL Spot.enc r_3.1)), (8, (.ref n_28 0 0)), (39, (vL Campaign.enc r_3.2.1)), (40, (vI (r_3.2.1.length : Int))), (41, (vI (k_18 : Int))), (71, (vL Spot.enc r_3.1)), (72, (vI (r_3.1.length : Int))), (73, (vI (k_46 : Int)))] : List (Nat × V))) p.1 p.2.1 p.2.2) (fun p => (fun (k_46 : Nat) (l_47 : List Spot) (s_51 : Unit) => ([(n_2, some (.cells 2 [(vL eI r_3.2.2.2.L), (vI r_3.2.2.2.f_at)])), (n_28, some (.cells 8 [(vS x_20.Key), (vS x_20.Class), (vI x_20.Time.From), (vI x_20.Time.To), (vL eS x_20.Tags), (vI x_20.Goal), (vI x_20.Most), (vI x_20.Cents)]))] : Hp)) p.1 p.2.1 p.2.2) (fun p => forR (fun k x s => law_BookingsCheck_L1 x_20 k x s) p.2.1 p.1 p.2.2 = some o_54 ∧ (r_3.1).drop p.1 = p.2.1) (fun p => p.2.1.length) (0, r_3.1, ()) ⟨hj_55, rfl⟩ rfl rfl ?_
                  rintro ⟨k_46, l_47, s_51⟩ ⟨hL_53, hD_49⟩
                  dsimp only at hL_53 hD_49
                  cases l_47 with
                  | nil =>
                    replace hL_53 := some_inj hL_53
                    subst hL_53
                    refine wH_seq (wH_region (h_op (vB (decide ((k_46 : Int) < (r_3.1.length : Int)))) (wt rfl) rfl (h_nil ?_)))
                    refine wH_seq (wH_iff rfl (drop_nil hD_49) (wH_exit ?_))
                    exact cut_mk (s_51) rfl rfl rfl
                  | cons x_48 l_47 =>
                    obtain ⟨c_, hc_52, hL_53⟩ := bind_some hL_53
                    refine wH_seq (wH_region (h_op (vB (decide ((k_46 : Int) < (r_3.1.length : Int)))) (wt rfl) rfl (h_nil ?_)))
                    refine wH_seq (wH_ift rfl (drop_cons hD_49) (wH_skip ?_))
                    unfold law_BookingsCheck_L1 at hc_52
                    refine wH_seq ?_
                    refine wH_block ?_
                    refine wH_seq ?_
                    refine wH_region ?_
                    refine h_ia es26 rfl rfl (drop_idx hD_49) rfl (wt rfl) ?_
                    refine h_ldc sz43 ag43 rfl (.d (.agg (Spot.enc x_48))) rfl (wt rfl) ?_
                    refine h_alloc z43 rfl (wt rfl) (fun n_56 => ?_)
                    refine h_str 2 sz43 rfl rfl [(vS x_48.Key), (vI x_48.Time.From), (vI x_48.Time.To), (vI x_48.Room), (vL eS x_48.Tags)] rfl (wt rfl) ?_
                    refine h_nil ?_
                    refine wH_seq ?_
                    refine wH_region ?_
                    refine h_ldr 1 sz37 ag37 rfl rfl (.d (.agg (Campaign.enc x_20))) rfl (wt rfl) ?_
                    refine h_ldr 2 sz43 ag43 rfl rfl (.d (.agg (Spot.enc x_48))) rfl (wt rfl) ?_
                    obtain ⟨r_57, hr_58, hc_52⟩ := bind_some hc_52
                    refine h_call0 (booking_Suits_ok hr_58) rfl hb15 rfl rfl rfl rfl (wt rfl) ?_
                    refine h_op (.tup [(vB r_57.1), (vI r_57.2)]) (wt rfl) rfl ?_
                    refine h_op (vB r_57.1) (wt rfl) rfl ?_
                    refine h_op (vI r_57.2) (wt rfl) rfl ?_
                    refine h_op (vB r_57.1) (wt rfl) rfl ?_
                    refine h_op (vI r_57.2) (wt rfl) rfl ?_
                    refine h_nil ?_
                    refine wH_seq ?_
                    refine wH_draws ?_
                    refine h_ldr 2 sz43 ag43 rfl rfl (.d (.agg (Spot.enc x_48))) rfl (wt rfl) ?_
                    refine h_lit (([x_48] : List Spot).map Spot.enc) es26 ez26 rfl rfl rfl rfl rfl (wt rfl) ?_
                    obtain ⟨r_59, hr_60, hc_52⟩ := bind_some hc_52
                    refine h_call0 (ref_SpotsFault_ok hr_60) rfl hb9 rfl rfl rfl rfl (wt rfl) ?_
                    refine h_ldr 1 sz37 ag37 rfl rfl (.d (.agg (Campaign.enc x_20))) rfl (wt rfl) ?_
                    refine h_lit (([x_20] : List Campaign).map Campaign.enc) es27 ez27 rfl rfl rfl rfl rfl (wt rfl) ?_
                    obtain ⟨r_61, hr_62, hc_52⟩ := bind_some hc_52
                    refine h_call0 (ref_CampaignsFault_ok hr_62) rfl hb11 rfl rfl rfl rfl (wt rfl) ?_
                    refine h_lit (([r_59, r_61] : List Int).map eI) es87 ez87 rfl rfl rfl rfl rfl (wt rfl) ?_
                    obtain ⟨r_63, hr_64, hc_52⟩ := bind_some hc_52
                    refine h_call0 (law_errs_ok hr_64) rfl hb12 rfl rfl rfl rfl (wt rfl) ?_
                    refine h_op (vI r_63) (wt rfl) rfl ?_
                    refine h_nil ?_
                    refine wH_seq ?_
                    obtain ⟨v_65, h_66, hc_52⟩ := bind_some hc_52
                    refine wH_join (β := Unit) (fun _ => ([(4, (vL Spot.enc r_3.1)), (8, (.ref n_28 0 0)), (39, (vL Campaign.enc r_3.2.1)), (40, (vI (r_3.2.1.length : Int))), (41, (vI (k_18 : Int))), (71, (vL Spot.enc r_3.1)), (72, (vI (r_3.1.length : Int))), (73, (vI (k_46 : Int))), (104, (vB v_65))] : List (Nat × V))) (fun _ => ([(n_2, some (.cells 2 [(vL eI r_3.2.2.2.L), (vI r_3.2.2.2.f_at)])), (n_28, some (.cells 8 [(vS x_20.Key), (vS x_20.Class), (vI x_20.Time.From), (vI x_20.Time.To), (vL eS x_20.Tags), (vI x_20.Goal), (vI x_20.Most), (vI x_20.Cents)])), (n_56, some (.cells 5 [(vS x_48.Key), (vI x_48.Time.From), (vI x_48.Time.To), (vI x_48.Room), (vL eS x_48.Tags)]))] : Hp)) (fun _ => True) ?_ ?_
                    · refine wH_region ?_
                      refine h_op (vI r_57.2) (wt rfl) rfl ?_
                      refine h_op (vI r_63) (wt rfl) rfl ?_
                      refine h_op (vB (r_57.2 != r_63)) (wt rfl) rfl ?_
                      rcases cond_some h_66 with ⟨hc_67, h_66⟩ | ⟨hc_67, h_66⟩
                      · refine h_movb rfl hc_67 (wt rfl) ?_
                        refine h_skip (wg rfl rfl rfl) ?_
                        refine h_skip (wg rfl rfl rfl) ?_
                        refine h_skip (wg rfl rfl rfl) ?_
                        refine h_skip (wg rfl rfl rfl) ?_
                        refine h_skip (wn rfl rfl) ?_
                        refine h_skip (wn rfl rfl) ?_
                        refine h_skip (wn rfl rfl) ?_
                        refine h_skip (wg rfl rfl rfl) ?_
                        refine h_skip (wg rfl rfl rfl) ?_
                        refine h_op (vB true) (wt rfl) rfl ?_
                        refine h_nil ?_
                        replace h_66 := some_inj h_66
                        subst h_66
                        exact cut_mk () trivial rfl rfl
                      · refine h_movb rfl hc_67 (wt rfl) ?_
                        refine h_op (vB r_57.1) (wg rfl rfl rfl) rfl ?_
                        refine h_op (vI r_63) (wg rfl rfl rfl) rfl ?_
                        refine h_op (vB (r_63 == 0)) (wg rfl rfl rfl) rfl ?_
                        rcases cond_some h_66 with ⟨hc_68, h_66⟩ | ⟨hc_68, h_66⟩
                        · refine h_movb rfl hc_68 (wg rfl rfl rfl) ?_
                          refine h_ldr 1 sz37 ag37 rfl rfl (.d (.agg (Campaign.enc x_20))) rfl (wg rfl rfl rfl) ?_
                          refine h_ldr 2 sz43 ag43 rfl rfl (.d (.agg (Spot.enc x_48))) rfl (wg rfl rfl rfl) ?_
                          obtain ⟨r_69, hr_70, h_66⟩ := bind_some h_66
                          refine h_call0 (ref_SuitsOf_ok hr_70) rfl hb16 rfl rfl rfl rfl (wg rfl rfl rfl) ?_
                          refine h_op (vB r_69) (wg rfl rfl rfl) rfl ?_
                          refine h_bneq un4 rfl rfl (wg rfl rfl rfl) ?_
                          refine h_op (vB (!(r_57.1 == r_69))) (wt rfl) rfl ?_
                          refine h_nil ?_
                          replace h_66 := some_inj h_66
                          subst h_66
                          exact cut_mk () trivial rfl rfl
                        · refine h_movb rfl hc_68 (wg rfl rfl rfl) ?_
                          refine h_skip (wg rfl rfl rfl) ?_
                          refine h_skip (wg rfl rfl rfl) ?_
                          refine h_skip (wg rfl rfl rfl) ?_
                          refine h_op (vB false) (wg rfl rfl rfl) rfl ?_
                          refine h_bneq un4 rfl rfl (wg rfl rfl rfl) ?_
                          refine h_op (vB (!(r_57.1 == false))) (wt rfl) rfl ?_
                          refine h_nil ?_
                          replace h_66 := some_inj h_66
                          subst h_66
                          exact cut_mk () trivial rfl rfl
                    · rintro ⟨⟩ _ sl_ H_ hp_ hq_
                      refine wH_at _ hp_ hq_ ?_
                      rcases cond_some hc_52 with ⟨hc_71, hc_52⟩ | ⟨hc_71, hc_52⟩
                      · refine wH_ift rfl hc_71 ?_
                        refine wH_seq ?_
                        refine wH_region ?_
                        refine h_op (vB false) (wt rfl) rfl ?_
                        refine h_nil ?_
                        replace hc_52 := some_inj hc_52
                        subst hc_52
                        replace hL_53 := some_inj hL_53
                        subst hL_53
                        replace hc_24 := some_inj hc_24
                        subst hc_24
                        replace hL_25 := some_inj hL_25
                        subst hL_25
                        replace hF := some_inj hF
                        subst hF
                        refine wH_ret ?_
                        exact fin0 (.inr rfl) [(vB false)] rfl rfl rfl rfl
                      · refine wH_iff rfl hc_71 ?_
                        refine wH_skip ?_
                        refine wH_region ?_
                        refine h_opw (w64_next hD_49 hn_50) (wt rfl) rfl ?_
                        refine h_op (vI ((k_46 + 1 : Nat) : Int)) (wt rfl) rfl ?_
                        refine h_nil ?_
                        replace hc_52 := some_inj hc_52
                        subst hc_52
                        exact loop_mk (k_46 + 1, l_47, ()) ⟨hL_53, drop_next hD_49⟩ (Nat.lt_succ_self _) rfl rfl
                · rintro s_51 ho_ sl_ H_ hp_ hq_
                  subst ho_
                  refine wH_at _ hp_ hq_ ?_
                  refine wH_region ?_
                  refine h_opw (w64_next hD_21 hn_22) (wt rfl) rfl ?_
                  refine h_op (vI ((k_18 + 1 : Nat) : Int)) (wt rfl) rfl ?_
                  refine h_nil ?_
                  replace hc_24 := some_inj hc_24
                  subst hc_24
                  exact loop_mk (k_18 + 1, l_19, ()) ⟨hL_25, drop_next hD_21⟩ (Nat.lt_succ_self _) rfl rfl
      · rintro s_23 ho_ sl_ H_ hp_ hq_
        subst ho_
        refine wH_at _ hp_ hq_ ?_
        refine wH_seq ?_
        refine wH_region ?_
        obtain ⟨r_72, hr_73, hF⟩ := bind_some hF
        refine h_call0 (law_booked_ok hr_73) rfl hb17 rfl rfl rfl rfl (wt rfl) ?_
        refine h_op (vB r_72) (wt rfl) rfl ?_
        refine h_nil ?_
        replace hF := some_inj hF
        subst hF
        refine wH_ret ?_
        exact fin0 (.inr rfl) [(vB r_72)] rfl rfl rfl rfl
end Go.Proofs.Ytkjnmkompibhgaa.Law
