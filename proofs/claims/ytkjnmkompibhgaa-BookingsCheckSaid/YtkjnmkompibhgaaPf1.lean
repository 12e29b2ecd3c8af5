/-
  The machine computes these plain functions (written by a program of ours).
-/
import Derived.Test.YtkjnmkompibhgaaFacts
import Derived.Test.YtkjnmkompibhgaaDefs
open Go Go.Eng Go.Proofs
namespace Go.Proofs.Ytkjnmkompibhgaa.Law
set_option maxRecDepth 100000
set_option linter.unusedVariables false
set_option maxHeartbeats 1000000
theorem mk_Below_ok {x_1 : Int} {n_2 : Int} {r : Int} (hF : mk_Below x_1 n_2 = some r) :
    FnM Try.prog 92 [(vI x_1), (vI n_2)] [] (vI r) [] := by
  refine FnM.of_wH ⟨Try.prog, 16, [], []⟩ rfl Try.func92 rfl rfl (Nat.le_of_ble_eq_true rfl) (by kernel_rfl) ?_
  unfold mk_Below at hF
  refine wH_seq ?_
  refine wH_region ?_
  refine h_op (vI 0) (wt rfl) rfl ?_
  refine h_nil ?_
  refine wH_seq ?_
  refine wH_seq ?_
  refine wH_region ?_
  refine h_op (vI n_2) (wt rfl) rfl ?_
  refine h_op (vB (decide (n_2 < 1))) (wt rfl) rfl ?_
  refine h_nil ?_
  rcases cond_some hF with ⟨hc_3, hF⟩ | ⟨hc_3, hF⟩
  · refine wH_ift rfl hc_3 ?_
    refine wH_seq ?_
    refine wH_region ?_
    refine h_op (vI 0) (wt rfl) rfl ?_
    refine h_nil ?_
    replace hF := some_inj hF
    subst hF
    refine wH_ret ?_
    exact fin0 (.inr rfl) [(vI 0)] rfl rfl rfl rfl
  · refine wH_iff rfl hc_3 ?_
    refine wH_skip ?_
    refine wH_seq ?_
    refine wH_region ?_
    refine h_op (vI x_1) (wt rfl) rfl ?_
    refine h_op (vI n_2) (wt rfl) rfl ?_
    obtain ⟨q_4, hz_5, hF⟩ := bind_some hF
    refine h_rem rfl rfl hz_5 (wt rfl) ?_
    refine h_op (vI q_4) (wt rfl) rfl ?_
    refine h_nil ?_
    refine wH_seq ?_
    refine wH_seq ?_
    refine wH_region ?_
    refine h_op (vI q_4) (wt rfl) rfl ?_
    refine h_op (vB (decide (q_4 < 0))) (wt rfl) rfl ?_
    refine h_nil ?_
    obtain ⟨v_6, h_7, hF⟩ := bind_some hF
    refine wH_join (β := Unit) (fun _ => ([(0, (vI v_6))] : List (Nat × V))) (fun _ => ([] : Hp)) (fun _ => True) ?_ ?_
    · rcases cond_some h_7 with ⟨hc_8, h_7⟩ | ⟨hc_8, h_7⟩
      · refine wH_ift rfl hc_8 ?_
        refine wH_region ?_
        refine h_op (vI q_4) (wt rfl) rfl ?_
        refine h_op (vI n_2) (wt rfl) rfl ?_
        refine h_op (vI (w64 (q_4 + n_2))) (wt rfl) rfl ?_
        refine h_op (vI (w64 (q_4 + n_2))) (wt rfl) rfl ?_
        refine h_nil ?_
        replace h_7 := some_inj h_7
        subst h_7
        exact cut_mk () trivial rfl rfl
      · refine wH_iff rfl hc_8 ?_
        refine wH_skip ?_
        replace h_7 := some_inj h_7
        subst h_7
        exact cut_mk () trivial rfl rfl
    · rintro ⟨⟩ _ sl_ H_ hp_ hq_
      refine wH_at _ hp_ hq_ ?_
      refine wH_seq ?_
      refine wH_region ?_
      refine h_op (vI v_6) (wt rfl) rfl ?_
      refine h_op (vI v_6) (wt rfl) rfl ?_
      refine h_nil ?_
      replace hF := some_inj hF
      subst hF
      refine wH_ret ?_
      exact fin0 (.inr rfl) [(vI v_6)] rfl rfl rfl rfl
theorem mk_Stream_Next_ok {s_1 : Stream} {n_2 : Int} {r : Int × Stream} (hF : mk_Stream_Next s_1 n_2 = some r) :
    FnM Try.prog 56 [(.ref (extN 0) 0 0), (vI n_2)] [(.cells 2 [(vL eI s_1.L), (vI s_1.f_at)])] (vI r.1) [some (.cells 2 [(vL eI r.2.L), (vI r.2.f_at)])] := by
  refine FnM.of_wH ⟨Try.prog, 64, [], []⟩ rfl Try.func56 rfl rfl (Nat.le_of_ble_eq_true rfl) (by kernel_rfl) ?_
  unfold mk_Stream_Next at hF
  refine wH_seq ?_
  refine wH_region ?_
  refine h_op (vI 0) (wt rfl) rfl ?_
  refine h_nil ?_
  refine wH_seq ?_
  refine wH_region ?_
  refine h_op (.ref (extN 0) 0 0) (wt rfl) rfl ?_
  refine h_op (.ref (extN 0) 0 0) (wt rfl) rfl ?_
  refine h_far pl25_1 rfl 1 rfl (wt rfl) ?_
  refine h_ldr 0 sz3 ag3 rfl rfl (vI s_1.f_at) rfl (wt rfl) ?_
  refine h_op (vI (w64 (s_1.f_at + 1))) (wt rfl) rfl ?_
  refine h_op (.ref (extN 0) 0 0) (wt rfl) rfl ?_
  refine h_far pl25_1 rfl 1 rfl (wt rfl) ?_
  refine h_str 0 sz3 rfl rfl [(vL eI s_1.L), (vI (w64 (s_1.f_at + 1)))] rfl (wt rfl) ?_
  refine h_nil ?_
  refine wH_seq ?_
  refine wH_seq ?_
  refine wH_region ?_
  refine h_op (.ref (extN 0) 0 0) (wt rfl) rfl ?_
  refine h_op (.ref (extN 0) 0 0) (wt rfl) rfl ?_
  refine h_far pl25_0 rfl 0 rfl (wt rfl) ?_
  refine h_ldr 0 sz22 ag22 rfl rfl (vL eI s_1.L) rfl (wt rfl) ?_
  refine h_len un22 rfl (wt rfl) ?_
  refine h_op (vB ((s_1.L.length : Int) == 0)) (wt rfl) rfl ?_
  refine h_nil ?_
  rcases cond_some hF with ⟨hc_3, hF⟩ | ⟨hc_3, hF⟩
  · refine wH_ift rfl hc_3 ?_
    refine wH_seq ?_
    refine wH_region ?_
    refine h_op (.ref (extN 0) 0 0) (wt rfl) rfl ?_
    refine h_op (.ref (extN 0) 0 0) (wt rfl) rfl ?_
    refine h_far pl25_1 rfl 1 rfl (wt rfl) ?_
    refine h_ldr 0 sz3 ag3 rfl rfl (vI (w64 (s_1.f_at + 1))) rfl (wt rfl) ?_
    refine h_op (vI (w64 ((w64 (s_1.f_at + 1)) * 7919))) (wt rfl) rfl ?_
    refine h_op (vI n_2) (wt rfl) rfl ?_
    obtain ⟨r_4, hr_5, hF⟩ := bind_some hF
    refine h_call0 (mk_Below_ok hr_5) rfl hb92 rfl rfl rfl rfl (wt rfl) ?_
    refine h_op (vI r_4) (wt rfl) rfl ?_
    refine h_nil ?_
    replace hF := some_inj hF
    subst hF
    refine wH_ret ?_
    exact finB (.inr rfl) [(vI r_4)] _ [0] [extN 0] rfl (.cons (co_data rfl rfl) (.nil)) (by kernel_rfl) ⟨(by kernel_rfl), trivial⟩ (by decide) (by kernel_rfl)
  · refine wH_iff rfl hc_3 ?_
    refine wH_skip ?_
    refine wH_seq ?_
    refine wH_draws ?_
    refine h_op (.ref (extN 0) 0 0) (wt rfl) rfl ?_
    refine h_op (.ref (extN 0) 0 0) (wt rfl) rfl ?_
    refine h_far pl25_1 rfl 1 rfl (wt rfl) ?_
    refine h_ldr 0 sz3 ag3 rfl rfl (vI (w64 (s_1.f_at + 1))) rfl (wt rfl) ?_
    refine h_op (vI (w64 ((w64 (s_1.f_at + 1)) - 1))) (wt rfl) rfl ?_
    refine h_op (.ref (extN 0) 0 0) (wt rfl) rfl ?_
    refine h_op (.ref (extN 0) 0 0) (wt rfl) rfl ?_
    refine h_far pl25_0 rfl 0 rfl (wt rfl) ?_
    refine h_ldr 0 sz22 ag22 rfl rfl (vL eI s_1.L) rfl (wt rfl) ?_
    refine h_len un22 rfl (wt rfl) ?_
    obtain ⟨q_6, hz_7, hF⟩ := bind_some hF
    refine h_rem rfl rfl hz_7 (wt rfl) ?_
    refine h_op (vI q_6) (wt rfl) rfl ?_
    refine h_nil ?_
    refine wH_seq ?_
    refine wH_draws ?_
    refine h_op (.ref (extN 0) 0 0) (wt rfl) rfl ?_
    refine h_op (.ref (extN 0) 0 0) (wt rfl) rfl ?_
    refine h_far pl25_1 rfl 1 rfl (wt rfl) ?_
    refine h_ldr 0 sz3 ag3 rfl rfl (vI (w64 (s_1.f_at + 1))) rfl (wt rfl) ?_
    refine h_op (vI (w64 ((w64 (s_1.f_at + 1)) - 1))) (wt rfl) rfl ?_
    refine h_op (.ref (extN 0) 0 0) (wt rfl) rfl ?_
    refine h_op (.ref (extN 0) 0 0) (wt rfl) rfl ?_
    refine h_far pl25_0 rfl 0 rfl (wt rfl) ?_
    refine h_ldr 0 sz22 ag22 rfl rfl (vL eI s_1.L) rfl (wt rfl) ?_
    refine h_len un22 rfl (wt rfl) ?_
    obtain ⟨q_8, hz_9, hF⟩ := bind_some hF
    refine h_quo rfl rfl hz_9 (wt rfl) ?_
    refine h_op (vI q_8) (wt rfl) rfl ?_
    refine h_nil ?_
    refine wH_seq ?_
    refine wH_region ?_
    refine h_op (.ref (extN 0) 0 0) (wt rfl) rfl ?_
    refine h_op (.ref (extN 0) 0 0) (wt rfl) rfl ?_
    refine h_far pl25_0 rfl 0 rfl (wt rfl) ?_
    refine h_ldr 0 sz22 ag22 rfl rfl (vL eI s_1.L) rfl (wt rfl) ?_
    refine h_op (vI q_6) (wt rfl) rfl ?_
    obtain ⟨y_10, hy_11, hF⟩ := bind_some hF
    refine h_ia es22 rfl rfl hy_11 rfl (wt rfl) ?_
    refine h_ldc sz3 ag3 rfl (vI y_10) rfl (wt rfl) ?_
    obtain ⟨r_12, hr_13, hF⟩ := bind_some hF
    refine h_call0 (mk_Below_ok hr_13) rfl hb92 rfl rfl rfl rfl (wt rfl) ?_
    refine h_op (vI q_8) (wt rfl) rfl ?_
    refine h_op (vI q_6) (wt rfl) rfl ?_
    refine h_op (vI (w64 (7919 + q_6))) (wt rfl) rfl ?_
    refine h_op (vI (w64 (q_8 * (w64 (7919 + q_6))))) (wt rfl) rfl ?_
    refine h_op (vI (w64 (r_12 + (w64 (q_8 * (w64 (7919 + q_6))))))) (wt rfl) rfl ?_
    refine h_op (vI n_2) (wt rfl) rfl ?_
    obtain ⟨r_14, hr_15, hF⟩ := bind_some hF
    refine h_call0 (mk_Below_ok hr_15) rfl hb92 rfl rfl rfl rfl (wt rfl) ?_
    refine h_op (vI r_14) (wt rfl) rfl ?_
    refine h_nil ?_
    replace hF := some_inj hF
    subst hF
    refine wH_ret ?_
    exact finB (.inr rfl) [(vI r_14)] _ [0] [extN 0] rfl (.cons (co_data rfl rfl) (.nil)) (by kernel_rfl) ⟨(by kernel_rfl), trivial⟩ (by decide) (by kernel_rfl)
theorem mk_Stream_Flip_ok {s_1 : Stream} {n_2 : Int} {r : Bool × Stream} (hF : mk_Stream_Flip s_1 n_2 = some r) :
    FnM Try.prog 55 [(.ref (extN 0) 0 0), (vI n_2)] [(.cells 2 [(vL eI s_1.L), (vI s_1.f_at)])] (vB r.1) [some (.cells 2 [(vL eI r.2.L), (vI r.2.f_at)])] := by
  refine FnM.of_wH ⟨Try.prog, 9, [], []⟩ rfl Try.func55 rfl rfl (Nat.le_of_ble_eq_true rfl) (by kernel_rfl) ?_
  unfold mk_Stream_Flip at hF
  refine wH_seq ?_
  refine wH_region ?_
  refine h_op (vB false) (wt rfl) rfl ?_
  refine h_nil ?_
  refine wH_seq ?_
  refine wH_region ?_
  refine h_op (.ref (extN 0) 0 0) (wt rfl) rfl ?_
  refine h_op (vI n_2) (wt rfl) rfl ?_
  obtain ⟨r_3, hr_4, hF⟩ := bind_some hF
  refine h_calln [0] 0 (mk_Stream_Next_ok hr_4) rfl hb56 rfl (by kernel_rfl) (by kernel_rfl) (by kernel_rfl) (by kernel_rfl) (by kernel_rfl) (by kernel_rfl) (by kernel_rfl) (by decide) (by kernel_rfl) (by kernel_rfl) (wt rfl) (fun nu_5 => (vI r_3.1)) (fun _ => by kernel_rfl) (fun nu_5 => ([((extN 0), some (.cells 2 [(vL eI r_3.2.L), (vI r_3.2.f_at)]))] : Hp)) (fun _ => by kernel_rfl) ?_
  intro nu_5
  refine h_op (vB (r_3.1 == 0)) (wt rfl) rfl ?_
  refine h_op (vB (r_3.1 == 0)) (wt rfl) rfl ?_
  refine h_nil ?_
  replace hF := some_inj hF
  subst hF
  refine wH_ret ?_
  exact finB (.inr rfl) [(vB (r_3.1 == 0))] _ [0] [extN 0] rfl (.cons (co_data rfl rfl) (.nil)) (by kernel_rfl) ⟨(by kernel_rfl), trivial⟩ (by decide) (by kernel_rfl)
theorem mk_Stream_Pick_ok {s_1 : Stream} {l_2 : (List Int)} {r : Int × Stream} (hF : mk_Stream_Pick s_1 l_2 = some r) :
    FnM Try.prog 29 [(.ref (extN 0) 0 0), (vL eI l_2)] [(.cells 2 [(vL eI s_1.L), (vI s_1.f_at)])] (vI r.1) [some (.cells 2 [(vL eI r.2.L), (vI r.2.f_at)])] := by
  refine FnM.of_wH ⟨Try.prog, 12, [], []⟩ rfl Try.func29 rfl rfl (Nat.le_of_ble_eq_true rfl) (by kernel_rfl) ?_
  unfold mk_Stream_Pick at hF
  refine wH_seq ?_
  refine wH_region ?_
  refine h_op (vI 0) (wt rfl) rfl ?_
  refine h_nil ?_
  refine wH_seq ?_
  refine wH_region ?_
  refine h_op (vL eI l_2) (wt rfl) rfl ?_
  refine h_op (.ref (extN 0) 0 0) (wt rfl) rfl ?_
  refine h_op (vL eI l_2) (wt rfl) rfl ?_
  refine h_len un22 rfl (wt rfl) ?_
  obtain ⟨r_3, hr_4, hF⟩ := bind_some hF
  refine h_calln [0] 0 (mk_Stream_Next_ok hr_4) rfl hb56 rfl (by kernel_rfl) (by kernel_rfl) (by kernel_rfl) (by kernel_rfl) (by kernel_rfl) (by kernel_rfl) (by kernel_rfl) (by decide) (by kernel_rfl) (by kernel_rfl) (wt rfl) (fun nu_5 => (vI r_3.1)) (fun _ => by kernel_rfl) (fun nu_5 => ([((extN 0), some (.cells 2 [(vL eI r_3.2.L), (vI r_3.2.f_at)]))] : Hp)) (fun _ => by kernel_rfl) ?_
  intro nu_5
  obtain ⟨y_6, hy_7, hF⟩ := bind_some hF
  refine h_ia es22 rfl rfl hy_7 rfl (wt rfl) ?_
  refine h_ldc sz3 ag3 rfl (vI y_6) rfl (wt rfl) ?_
  refine h_op (vI y_6) (wt rfl) rfl ?_
  refine h_nil ?_
  replace hF := some_inj hF
  subst hF
  refine wH_ret ?_
  exact finB (.inr rfl) [(vI y_6)] _ [0] [extN 0] rfl (.cons (co_data rfl rfl) (.nil)) (by kernel_rfl) ⟨(by kernel_rfl), trivial⟩ (by decide) (by kernel_rfl)
theorem mk_Stream_RightSpots_ok {s_1 : Stream} {r : (List Spot) × Stream} (hF : mk_Stream_RightSpots s_1 = some r) :
    FnM Try.prog 81 [(.ref (extN 0) 0 0)] [(.cells 2 [(vL eI s_1.L), (vI s_1.f_at)])] (vL Spot.enc r.1) [some (.cells 2 [(vL eI r.2.L), (vI r.2.f_at)])] := by
  refine FnM.of_wH ⟨Try.prog, 53, [], []⟩ rfl Try.func81 rfl rfl (Nat.le_of_ble_eq_true rfl) (by kernel_rfl) ?_
  unfold mk_Stream_RightSpots at hF
  refine wH_seq ?_
  refine wH_region ?_
  refine h_op .nil (wt rfl) rfl ?_
  refine h_nil ?_
  refine wH_seq ?_
  refine wH_region ?_
  refine h_op .nil (wt rfl) rfl ?_
  refine h_nil ?_
  refine wH_seq ?_
  refine wH_seq ?_
  refine wH_region ?_
  refine h_lit (([(⟨#[115, 97]⟩ : ByteArray), (⟨#[115, 98]⟩ : ByteArray), (⟨#[115, 99]⟩ : ByteArray), (⟨#[115, 100]⟩ : ByteArray), (⟨#[115, 101]⟩ : ByteArray)] : List ByteArray).map eS) es35 ez35 rfl rfl rfl rfl rfl (wt rfl) ?_
  refine h_len un35 rfl (wt rfl) ?_
  refine h_op (vI 0) (wt rfl) rfl ?_
  refine h_nil ?_
  refine wH_new (fun n_8 => ?_)
  obtain ⟨o_12, hj_13, hF⟩ := bind_some hF
  obtain ⟨hn_6, hj_13⟩ := forL_some hj_13
  refine wH_join (β := ((List Spot) × (List Int) × Int) × Nm) (fun p => (fun (s_7 : (List Spot) × (List Int) × Int) (n_9 : Nm) => ([(3, (gV n_9 5 s_7.1))] : List (Nat × V))) p.1 p.2) (fun p => (fun (s_7 : (List Spot) × (List Int) × Int) (n_9 : Nm) => ([((extN 0), some (.cells 2 [(vL eI s_7.2.1), (vI s_7.2.2)])), (n_9, gB 5 Spot.enc s_7.1)] : Hp)) p.1 p.2) (fun p => o_12 = .go p.1) ?_ ?_
  · refine wH_block ?_
    refine wH_loop (β := Nat × (List ByteArray) × ((List Spot) × (List Int) × Int) × Nm) (fun p => (fun (k_2 : Nat) (l_3 : List ByteArray) (s_7 : (List Spot) × (List Int) × Int) (n_9 : Nm) => ([(0, (.ref (extN 0) 0 0)), (3, (gV n_9 5 s_7.1)), (9, (vL eS ([(⟨#[115, 97]⟩ : ByteArray), (⟨#[115, 98]⟩ : ByteArray), (⟨#[115, 99]⟩ : ByteArray), (⟨#[115, 100]⟩ : ByteArray), (⟨#[115, 101]⟩ : ByteArray)] : List ByteArray))), (10, (vI (([(⟨#[115, 97]⟩ : ByteArray), (⟨#[115, 98]⟩ : ByteArray), (⟨#[115, 99]⟩ : ByteArray), (⟨#[115, 100]⟩ : ByteArray), (⟨#[115, 101]⟩ : ByteArray)] : List ByteArray).length : Int))), (11, (vI (k_2 : Int)))] : List (Nat × V))) p.1 p.2.1 p.2.2.1 p.2.2.2) (fun p => (fun (k_2 : Nat) (l_3 : List ByteArray) (s_7 : (List Spot) × (List Int) × Int) (n_9 : Nm) => ([((extN 0), some (.cells 2 [(vL eI s_7.2.1), (vI s_7.2.2)])), (n_9, gB 5 Spot.enc s_7.1)] : Hp)) p.1 p.2.1 p.2.2.1 p.2.2.2) (fun p => forR (fun k x s => mk_Stream_RightSpots_L2 k x s) p.2.1 p.1 p.2.2.1 = some o_12 ∧ (([(⟨#[115, 97]⟩ : ByteArray), (⟨#[115, 98]⟩ : ByteArray), (⟨#[115, 99]⟩ : ByteArray), (⟨#[115, 100]⟩ : ByteArray), (⟨#[115, 101]⟩ : ByteArray)] : List ByteArray)).drop p.1 = p.2.1) (fun p => p.2.1.length) (0, ([(⟨#[115, 97]⟩ : ByteArray), (⟨#[115, 98]⟩ : ByteArray), (⟨#[115, 99]⟩ : ByteArray), (⟨#[115, 100]⟩ : ByteArray), (⟨#[115, 101]⟩ : ByteArray)] : List ByteArray), (([] : List Spot), s_1.L, s_1.f_at), n_8) ⟨hj_13, rfl⟩ rfl rfl ?_
    rintro ⟨k_2, l_3, s_7, n_9⟩ ⟨hL_11, hD_5⟩
    dsimp only at hL_11 hD_5
    cases l_3 with
    | nil =>
      replace hL_11 := some_inj hL_11
      subst hL_11
      refine wH_seq (wH_region (h_op (vB (decide ((k_2 : Int) < (([(⟨#[115, 97]⟩ : ByteArray), (⟨#[115, 98]⟩ : ByteArray), (⟨#[115, 99]⟩ : ByteArray), (⟨#[115, 100]⟩ : ByteArray), (⟨#[115, 101]⟩ : ByteArray)] : List ByteArray).length : Int)))) (wt rfl) rfl (h_nil ?_)))
      refine wH_seq (wH_iff rfl (drop_nil hD_5) (wH_exit ?_))
      exact cut_mk (s_7, n_9) rfl rfl rfl
    | cons x_4 l_3 =>
      obtain ⟨c_, hc_10, hL_11⟩ := bind_some hL_11
      refine wH_seq (wH_region (h_op (vB (decide ((k_2 : Int) < (([(⟨#[115, 97]⟩ : ByteArray), (⟨#[115, 98]⟩ : ByteArray), (⟨#[115, 99]⟩ : ByteArray), (⟨#[115, 100]⟩ : ByteArray), (⟨#[115, 101]⟩ : ByteArray)] : List ByteArray).length : Int)))) (wt rfl) rfl (h_nil ?_)))
      refine wH_seq (wH_ift rfl (drop_cons hD_5) (wH_skip ?_))
      unfold mk_Stream_RightSpots_L2 at hc_10
      refine wH_seq ?_
      refine wH_block ?_
      refine wH_seq ?_
      refine wH_region ?_
      refine h_op (vI (k_2 : Int)) (wt rfl) rfl ?_
      refine h_ia es35 rfl rfl (drop_idx hD_5) rfl (wt rfl) ?_
      refine h_ldc sz9 ag9 rfl (vS x_4) rfl (wt rfl) ?_
      refine h_op (vI (k_2 : Int)) (wt rfl) rfl ?_
      refine h_op (vS x_4) (wt rfl) rfl ?_
      refine h_nil ?_
      refine wH_seq ?_
      refine wH_seq ?_
      refine wH_region ?_
      refine h_op (.ref (extN 0) 0 0) (wt rfl) rfl ?_
      obtain ⟨r_14, hr_15, hc_10⟩ := bind_some hc_10
      refine h_calln [0] 0 (mk_Stream_Flip_ok hr_15) rfl hb55 rfl (by kernel_rfl) (by kernel_rfl) (by kernel_rfl) (by kernel_rfl) (by kernel_rfl) (by kernel_rfl) (by kernel_rfl) (by decide) (by kernel_rfl) (by kernel_rfl) (wt rfl) (fun nu_16 => (vB r_14.1)) (fun _ => by kernel_rfl) (fun nu_16 => ([((extN 0), some (.cells 2 [(vL eI r_14.2.L), (vI r_14.2.f_at)])), (n_9, gB 5 Spot.enc s_7.1)] : Hp)) (fun _ => by kernel_rfl) ?_
      intro nu_16
      refine h_nil ?_
      rcases cond_some hc_10 with ⟨hc_17, hc_10⟩ | ⟨hc_17, hc_10⟩
      · refine wH_ift rfl hc_17 ?_
        refine wH_exit ?_
        refine wH_region ?_
        refine h_opw (w64_next hD_5 hn_6) (wt rfl) rfl ?_
        refine h_op (vI ((k_2 + 1 : Nat) : Int)) (wt rfl) rfl ?_
        refine h_nil ?_
        replace hc_10 := some_inj hc_10
        subst hc_10
        exact loop_mk (k_2 + 1, l_3, (s_7.1, r_14.2.L, r_14.2.f_at), n_9) ⟨hL_11, drop_next hD_5⟩ (Nat.lt_succ_self _) rfl rfl
      · refine wH_iff rfl hc_17 ?_
        refine wH_skip ?_
        refine wH_seq ?_
        refine wH_region ?_
        refine h_op (vS x_4) (wt rfl) rfl ?_
        refine h_op (vI (k_2 : Int)) (wt rfl) rfl ?_
        refine h_op (vI (w64 (10 * (k_2 : Int)))) (wt rfl) rfl ?_
        refine h_op (vI (k_2 : Int)) (wt rfl) rfl ?_
        refine h_op (vI (w64 (10 * (k_2 : Int)))) (wt rfl) rfl ?_
        refine h_op (.ref (extN 0) 0 0) (wt rfl) rfl ?_
        refine h_lit (([5, 10, 10] : List Int).map eI) es22 ez22 rfl rfl rfl rfl rfl (wt rfl) ?_
        obtain ⟨r_18, hr_19, hc_10⟩ := bind_some hc_10
        refine h_calln [0] 0 (mk_Stream_Pick_ok hr_19) rfl hb29 rfl (by kernel_rfl) (by kernel_rfl) (by kernel_rfl) (by kernel_rfl) (by kernel_rfl) (by kernel_rfl) (by kernel_rfl) (by decide) (by kernel_rfl) (by kernel_rfl) (wt rfl) (fun nu_20 => (vI r_18.1)) (fun _ => by kernel_rfl) (fun nu_20 => ([((extN 0), some (.cells 2 [(vL eI r_18.2.L), (vI r_18.2.f_at)])), (n_9, gB 5 Spot.enc s_7.1)] : Hp)) (fun _ => by kernel_rfl) ?_
        intro nu_20
        refine h_op (vI (w64 ((w64 (10 * (k_2 : Int))) + r_18.1))) (wt rfl) rfl ?_
        refine h_op (.d (.agg (Window.enc (⟨(w64 (10 * (k_2 : Int))), (w64 ((w64 (10 * (k_2 : Int))) + r_18.1))⟩ : Window)))) (wt rfl) (by kernel_rfl) ?_
        refine h_op (.ref (extN 0) 0 0) (wt rfl) rfl ?_
        refine h_lit (([0, 1, 2, 3, 5] : List Int).map eI) es22 ez22 rfl rfl rfl rfl rfl (wt rfl) ?_
        obtain ⟨r_21, hr_22, hc_10⟩ := bind_some hc_10
        refine h_calln [0] 0 (mk_Stream_Pick_ok hr_22) rfl hb29 rfl (by kernel_rfl) (by kernel_rfl) (by kernel_rfl) (by kernel_rfl) (by kernel_rfl) (by kernel_rfl) (by kernel_rfl) (by decide) (by kernel_rfl) (by kernel_rfl) (wt rfl) (fun nu_23 => (vI r_21.1)) (fun _ => by kernel_rfl) (fun nu_23 => ([((extN 0), some (.cells 2 [(vL eI r_21.2.L), (vI r_21.2.f_at)])), (n_9, gB 5 Spot.enc s_7.1)] : Hp)) (fun _ => by kernel_rfl) ?_
        intro nu_23
        refine h_op (.agg [(vS x_4), (vI (w64 (10 * (k_2 : Int)))), (vI (w64 ((w64 (10 * (k_2 : Int))) + r_18.1))), (vI r_21.1), .nil]) (wt rfl) (by kernel_rfl) ?_
        refine h_alloc z43 rfl (wt rfl) (fun n_24 => ?_)
        refine h_str 2 sz43 rfl rfl [(vS x_4), (vI (w64 (10 * (k_2 : Int)))), (vI (w64 ((w64 (10 * (k_2 : Int))) + r_18.1))), (vI r_21.1), .nil] rfl (wt rfl) ?_
        refine h_nil ?_
        refine wH_seq ?_
        refine wH_seq ?_
        refine wH_region ?_
        refine h_lit (([(⟨#[99, 105, 116, 121]⟩ : ByteArray), (⟨#[109, 97, 108, 108]⟩ : ByteArray)] : List ByteArray).map eS) es35 ez35 rfl rfl rfl rfl rfl (wt rfl) ?_
        refine h_len un35 rfl (wt rfl) ?_
        refine h_op (vI 0) (wt rfl) rfl ?_
        refine h_nil ?_
        refine wH_new (fun n_31 => ?_)
        obtain ⟨o_35, hj_36, hc_10⟩ := bind_some hc_10
        obtain ⟨hn_29, hj_36⟩ := forL_some hj_36
        refine wH_join (β := ((List ByteArray) × (List Int) × Int) × Nm) (fun p => (fun (s_30 : (List ByteArray) × (List Int) × Int) (n_32 : Nm) => ([(0, (.ref (extN 0) 0 0)), (3, (gV n_9 5 s_7.1)), (6, (.ref n_24 0 0)), (9, (vL eS ([(⟨#[115, 97]⟩ : ByteArray), (⟨#[115, 98]⟩ : ByteArray), (⟨#[115, 99]⟩ : ByteArray), (⟨#[115, 100]⟩ : ByteArray), (⟨#[115, 101]⟩ : ByteArray)] : List ByteArray))), (10, (vI (([(⟨#[115, 97]⟩ : ByteArray), (⟨#[115, 98]⟩ : ByteArray), (⟨#[115, 99]⟩ : ByteArray), (⟨#[115, 100]⟩ : ByteArray), (⟨#[115, 101]⟩ : ByteArray)] : List ByteArray).length : Int))), (11, (vI (k_2 : Int)))] : List (Nat × V))) p.1 p.2) (fun p => (fun (s_30 : (List ByteArray) × (List Int) × Int) (n_32 : Nm) => ([((extN 0), some (.cells 2 [(vL eI s_30.2.1), (vI s_30.2.2)])), (n_9, gB 5 Spot.enc s_7.1), (n_24, some (.cells 5 [(vS x_4), (vI (w64 (10 * (k_2 : Int)))), (vI (w64 ((w64 (10 * (k_2 : Int))) + r_18.1))), (vI r_21.1), (gV n_32 1 s_30.1)])), (n_32, gB 1 eS s_30.1)] : Hp)) p.1 p.2) (fun p => o_35 = .go p.1) ?_ ?_
        · refine wH_block ?_
          refine wH_loop (β := Nat × (List ByteArray) × ((List ByteArray) × (List Int) × Int) × Nm) (fun p => (fun (k_25 : Nat) (l_26 : List ByteArray) (s_30 : (List ByteArray) × (List Int) × Int) (n_32 : Nm) => ([(0, (.ref (extN 0) 0 0)), (3, (gV n_9 5 s_7.1)), (6, (.ref n_24 0 0)), (9, (vL eS ([(⟨#[115, 97]⟩ : ByteArray), (⟨#[115, 98]⟩ : ByteArray), (⟨#[115, 99]⟩ : ByteArray), (⟨#[115, 100]⟩ : ByteArray), (⟨#[115, 101]⟩ : ByteArray)] : List ByteArray))), (10, (vI (([(⟨#[115, 97]⟩ : ByteArray), (⟨#[115, 98]⟩ : ByteArray), (⟨#[115, 99]⟩ : ByteArray), (⟨#[115, 100]⟩ : ByteArray), (⟨#[115, 101]⟩ : ByteArray)] : List ByteArray).length : Int))), (11, (vI (k_2 : Int))), (32, (vL eS ([(⟨#[99, 105, 116, 121]⟩ : ByteArray), (⟨#[109, 97, 108, 108]⟩ : ByteArray)] : List ByteArray))), (33, (vI (([(⟨#[99, 105, 116, 121]⟩ : ByteArray), (⟨#[109, 97, 108, 108]⟩ : ByteArray)] : List ByteArray).length : Int))), (34, (vI (k_25 : Int)))] : List (Nat × V))) p.1 p.2.1 p.2.2.1 p.2.2.2) (fun p => (fun (k_25 : Nat) (l_26 : List ByteArray) (s_30 : (List ByteArray) × (List Int) × Int) (n_32 : Nm) => ([((extN 0), some (.cells 2 [(vL eI s_30.2.1), (vI s_30.2.2)])), (n_9, gB 5 Spot.enc s_7.1), (n_24, some (.cells 5 [(vS x_4), (vI (w64 (10 * (k_2 : Int)))), (vI (w64 ((w64 (10 * (k_2 : Int))) + r_18.1))), (vI r_21.1), (gV n_32 1 s_30.1)])), (n_32, gB 1 eS s_30.1)] : Hp)) p.1 p.2.1 p.2.2.1 p.2.2.2) (fun p => forR (fun k x s => mk_Stream_RightSpots_L1 k x s) p.2.1 p.1 p.2.2.1 = some o_35 ∧ (([(⟨#[99, 105, 116, 121]⟩ : ByteArray), (⟨#[109, 97, 108, 108]⟩ : ByteArray)] : List ByteArray)).drop p.1 = p.2.1) (fun p => p.2.1.length) (0, ([(⟨#[99, 105, 116, 121]⟩ : ByteArray), (⟨#[109, 97, 108, 108]⟩ : ByteArray)] : List ByteArray), (([] : List ByteArray), r_21.2.L, r_21.2.f_at), n_31) ⟨hj_36, rfl⟩ rfl rfl ?_
          rintro ⟨k_25, l_26, s_30, n_32⟩ ⟨hL_34, hD_28⟩
          dsimp only at hL_34 hD_28
          cases l_26 with
          | nil =>
            replace hL_34 := some_inj hL_34
            subst hL_34
            refine wH_seq (wH_region (h_op (vB (decide ((k_25 : Int) < (([(⟨#[99, 105, 116, 121]⟩ : ByteArray), (⟨#[109, 97, 108, 108]⟩ : ByteArray)] : List ByteArray).length : Int)))) (wt rfl) rfl (h_nil ?_)))
            refine wH_seq (wH_iff rfl (drop_nil hD_28) (wH_exit ?_))
            exact cut_mk (s_30, n_32) rfl rfl rfl
          | cons x_27 l_26 =>
            obtain ⟨c_, hc_33, hL_34⟩ := bind_some hL_34
            refine wH_seq (wH_region (h_op (vB (decide ((k_25 : Int) < (([(⟨#[99, 105, 116, 121]⟩ : ByteArray), (⟨#[109, 97, 108, 108]⟩ : ByteArray)] : List ByteArray).length : Int)))) (wt rfl) rfl (h_nil ?_)))
            refine wH_seq (wH_ift rfl (drop_cons hD_28) (wH_skip ?_))
            unfold mk_Stream_RightSpots_L1 at hc_33
            refine wH_seq ?_
            refine wH_block ?_
            refine wH_seq ?_
            refine wH_region ?_
            refine h_ia es35 rfl rfl (drop_idx hD_28) rfl (wt rfl) ?_
            refine h_ldc sz9 ag9 rfl (vS x_27) rfl (wt rfl) ?_
            refine h_op (vS x_27) (wt rfl) rfl ?_
            refine h_nil ?_
            refine wH_seq ?_
            refine wH_region ?_
            refine h_op (.ref (extN 0) 0 0) (wt rfl) rfl ?_
            obtain ⟨r_37, hr_38, hc_33⟩ := bind_some hc_33
            refine h_calln [0] 0 (mk_Stream_Flip_ok hr_38) rfl hb55 rfl (by kernel_rfl) (by kernel_rfl) (by kernel_rfl) (by kernel_rfl) (by kernel_rfl) (by kernel_rfl) (by kernel_rfl) (by decide) (by kernel_rfl) (by kernel_rfl) (wt rfl) (fun nu_39 => (vB r_37.1)) (fun _ => by kernel_rfl) (fun nu_39 => ([((extN 0), some (.cells 2 [(vL eI r_37.2.L), (vI r_37.2.f_at)])), (n_9, gB 5 Spot.enc s_7.1), (n_24, some (.cells 5 [(vS x_4), (vI (w64 (10 * (k_2 : Int)))), (vI (w64 ((w64 (10 * (k_2 : Int))) + r_18.1))), (vI r_21.1), (gV n_32 1 s_30.1)])), (n_32, gB 1 eS s_30.1)] : Hp)) (fun _ => by kernel_rfl) ?_
            intro nu_39
            refine h_nil ?_
            obtain ⟨v_40, h_41, hc_33⟩ := bind_some hc_33
            refine wH_join (β := Nm) (fun (n_42 : Nm) => ([(0, (.ref (extN 0) 0 0)), (3, (gV n_9 5 s_7.1)), (6, (.ref n_24 0 0)), (9, (vL eS ([(⟨#[115, 97]⟩ : ByteArray), (⟨#[115, 98]⟩ : ByteArray), (⟨#[115, 99]⟩ : ByteArray), (⟨#[115, 100]⟩ : ByteArray), (⟨#[115, 101]⟩ : ByteArray)] : List ByteArray))), (10, (vI (([(⟨#[115, 97]⟩ : ByteArray), (⟨#[115, 98]⟩ : ByteArray), (⟨#[115, 99]⟩ : ByteArray), (⟨#[115, 100]⟩ : ByteArray), (⟨#[115, 101]⟩ : ByteArray)] : List ByteArray).length : Int))), (11, (vI (k_2 : Int))), (32, (vL eS ([(⟨#[99, 105, 116, 121]⟩ : ByteArray), (⟨#[109, 97, 108, 108]⟩ : ByteArray)] : List ByteArray))), (33, (vI (([(⟨#[99, 105, 116, 121]⟩ : ByteArray), (⟨#[109, 97, 108, 108]⟩ : ByteArray)] : List ByteArray).length : Int))), (34, (vI (k_25 : Int)))] : List (Nat × V))) (fun (n_42 : Nm) => ([((extN 0), some (.cells 2 [(vL eI r_37.2.L), (vI r_37.2.f_at)])), (n_9, gB 5 Spot.enc s_7.1), (n_24, some (.cells 5 [(vS x_4), (vI (w64 (10 * (k_2 : Int)))), (vI (w64 ((w64 (10 * (k_2 : Int))) + r_18.1))), (vI r_21.1), (gV n_42 1 v_40)])), (n_42, gB 1 eS v_40)] : Hp)) (fun _ => True) ?_ ?_
            · rcases cond_some h_41 with ⟨hc_43, h_41⟩ | ⟨hc_43, h_41⟩
              · refine wH_ift rfl hc_43 ?_
                refine wH_region ?_
                refine h_far pl43_3 rfl 4 rfl (wt rfl) ?_
                refine h_ldr 2 sz35 ag35 rfl rfl (gV n_32 1 s_30.1) rfl (wt rfl) ?_
                refine h_op (vS x_27) (wt rfl) rfl ?_
                refine h_lit (([x_27] : List ByteArray).map eS) es35 ez35 rfl rfl rfl rfl rfl (wt rfl) ?_
                obtain ⟨a_44, hz_45, h_41⟩ := bind_some h_41
                refine h_appg (i := 3) el35 el35 sz9 z9 rfl (by decide) by9 (by decide) (fun _ => rfl) rfl rfl rfl hz_45 (wt rfl) (fun n_46 => ?_)
                refine h_far pl43_3 rfl 4 rfl (wt rfl) ?_
                refine h_str 2 sz35 rfl rfl [(vS x_4), (vI (w64 (10 * (k_2 : Int)))), (vI (w64 ((w64 (10 * (k_2 : Int))) + r_18.1))), (vI r_21.1), (gV n_46 1 a_44)] (stC_g rfl) (wt rfl) ?_
                refine h_nil ?_
                replace h_41 := some_inj h_41
                subst h_41
                exact cut_mk n_46 trivial rfl rfl
              · refine wH_iff rfl hc_43 ?_
                refine wH_skip ?_
                replace h_41 := some_inj h_41
                subst h_41
                exact cut_mk n_32 trivial rfl rfl
            · rintro n_42 _ sl_ H_ hp_ hq_
              refine wH_at _ hp_ hq_ ?_
              refine wH_region ?_
              refine h_opw (w64_next hD_28 hn_29) (wt rfl) rfl ?_
              refine h_op (vI ((k_25 + 1 : Nat) : Int)) (wt rfl) rfl ?_
              refine h_nil ?_
              replace hc_33 := some_inj hc_33
              subst hc_33
              exact loop_mk (k_25 + 1, l_26, (v_40, r_37.2.L, r_37.2.f_at), n_42) ⟨hL_34, drop_next hD_28⟩ (Nat.lt_succ_self _) rfl rfl
        · rintro ⟨s_30, n_32⟩ ho_ sl_ H_ hp_ hq_
          subst ho_
          refine wH_at _ hp_ hq_ ?_
          refine wH_frozg 3 rfl ?_
          refine wH_coc 3 2 [(vS x_4), (vI (w64 (10 * (k_2 : Int)))), (vI (w64 ((w64 (10 * (k_2 : Int))) + r_18.1))), (vI r_21.1), (vL eS s_30.1)] rfl rfl (fun S hS => cons_eq (rfl) (cons_eq (rfl) (cons_eq (rfl) (cons_eq (rfl) (cons_eq (hS) (rfl)))))) ?_
          refine wH_region ?_
          refine h_op (gV n_9 5 s_7.1) (wt rfl) rfl ?_
          refine h_ldr 2 sz43 ag43 rfl rfl (.d (.agg (Spot.enc (⟨x_4, (⟨(w64 (10 * (k_2 : Int))), (w64 ((w64 (10 * (k_2 : Int))) + r_18.1))⟩ : Window), r_21.1, s_30.1⟩ : Spot)))) rfl (wt rfl) ?_
          refine h_lit (([(⟨x_4, (⟨(w64 (10 * (k_2 : Int))), (w64 ((w64 (10 * (k_2 : Int))) + r_18.1))⟩ : Window), r_21.1, s_30.1⟩ : Spot)] : List Spot).map Spot.enc) es26 ez26 rfl rfl rfl rfl rfl (wt rfl) ?_
          obtain ⟨a_47, hz_48, hc_10⟩ := bind_some hc_10
          refine h_appg (i := 1) el26 el26 sz43 z43 rfl (by decide) by43 (by decide) (fun _ => rfl) rfl rfl rfl hz_48 (wt rfl) (fun n_49 => ?_)
          refine h_op (gV n_49 5 a_47) (wt rfl) rfl ?_
          refine h_nil ?_
          refine wH_region ?_
          refine h_opw (w64_next hD_5 hn_6) (wt rfl) rfl ?_
          refine h_op (vI ((k_2 + 1 : Nat) : Int)) (wt rfl) rfl ?_
          refine h_nil ?_
          replace hc_10 := some_inj hc_10
          subst hc_10
          exact loop_mk (k_2 + 1, l_3, (a_47, s_30.2.1, s_30.2.2), n_49) ⟨hL_11, drop_next hD_5⟩ (Nat.lt_succ_self _) rfl rfl
  · rintro ⟨s_7, n_9⟩ ho_ sl_ H_ hp_ hq_
    subst ho_
    refine wH_at _ hp_ hq_ ?_
    refine wH_seq ?_
    refine wH_region ?_
    refine h_op (gV n_9 5 s_7.1) (wt rfl) rfl ?_
    refine h_op (gV n_9 5 s_7.1) (wt rfl) rfl ?_
    refine h_nil ?_
    refine wH_frozg 1 rfl ?_
    refine wH_cog 2 1 rfl rfl ?_
    refine wH_cog 3 1 rfl rfl ?_
    refine wH_cog 52 1 rfl rfl ?_
    replace hF := some_inj hF
    subst hF
    refine wH_ret ?_
    exact finB (.inr rfl) [(vL Spot.enc s_7.1)] _ [0] [extN 0] rfl (.cons (co_data rfl rfl) (.nil)) (by kernel_rfl) ⟨(by kernel_rfl), trivial⟩ (by decide) (by kernel_rfl)
theorem mk_Stream_Some_ok {s_1 : Stream} {l_2 : (List ByteArray)} {r : ByteArray × Stream} (hF : mk_Stream_Some s_1 l_2 = some r) :
    FnM Try.prog 28 [(.ref (extN 0) 0 0), (vL eS l_2)] [(.cells 2 [(vL eI s_1.L), (vI s_1.f_at)])] (vS r.1) [some (.cells 2 [(vL eI r.2.L), (vI r.2.f_at)])] := by
  refine FnM.of_wH ⟨Try.prog, 12, [], []⟩ rfl Try.func28 rfl rfl (Nat.le_of_ble_eq_true rfl) (by kernel_rfl) ?_
  unfold mk_Stream_Some at hF
  refine wH_seq ?_
  refine wH_region ?_
  refine h_op (vS (⟨#[]⟩ : ByteArray)) (wt rfl) rfl ?_
  refine h_nil ?_
  refine wH_seq ?_
  refine wH_region ?_
  refine h_op (vL eS l_2) (wt rfl) rfl ?_
  refine h_op (.ref (extN 0) 0 0) (wt rfl) rfl ?_
  refine h_op (vL eS l_2) (wt rfl) rfl ?_
  refine h_len un35 rfl (wt rfl) ?_
  obtain ⟨r_3, hr_4, hF⟩ := bind_some hF
  refine h_calln [0] 0 (mk_Stream_Next_ok hr_4) rfl hb56 rfl (by kernel_rfl) (by kernel_rfl) (by kernel_rfl) (by kernel_rfl) (by kernel_rfl) (by kernel_rfl) (by kernel_rfl) (by decide) (by kernel_rfl) (by kernel_rfl) (wt rfl) (fun nu_5 => (vI r_3.1)) (fun _ => by kernel_rfl) (fun nu_5 => ([((extN 0), some (.cells 2 [(vL eI r_3.2.L), (vI r_3.2.f_at)]))] : Hp)) (fun _ => by kernel_rfl) ?_
  intro nu_5
  obtain ⟨y_6, hy_7, hF⟩ := bind_some hF
  refine h_ia es35 rfl rfl hy_7 rfl (wt rfl) ?_
  refine h_ldc sz9 ag9 rfl (vS y_6) rfl (wt rfl) ?_
  refine h_op (vS y_6) (wt rfl) rfl ?_
  refine h_nil ?_
  replace hF := some_inj hF
  subst hF
  refine wH_ret ?_
  exact finB (.inr rfl) [(vS y_6)] _ [0] [extN 0] rfl (.cons (co_data rfl rfl) (.nil)) (by kernel_rfl) ⟨(by kernel_rfl), trivial⟩ (by decide) (by kernel_rfl)
theorem mk_Stream_Range_ok {s_1 : Stream} {low_2 : Int} {high_3 : Int} {r : Int × Stream} (hF : mk_Stream_Range s_1 low_2 high_3 = some r) :
    FnM Try.prog 97 [(.ref (extN 0) 0 0), (vI low_2), (vI high_3)] [(.cells 2 [(vL eI s_1.L), (vI s_1.f_at)])] (vI r.1) [some (.cells 2 [(vL eI r.2.L), (vI r.2.f_at)])] := by
  refine FnM.of_wH ⟨Try.prog, 19, [], []⟩ rfl Try.func97 rfl rfl (Nat.le_of_ble_eq_true rfl) (by kernel_rfl) ?_
  unfold mk_Stream_Range at hF
  refine wH_seq ?_
  refine wH_region ?_
  refine h_op (vI 0) (wt rfl) rfl ?_
  refine h_nil ?_
  refine wH_seq ?_
  refine wH_seq ?_
  refine wH_region ?_
  refine h_op (vI high_3) (wt rfl) rfl ?_
  refine h_op (vI low_2) (wt rfl) rfl ?_
  refine h_op (vB (decide (high_3 < low_2))) (wt rfl) rfl ?_
  refine h_nil ?_
  rcases cond_some hF with ⟨hc_4, hF⟩ | ⟨hc_4, hF⟩
  · refine wH_ift rfl hc_4 ?_
    refine wH_seq ?_
    refine wH_region ?_
    refine h_op (vI low_2) (wt rfl) rfl ?_
    refine h_op (vI low_2) (wt rfl) rfl ?_
    refine h_nil ?_
    replace hF := some_inj hF
    subst hF
    refine wH_ret ?_
    exact finB (.inr rfl) [(vI low_2)] _ [0] [extN 0] rfl (.cons (co_data rfl rfl) (.nil)) (by kernel_rfl) ⟨(by kernel_rfl), trivial⟩ (by decide) (by kernel_rfl)
  · refine wH_iff rfl hc_4 ?_
    refine wH_skip ?_
    refine wH_seq ?_
    refine wH_region ?_
    refine h_op (vI low_2) (wt rfl) rfl ?_
    refine h_op (.ref (extN 0) 0 0) (wt rfl) rfl ?_
    refine h_op (vI high_3) (wt rfl) rfl ?_
    refine h_op (vI low_2) (wt rfl) rfl ?_
    refine h_op (vI (w64 (high_3 - low_2))) (wt rfl) rfl ?_
    refine h_op (vI (w64 ((w64 (high_3 - low_2)) + 1))) (wt rfl) rfl ?_
    obtain ⟨r_5, hr_6, hF⟩ := bind_some hF
    refine h_calln [0] 0 (mk_Stream_Next_ok hr_6) rfl hb56 rfl (by kernel_rfl) (by kernel_rfl) (by kernel_rfl) (by kernel_rfl) (by kernel_rfl) (by kernel_rfl) (by kernel_rfl) (by decide) (by kernel_rfl) (by kernel_rfl) (wt rfl) (fun nu_7 => (vI r_5.1)) (fun _ => by kernel_rfl) (fun nu_7 => ([((extN 0), some (.cells 2 [(vL eI r_5.2.L), (vI r_5.2.f_at)]))] : Hp)) (fun _ => by kernel_rfl) ?_
    intro nu_7
    refine h_op (vI (w64 (low_2 + r_5.1))) (wt rfl) rfl ?_
    refine h_op (vI (w64 (low_2 + r_5.1))) (wt rfl) rfl ?_
    refine h_nil ?_
    replace hF := some_inj hF
    subst hF
    refine wH_ret ?_
    exact finB (.inr rfl) [(vI (w64 (low_2 + r_5.1)))] _ [0] [extN 0] rfl (.cons (co_data rfl rfl) (.nil)) (by kernel_rfl) ⟨(by kernel_rfl), trivial⟩ (by decide) (by kernel_rfl)
theorem mk_Stream_Odd_ok {s_1 : Stream} {low_2 : Int} {high_3 : Int} {r : Int × Stream} (hF : mk_Stream_Odd s_1 low_2 high_3 = some r) :
    FnM Try.prog 82 [(.ref (extN 0) 0 0), (vI low_2), (vI high_3)] [(.cells 2 [(vL eI s_1.L), (vI s_1.f_at)])] (vI r.1) [some (.cells 2 [(vL eI r.2.L), (vI r.2.f_at)])] := by
  refine FnM.of_wH ⟨Try.prog, 22, [], []⟩ rfl Try.func82 rfl rfl (Nat.le_of_ble_eq_true rfl) (by kernel_rfl) ?_
  unfold mk_Stream_Odd at hF
  refine wH_seq ?_
  refine wH_region ?_
  refine h_op (vI 0) (wt rfl) rfl ?_
  refine h_nil ?_
  refine wH_seq ?_
  refine wH_seq ?_
  refine wH_region ?_
  refine h_op (.ref (extN 0) 0 0) (wt rfl) rfl ?_
  obtain ⟨r_4, hr_5, hF⟩ := bind_some hF
  refine h_calln [0] 0 (mk_Stream_Flip_ok hr_5) rfl hb55 rfl (by kernel_rfl) (by kernel_rfl) (by kernel_rfl) (by kernel_rfl) (by kernel_rfl) (by kernel_rfl) (by kernel_rfl) (by decide) (by kernel_rfl) (by kernel_rfl) (wt rfl) (fun nu_6 => (vB r_4.1)) (fun _ => by kernel_rfl) (fun nu_6 => ([((extN 0), some (.cells 2 [(vL eI r_4.2.L), (vI r_4.2.f_at)]))] : Hp)) (fun _ => by kernel_rfl) ?_
  intro nu_6
  refine h_nil ?_
  rcases cond_some hF with ⟨hc_7, hF⟩ | ⟨hc_7, hF⟩
  · refine wH_ift rfl hc_7 ?_
    refine wH_seq ?_
    refine wH_region ?_
    refine h_op (.ref (extN 0) 0 0) (wt rfl) rfl ?_
    refine h_op (vI low_2) (wt rfl) rfl ?_
    refine h_op (vI (w64 (low_2 - 1))) (wt rfl) rfl ?_
    refine h_op (vI high_3) (wt rfl) rfl ?_
    refine h_op (vI (w64 (high_3 + 1))) (wt rfl) rfl ?_
    refine h_op (vI low_2) (wt rfl) rfl ?_
    refine h_op (vI high_3) (wt rfl) rfl ?_
    refine h_lit (([(w64 (low_2 - 1)), (w64 (high_3 + 1)), low_2, high_3, (-1099511627776), 1099511627776] : List Int).map eI) es22 ez22 rfl rfl rfl rfl rfl (wt rfl) ?_
    obtain ⟨r_8, hr_9, hF⟩ := bind_some hF
    refine h_calln [0] 0 (mk_Stream_Pick_ok hr_9) rfl hb29 rfl (by kernel_rfl) (by kernel_rfl) (by kernel_rfl) (by kernel_rfl) (by kernel_rfl) (by kernel_rfl) (by kernel_rfl) (by decide) (by kernel_rfl) (by kernel_rfl) (wt rfl) (fun nu_10 => (vI r_8.1)) (fun _ => by kernel_rfl) (fun nu_10 => ([((extN 0), some (.cells 2 [(vL eI r_8.2.L), (vI r_8.2.f_at)]))] : Hp)) (fun _ => by kernel_rfl) ?_
    intro nu_10
    refine h_op (vI r_8.1) (wt rfl) rfl ?_
    refine h_nil ?_
    replace hF := some_inj hF
    subst hF
    refine wH_ret ?_
    exact finB (.inr rfl) [(vI r_8.1)] _ [0] [extN 0] rfl (.cons (co_data rfl rfl) (.nil)) (by kernel_rfl) ⟨(by kernel_rfl), trivial⟩ (by decide) (by kernel_rfl)
  · refine wH_iff rfl hc_7 ?_
    refine wH_skip ?_
    refine wH_seq ?_
    refine wH_region ?_
    refine h_op (.ref (extN 0) 0 0) (wt rfl) rfl ?_
    refine h_op (vI low_2) (wt rfl) rfl ?_
    refine h_op (vI high_3) (wt rfl) rfl ?_
    obtain ⟨r_11, hr_12, hF⟩ := bind_some hF
    refine h_calln [0] 0 (mk_Stream_Range_ok hr_12) rfl hb97 rfl (by kernel_rfl) (by kernel_rfl) (by kernel_rfl) (by kernel_rfl) (by kernel_rfl) (by kernel_rfl) (by kernel_rfl) (by decide) (by kernel_rfl) (by kernel_rfl) (wt rfl) (fun nu_13 => (vI r_11.1)) (fun _ => by kernel_rfl) (fun nu_13 => ([((extN 0), some (.cells 2 [(vL eI r_11.2.L), (vI r_11.2.f_at)]))] : Hp)) (fun _ => by kernel_rfl) ?_
    intro nu_13
    refine h_op (vI r_11.1) (wt rfl) rfl ?_
    refine h_nil ?_
    replace hF := some_inj hF
    subst hF
    refine wH_ret ?_
    exact finB (.inr rfl) [(vI r_11.1)] _ [0] [extN 0] rfl (.cons (co_data rfl rfl) (.nil)) (by kernel_rfl) ⟨(by kernel_rfl), trivial⟩ (by decide) (by kernel_rfl)
theorem mk_Stream_RightSpots_okb {s_1 : Stream} {r : (List Spot) × Stream} (hF : mk_Stream_RightSpots s_1 = some r) :
    FnM Try.prog 81 [(.ref (extN 0) 0 0)] [(.cells 2 [(vL eI s_1.L), (vI s_1.f_at)])] (gV (extN 1) 5 r.1) (([(.cells 2 [(vL eI r.2.L), (vI r.2.f_at)])] : List Box).map some ++ gO 5 Spot.enc r.1) := by
  refine FnM.of_wH ⟨Try.prog, 53, [], []⟩ rfl Try.func81 rfl rfl (Nat.le_of_ble_eq_true rfl) (by kernel_rfl) ?_
  unfold mk_Stream_RightSpots at hF
  refine wH_seq ?_
  refine wH_region ?_
  refine h_op .nil (wt rfl) rfl ?_
  refine h_nil ?_
  refine wH_seq ?_
  refine wH_region ?_
  refine h_op .nil (wt rfl) rfl ?_
  refine h_nil ?_
  refine wH_seq ?_
  refine wH_seq ?_
  refine wH_region ?_
  refine h_lit (([(⟨#[115, 97]⟩ : ByteArray), (⟨#[115, 98]⟩ : ByteArray), (⟨#[115, 99]⟩ : ByteArray), (⟨#[115, 100]⟩ : ByteArray), (⟨#[115, 101]⟩ : ByteArray)] : List ByteArray).map eS) es35 ez35 rfl rfl rfl rfl rfl (wt rfl) ?_
  refine h_len un35 rfl (wt rfl) ?_
  refine h_op (vI 0) (wt rfl) rfl ?_
  refine h_nil ?_
  refine wH_new (fun n_8 => ?_)
  obtain ⟨o_12, hj_13, hF⟩ := bind_some hF
  obtain ⟨hn_6, hj_13⟩ := forL_some hj_13
  refine wH_join (β := ((List Spot) × (List Int) × Int) × Nm) (fun p => (fun (s_7 : (List Spot) × (List Int) × Int) (n_9 : Nm) => ([(3, (gV n_9 5 s_7.1))] : List (Nat × V))) p.1 p.2) (fun p => (fun (s_7 : (List Spot) × (List Int) × Int) (n_9 : Nm) => ([((extN 0), some (.cells 2 [(vL eI s_7.2.1), (vI s_7.2.2)])), (n_9, gB 5 Spot.enc s_7.1)] : Hp)) p.1 p.2) (fun p => o_12 = .go p.1) ?_ ?_
  · refine wH_block ?_
    refine wH_loop (β := Nat × (List ByteArray) × ((List Spot) × (List Int) × Int) × Nm) (fun p => (fun (k_2 : Nat) (l_3 : List ByteArray) (s_7 : (List Spot) × (List Int) × Int) (n_9 : Nm) => ([(0, (.ref (extN 0) 0 0)), (3, (gV n_9 5 s_7.1)), (9, (vL eS ([(⟨#[115, 97]⟩ : ByteArray), (⟨#[115, 98]⟩ : ByteArray), (⟨#[115, 99]⟩ : ByteArray), (⟨#[115, 100]⟩ : ByteArray), (⟨#[115, 101]⟩ : ByteArray)] : List ByteArray))), (10, (vI (([(⟨#[115, 97]⟩ : ByteArray), (⟨#[115, 98]⟩ : ByteArray), (⟨#[115, 99]⟩ : ByteArray), (⟨#[115, 100]⟩ : ByteArray), (⟨#[115, 101]⟩ : ByteArray)] : List ByteArray).length : Int))), (11, (vI (k_2 : Int)))] : List (Nat × V))) p.1 p.2.1 p.2.2.1 p.2.2.2) (fun p => (fun (k_2 : Nat) (l_3 : List ByteArray) (s_7 : (List Spot) × (List Int) × Int) (n_9 : Nm) => ([((extN 0), some (.cells 2 [(vL eI s_7.2.1), (vI s_7.2.2)])), (n_9, gB 5 Spot.enc s_7.1)] : Hp)) p.1 p.2.1 p.2.2.1 p.2.2.2) (fun p => forR (fun k x s => mk_Stream_RightSpots_L2 k x s) p.2.1 p.1 p.2.2.1 = some o_12 ∧ (([(⟨#[115, 97]⟩ : ByteArray), (⟨#[115, 98]⟩ : ByteArray), (⟨#[115, 99]⟩ : ByteArray), (⟨#[115, 100]⟩ : ByteArray), (⟨#[115, 101]⟩ : ByteArray)] : List ByteArray)).drop p.1 = p.2.1) (fun p => p.2.1.length) (0, ([(⟨#[115, 97]⟩ : ByteArray), (⟨#[115, 98]⟩ : ByteArray), (⟨#[115, 99]⟩ : ByteArray), (⟨#[115, 100]⟩ : ByteArray), (⟨#[115, 101]⟩ : ByteArray)] : List ByteArray), (([] : List Spot), s_1.L, s_1.f_at), n_8) ⟨hj_13, rfl⟩ rfl rfl ?_
    rintro ⟨k_2, l_3, s_7, n_9⟩ ⟨hL_11, hD_5⟩
    dsimp only at hL_11 hD_5
    cases l_3 with
    | nil =>
      replace hL_11 := some_inj hL_11
      subst hL_11
      refine wH_seq (wH_region (h_op (vB (decide ((k_2 : Int) < (([(⟨#[115, 97]⟩ : ByteArray), (⟨#[115, 98]⟩ : ByteArray), (⟨#[115, 99]⟩ : ByteArray), (⟨#[115, 100]⟩ : ByteArray), (⟨#[115, 101]⟩ : ByteArray)] : List ByteArray).length : Int)))) (wt rfl) rfl (h_nil ?_)))
      refine wH_seq (wH_iff rfl (drop_nil hD_5) (wH_exit ?_))
      exact cut_mk (s_7, n_9) rfl rfl rfl
    | cons x_4 l_3 =>
      obtain ⟨c_, hc_10, hL_11⟩ := bind_some hL_11
      refine wH_seq (wH_region (h_op (vB (decide ((k_2 : Int) < (([(⟨#[115, 97]⟩ : ByteArray), (⟨#[115, 98]⟩ : ByteArray), (⟨#[115, 99]⟩ : ByteArray), (⟨#[115, 100]⟩ : ByteArray), (⟨#[115, 101]⟩ : ByteArray)] : List ByteArray).length : Int)))) (wt rfl) rfl (h_nil ?_)))
      refine wH_seq (wH_ift rfl (drop_cons hD_5) (wH_skip ?_))
      unfold mk_Stream_RightSpots_L2 at hc_10
      refine wH_seq ?_
      refine wH_block ?_
      refine wH_seq ?_
      refine wH_region ?_
      refine h_op (vI (k_2 : Int)) (wt rfl) rfl ?_
      refine h_ia es35 rfl rfl (drop_idx hD_5) rfl (wt rfl) ?_
      refine h_ldc sz9 ag9 rfl (vS x_4) rfl (wt rfl) ?_
      refine h_op (vI (k_2 : Int)) (wt rfl) rfl ?_
      refine h_op (vS x_4) (wt rfl) rfl ?_
      refine h_nil ?_
      refine wH_seq ?_
      refine wH_seq ?_
      refine wH_region ?_
      refine h_op (.ref (extN 0) 0 0) (wt rfl) rfl ?_
      obtain ⟨r_14, hr_15, hc_10⟩ := bind_some hc_10
      refine h_calln [0] 0 (mk_Stream_Flip_ok hr_15) rfl hb55 rfl (by kernel_rfl) (by kernel_rfl) (by kernel_rfl) (by kernel_rfl) (by kernel_rfl) (by kernel_rfl) (by kernel_rfl) (by decide) (by kernel_rfl) (by kernel_rfl) (wt rfl) (fun nu_16 => (vB r_14.1)) (fun _ => by kernel_rfl) (fun nu_16 => ([((extN 0), some (.cells 2 [(vL eI r_14.2.L), (vI r_14.2.f_at)])), (n_9, gB 5 Spot.enc s_7.1)] : Hp)) (fun _ => by kernel_rfl) ?_
      intro nu_16
      refine h_nil ?_
      rcases cond_some hc_10 with ⟨hc_17, hc_10⟩ | ⟨hc_17, hc_10⟩
      · refine wH_ift rfl hc_17 ?_
        refine wH_exit ?_
        refine wH_region ?_
        refine h_opw (w64_next hD_5 hn_6) (wt rfl) rfl ?_
        refine h_op (vI ((k_2 + 1 : Nat) : Int)) (wt rfl) rfl ?_
        refine h_nil ?_
        replace hc_10 := some_inj hc_10
        subst hc_10
        exact loop_mk (k_2 + 1, l_3, (s_7.1, r_14.2.L, r_14.2.f_at), n_9) ⟨hL_11, drop_next hD_5⟩ (Nat.lt_succ_self _) rfl rfl
      · refine wH_iff rfl hc_17 ?_
        refine wH_skip ?_
        refine wH_seq ?_
        refine wH_region ?_
        refine h_op (vS x_4) (wt rfl) rfl ?_
        refine h_op (vI (k_2 : Int)) (wt rfl) rfl ?_
        refine h_op (vI (w64 (10 * (k_2 : Int)))) (wt rfl) rfl ?_
        refine h_op (vI (k_2 : Int)) (wt rfl) rfl ?_
        refine h_op (vI (w64 (10 * (k_2 : Int)))) (wt rfl) rfl ?_
        refine h_op (.ref (extN 0) 0 0) (wt rfl) rfl ?_
        refine h_lit (([5, 10, 10] : List Int).map eI) es22 ez22 rfl rfl rfl rfl rfl (wt rfl) ?_
        obtain ⟨r_18, hr_19, hc_10⟩ := bind_some hc_10
        refine h_calln [0] 0 (mk_Stream_Pick_ok hr_19) rfl hb29 rfl (by kernel_rfl) (by kernel_rfl) (by kernel_rfl) (by kernel_rfl) (by kernel_rfl) (by kernel_rfl) (by kernel_rfl) (by decide) (by kernel_rfl) (by kernel_rfl) (wt rfl) (fun nu_20 => (vI r_18.1)) (fun _ => by kernel_rfl) (fun nu_20 => ([((extN 0), some (.cells 2 [(vL eI r_18.2.L), (vI r_18.2.f_at)])), (n_9, gB 5 Spot.enc s_7.1)] : Hp)) (fun _ => by kernel_rfl) ?_
        intro nu_20
        refine h_op (vI (w64 ((w64 (10 * (k_2 : Int))) + r_18.1))) (wt rfl) rfl ?_
        refine h_op (.d (.agg (Window.enc (⟨(w64 (10 * (k_2 : Int))), (w64 ((w64 (10 * (k_2 : Int))) + r_18.1))⟩ : Window)))) (wt rfl) (by kernel_rfl) ?_
        refine h_op (.ref (extN 0) 0 0) (wt rfl) rfl ?_
        refine h_lit (([0, 1, 2, 3, 5] : List Int).map eI) es22 ez22 rfl rfl rfl rfl rfl (wt rfl) ?_
        obtain ⟨r_21, hr_22, hc_10⟩ := bind_some hc_10
        refine h_calln [0] 0 (mk_Stream_Pick_ok hr_22) rfl hb29 rfl (by kernel_rfl) (by kernel_rfl) (by kernel_rfl) (by kernel_rfl) (by kernel_rfl) (by kernel_rfl) (by kernel_rfl) (by decide) (by kernel_rfl) (by kernel_rfl) (wt rfl) (fun nu_23 => (vI r_21.1)) (fun _ => by kernel_rfl) (fun nu_23 => ([((extN 0), some (.cells 2 [(vL eI r_21.2.L), (vI r_21.2.f_at)])), (n_9, gB 5 Spot.enc s_7.1)] : Hp)) (fun _ => by kernel_rfl) ?_
        intro nu_23
        refine h_op (.agg [(vS x_4), (vI (w64 (10 * (k_2 : Int)))), (vI (w64 ((w64 (10 * (k_2 : Int))) + r_18.1))), (vI r_21.1), .nil]) (wt rfl) (by kernel_rfl) ?_
        refine h_alloc z43 rfl (wt rfl) (fun n_24 => ?_)
        refine h_str 2 sz43 rfl rfl [(vS x_4), (vI (w64 (10 * (k_2 : Int)))), (vI (w64 ((w64 (10 * (k_2 : Int))) + r_18.1))), (vI r_21.1), .nil] rfl (wt rfl) ?_
        refine h_nil ?_
        refine wH_seq ?_
        refine wH_seq ?_
        refine wH_region ?_
        refine h_lit (([(⟨#[99, 105, 116, 121]⟩ : ByteArray), (⟨#[109, 97, 108, 108]⟩ : ByteArray)] : List ByteArray).map eS) es35 ez35 rfl rfl rfl rfl rfl (wt rfl) ?_
        refine h_len un35 rfl (wt rfl) ?_
        refine h_op (vI 0) (wt rfl) rfl ?_
        refine h_nil ?_
        refine wH_new (fun n_31 => ?_)
        obtain ⟨o_35, hj_36, hc_10⟩ := bind_some hc_10
        obtain ⟨hn_29, hj_36⟩ := forL_some hj_36
        refine wH_join (β := ((List ByteArray) × (List Int) × Int) × Nm) (fun p => (fun (s_30 : (List ByteArray) × (List Int) × Int) (n_32 : Nm) => ([(0, (.ref (extN 0) 0 0)), (3, (gV n_9 5 s_7.1)), (6, (.ref n_24 0 0)), (9, (vL eS ([(⟨#[115, 97]⟩ : ByteArray), (⟨#[115, 98]⟩ : ByteArray), (⟨#[115, 99]⟩ : ByteArray), (⟨#[115, 100]⟩ : ByteArray), (⟨#[115, 101]⟩ : ByteArray)] : List ByteArray))), (10, (vI (([(⟨#[115, 97]⟩ : ByteArray), (⟨#[115, 98]⟩ : ByteArray), (⟨#[115, 99]⟩ : ByteArray), (⟨#[115, 100]⟩ : ByteArray), (⟨#[115, 101]⟩ : ByteArray)] : List ByteArray).length : Int))), (11, (vI (k_2 : Int)))] : List (Nat × V))) p.1 p.2) (fun p => (fun (s_30 : (List ByteArray) × (List Int) × Int) (n_32 : Nm) => ([((extN 0), some (.cells 2 [(vL eI s_30.2.1), (vI s_30.2.2)])), (n_9, gB 5 Spot.enc s_7.1), (n_24, some (.cells 5 [(vS x_4), (vI (w64 (10 * (k_2 : Int)))), (vI (w64 ((w64 (10 * (k_2 : Int))) + r_18.1))), (vI r_21.1), (gV n_32 1 s_30.1)])), (n_32, gB 1 eS s_30.1)] : Hp)) p.1 p.2) (fun p => o_35 = .go p.1) ?_ ?_
        · refine wH_block ?_
          refine wH_loop (β := Nat × (List ByteArray) × ((List ByteArray) × (List Int) × Int) × Nm) (fun p => (fun (k_25 : Nat) (l_26 : List ByteArray) (s_30 : (List ByteArray) × (List Int) × Int) (n_32 : Nm) => ([(0, (.ref (extN 0) 0 0)), (3, (gV n_9 5 s_7.1)), (6, (.ref n_24 0 0)), (9, (vL eS ([(⟨#[115, 97]⟩ : ByteArray), (⟨#[115, 98]⟩ : ByteArray), (⟨#[115, 99]⟩ : ByteArray), (⟨#[115, 100]⟩ : ByteArray), (⟨#[115, 101]⟩ : ByteArray)] : List ByteArray))), (10, (vI (([(⟨#[115, 97]⟩ : ByteArray), (⟨#[115, 98]⟩ : ByteArray), (⟨#[115, 99]⟩ : ByteArray), (⟨#[115, 100]⟩ : ByteArray), (⟨#[115, 101]⟩ : ByteArray)] : List ByteArray).length : Int))), (11, (vI (k_2 : Int))), (32, (vL eS ([(⟨#[99, 105, 116, 121]⟩ : ByteArray), (⟨#[109, 97, 108, 108]⟩ : ByteArray)] : List ByteArray))), (33, (vI (([(⟨#[99, 105, 116, 121]⟩ : ByteArray), (⟨#[109, 97, 108, 108]⟩ : ByteArray)] : List ByteArray).length : Int))), (34, (vI (k_25 : Int)))] : List (Nat × V))) p.1 p.2.1 p.2.2.1 p.2.2.2) (fun p => (fun (k_25 : Nat) (l_26 : List ByteArray) (s_30 : (List ByteArray) × (List Int) × Int) (n_32 : Nm) => ([((extN 0), some (.cells 2 [(vL eI s_30.2.1), (vI s_30.2.2)])), (n_9, gB 5 Spot.enc s_7.1), (n_24, some (.cells 5 [(vS x_4), (vI (w64 (10 * (k_2 : Int)))), (vI (w64 ((w64 (10 * (k_2 : Int))) + r_18.1))), (vI r_21.1), (gV n_32 1 s_30.1)])), (n_32, gB 1 eS s_30.1)] : Hp)) p.1 p.2.1 p.2.2.1 p.2.2.2) (fun p => forR (fun k x s => mk_Stream_RightSpots_L1 k x s) p.2.1 p.1 p.2.2.1 = some o_35 ∧ (([(⟨#[99, 105, 116, 121]⟩ : ByteArray), (⟨#[109, 97, 108, 108]⟩ : ByteArray)] : List ByteArray)).drop p.1 = p.2.1) (fun p => p.2.1.length) (0, ([(⟨#[99, 105, 116, 121]⟩ : ByteArray), (⟨#[109, 97, 108, 108]⟩ : ByteArray)] : List ByteArray), (([] : List ByteArray), r_21.2.L, r_21.2.f_at), n_31) ⟨hj_36, rfl⟩ rfl rfl ?_
          rintro ⟨k_25, l_26, s_30, n_32⟩ ⟨hL_34, hD_28⟩
          dsimp only at hL_34 hD_28
          cases l_26 with
          | nil =>
            replace hL_34 := some_inj hL_34
            subst hL_34
            refine wH_seq (wH_region (h_op (vB (decide ((k_25 : Int) < (([(⟨#[99, 105, 116, 121]⟩ : ByteArray), (⟨#[109, 97, 108, 108]⟩ : ByteArray)] : List ByteArray).length : Int)))) (wt rfl) rfl (h_nil ?_)))
            refine wH_seq (wH_iff rfl (drop_nil hD_28) (wH_exit ?_))
            exact cut_mk (s_30, n_32) rfl rfl rfl
          | cons x_27 l_26 =>
            obtain ⟨c_, hc_33, hL_34⟩ := bind_some hL_34
            refine wH_seq (wH_region (h_op (vB (decide ((k_25 : Int) < (([(⟨#[99, 105, 116, 121]⟩ : ByteArray), (⟨#[109, 97, 108, 108]⟩ : ByteArray)] : List ByteArray).length : Int)))) (wt rfl) rfl (h_nil ?_)))
            refine wH_seq (wH_ift rfl (drop_cons hD_28) (wH_skip ?_))
            unfold mk_Stream_RightSpots_L1 at hc_33
            refine wH_seq ?_
            refine wH_block ?_
            refine wH_seq ?_
            refine wH_region ?_
            refine h_ia es35 rfl rfl (drop_idx hD_28) rfl (wt rfl) ?_
            refine h_ldc sz9 ag9 rfl (vS x_27) rfl (wt rfl) ?_
            refine h_op (vS x_27) (wt rfl) rfl ?_
            refine h_nil ?_
            refine wH_seq ?_
            refine wH_region ?_
            refine h_op (.ref (extN 0) 0 0) (wt rfl) rfl ?_
            obtain ⟨r_37, hr_38, hc_33⟩ := bind_some hc_33
            refine h_calln [0] 0 (mk_Stream_Flip_ok hr_38) rfl hb55 rfl (by kernel_rfl) (by kernel_rfl) (by kernel_rfl) (by kernel_rfl) (by kernel_rfl) (by kernel_rfl) (by kernel_rfl) (by decide) (by kernel_rfl) (by kernel_rfl) (wt rfl) (fun nu_39 => (vB r_37.1)) (fun _ => by kernel_rfl) (fun nu_39 => ([((extN 0), some (.cells 2 [(vL eI r_37.2.L), (vI r_37.2.f_at)])), (n_9, gB 5 Spot.enc s_7.1), (n_24, some (.cells 5 [(vS x_4), (vI (w64 (10 * (k_2 : Int)))), (vI (w64 ((w64 (10 * (k_2 : Int))) + r_18.1))), (vI r_21.1), (gV n_32 1 s_30.1)])), (n_32, gB 1 eS s_30.1)] : Hp)) (fun _ => by kernel_rfl) ?_
            intro nu_39
            refine h_nil ?_
            obtain ⟨v_40, h_41, hc_33⟩ := bind_some hc_33
            refine wH_join (β := Nm) (fun (n_42 : Nm) => ([(0, (.ref (extN 0) 0 0)), (3, (gV n_9 5 s_7.1)), (6, (.ref n_24 0 0)), (9, (vL eS ([(⟨#[115, 97]⟩ : ByteArray), (⟨#[115, 98]⟩ : ByteArray), (⟨#[115, 99]⟩ : ByteArray), (⟨#[115, 100]⟩ : ByteArray), (⟨#[115, 101]⟩ : ByteArray)] : List ByteArray))), (10, (vI (([(⟨#[115, 97]⟩ : ByteArray), (⟨#[115, 98]⟩ : ByteArray), (⟨#[115, 99]⟩ : ByteArray), (⟨#[115, 100]⟩ : ByteArray), (⟨#[115, 101]⟩ : ByteArray)] : List ByteArray).length : Int))), (11, (vI (k_2 : Int))), (32, (vL eS ([(⟨#[99, 105, 116, 121]⟩ : ByteArray), (⟨#[109, 97, 108, 108]⟩ : ByteArray)] : List ByteArray))), (33, (vI (([(⟨#[99, 105, 116, 121]⟩ : ByteArray), (⟨#[109, 97, 108, 108]⟩ : ByteArray)] : List ByteArray).length : Int))), (34, (vI (k_25 : Int)))] : List (Nat × V))) (fun (n_42 : Nm) => ([((extN 0), some (.cells 2 [(vL eI r_37.2.L), (vI r_37.2.f_at)])), (n_9, gB 5 Spot.enc s_7.1), (n_24, some (.cells 5 [(vS x_4), (vI (w64 (10 * (k_2 : Int)))), (vI (w64 ((w64 (10 * (k_2 : Int))) + r_18.1))), (vI r_21.1), (gV n_42 1 v_40)])), (n_42, gB 1 eS v_40)] : Hp)) (fun _ => True) ?_ ?_
            · rcases cond_some h_41 with ⟨hc_43, h_41⟩ | ⟨hc_43, h_41⟩
              · refine wH_ift rfl hc_43 ?_
                refine wH_region ?_
                refine h_far pl43_3 rfl 4 rfl (wt rfl) ?_
                refine h_ldr 2 sz35 ag35 rfl rfl (gV n_32 1 s_30.1) rfl (wt rfl) ?_
                refine h_op (vS x_27) (wt rfl) rfl ?_
                refine h_lit (([x_27] : List ByteArray).map eS) es35 ez35 rfl rfl rfl rfl rfl (wt rfl) ?_
                obtain ⟨a_44, hz_45, h_41⟩ := bind_some h_41
                refine h_appg (i := 3) el35 el35 sz9 z9 rfl (by decide) by9 (by decide) (fun _ => rfl) rfl rfl rfl hz_45 (wt rfl) (fun n_46 => ?_)
                refine h_far pl43_3 rfl 4 rfl (wt rfl) ?_
                refine h_str 2 sz35 rfl rfl [(vS x_4), (vI (w64 (10 * (k_2 : Int)))), (vI (w64 ((w64 (10 * (k_2 : Int))) + r_18.1))), (vI r_21.1), (gV n_46 1 a_44)] (stC_g rfl) (wt rfl) ?_
                refine h_nil ?_
                replace h_41 := some_inj h_41
                subst h_41
                exact cut_mk n_46 trivial rfl rfl
              · refine wH_iff rfl hc_43 ?_
                refine wH_skip ?_
                replace h_41 := some_inj h_41
                subst h_41
                exact cut_mk n_32 trivial rfl rfl
            · rintro n_42 _ sl_ H_ hp_ hq_
              refine wH_at _ hp_ hq_ ?_
              refine wH_region ?_
              refine h_opw (w64_next hD_28 hn_29) (wt rfl) rfl ?_
              refine h_op (vI ((k_25 + 1 : Nat) : Int)) (wt rfl) rfl ?_
              refine h_nil ?_
              replace hc_33 := some_inj hc_33
              subst hc_33
              exact loop_mk (k_25 + 1, l_26, (v_40, r_37.2.L, r_37.2.f_at), n_42) ⟨hL_34, drop_next hD_28⟩ (Nat.lt_succ_self _) rfl rfl
        · rintro ⟨s_30, n_32⟩ ho_ sl_ H_ hp_ hq_
          subst ho_
          refine wH_at _ hp_ hq_ ?_
          refine wH_frozg 3 rfl ?_
          refine wH_coc 3 2 [(vS x_4), (vI (w64 (10 * (k_2 : Int)))), (vI (w64 ((w64 (10 * (k_2 : Int))) + r_18.1))), (vI r_21.1), (vL eS s_30.1)] rfl rfl (fun S hS => cons_eq (rfl) (cons_eq (rfl) (cons_eq (rfl) (cons_eq (rfl) (cons_eq (hS) (rfl)))))) ?_
          refine wH_region ?_
          refine h_op (gV n_9 5 s_7.1) (wt rfl) rfl ?_
          refine h_ldr 2 sz43 ag43 rfl rfl (.d (.agg (Spot.enc (⟨x_4, (⟨(w64 (10 * (k_2 : Int))), (w64 ((w64 (10 * (k_2 : Int))) + r_18.1))⟩ : Window), r_21.1, s_30.1⟩ : Spot)))) rfl (wt rfl) ?_
          refine h_lit (([(⟨x_4, (⟨(w64 (10 * (k_2 : Int))), (w64 ((w64 (10 * (k_2 : Int))) + r_18.1))⟩ : Window), r_21.1, s_30.1⟩ : Spot)] : List Spot).map Spot.enc) es26 ez26 rfl rfl rfl rfl rfl (wt rfl) ?_
          obtain ⟨a_47, hz_48, hc_10⟩ := bind_some hc_10
          refine h_appg (i := 1) el26 el26 sz43 z43 rfl (by decide) by43 (by decide) (fun _ => rfl) rfl rfl rfl hz_48 (wt rfl) (fun n_49 => ?_)
          refine h_op (gV n_49 5 a_47) (wt rfl) rfl ?_
          refine h_nil ?_
          refine wH_region ?_
          refine h_opw (w64_next hD_5 hn_6) (wt rfl) rfl ?_
          refine h_op (vI ((k_2 + 1 : Nat) : Int)) (wt rfl) rfl ?_
          refine h_nil ?_
          replace hc_10 := some_inj hc_10
          subst hc_10
          exact loop_mk (k_2 + 1, l_3, (a_47, s_30.2.1, s_30.2.2), n_49) ⟨hL_11, drop_next hD_5⟩ (Nat.lt_succ_self _) rfl rfl
  · rintro ⟨s_7, n_9⟩ ho_ sl_ H_ hp_ hq_
    subst ho_
    refine wH_at _ hp_ hq_ ?_
    refine wH_seq ?_
    refine wH_region ?_
    refine h_op (gV n_9 5 s_7.1) (wt rfl) rfl ?_
    refine h_op (gV n_9 5 s_7.1) (wt rfl) rfl ?_
    refine h_nil ?_
    replace hF := some_inj hF
    subst hF
    refine wH_ret ?_
    exact finG (outs := [(.cells 2 [(vL eI s_7.2.1), (vI s_7.2.2)])]) (.inr rfl) 1 rfl rfl rfl (by kernel_rfl) (by kernel_rfl)
theorem mk_Stream_Spots_ok {s_1 : Stream} {r : (List Spot) × Stream} (hF : mk_Stream_Spots s_1 = some r) :
    FnM Try.prog 40 [(.ref (extN 0) 0 0)] [(.cells 2 [(vL eI s_1.L), (vI s_1.f_at)])] (vL Spot.enc r.1) [some (.cells 2 [(vL eI r.2.L), (vI r.2.f_at)])] := by
  refine FnM.of_wH ⟨Try.prog, 52, [], []⟩ rfl Try.func40 rfl rfl (Nat.le_of_ble_eq_true rfl) (by kernel_rfl) ?_
  unfold mk_Stream_Spots at hF
  refine wH_seq ?_
  refine wH_region ?_
  refine h_op .nil (wt rfl) rfl ?_
  refine h_nil ?_
  refine wH_seq ?_
  refine wH_region ?_
  refine h_op (.ref (extN 0) 0 0) (wt rfl) rfl ?_
  obtain ⟨r_2, hr_3, hF⟩ := bind_some hF
  refine h_callg [0] (mk_Stream_RightSpots_okb hr_3) rfl hb81 rfl (by kernel_rfl) (by kernel_rfl) (by kernel_rfl) (by kernel_rfl) (by kernel_rfl) rfl (by decide) (by kernel_rfl) (wt rfl) ([((extN 0), some (.cells 2 [(vL eI r_2.2.L), (vI r_2.2.f_at)]))] : Hp) (fun _ => by kernel_rfl) (fun n_5 => ?_)
  refine h_op (gV n_5 5 r_2.1) (wt rfl) rfl ?_
  refine h_nil ?_
  refine wH_seq ?_
  refine wH_seq ?_
  obtain ⟨v_6, h_7, hF⟩ := bind_some hF
  refine wH_join (β := Unit) (fun _ => ([(0, (.ref (extN 0) 0 0)), (3, (gV n_5 5 r_2.1)), (13, (vB v_6.1))] : List (Nat × V))) (fun _ => ([((extN 0), some (.cells 2 [(vL eI v_6.2.1), (vI v_6.2.2)])), (n_5, gB 5 Spot.enc r_2.1)] : Hp)) (fun _ => True) ?_ ?_
  · refine wH_region ?_
    refine h_op (gV n_5 5 r_2.1) (wt rfl) rfl ?_
    refine h_leng un26 rfl (wt rfl) ?_
    refine h_op (vB (decide ((r_2.1.length : Int) > 0))) (wt rfl) rfl ?_
    rcases cond_some h_7 with ⟨hc_8, h_7⟩ | ⟨hc_8, h_7⟩
    · refine h_movb rfl hc_8 (wt rfl) ?_
      refine h_op (.ref (extN 0) 0 0) (wg rfl rfl rfl) rfl ?_
      obtain ⟨r_9, hr_10, h_7⟩ := bind_some h_7
      refine h_calln [0] 0 (mk_Stream_Flip_ok hr_10) rfl hb55 rfl (by kernel_rfl) (by kernel_rfl) (by kernel_rfl) (by kernel_rfl) (by kernel_rfl) (by kernel_rfl) (by kernel_rfl) (by decide) (by kernel_rfl) (by kernel_rfl) (wg rfl rfl rfl) (fun nu_11 => (vB r_9.1)) (fun _ => by kernel_rfl) (fun nu_11 => ([((extN 0), some (.cells 2 [(vL eI r_9.2.L), (vI r_9.2.f_at)])), (n_5, gB 5 Spot.enc r_2.1)] : Hp)) (fun _ => by kernel_rfl) ?_
      intro nu_11
      refine h_op (vB r_9.1) (wt rfl) rfl ?_
      refine h_nil ?_
      replace h_7 := some_inj h_7
      subst h_7
      exact cut_mk () trivial rfl rfl
    · refine h_movb rfl hc_8 (wt rfl) ?_
      refine h_skip (wg rfl rfl rfl) ?_
      refine h_skip (wg rfl rfl rfl) ?_
      refine h_op (vB false) (wt rfl) rfl ?_
      refine h_nil ?_
      replace h_7 := some_inj h_7
      subst h_7
      exact cut_mk () trivial rfl rfl
  · rintro ⟨⟩ _ sl_ H_ hp_ hq_
    refine wH_at _ hp_ hq_ ?_
    obtain ⟨v_12, h_13, hF⟩ := bind_some hF
    refine wH_join (β := Unit) (fun _ => ([(3, (gV n_5 5 v_12.1))] : List (Nat × V))) (fun _ => ([((extN 0), some (.cells 2 [(vL eI v_12.2.1), (vI v_12.2.2)])), (n_5, gB 5 Spot.enc v_12.1)] : Hp)) (fun _ => True) ?_ ?_
    · rcases cond_some h_13 with ⟨hc_14, h_13⟩ | ⟨hc_14, h_13⟩
      · refine wH_ift rfl hc_14 ?_
        refine wH_seq ?_
        refine wH_region ?_
        refine h_op (gV n_5 5 r_2.1) (wt rfl) rfl ?_
        refine h_op (.ref (extN 0) 0 0) (wt rfl) rfl ?_
        refine h_op (gV n_5 5 r_2.1) (wt rfl) rfl ?_
        refine h_leng un26 rfl (wt rfl) ?_
        obtain ⟨r_15, hr_16, h_13⟩ := bind_some h_13
        refine h_calln [0] 0 (mk_Stream_Next_ok hr_16) rfl hb56 rfl (by kernel_rfl) (by kernel_rfl) (by kernel_rfl) (by kernel_rfl) (by kernel_rfl) (by kernel_rfl) (by kernel_rfl) (by decide) (by kernel_rfl) (by kernel_rfl) (wt rfl) (fun nu_17 => (vI r_15.1)) (fun _ => by kernel_rfl) (fun nu_17 => ([((extN 0), some (.cells 2 [(vL eI r_15.2.L), (vI r_15.2.f_at)])), (n_5, gB 5 Spot.enc r_2.1)] : Hp)) (fun _ => by kernel_rfl) ?_
        intro nu_17
        obtain ⟨_, hi_18, h_13⟩ := bind_some h_13
        refine h_iavg es26 rfl rfl (inR_0 hi_18) (inR_lt hi_18) (wt rfl) ?_
        refine h_op (.ref n_5 (0 + (r_15.1).toNat) 0) (wt rfl) rfl ?_
        refine h_nil ?_
        refine wH_region ?_
        refine h_op (.ref n_5 (0 + (r_15.1).toNat) 0) (wt rfl) rfl ?_
        refine h_op (.ref n_5 (0 + (r_15.1).toNat) 0) (wt rfl) rfl ?_
        refine h_op (.ref n_5 (0 + (r_15.1).toNat) 0) (wt rfl) rfl ?_
        refine h_op (.ref n_5 (0 + (r_15.1).toNat) 0) (wt rfl) rfl ?_
        refine h_op (.ref (extN 0) 0 0) (wt rfl) rfl ?_
        refine h_op (.ref n_5 (0 + (r_15.1).toNat) 0) (wt rfl) rfl ?_
        refine h_op (.ref n_5 (0 + (r_15.1).toNat) 0) (wt rfl) rfl ?_
        refine h_far pl43_0 rfl 0 rfl (wt rfl) ?_
        obtain ⟨e_19, hy_20, h_13⟩ := bind_some h_13
        refine h_ldvg 1 sz9 ag9 rfl rfl hy_20 (vS e_19.Key) rfl (wt rfl) ?_
        refine h_lit (([e_19.Key, (⟨#[]⟩ : ByteArray), (⟨#[115, 97]⟩ : ByteArray)] : List ByteArray).map eS) es35 ez35 rfl rfl rfl rfl rfl (wt rfl) ?_
        obtain ⟨r_21, hr_22, h_13⟩ := bind_some h_13
        refine h_calln [0] 0 (mk_Stream_Some_ok hr_22) rfl hb28 rfl (by kernel_rfl) (by kernel_rfl) (by kernel_rfl) (by kernel_rfl) (by kernel_rfl) (by kernel_rfl) (by kernel_rfl) (by decide) (by kernel_rfl) (by kernel_rfl) (wt rfl) (fun nu_23 => (vS r_21.1)) (fun _ => by kernel_rfl) (fun nu_23 => ([((extN 0), some (.cells 2 [(vL eI r_21.2.L), (vI r_21.2.f_at)])), (n_5, gB 5 Spot.enc r_2.1)] : Hp)) (fun _ => by kernel_rfl) ?_
        intro nu_23
        refine h_op (.ref (extN 0) 0 0) (wt rfl) rfl ?_
        obtain ⟨r_24, hr_25, h_13⟩ := bind_some h_13
        refine h_calln [0] 0 (mk_Stream_Odd_ok hr_25) rfl hb82 rfl (by kernel_rfl) (by kernel_rfl) (by kernel_rfl) (by kernel_rfl) (by kernel_rfl) (by kernel_rfl) (by kernel_rfl) (by decide) (by kernel_rfl) (by kernel_rfl) (wt rfl) (fun nu_26 => (vI r_24.1)) (fun _ => by kernel_rfl) (fun nu_26 => ([((extN 0), some (.cells 2 [(vL eI r_24.2.L), (vI r_24.2.f_at)])), (n_5, gB 5 Spot.enc r_2.1)] : Hp)) (fun _ => by kernel_rfl) ?_
        intro nu_26
        refine h_op (.ref (extN 0) 0 0) (wt rfl) rfl ?_
        obtain ⟨r_27, hr_28, h_13⟩ := bind_some h_13
        refine h_calln [0] 0 (mk_Stream_Odd_ok hr_28) rfl hb82 rfl (by kernel_rfl) (by kernel_rfl) (by kernel_rfl) (by kernel_rfl) (by kernel_rfl) (by kernel_rfl) (by kernel_rfl) (by decide) (by kernel_rfl) (by kernel_rfl) (wt rfl) (fun nu_29 => (vI r_27.1)) (fun _ => by kernel_rfl) (fun nu_29 => ([((extN 0), some (.cells 2 [(vL eI r_27.2.L), (vI r_27.2.f_at)])), (n_5, gB 5 Spot.enc r_2.1)] : Hp)) (fun _ => by kernel_rfl) ?_
        intro nu_29
        refine h_lit (([(⟨#[98]⟩ : ByteArray), (⟨#[97]⟩ : ByteArray)] : List ByteArray).map eS) es35 ez35 rfl rfl rfl rfl rfl (wt rfl) ?_
        refine h_lit (([(⟨#[65]⟩ : ByteArray)] : List ByteArray).map eS) es35 ez35 rfl rfl rfl rfl rfl (wt rfl) ?_
        refine h_lit (([([] : List ByteArray), ([(⟨#[98]⟩ : ByteArray), (⟨#[97]⟩ : ByteArray)] : List ByteArray), ([(⟨#[65]⟩ : ByteArray)] : List ByteArray)] : List (List ByteArray)).map (eL eS)) es115 ez115 rfl rfl rfl rfl rfl (wt rfl) ?_
        refine h_op (.ref (extN 0) 0 0) (wt rfl) rfl ?_
        obtain ⟨r_30, hr_31, h_13⟩ := bind_some h_13
        refine h_calln [0] 0 (mk_Stream_Next_ok hr_31) rfl hb56 rfl (by kernel_rfl) (by kernel_rfl) (by kernel_rfl) (by kernel_rfl) (by kernel_rfl) (by kernel_rfl) (by kernel_rfl) (by decide) (by kernel_rfl) (by kernel_rfl) (wt rfl) (fun nu_32 => (vI r_30.1)) (fun _ => by kernel_rfl) (fun nu_32 => ([((extN 0), some (.cells 2 [(vL eI r_30.2.L), (vI r_30.2.f_at)])), (n_5, gB 5 Spot.enc r_2.1)] : Hp)) (fun _ => by kernel_rfl) ?_
        intro nu_32
        obtain ⟨y_33, hy_34, h_13⟩ := bind_some h_13
        refine h_ia es115 rfl rfl hy_34 rfl (wt rfl) ?_
        refine h_ldc sz35 ag35 rfl (vL eS y_33) rfl (wt rfl) ?_
        refine h_op (.ref n_5 (0 + (r_15.1).toNat) 0) (wt rfl) rfl ?_
        refine h_far pl43_0 rfl 0 rfl (wt rfl) ?_
        obtain ⟨e_35, hy_36, h_13⟩ := bind_some h_13
        refine h_stvg 1 sz9 rfl rfl hy_36 (⟨r_21.1, e_35.Time, e_35.Room, e_35.Tags⟩ : Spot) rfl (wt rfl) ?_
        refine h_re (v' := (gV n_5 5 (r_2.1.set (0 + (r_15.1).toNat) (⟨r_21.1, e_35.Time, e_35.Room, e_35.Tags⟩ : Spot)))) 3 rfl (gV_len (by simp)) ?_
        refine h_re (v' := (gV n_5 5 (r_2.1.set (0 + (r_15.1).toNat) (⟨r_21.1, e_35.Time, e_35.Room, e_35.Tags⟩ : Spot)))) 14 rfl (gV_len (by simp)) ?_
        refine h_re (v' := (gV n_5 5 (r_2.1.set (0 + (r_15.1).toNat) (⟨r_21.1, e_35.Time, e_35.Room, e_35.Tags⟩ : Spot)))) 16 rfl (gV_len (by simp)) ?_
        refine h_op (.ref n_5 (0 + (r_15.1).toNat) 0) (wt rfl) rfl ?_
        refine h_far pl43_1 rfl 1 rfl (wt rfl) ?_
        refine h_far pl34_1 rfl 2 rfl (wt rfl) ?_
        obtain ⟨e_37, hy_38, h_13⟩ := bind_some h_13
        refine h_stvg 1 sz3 rfl rfl hy_38 (⟨e_37.Key, (⟨e_37.Time.From, r_24.1⟩ : Window), e_37.Room, e_37.Tags⟩ : Spot) rfl (wt rfl) ?_
        refine h_re (v' := (gV n_5 5 ((r_2.1.set (0 + (r_15.1).toNat) (⟨r_21.1, e_35.Time, e_35.Room, e_35.Tags⟩ : Spot)).set (0 + (r_15.1).toNat) (⟨e_37.Key, (⟨e_37.Time.From, r_24.1⟩ : Window), e_37.Room, e_37.Tags⟩ : Spot)))) 3 rfl (gV_len (by simp)) ?_
        refine h_re (v' := (gV n_5 5 ((r_2.1.set (0 + (r_15.1).toNat) (⟨r_21.1, e_35.Time, e_35.Room, e_35.Tags⟩ : Spot)).set (0 + (r_15.1).toNat) (⟨e_37.Key, (⟨e_37.Time.From, r_24.1⟩ : Window), e_37.Room, e_37.Tags⟩ : Spot)))) 14 rfl (gV_len (by simp)) ?_
        refine h_re (v' := (gV n_5 5 ((r_2.1.set (0 + (r_15.1).toNat) (⟨r_21.1, e_35.Time, e_35.Room, e_35.Tags⟩ : Spot)).set (0 + (r_15.1).toNat) (⟨e_37.Key, (⟨e_37.Time.From, r_24.1⟩ : Window), e_37.Room, e_37.Tags⟩ : Spot)))) 16 rfl (gV_len (by simp)) ?_
        refine h_op (.ref n_5 (0 + (r_15.1).toNat) 0) (wt rfl) rfl ?_
        refine h_far pl43_2 rfl 3 rfl (wt rfl) ?_
        obtain ⟨e_39, hy_40, h_13⟩ := bind_some h_13
        refine h_stvg 1 sz3 rfl rfl hy_40 (⟨e_39.Key, e_39.Time, r_27.1, e_39.Tags⟩ : Spot) rfl (wt rfl) ?_
        refine h_re (v' := (gV n_5 5 (((r_2.1.set (0 + (r_15.1).toNat) (⟨r_21.1, e_35.Time, e_35.Room, e_35.Tags⟩ : Spot)).set (0 + (r_15.1).toNat) (⟨e_37.Key, (⟨e_37.Time.From, r_24.1⟩ : Window), e_37.Room, e_37.Tags⟩ : Spot)).set (0 + (r_15.1).toNat) (⟨e_39.Key, e_39.Time, r_27.1, e_39.Tags⟩ : Spot)))) 3 rfl (gV_len (by simp)) ?_
        refine h_re (v' := (gV n_5 5 (((r_2.1.set (0 + (r_15.1).toNat) (⟨r_21.1, e_35.Time, e_35.Room, e_35.Tags⟩ : Spot)).set (0 + (r_15.1).toNat) (⟨e_37.Key, (⟨e_37.Time.From, r_24.1⟩ : Window), e_37.Room, e_37.Tags⟩ : Spot)).set (0 + (r_15.1).toNat) (⟨e_39.Key, e_39.Time, r_27.1, e_39.Tags⟩ : Spot)))) 14 rfl (gV_len (by simp)) ?_
        refine h_re (v' := (gV n_5 5 (((r_2.1.set (0 + (r_15.1).toNat) (⟨r_21.1, e_35.Time, e_35.Room, e_35.Tags⟩ : Spot)).set (0 + (r_15.1).toNat) (⟨e_37.Key, (⟨e_37.Time.From, r_24.1⟩ : Window), e_37.Room, e_37.Tags⟩ : Spot)).set (0 + (r_15.1).toNat) (⟨e_39.Key, e_39.Time, r_27.1, e_39.Tags⟩ : Spot)))) 16 rfl (gV_len (by simp)) ?_
        refine h_op (.ref n_5 (0 + (r_15.1).toNat) 0) (wt rfl) rfl ?_
        refine h_far pl43_3 rfl 4 rfl (wt rfl) ?_
        obtain ⟨e_41, hy_42, h_13⟩ := bind_some h_13
        refine h_stvg 1 sz35 rfl rfl hy_42 (⟨e_41.Key, e_41.Time, e_41.Room, y_33⟩ : Spot) rfl (wt rfl) ?_
        refine h_re (v' := (gV n_5 5 ((((r_2.1.set (0 + (r_15.1).toNat) (⟨r_21.1, e_35.Time, e_35.Room, e_35.Tags⟩ : Spot)).set (0 + (r_15.1).toNat) (⟨e_37.Key, (⟨e_37.Time.From, r_24.1⟩ : Window), e_37.Room, e_37.Tags⟩ : Spot)).set (0 + (r_15.1).toNat) (⟨e_39.Key, e_39.Time, r_27.1, e_39.Tags⟩ : Spot)).set (0 + (r_15.1).toNat) (⟨e_41.Key, e_41.Time, e_41.Room, y_33⟩ : Spot)))) 3 rfl (gV_len (by simp)) ?_
        refine h_re (v' := (gV n_5 5 ((((r_2.1.set (0 + (r_15.1).toNat) (⟨r_21.1, e_35.Time, e_35.Room, e_35.Tags⟩ : Spot)).set (0 + (r_15.1).toNat) (⟨e_37.Key, (⟨e_37.Time.From, r_24.1⟩ : Window), e_37.Room, e_37.Tags⟩ : Spot)).set (0 + (r_15.1).toNat) (⟨e_39.Key, e_39.Time, r_27.1, e_39.Tags⟩ : Spot)).set (0 + (r_15.1).toNat) (⟨e_41.Key, e_41.Time, e_41.Room, y_33⟩ : Spot)))) 14 rfl (gV_len (by simp)) ?_
        refine h_re (v' := (gV n_5 5 ((((r_2.1.set (0 + (r_15.1).toNat) (⟨r_21.1, e_35.Time, e_35.Room, e_35.Tags⟩ : Spot)).set (0 + (r_15.1).toNat) (⟨e_37.Key, (⟨e_37.Time.From, r_24.1⟩ : Window), e_37.Room, e_37.Tags⟩ : Spot)).set (0 + (r_15.1).toNat) (⟨e_39.Key, e_39.Time, r_27.1, e_39.Tags⟩ : Spot)).set (0 + (r_15.1).toNat) (⟨e_41.Key, e_41.Time, e_41.Room, y_33⟩ : Spot)))) 16 rfl (gV_len (by simp)) ?_
        refine h_nil ?_
        replace h_13 := some_inj h_13
        subst h_13
        exact cut_mk () trivial rfl rfl
      · refine wH_iff rfl hc_14 ?_
        refine wH_skip ?_
        replace h_13 := some_inj h_13
        subst h_13
        exact cut_mk () trivial rfl rfl
    · rintro ⟨⟩ _ sl_ H_ hp_ hq_
      refine wH_at _ hp_ hq_ ?_
      refine wH_seq ?_
      refine wH_region ?_
      refine h_op (gV n_5 5 v_12.1) (wt rfl) rfl ?_
      refine h_op (gV n_5 5 v_12.1) (wt rfl) rfl ?_
      refine h_nil ?_
      refine wH_frozg 1 rfl ?_
      refine wH_cog 2 1 rfl rfl ?_
      refine wH_cog 3 1 rfl rfl ?_
      refine wH_cog 51 1 rfl rfl ?_
      replace hF := some_inj hF
      subst hF
      refine wH_ret ?_
      exact finB (.inr rfl) [(vL Spot.enc v_12.1)] _ [0] [extN 0] rfl (.cons (co_data rfl rfl) (.nil)) (by kernel_rfl) ⟨(by kernel_rfl), trivial⟩ (by decide) (by kernel_rfl)
theorem mk_Stream_RightCampaigns_ok {s_1 : Stream} {most_2 : Int} {r : (List Campaign) × Stream} (hF : mk_Stream_RightCampaigns s_1 most_2 = some r) :
    FnM Try.prog 83 [(.ref (extN 0) 0 0), (vI most_2)] [(.cells 2 [(vL eI s_1.L), (vI s_1.f_at)])] (vL Campaign.enc r.1) [some (.cells 2 [(vL eI r.2.L), (vI r.2.f_at)])] := by
  refine FnM.of_wH ⟨Try.prog, 63, [], []⟩ rfl Try.func83 rfl rfl (Nat.le_of_ble_eq_true rfl) (by kernel_rfl) ?_
  unfold mk_Stream_RightCampaigns at hF
  refine wH_seq ?_
  refine wH_region ?_
  refine h_op .nil (wt rfl) rfl ?_
  refine h_nil ?_
  refine wH_seq ?_
  refine wH_region ?_
  refine h_op .nil (wt rfl) rfl ?_
  refine h_nil ?_
  refine wH_seq ?_
  refine wH_seq ?_
  refine wH_region ?_
  refine h_lit (([(⟨#[99, 97]⟩ : ByteArray), (⟨#[99, 98]⟩ : ByteArray), (⟨#[99, 99]⟩ : ByteArray), (⟨#[99, 100]⟩ : ByteArray)] : List ByteArray).map eS) es35 ez35 rfl rfl rfl rfl rfl (wt rfl) ?_
  refine h_op (vI most_2) (wt rfl) rfl ?_
  obtain ⟨y_3, hy_4, hF⟩ := bind_some hF
  refine h_sublFalseTrue un35 sz9 (fun _ => rfl) rfl rfl hy_4 (wt rfl) ?_
  refine h_len un35 rfl (wt rfl) ?_
  refine h_op (vI 0) (wt rfl) rfl ?_
  refine h_nil ?_
  refine wH_new (fun n_11 => ?_)
  obtain ⟨o_15, hj_16, hF⟩ := bind_some hF
  obtain ⟨hn_9, hj_16⟩ := forL_some hj_16
  refine wH_join (β := ((List Campaign) × (List Int) × Int) × Nm) (fun p => (fun (s_10 : (List Campaign) × (List Int) × Int) (n_12 : Nm) => ([(5, (gV n_12 8 s_10.1))] : List (Nat × V))) p.1 p.2) (fun p => (fun (s_10 : (List Campaign) × (List Int) × Int) (n_12 : Nm) => ([((extN 0), some (.cells 2 [(vL eI s_10.2.1), (vI s_10.2.2)])), (n_12, gB 8 Campaign.enc s_10.1)] : Hp)) p.1 p.2) (fun p => o_15 = .go p.1) ?_ ?_
  · refine wH_block ?_
    refine wH_loop (β := Nat × (List ByteArray) × ((List Campaign) × (List Int) × Int) × Nm) (fun p => (fun (k_5 : Nat) (l_6 : List ByteArray) (s_10 : (List Campaign) × (List Int) × Int) (n_12 : Nm) => ([(0, (.ref (extN 0) 0 0)), (5, (gV n_12 8 s_10.1)), (13, (vL eS y_3)), (14, (vI (y_3.length : Int))), (15, (vI (k_5 : Int)))] : List (Nat × V))) p.1 p.2.1 p.2.2.1 p.2.2.2) (fun p => (fun (k_5 : Nat) (l_6 : List ByteArray) (s_10 : (List Campaign) × (List Int) × Int) (n_12 : Nm) => ([((extN 0), some (.cells 2 [(vL eI s_10.2.1), (vI s_10.2.2)])), (n_12, gB 8 Campaign.enc s_10.1)] : Hp)) p.1 p.2.1 p.2.2.1 p.2.2.2) (fun p => forR (fun k x s => mk_Stream_RightCampaigns_L2 k x s) p.2.1 p.1 p.2.2.1 = some o_15 ∧ (y_3).drop p.1 = p.2.1) (fun p => p.2.1.length) (0, y_3, (([] : List Campaign), s_1.L, s_1.f_at), n_11) ⟨hj_16, rfl⟩ rfl rfl ?_
    rintro ⟨k_5, l_6, s_10, n_12⟩ ⟨hL_14, hD_8⟩
    dsimp only at hL_14 hD_8
    cases l_6 with
    | nil =>
      replace hL_14 := some_inj hL_14
      subst hL_14
      refine wH_seq (wH_region (h_op (vB (decide ((k_5 : Int) < (y_3.length : Int)))) (wt rfl) rfl (h_nil ?_)))
      refine wH_seq (wH_iff rfl (drop_nil hD_8) (wH_exit ?_))
      exact cut_mk (s_10, n_12) rfl rfl rfl
    | cons x_7 l_6 =>
      obtain ⟨c_, hc_13, hL_14⟩ := bind_some hL_14
      refine wH_seq (wH_region (h_op (vB (decide ((k_5 : Int) < (y_3.length : Int)))) (wt rfl) rfl (h_nil ?_)))
      refine wH_seq (wH_ift rfl (drop_cons hD_8) (wH_skip ?_))
      unfold mk_Stream_RightCampaigns_L2 at hc_13
      refine wH_seq ?_
      refine wH_block ?_
      refine wH_seq ?_
      refine wH_region ?_
      refine h_ia es35 rfl rfl (drop_idx hD_8) rfl (wt rfl) ?_
      refine h_ldc sz9 ag9 rfl (vS x_7) rfl (wt rfl) ?_
      refine h_op (vS x_7) (wt rfl) rfl ?_
      refine h_nil ?_
      refine wH_seq ?_
      refine wH_seq ?_
      refine wH_region ?_
      refine h_op (.ref (extN 0) 0 0) (wt rfl) rfl ?_
      obtain ⟨r_17, hr_18, hc_13⟩ := bind_some hc_13
      refine h_calln [0] 0 (mk_Stream_Flip_ok hr_18) rfl hb55 rfl (by kernel_rfl) (by kernel_rfl) (by kernel_rfl) (by kernel_rfl) (by kernel_rfl) (by kernel_rfl) (by kernel_rfl) (by decide) (by kernel_rfl) (by kernel_rfl) (wt rfl) (fun nu_19 => (vB r_17.1)) (fun _ => by kernel_rfl) (fun nu_19 => ([((extN 0), some (.cells 2 [(vL eI r_17.2.L), (vI r_17.2.f_at)])), (n_12, gB 8 Campaign.enc s_10.1)] : Hp)) (fun _ => by kernel_rfl) ?_
      intro nu_19
      refine h_nil ?_
      rcases cond_some hc_13 with ⟨hc_20, hc_13⟩ | ⟨hc_20, hc_13⟩
      · refine wH_ift rfl hc_20 ?_
        refine wH_exit ?_
        refine wH_region ?_
        refine h_opw (w64_next hD_8 hn_9) (wt rfl) rfl ?_
        refine h_op (vI ((k_5 + 1 : Nat) : Int)) (wt rfl) rfl ?_
        refine h_nil ?_
        replace hc_13 := some_inj hc_13
        subst hc_13
        exact loop_mk (k_5 + 1, l_6, (s_10.1, r_17.2.L, r_17.2.f_at), n_12) ⟨hL_14, drop_next hD_8⟩ (Nat.lt_succ_self _) rfl rfl
      · refine wH_iff rfl hc_20 ?_
        refine wH_skip ?_
        refine wH_seq ?_
        refine wH_region ?_
        refine h_op (vS x_7) (wt rfl) rfl ?_
        refine h_op (.ref (extN 0) 0 0) (wt rfl) rfl ?_
        refine h_lit (([(⟨#[]⟩ : ByteArray), (⟨#[]⟩ : ByteArray), (⟨#[99, 97, 114, 115]⟩ : ByteArray), (⟨#[102, 111, 111, 100]⟩ : ByteArray)] : List ByteArray).map eS) es35 ez35 rfl rfl rfl rfl rfl (wt rfl) ?_
        obtain ⟨r_21, hr_22, hc_13⟩ := bind_some hc_13
        refine h_calln [0] 0 (mk_Stream_Some_ok hr_22) rfl hb28 rfl (by kernel_rfl) (by kernel_rfl) (by kernel_rfl) (by kernel_rfl) (by kernel_rfl) (by kernel_rfl) (by kernel_rfl) (by decide) (by kernel_rfl) (by kernel_rfl) (wt rfl) (fun nu_23 => (vS r_21.1)) (fun _ => by kernel_rfl) (fun nu_23 => ([((extN 0), some (.cells 2 [(vL eI r_21.2.L), (vI r_21.2.f_at)])), (n_12, gB 8 Campaign.enc s_10.1)] : Hp)) (fun _ => by kernel_rfl) ?_
        intro nu_23
        refine h_op (.ref (extN 0) 0 0) (wt rfl) rfl ?_
        refine h_lit (([0, 0, 10, 20] : List Int).map eI) es22 ez22 rfl rfl rfl rfl rfl (wt rfl) ?_
        obtain ⟨r_24, hr_25, hc_13⟩ := bind_some hc_13
        refine h_calln [0] 0 (mk_Stream_Pick_ok hr_25) rfl hb29 rfl (by kernel_rfl) (by kernel_rfl) (by kernel_rfl) (by kernel_rfl) (by kernel_rfl) (by kernel_rfl) (by kernel_rfl) (by decide) (by kernel_rfl) (by kernel_rfl) (wt rfl) (fun nu_26 => (vI r_24.1)) (fun _ => by kernel_rfl) (fun nu_26 => ([((extN 0), some (.cells 2 [(vL eI r_24.2.L), (vI r_24.2.f_at)])), (n_12, gB 8 Campaign.enc s_10.1)] : Hp)) (fun _ => by kernel_rfl) ?_
        intro nu_26
        refine h_op (.ref (extN 0) 0 0) (wt rfl) rfl ?_
        refine h_lit (([30, 50, 60, 100] : List Int).map eI) es22 ez22 rfl rfl rfl rfl rfl (wt rfl) ?_
        obtain ⟨r_27, hr_28, hc_13⟩ := bind_some hc_13
        refine h_calln [0] 0 (mk_Stream_Pick_ok hr_28) rfl hb29 rfl (by kernel_rfl) (by kernel_rfl) (by kernel_rfl) (by kernel_rfl) (by kernel_rfl) (by kernel_rfl) (by kernel_rfl) (by decide) (by kernel_rfl) (by kernel_rfl) (wt rfl) (fun nu_29 => (vI r_27.1)) (fun _ => by kernel_rfl) (fun nu_29 => ([((extN 0), some (.cells 2 [(vL eI r_27.2.L), (vI r_27.2.f_at)])), (n_12, gB 8 Campaign.enc s_10.1)] : Hp)) (fun _ => by kernel_rfl) ?_
        intro nu_29
        refine h_op (.d (.agg (Window.enc (⟨r_24.1, r_27.1⟩ : Window)))) (wt rfl) (by kernel_rfl) ?_
        refine h_op (.ref (extN 0) 0 0) (wt rfl) rfl ?_
        refine h_lit (([0, 1, 2, 3, 4, 6] : List Int).map eI) es22 ez22 rfl rfl rfl rfl rfl (wt rfl) ?_
        obtain ⟨r_30, hr_31, hc_13⟩ := bind_some hc_13
        refine h_calln [0] 0 (mk_Stream_Pick_ok hr_31) rfl hb29 rfl (by kernel_rfl) (by kernel_rfl) (by kernel_rfl) (by kernel_rfl) (by kernel_rfl) (by kernel_rfl) (by kernel_rfl) (by decide) (by kernel_rfl) (by kernel_rfl) (wt rfl) (fun nu_32 => (vI r_30.1)) (fun _ => by kernel_rfl) (fun nu_32 => ([((extN 0), some (.cells 2 [(vL eI r_30.2.L), (vI r_30.2.f_at)])), (n_12, gB 8 Campaign.enc s_10.1)] : Hp)) (fun _ => by kernel_rfl) ?_
        intro nu_32
        refine h_op (.ref (extN 0) 0 0) (wt rfl) rfl ?_
        refine h_lit (([0, 1, 2, 3, 9] : List Int).map eI) es22 ez22 rfl rfl rfl rfl rfl (wt rfl) ?_
        obtain ⟨r_33, hr_34, hc_13⟩ := bind_some hc_13
        refine h_calln [0] 0 (mk_Stream_Pick_ok hr_34) rfl hb29 rfl (by kernel_rfl) (by kernel_rfl) (by kernel_rfl) (by kernel_rfl) (by kernel_rfl) (by kernel_rfl) (by kernel_rfl) (by decide) (by kernel_rfl) (by kernel_rfl) (wt rfl) (fun nu_35 => (vI r_33.1)) (fun _ => by kernel_rfl) (fun nu_35 => ([((extN 0), some (.cells 2 [(vL eI r_33.2.L), (vI r_33.2.f_at)])), (n_12, gB 8 Campaign.enc s_10.1)] : Hp)) (fun _ => by kernel_rfl) ?_
        intro nu_35
        refine h_op (.ref (extN 0) 0 0) (wt rfl) rfl ?_
        refine h_lit (([0, 500, 1000, 1500] : List Int).map eI) es22 ez22 rfl rfl rfl rfl rfl (wt rfl) ?_
        obtain ⟨r_36, hr_37, hc_13⟩ := bind_some hc_13
        refine h_calln [0] 0 (mk_Stream_Pick_ok hr_37) rfl hb29 rfl (by kernel_rfl) (by kernel_rfl) (by kernel_rfl) (by kernel_rfl) (by kernel_rfl) (by kernel_rfl) (by kernel_rfl) (by decide) (by kernel_rfl) (by kernel_rfl) (wt rfl) (fun nu_38 => (vI r_36.1)) (fun _ => by kernel_rfl) (fun nu_38 => ([((extN 0), some (.cells 2 [(vL eI r_36.2.L), (vI r_36.2.f_at)])), (n_12, gB 8 Campaign.enc s_10.1)] : Hp)) (fun _ => by kernel_rfl) ?_
        intro nu_38
        refine h_op (.agg [(vS x_7), (vS r_21.1), (vI r_24.1), (vI r_27.1), .nil, (vI r_30.1), (vI r_33.1), (vI r_36.1)]) (wt rfl) (by kernel_rfl) ?_
        refine h_alloc z37 rfl (wt rfl) (fun n_39 => ?_)
        refine h_str 2 sz37 rfl rfl [(vS x_7), (vS r_21.1), (vI r_24.1), (vI r_27.1), .nil, (vI r_30.1), (vI r_33.1), (vI r_36.1)] rfl (wt rfl) ?_
        refine h_nil ?_
        refine wH_seq ?_
        refine wH_seq ?_
        refine wH_region ?_
        refine h_lit (([(⟨#[99, 105, 116, 121]⟩ : ByteArray), (⟨#[109, 97, 108, 108]⟩ : ByteArray)] : List ByteArray).map eS) es35 ez35 rfl rfl rfl rfl rfl (wt rfl) ?_
        refine h_len un35 rfl (wt rfl) ?_
        refine h_op (vI 0) (wt rfl) rfl ?_
        refine h_nil ?_
        refine wH_new (fun n_46 => ?_)
        obtain ⟨o_50, hj_51, hc_13⟩ := bind_some hc_13
        obtain ⟨hn_44, hj_51⟩ := forL_some hj_51
        refine wH_join (β := ((List ByteArray) × (List Int) × Int) × Nm) (fun p => (fun (s_45 : (List ByteArray) × (List Int) × Int) (n_47 : Nm) => ([(0, (.ref (extN 0) 0 0)), (5, (gV n_12 8 s_10.1)), (8, (.ref n_39 0 0)), (13, (vL eS y_3)), (14, (vI (y_3.length : Int))), (15, (vI (k_5 : Int)))] : List (Nat × V))) p.1 p.2) (fun p => (fun (s_45 : (List ByteArray) × (List Int) × Int) (n_47 : Nm) => ([((extN 0), some (.cells 2 [(vL eI s_45.2.1), (vI s_45.2.2)])), (n_12, gB 8 Campaign.enc s_10.1), (n_39, some (.cells 8 [(vS x_7), (vS r_21.1), (vI r_24.1), (vI r_27.1), (gV n_47 1 s_45.1), (vI r_30.1), (vI r_33.1), (vI r_36.1)])), (n_47, gB 1 eS s_45.1)] : Hp)) p.1 p.2) (fun p => o_50 = .go p.1) ?_ ?_
        · refine wH_block ?_
          refine wH_loop (β := Nat × (List ByteArray) × ((List ByteArray) × (List Int) × Int) × Nm) (fun p => (fun (k_40 : Nat) (l_41 : List ByteArray) (s_45 : (List ByteArray) × (List Int) × Int) (n_47 : Nm) => ([(0, (.ref (extN 0) 0 0)), (5, (gV n_12 8 s_10.1)), (8, (.ref n_39 0 0)), (13, (vL eS y_3)), (14, (vI (y_3.length : Int))), (15, (vI (k_5 : Int))), (42, (vL eS ([(⟨#[99, 105, 116, 121]⟩ : ByteArray), (⟨#[109, 97, 108, 108]⟩ : ByteArray)] : List ByteArray))), (43, (vI (([(⟨#[99, 105, 116, 121]⟩ : ByteArray), (⟨#[109, 97, 108, 108]⟩ : ByteArray)] : List ByteArray).length : Int))), (44, (vI (k_40 : Int)))] : List (Nat × V))) p.1 p.2.1 p.2.2.1 p.2.2.2) (fun p => (fun (k_40 : Nat) (l_41 : List ByteArray) (s_45 : (List ByteArray) × (List Int) × Int) (n_47 : Nm) => ([((extN 0), some (.cells 2 [(vL eI s_45.2.1), (vI s_45.2.2)])), (n_12, gB 8 Campaign.enc s_10.1), (n_39, some (.cells 8 [(vS x_7), (vS r_21.1), (vI r_24.1), (vI r_27.1), (gV n_47 1 s_45.1), (vI r_30.1), (vI r_33.1), (vI r_36.1)])), (n_47, gB 1 eS s_45.1)] : Hp)) p.1 p.2.1 p.2.2.1 p.2.2.2) (fun p => forR (fun k x s => mk_Stream_RightCampaigns_L1 k x s) p.2.1 p.1 p.2.2.1 = some o_50 ∧ (([(⟨#[99, 105, 116, 121]⟩ : ByteArray), (⟨#[109, 97, 108, 108]⟩ : ByteArray)] : List ByteArray)).drop p.1 = p.2.1) (fun p => p.2.1.length) (0, ([(⟨#[99, 105, 116, 121]⟩ : ByteArray), (⟨#[109, 97, 108, 108]⟩ : ByteArray)] : List ByteArray), (([] : List ByteArray), r_36.2.L, r_36.2.f_at), n_46) ⟨hj_51, rfl⟩ rfl rfl ?_
          rintro ⟨k_40, l_41, s_45, n_47⟩ ⟨hL_49, hD_43⟩
          dsimp only at hL_49 hD_43
          cases l_41 with
          | nil =>
            replace hL_49 := some_inj hL_49
            subst hL_49
            refine wH_seq (wH_region (h_op (vB (decide ((k_40 : Int) < (([(⟨#[99, 105, 116, 121]⟩ : ByteArray), (⟨#[109, 97, 108, 108]⟩ : ByteArray)] : List ByteArray).length : Int)))) (wt rfl) rfl (h_nil ?_)))
            refine wH_seq (wH_iff rfl (drop_nil hD_43) (wH_exit ?_))
            exact cut_mk (s_45, n_47) rfl rfl rfl
          | cons x_42 l_41 =>
            obtain ⟨c_, hc_48, hL_49⟩ := bind_some hL_49
            refine wH_seq (wH_region (h_op (vB (decide ((k_40 : Int) < (([(⟨#[99, 105, 116, 121]⟩ : ByteArray), (⟨#[109, 97, 108, 108]⟩ : ByteArray)] : List ByteArray).length : Int)))) (wt rfl) rfl (h_nil ?_)))
            refine wH_seq (wH_ift rfl (drop_cons hD_43) (wH_skip ?_))
            unfold mk_Stream_RightCampaigns_L1 at hc_48
            refine wH_seq ?_
            refine wH_block ?_
            refine wH_seq ?_
            refine wH_region ?_
            refine h_ia es35 rfl rfl (drop_idx hD_43) rfl (wt rfl) ?_
            refine h_ldc sz9 ag9 rfl (vS x_42) rfl (wt rfl) ?_
            refine h_op (vS x_42) (wt rfl) rfl ?_
            refine h_nil ?_
            refine wH_seq ?_
            refine wH_region ?_
            refine h_op (.ref (extN 0) 0 0) (wt rfl) rfl ?_
            obtain ⟨r_52, hr_53, hc_48⟩ := bind_some hc_48
            refine h_calln [0] 0 (mk_Stream_Flip_ok hr_53) rfl hb55 rfl (by kernel_rfl) (by kernel_rfl) (by kernel_rfl) (by kernel_rfl) (by kernel_rfl) (by kernel_rfl) (by kernel_rfl) (by decide) (by kernel_rfl) (by kernel_rfl) (wt rfl) (fun nu_54 => (vB r_52.1)) (fun _ => by kernel_rfl) (fun nu_54 => ([((extN 0), some (.cells 2 [(vL eI r_52.2.L), (vI r_52.2.f_at)])), (n_12, gB 8 Campaign.enc s_10.1), (n_39, some (.cells 8 [(vS x_7), (vS r_21.1), (vI r_24.1), (vI r_27.1), (gV n_47 1 s_45.1), (vI r_30.1), (vI r_33.1), (vI r_36.1)])), (n_47, gB 1 eS s_45.1)] : Hp)) (fun _ => by kernel_rfl) ?_
            intro nu_54
            refine h_nil ?_
            obtain ⟨v_55, h_56, hc_48⟩ := bind_some hc_48
            refine wH_join (β := Nm) (fun (n_57 : Nm) => ([(0, (.ref (extN 0) 0 0)), (5, (gV n_12 8 s_10.1)), (8, (.ref n_39 0 0)), (13, (vL eS y_3)), (14, (vI (y_3.length : Int))), (15, (vI (k_5 : Int))), (42, (vL eS ([(⟨#[99, 105, 116, 121]⟩ : ByteArray), (⟨#[109, 97, 108, 108]⟩ : ByteArray)] : List ByteArray))), (43, (vI (([(⟨#[99, 105, 116, 121]⟩ : ByteArray), (⟨#[109, 97, 108, 108]⟩ : ByteArray)] : List ByteArray).length : Int))), (44, (vI (k_40 : Int)))] : List (Nat × V))) (fun (n_57 : Nm) => ([((extN 0), some (.cells 2 [(vL eI r_52.2.L), (vI r_52.2.f_at)])), (n_12, gB 8 Campaign.enc s_10.1), (n_39, some (.cells 8 [(vS x_7), (vS r_21.1), (vI r_24.1), (vI r_27.1), (gV n_57 1 v_55), (vI r_30.1), (vI r_33.1), (vI r_36.1)])), (n_57, gB 1 eS v_55)] : Hp)) (fun _ => True) ?_ ?_
            · rcases cond_some h_56 with ⟨hc_58, h_56⟩ | ⟨hc_58, h_56⟩
              · refine wH_ift rfl hc_58 ?_
                refine wH_region ?_
                refine h_far pl37_3 rfl 4 rfl (wt rfl) ?_
                refine h_ldr 2 sz35 ag35 rfl rfl (gV n_47 1 s_45.1) rfl (wt rfl) ?_
                refine h_op (vS x_42) (wt rfl) rfl ?_
                refine h_lit (([x_42] : List ByteArray).map eS) es35 ez35 rfl rfl rfl rfl rfl (wt rfl) ?_
                obtain ⟨a_59, hz_60, h_56⟩ := bind_some h_56
                refine h_appg (i := 3) el35 el35 sz9 z9 rfl (by decide) by9 (by decide) (fun _ => rfl) rfl rfl rfl hz_60 (wt rfl) (fun n_61 => ?_)
                refine h_far pl37_3 rfl 4 rfl (wt rfl) ?_
                refine h_str 2 sz35 rfl rfl [(vS x_7), (vS r_21.1), (vI r_24.1), (vI r_27.1), (gV n_61 1 a_59), (vI r_30.1), (vI r_33.1), (vI r_36.1)] (stC_g rfl) (wt rfl) ?_
                refine h_nil ?_
                replace h_56 := some_inj h_56
                subst h_56
                exact cut_mk n_61 trivial rfl rfl
              · refine wH_iff rfl hc_58 ?_
                refine wH_skip ?_
                replace h_56 := some_inj h_56
                subst h_56
                exact cut_mk n_47 trivial rfl rfl
            · rintro n_57 _ sl_ H_ hp_ hq_
              refine wH_at _ hp_ hq_ ?_
              refine wH_region ?_
              refine h_opw (w64_next hD_43 hn_44) (wt rfl) rfl ?_
              refine h_op (vI ((k_40 + 1 : Nat) : Int)) (wt rfl) rfl ?_
              refine h_nil ?_
              replace hc_48 := some_inj hc_48
              subst hc_48
              exact loop_mk (k_40 + 1, l_41, (v_55, r_52.2.L, r_52.2.f_at), n_57) ⟨hL_49, drop_next hD_43⟩ (Nat.lt_succ_self _) rfl rfl
        · rintro ⟨s_45, n_47⟩ ho_ sl_ H_ hp_ hq_
          subst ho_
          refine wH_at _ hp_ hq_ ?_
          refine wH_frozg 3 rfl ?_
          refine wH_coc 3 2 [(vS x_7), (vS r_21.1), (vI r_24.1), (vI r_27.1), (vL eS s_45.1), (vI r_30.1), (vI r_33.1), (vI r_36.1)] rfl rfl (fun S hS => cons_eq (rfl) (cons_eq (rfl) (cons_eq (rfl) (cons_eq (rfl) (cons_eq (hS) (cons_eq (rfl) (cons_eq (rfl) (cons_eq (rfl) (rfl))))))))) ?_
          refine wH_region ?_
          refine h_op (gV n_12 8 s_10.1) (wt rfl) rfl ?_
          refine h_ldr 2 sz37 ag37 rfl rfl (.d (.agg (Campaign.enc (⟨x_7, r_21.1, (⟨r_24.1, r_27.1⟩ : Window), s_45.1, r_30.1, r_33.1, r_36.1⟩ : Campaign)))) rfl (wt rfl) ?_
          refine h_lit (([(⟨x_7, r_21.1, (⟨r_24.1, r_27.1⟩ : Window), s_45.1, r_30.1, r_33.1, r_36.1⟩ : Campaign)] : List Campaign).map Campaign.enc) es27 ez27 rfl rfl rfl rfl rfl (wt rfl) ?_
          obtain ⟨a_62, hz_63, hc_13⟩ := bind_some hc_13
          refine h_appg (i := 1) el27 el27 sz37 z37 rfl (by decide) by37 (by decide) (fun _ => rfl) rfl rfl rfl hz_63 (wt rfl) (fun n_64 => ?_)
          refine h_op (gV n_64 8 a_62) (wt rfl) rfl ?_
          refine h_nil ?_
          refine wH_region ?_
          refine h_opw (w64_next hD_8 hn_9) (wt rfl) rfl ?_
          refine h_op (vI ((k_5 + 1 : Nat) : Int)) (wt rfl) rfl ?_
          refine h_nil ?_
          replace hc_13 := some_inj hc_13
          subst hc_13
          exact loop_mk (k_5 + 1, l_6, (a_62, s_45.2.1, s_45.2.2), n_64) ⟨hL_14, drop_next hD_8⟩ (Nat.lt_succ_self _) rfl rfl
  · rintro ⟨s_10, n_12⟩ ho_ sl_ H_ hp_ hq_
    subst ho_
    refine wH_at _ hp_ hq_ ?_
    refine wH_seq ?_
    refine wH_region ?_
    refine h_op (gV n_12 8 s_10.1) (wt rfl) rfl ?_
    refine h_op (gV n_12 8 s_10.1) (wt rfl) rfl ?_
    refine h_nil ?_
    refine wH_frozg 1 rfl ?_
    refine wH_cog 4 1 rfl rfl ?_
    refine wH_cog 5 1 rfl rfl ?_
    refine wH_cog 62 1 rfl rfl ?_
    replace hF := some_inj hF
    subst hF
    refine wH_ret ?_
    exact finB (.inr rfl) [(vL Campaign.enc s_10.1)] _ [0] [extN 0] rfl (.cons (co_data rfl rfl) (.nil)) (by kernel_rfl) ⟨(by kernel_rfl), trivial⟩ (by decide) (by kernel_rfl)
theorem mk_Stream_RightCampaigns_okb {s_1 : Stream} {most_2 : Int} {r : (List Campaign) × Stream} (hF : mk_Stream_RightCampaigns s_1 most_2 = some r) :
    FnM Try.prog 83 [(.ref (extN 0) 0 0), (vI most_2)] [(.cells 2 [(vL eI s_1.L), (vI s_1.f_at)])] (gV (extN 1) 8 r.1) (([(.cells 2 [(vL eI r.2.L), (vI r.2.f_at)])] : List Box).map some ++ gO 8 Campaign.enc r.1) := by
  refine FnM.of_wH ⟨Try.prog, 63, [], []⟩ rfl Try.func83 rfl rfl (Nat.le_of_ble_eq_true rfl) (by kernel_rfl) ?_
  unfold mk_Stream_RightCampaigns at hF
  refine wH_seq ?_
  refine wH_region ?_
  refine h_op .nil (wt rfl) rfl ?_
  refine h_nil ?_
  refine wH_seq ?_
  refine wH_region ?_
  refine h_op .nil (wt rfl) rfl ?_
  refine h_nil ?_
  refine wH_seq ?_
  refine wH_seq ?_
  refine wH_region ?_
  refine h_lit (([(⟨#[99, 97]⟩ : ByteArray), (⟨#[99, 98]⟩ : ByteArray), (⟨#[99, 99]⟩ : ByteArray), (⟨#[99, 100]⟩ : ByteArray)] : List ByteArray).map eS) es35 ez35 rfl rfl rfl rfl rfl (wt rfl) ?_
  refine h_op (vI most_2) (wt rfl) rfl ?_
  obtain ⟨y_3, hy_4, hF⟩ := bind_some hF
  refine h_sublFalseTrue un35 sz9 (fun _ => rfl) rfl rfl hy_4 (wt rfl) ?_
  refine h_len un35 rfl (wt rfl) ?_
  refine h_op (vI 0) (wt rfl) rfl ?_
  refine h_nil ?_
  refine wH_new (fun n_11 => ?_)
  obtain ⟨o_15, hj_16, hF⟩ := bind_some hF
  obtain ⟨hn_9, hj_16⟩ := forL_some hj_16
  refine wH_join (β := ((List Campaign) × (List Int) × Int) × Nm) (fun p => (fun (s_10 : (List Campaign) × (List Int) × Int) (n_12 : Nm) => ([(5, (gV n_12 8 s_10.1))] : List (Nat × V))) p.1 p.2) (fun p => (fun (s_10 : (List Campaign) × (List Int) × Int) (n_12 : Nm) => ([((extN 0), some (.cells 2 [(vL eI s_10.2.1), (vI s_10.2.2)])), (n_12, gB 8 Campaign.enc s_10.1)] : Hp)) p.1 p.2) (fun p => o_15 = .go p.1) ?_ ?_
  · refine wH_block ?_
    refine wH_loop (β := Nat × (List ByteArray) × ((List Campaign) × (List Int) × Int) × Nm) (fun p => (fun (k_5 : Nat) (l_6 : List ByteArray) (s_10 : (List Campaign) × (List Int) × Int) (n_12 : Nm) => ([(0, (.ref (extN 0) 0 0)), (5, (gV n_12 8 s_10.1)), (13, (vL eS y_3)), (14, (vI (y_3.length : Int))), (15, (vI (k_5 : Int)))] : List (Nat × V))) p.1 p.2.1 p.2.2.1 p.2.2.2) (fun p => (fun (k_5 : Nat) (l_6 : List ByteArray) (s_10 : (List Campaign) × (List Int) × Int) (n_12 : Nm) => ([((extN 0), some (.cells 2 [(vL eI s_10.2.1), (vI s_10.2.2)])), (n_12, gB 8 Campaign.enc s_10.1)] : Hp)) p.1 p.2.1 p.2.2.1 p.2.2.2) (fun p => forR (fun k x s => mk_Stream_RightCampaigns_L2 k x s) p.2.1 p.1 p.2.2.1 = some o_15 ∧ (y_3).drop p.1 = p.2.1) (fun p => p.2.1.length) (0, y_3, (([] : List Campaign), s_1.L, s_1.f_at), n_11) ⟨hj_16, rfl⟩ rfl rfl ?_
    rintro ⟨k_5, l_6, s_10, n_12⟩ ⟨hL_14, hD_8⟩
    dsimp only at hL_14 hD_8
    cases l_6 with
    | nil =>
      replace hL_14 := some_inj hL_14
      subst hL_14
      refine wH_seq (wH_region (h_op (vB (decide ((k_5 : Int) < (y_3.length : Int)))) (wt rfl) rfl (h_nil ?_)))
      refine wH_seq (wH_iff rfl (drop_nil hD_8) (wH_exit ?_))
      exact cut_mk (s_10, n_12) rfl rfl rfl
    | cons x_7 l_6 =>
      obtain ⟨c_, hc_13, hL_14⟩ := bind_some hL_14
      refine wH_seq (wH_region (h_op (vB (decide ((k_5 : Int) < (y_3.length : Int)))) (wt rfl) rfl (h_nil ?_)))
      refine wH_seq (wH_ift rfl (drop_cons hD_8) (wH_skip ?_))
      unfold mk_Stream_RightCampaigns_L2 at hc_13
      refine wH_seq ?_
      refine wH_block ?_
      refine wH_seq ?_
      refine wH_region ?_
      refine h_ia es35 rfl rfl (drop_idx hD_8) rfl (wt rfl) ?_
      refine h_ldc sz9 ag9 rfl (vS x_7) rfl (wt rfl) ?_
      refine h_op (vS x_7) (wt rfl) rfl ?_
      refine h_nil ?_
      refine wH_seq ?_
      refine wH_seq ?_
      refine wH_region ?_
      refine h_op (.ref (extN 0) 0 0) (wt rfl) rfl ?_
      obtain ⟨r_17, hr_18, hc_13⟩ := bind_some hc_13
      refine h_calln [0] 0 (mk_Stream_Flip_ok hr_18) rfl hb55 rfl (by kernel_rfl) (by kernel_rfl) (by kernel_rfl) (by kernel_rfl) (by kernel_rfl) (by kernel_rfl) (by kernel_rfl) (by decide) (by kernel_rfl) (by kernel_rfl) (wt rfl) (fun nu_19 => (vB r_17.1)) (fun _ => by kernel_rfl) (fun nu_19 => ([((extN 0), some (.cells 2 [(vL eI r_17.2.L), (vI r_17.2.f_at)])), (n_12, gB 8 Campaign.enc s_10.1)] : Hp)) (fun _ => by kernel_rfl) ?_
      intro nu_19
      refine h_nil ?_
      rcases cond_some hc_13 with ⟨hc_20, hc_13⟩ | ⟨hc_20, hc_13⟩
      · refine wH_ift rfl hc_20 ?_
        refine wH_exit ?_
        refine wH_region ?_
        refine h_opw (w64_next hD_8 hn_9) (wt rfl) rfl ?_
        refine h_op (vI ((k_5 + 1 : Nat) : Int)) (wt rfl) rfl ?_
        refine h_nil ?_
        replace hc_13 := some_inj hc_13
        subst hc_13
        exact loop_mk (k_5 + 1, l_6, (s_10.1, r_17.2.L, r_17.2.f_at), n_12) ⟨hL_14, drop_next hD_8⟩ (Nat.lt_succ_self _) rfl rfl
      · refine wH_iff rfl hc_20 ?_
        refine wH_skip ?_
        refine wH_seq ?_
        refine wH_region ?_
        refine h_op (vS x_7) (wt rfl) rfl ?_
        refine h_op (.ref (extN 0) 0 0) (wt rfl) rfl ?_
        refine h_lit (([(⟨#[]⟩ : ByteArray), (⟨#[]⟩ : ByteArray), (⟨#[99, 97, 114, 115]⟩ : ByteArray), (⟨#[102, 111, 111, 100]⟩ : ByteArray)] : List ByteArray).map eS) es35 ez35 rfl rfl rfl rfl rfl (wt rfl) ?_
        obtain ⟨r_21, hr_22, hc_13⟩ := bind_some hc_13
        refine h_calln [0] 0 (mk_Stream_Some_ok hr_22) rfl hb28 rfl (by kernel_rfl) (by kernel_rfl) (by kernel_rfl) (by kernel_rfl) (by kernel_rfl) (by kernel_rfl) (by kernel_rfl) (by decide) (by kernel_rfl) (by kernel_rfl) (wt rfl) (fun nu_23 => (vS r_21.1)) (fun _ => by kernel_rfl) (fun nu_23 => ([((extN 0), some (.cells 2 [(vL eI r_21.2.L), (vI r_21.2.f_at)])), (n_12, gB 8 Campaign.enc s_10.1)] : Hp)) (fun _ => by kernel_rfl) ?_
        intro nu_23
        refine h_op (.ref (extN 0) 0 0) (wt rfl) rfl ?_
        refine h_lit (([0, 0, 10, 20] : List Int).map eI) es22 ez22 rfl rfl rfl rfl rfl (wt rfl) ?_
        obtain ⟨r_24, hr_25, hc_13⟩ := bind_some hc_13
        refine h_calln [0] 0 (mk_Stream_Pick_ok hr_25) rfl hb29 rfl (by kernel_rfl) (by kernel_rfl) (by kernel_rfl) (by kernel_rfl) (by kernel_rfl) (by kernel_rfl) (by kernel_rfl) (by decide) (by kernel_rfl) (by kernel_rfl) (wt rfl) (fun nu_26 => (vI r_24.1)) (fun _ => by kernel_rfl) (fun nu_26 => ([((extN 0), some (.cells 2 [(vL eI r_24.2.L), (vI r_24.2.f_at)])), (n_12, gB 8 Campaign.enc s_10.1)] : Hp)) (fun _ => by kernel_rfl) ?_
        intro nu_26
        refine h_op (.ref (extN 0) 0 0) (wt rfl) rfl ?_
        refine h_lit (([30, 50, 60, 100] : List Int).map eI) es22 ez22 rfl rfl rfl rfl rfl (wt rfl) ?_
        obtain ⟨r_27, hr_28, hc_13⟩ := bind_some hc_13
        refine h_calln [0] 0 (mk_Stream_Pick_ok hr_28) rfl hb29 rfl (by kernel_rfl) (by kernel_rfl) (by kernel_rfl) (by kernel_rfl) (by kernel_rfl) (by kernel_rfl) (by kernel_rfl) (by decide) (by kernel_rfl) (by kernel_rfl) (wt rfl) (fun nu_29 => (vI r_27.1)) (fun _ => by kernel_rfl) (fun nu_29 => ([((extN 0), some (.cells 2 [(vL eI r_27.2.L), (vI r_27.2.f_at)])), (n_12, gB 8 Campaign.enc s_10.1)] : Hp)) (fun _ => by kernel_rfl) ?_
        intro nu_29
        refine h_op (.d (.agg (Window.enc (⟨r_24.1, r_27.1⟩ : Window)))) (wt rfl) (by kernel_rfl) ?_
        refine h_op (.ref (extN 0) 0 0) (wt rfl) rfl ?_
        refine h_lit (([0, 1, 2, 3, 4, 6] : List Int).map eI) es22 ez22 rfl rfl rfl rfl rfl (wt rfl) ?_
        obtain ⟨r_30, hr_31, hc_13⟩ := bind_some hc_13
        refine h_calln [0] 0 (mk_Stream_Pick_ok hr_31) rfl hb29 rfl (by kernel_rfl) (by kernel_rfl) (by kernel_rfl) (by kernel_rfl) (by kernel_rfl) (by kernel_rfl) (by kernel_rfl) (by decide) (by kernel_rfl) (by kernel_rfl) (wt rfl) (fun nu_32 => (vI r_30.1)) (fun _ => by kernel_rfl) (fun nu_32 => ([((extN 0), some (.cells 2 [(vL eI r_30.2.L), (vI r_30.2.f_at)])), (n_12, gB 8 Campaign.enc s_10.1)] : Hp)) (fun _ => by kernel_rfl) ?_
        intro nu_32
        refine h_op (.ref (extN 0) 0 0) (wt rfl) rfl ?_
        refine h_lit (([0, 1, 2, 3, 9] : List Int).map eI) es22 ez22 rfl rfl rfl rfl rfl (wt rfl) ?_
        obtain ⟨r_33, hr_34, hc_13⟩ := bind_some hc_13
        refine h_calln [0] 0 (mk_Stream_Pick_ok hr_34) rfl hb29 rfl (by kernel_rfl) (by kernel_rfl) (by kernel_rfl) (by kernel_rfl) (by kernel_rfl) (by kernel_rfl) (by kernel_rfl) (by decide) (by kernel_rfl) (by kernel_rfl) (wt rfl) (fun nu_35 => (vI r_33.1)) (fun _ => by kernel_rfl) (fun nu_35 => ([((extN 0), some (.cells 2 [(vL eI r_33.2.L), (vI r_33.2.f_at)])), (n_12, gB 8 Campaign.enc s_10.1)] : Hp)) (fun _ => by kernel_rfl) ?_
        intro nu_35
        refine h_op (.ref (extN 0) 0 0) (wt rfl) rfl ?_
        refine h_lit (([0, 500, 1000, 1500] : List Int).map eI) es22 ez22 rfl rfl rfl rfl rfl (wt rfl) ?_
        obtain ⟨r_36, hr_37, hc_13⟩ := bind_some hc_13
        refine h_calln [0] 0 (mk_Stream_Pick_ok hr_37) rfl hb29 rfl (by kernel_rfl) (by kernel_rfl) (by kernel_rfl) (by kernel_rfl) (by kernel_rfl) (by kernel_rfl) (by kernel_rfl) (by decide) (by kernel_rfl) (by kernel_rfl) (wt rfl) (fun nu_38 => (vI r_36.1)) (fun _ => by kernel_rfl) (fun nu_38 => ([((extN 0), some (.cells 2 [(vL eI r_36.2.L), (vI r_36.2.f_at)])), (n_12, gB 8 Campaign.enc s_10.1)] : Hp)) (fun _ => by kernel_rfl) ?_
        intro nu_38
        refine h_op (.agg [(vS x_7), (vS r_21.1), (vI r_24.1), (vI r_27.1), .nil, (vI r_30.1), (vI r_33.1), (vI r_36.1)]) (wt rfl) (by kernel_rfl) ?_
        refine h_alloc z37 rfl (wt rfl) (fun n_39 => ?_)
        refine h_str 2 sz37 rfl rfl [(vS x_7), (vS r_21.1), (vI r_24.1), (vI r_27.1), .nil, (vI r_30.1), (vI r_33.1), (vI r_36.1)] rfl (wt rfl) ?_
        refine h_nil ?_
        refine wH_seq ?_
        refine wH_seq ?_
        refine wH_region ?_
        refine h_lit (([(⟨#[99, 105, 116, 121]⟩ : ByteArray), (⟨#[109, 97, 108, 108]⟩ : ByteArray)] : List ByteArray).map eS) es35 ez35 rfl rfl rfl rfl rfl (wt rfl) ?_
        refine h_len un35 rfl (wt rfl) ?_
        refine h_op (vI 0) (wt rfl) rfl ?_
        refine h_nil ?_
        refine wH_new (fun n_46 => ?_)
        obtain ⟨o_50, hj_51, hc_13⟩ := bind_some hc_13
        obtain ⟨hn_44, hj_51⟩ := forL_some hj_51
        refine wH_join (β := ((List ByteArray) × (List Int) × Int) × Nm) (fun p => (fun (s_45 : (List ByteArray) × (List Int) × Int) (n_47 : Nm) => ([(0, (.ref (extN 0) 0 0)), (5, (gV n_12 8 s_10.1)), (8, (.ref n_39 0 0)), (13, (vL eS y_3)), (14, (vI (y_3.length : Int))), (15, (vI (k_5 : Int)))] : List (Nat × V))) p.1 p.2) (fun p => (fun (s_45 : (List ByteArray) × (List Int) × Int) (n_47 : Nm) => ([((extN 0), some (.cells 2 [(vL eI s_45.2.1), (vI s_45.2.2)])), (n_12, gB 8 Campaign.enc s_10.1), (n_39, some (.cells 8 [(vS x_7), (vS r_21.1), (vI r_24.1), (vI r_27.1), (gV n_47 1 s_45.1), (vI r_30.1), (vI r_33.1), (vI r_36.1)])), (n_47, gB 1 eS s_45.1)] : Hp)) p.1 p.2) (fun p => o_50 = .go p.1) ?_ ?_
        · refine wH_block ?_
          refine wH_loop (β := Nat × (List ByteArray) × ((List ByteArray) × (List Int) × Int) × Nm) (fun p => (fun (k_40 : Nat) (l_41 : List ByteArray) (s_45 : (List ByteArray) × (List Int) × Int) (n_47 : Nm) => ([(0, (.ref (extN 0) 0 0)), (5, (gV n_12 8 s_10.1)), (8, (.ref n_39 0 0)), (13, (vL eS y_3)), (14, (vI (y_3.length : Int))), (15, (vI (k_5 : Int))), (42, (vL eS ([(⟨#[99, 105, 116, 121]⟩ : ByteArray), (⟨#[109, 97, 108, 108]⟩ : ByteArray)] : List ByteArray))), (43, (vI (([(⟨#[99, 105, 116, 121]⟩ : ByteArray), (⟨#[109, 97, 108, 108]⟩ : ByteArray)] : List ByteArray).length : Int))), (44, (vI (k_40 : Int)))] : List (Nat × V))) p.1 p.2.1 p.2.2.1 p.2.2.2) (fun p => (fun (k_40 : Nat) (l_41 : List ByteArray) (s_45 : (List ByteArray) × (List Int) × Int) (n_47 : Nm) => ([((extN 0), some (.cells 2 [(vL eI s_45.2.1), (vI s_45.2.2)])), (n_12, gB 8 Campaign.enc s_10.1), (n_39, some (.cells 8 [(vS x_7), (vS r_21.1), (vI r_24.1), (vI r_27.1), (gV n_47 1 s_45.1), (vI r_30.1), (vI r_33.1), (vI r_36.1)])), (n_47, gB 1 eS s_45.1)] : Hp)) p.1 p.2.1 p.2.2.1 p.2.2.2) (fun p => forR (fun k x s => mk_Stream_RightCampaigns_L1 k x s) p.2.1 p.1 p.2.2.1 = some o_50 ∧ (([(⟨#[99, 105, 116, 121]⟩ : ByteArray), (⟨#[109, 97, 108, 108]⟩ : ByteArray)] : List ByteArray)).drop p.1 = p.2.1) (fun p => p.2.1.length) (0, ([(⟨#[99, 105, 116, 121]⟩ : ByteArray), (⟨#[109, 97, 108, 108]⟩ : ByteArray)] : List ByteArray), (([] : List ByteArray), r_36.2.L, r_36.2.f_at), n_46) ⟨hj_51, rfl⟩ rfl rfl ?_
          rintro ⟨k_40, l_41, s_45, n_47⟩ ⟨hL_49, hD_43⟩
          dsimp only at hL_49 hD_43
          cases l_41 with
          | nil =>
            replace hL_49 := some_inj hL_49
            subst hL_49
            refine wH_seq (wH_region (h_op (vB (decide ((k_40 : Int) < (([(⟨#[99, 105, 116, 121]⟩ : ByteArray), (⟨#[109, 97, 108, 108]⟩ : ByteArray)] : List ByteArray).length : Int)))) (wt rfl) rfl (h_nil ?_)))
            refine wH_seq (wH_iff rfl (drop_nil hD_43) (wH_exit ?_))
            exact cut_mk (s_45, n_47) rfl rfl rfl
          | cons x_42 l_41 =>
            obtain ⟨c_, hc_48, hL_49⟩ := bind_some hL_49
            refine wH_seq (wH_region (h_op (vB (decide ((k_40 : Int) < (([(⟨#[99, 105, 116, 121]⟩ : ByteArray), (⟨#[109, 97, 108, 108]⟩ : ByteArray)] : List ByteArray).length : Int)))) (wt rfl) rfl (h_nil ?_)))
            refine wH_seq (wH_ift rfl (drop_cons hD_43) (wH_skip ?_))
            unfold mk_Stream_RightCampaigns_L1 at hc_48
            refine wH_seq ?_
            refine wH_block ?_
            refine wH_seq ?_
            refine wH_region ?_
            refine h_ia es35 rfl rfl (drop_idx hD_43) rfl (wt rfl) ?_
            refine h_ldc sz9 ag9 rfl (vS x_42) rfl (wt rfl) ?_
            refine h_op (vS x_42) (wt rfl) rfl ?_
            refine h_nil ?_
            refine wH_seq ?_
            refine wH_region ?_
            refine h_op (.ref (extN 0) 0 0) (wt rfl) rfl ?_
            obtain ⟨r_52, hr_53, hc_48⟩ := bind_some hc_48
            refine h_calln [0] 0 (mk_Stream_Flip_ok hr_53) rfl hb55 rfl (by kernel_rfl) (by kernel_rfl) (by kernel_rfl) (by kernel_rfl) (by kernel_rfl) (by kernel_rfl) (by kernel_rfl) (by decide) (by kernel_rfl) (by kernel_rfl) (wt rfl) (fun nu_54 => (vB r_52.1)) (fun _ => by kernel_rfl) (fun nu_54 => ([((extN 0), some (.cells 2 [(vL eI r_52.2.L), (vI r_52.2.f_at)])), (n_12, gB 8 Campaign.enc s_10.1), (n_39, some (.cells 8 [(vS x_7), (vS r_21.1), (vI r_24.1), (vI r_27.1), (gV n_47 1 s_45.1), (vI r_30.1), (vI r_33.1), (vI r_36.1)])), (n_47, gB 1 eS s_45.1)] : Hp)) (fun _ => by kernel_rfl) ?_
            intro nu_54
            refine h_nil ?_
            obtain ⟨v_55, h_56, hc_48⟩ := bind_some hc_48
            refine wH_join (β := Nm) (fun (n_57 : Nm) => ([(0, (.ref (extN 0) 0 0)), (5, (gV n_12 8 s_10.1)), (8, (.ref n_39 0 0)), (13, (vL eS y_3)), (14, (vI (y_3.length : Int))), (15, (vI (k_5 : Int))), (42, (vL eS ([(⟨#[99, 105, 116, 121]⟩ : ByteArray), (⟨#[109, 97, 108, 108]⟩ : ByteArray)] : List ByteArray))), (43, (vI (([(⟨#[99, 105, 116, 121]⟩ : ByteArray), (⟨#[109, 97, 108, 108]⟩ : ByteArray)] : List ByteArray).length : Int))), (44, (vI (k_40 : Int)))] : List (Nat × V))) (fun (n_57 : Nm) => ([((extN 0), some (.cells 2 [(vL eI r_52.2.L), (vI r_52.2.f_at)])), (n_12, gB 8 Campaign.enc s_10.1), (n_39, some (.cells 8 [(vS x_7), (vS r_21.1), (vI r_24.1), (vI r_27.1), (gV n_57 1 v_55), (vI r_30.1), (vI r_33.1), (vI r_36.1)])), (n_57, gB 1 eS v_55)] : Hp)) (fun _ => True) ?_ ?_
            · rcases cond_some h_56 with ⟨hc_58, h_56⟩ | ⟨hc_58, h_56⟩
              · refine wH_ift rfl hc_58 ?_
                refine wH_region ?_
                refine h_far pl37_3 rfl 4 rfl (wt rfl) ?_
                refine h_ldr 2 sz35 ag35 rfl rfl (gV n_47 1 s_45.1) rfl (wt rfl) ?_
                refine h_op (vS x_42) (wt rfl) rfl ?_
                refine h_lit (([x_42] : List ByteArray).map eS) es35 ez35 rfl rfl rfl rfl rfl (wt rfl) ?_
                obtain ⟨a_59, hz_60, h_56⟩ := bind_some h_56
                refine h_appg (i := 3) el35 el35 sz9 z9 rfl (by decide) by9 (by decide) (fun _ => rfl) rfl rfl rfl hz_60 (wt rfl) (fun n_61 => ?_)
                refine h_far pl37_3 rfl 4 rfl (wt rfl) ?_
                refine h_str 2 sz35 rfl rfl [(vS x_7), (vS r_21.1), (vI r_24.1), (vI r_27.1), (gV n_61 1 a_59), (vI r_30.1), (vI r_33.1), (vI r_36.1)] (stC_g rfl) (wt rfl) ?_
                refine h_nil ?_
                replace h_56 := some_inj h_56
                subst h_56
                exact cut_mk n_61 trivial rfl rfl
              · refine wH_iff rfl hc_58 ?_
                refine wH_skip ?_
                replace h_56 := some_inj h_56
                subst h_56
                exact cut_mk n_47 trivial rfl rfl
            · rintro n_57 _ sl_ H_ hp_ hq_
              refine wH_at _ hp_ hq_ ?_
              refine wH_region ?_
              refine h_opw (w64_next hD_43 hn_44) (wt rfl) rfl ?_
              refine h_op (vI ((k_40 + 1 : Nat) : Int)) (wt rfl) rfl ?_
              refine h_nil ?_
              replace hc_48 := some_inj hc_48
              subst hc_48
              exact loop_mk (k_40 + 1, l_41, (v_55, r_52.2.L, r_52.2.f_at), n_57) ⟨hL_49, drop_next hD_43⟩ (Nat.lt_succ_self _) rfl rfl
        · rintro ⟨s_45, n_47⟩ ho_ sl_ H_ hp_ hq_
          subst ho_
          refine wH_at _ hp_ hq_ ?_
          refine wH_frozg 3 rfl ?_
          refine wH_coc 3 2 [(vS x_7), (vS r_21.1), (vI r_24.1), (vI r_27.1), (vL eS s_45.1), (vI r_30.1), (vI r_33.1), (vI r_36.1)] rfl rfl (fun S hS => cons_eq (rfl) (cons_eq (rfl) (cons_eq (rfl) (cons_eq (rfl) (cons_eq (hS) (cons_eq (rfl) (cons_eq (rfl) (cons_eq (rfl) (rfl))))))))) ?_
          refine wH_region ?_
          refine h_op (gV n_12 8 s_10.1) (wt rfl) rfl ?_
          refine h_ldr 2 sz37 ag37 rfl rfl (.d (.agg (Campaign.enc (⟨x_7, r_21.1, (⟨r_24.1, r_27.1⟩ : Window), s_45.1, r_30.1, r_33.1, r_36.1⟩ : Campaign)))) rfl (wt rfl) ?_
          refine h_lit (([(⟨x_7, r_21.1, (⟨r_24.1, r_27.1⟩ : Window), s_45.1, r_30.1, r_33.1, r_36.1⟩ : Campaign)] : List Campaign).map Campaign.enc) es27 ez27 rfl rfl rfl rfl rfl (wt rfl) ?_
          obtain ⟨a_62, hz_63, hc_13⟩ := bind_some hc_13
          refine h_appg (i := 1) el27 el27 sz37 z37 rfl (by decide) by37 (by decide) (fun _ => rfl) rfl rfl rfl hz_63 (wt rfl) (fun n_64 => ?_)
          refine h_op (gV n_64 8 a_62) (wt rfl) rfl ?_
          refine h_nil ?_
          refine wH_region ?_
          refine h_opw (w64_next hD_8 hn_9) (wt rfl) rfl ?_
          refine h_op (vI ((k_5 + 1 : Nat) : Int)) (wt rfl) rfl ?_
          refine h_nil ?_
          replace hc_13 := some_inj hc_13
          subst hc_13
          exact loop_mk (k_5 + 1, l_6, (a_62, s_45.2.1, s_45.2.2), n_64) ⟨hL_14, drop_next hD_8⟩ (Nat.lt_succ_self _) rfl rfl
  · rintro ⟨s_10, n_12⟩ ho_ sl_ H_ hp_ hq_
    subst ho_
    refine wH_at _ hp_ hq_ ?_
    refine wH_seq ?_
    refine wH_region ?_
    refine h_op (gV n_12 8 s_10.1) (wt rfl) rfl ?_
    refine h_op (gV n_12 8 s_10.1) (wt rfl) rfl ?_
    refine h_nil ?_
    replace hF := some_inj hF
    subst hF
    refine wH_ret ?_
    exact finG (outs := [(.cells 2 [(vL eI s_10.2.1), (vI s_10.2.2)])]) (.inr rfl) 1 rfl rfl rfl (by kernel_rfl) (by kernel_rfl)
theorem mk_Stream_Campaigns_ok {s_1 : Stream} {most_2 : Int} {r : (List Campaign) × Stream} (hF : mk_Stream_Campaigns s_1 most_2 = some r) :
    FnM Try.prog 41 [(.ref (extN 0) 0 0), (vI most_2)] [(.cells 2 [(vL eI s_1.L), (vI s_1.f_at)])] (vL Campaign.enc r.1) [some (.cells 2 [(vL eI r.2.L), (vI r.2.f_at)])] := by
  refine FnM.of_wH ⟨Try.prog, 80, [], []⟩ rfl Try.func41 rfl rfl (Nat.le_of_ble_eq_true rfl) (by kernel_rfl) ?_
  unfold mk_Stream_Campaigns at hF
  refine wH_seq ?_
  refine wH_region ?_
  refine h_op .nil (wt rfl) rfl ?_
  refine h_nil ?_
  refine wH_seq ?_
  refine wH_region ?_
  refine h_op (.ref (extN 0) 0 0) (wt rfl) rfl ?_
  refine h_op (vI most_2) (wt rfl) rfl ?_
  obtain ⟨r_3, hr_4, hF⟩ := bind_some hF
  refine h_callg [0] (mk_Stream_RightCampaigns_okb hr_4) rfl hb83 rfl (by kernel_rfl) (by kernel_rfl) (by kernel_rfl) (by kernel_rfl) (by kernel_rfl) rfl (by decide) (by kernel_rfl) (wt rfl) ([((extN 0), some (.cells 2 [(vL eI r_3.2.L), (vI r_3.2.f_at)]))] : Hp) (fun _ => by kernel_rfl) (fun n_6 => ?_)
  refine h_op (gV n_6 8 r_3.1) (wt rfl) rfl ?_
  refine h_nil ?_
  refine wH_seq ?_
  refine wH_seq ?_
  obtain ⟨v_7, h_8, hF⟩ := bind_some hF
  refine wH_join (β := Unit) (fun _ => ([(0, (.ref (extN 0) 0 0)), (5, (gV n_6 8 r_3.1)), (16, (vB v_7.1))] : List (Nat × V))) (fun _ => ([((extN 0), some (.cells 2 [(vL eI v_7.2.1), (vI v_7.2.2)])), (n_6, gB 8 Campaign.enc r_3.1)] : Hp)) (fun _ => True) ?_ ?_
  · refine wH_region ?_
    refine h_op (gV n_6 8 r_3.1) (wt rfl) rfl ?_
    refine h_leng un27 rfl (wt rfl) ?_
    refine h_op (vB (decide ((r_3.1.length : Int) > 0))) (wt rfl) rfl ?_
    rcases cond_some h_8 with ⟨hc_9, h_8⟩ | ⟨hc_9, h_8⟩
    · refine h_movb rfl hc_9 (wt rfl) ?_
      refine h_op (.ref (extN 0) 0 0) (wg rfl rfl rfl) rfl ?_
      obtain ⟨r_10, hr_11, h_8⟩ := bind_some h_8
      refine h_calln [0] 0 (mk_Stream_Flip_ok hr_11) rfl hb55 rfl (by kernel_rfl) (by kernel_rfl) (by kernel_rfl) (by kernel_rfl) (by kernel_rfl) (by kernel_rfl) (by kernel_rfl) (by decide) (by kernel_rfl) (by kernel_rfl) (wg rfl rfl rfl) (fun nu_12 => (vB r_10.1)) (fun _ => by kernel_rfl) (fun nu_12 => ([((extN 0), some (.cells 2 [(vL eI r_10.2.L), (vI r_10.2.f_at)])), (n_6, gB 8 Campaign.enc r_3.1)] : Hp)) (fun _ => by kernel_rfl) ?_
      intro nu_12
      refine h_op (vB r_10.1) (wt rfl) rfl ?_
      refine h_nil ?_
      replace h_8 := some_inj h_8
      subst h_8
      exact cut_mk () trivial rfl rfl
    · refine h_movb rfl hc_9 (wt rfl) ?_
      refine h_skip (wg rfl rfl rfl) ?_
      refine h_skip (wg rfl rfl rfl) ?_
      refine h_op (vB false) (wt rfl) rfl ?_
      refine h_nil ?_
      replace h_8 := some_inj h_8
      subst h_8
      exact cut_mk () trivial rfl rfl
  · rintro ⟨⟩ _ sl_ H_ hp_ hq_
    refine wH_at _ hp_ hq_ ?_
    obtain ⟨v_13, h_14, hF⟩ := bind_some hF
    refine wH_join (β := Unit) (fun _ => ([(5, (gV n_6 8 v_13.1))] : List (Nat × V))) (fun _ => ([((extN 0), some (.cells 2 [(vL eI v_13.2.1), (vI v_13.2.2)])), (n_6, gB 8 Campaign.enc v_13.1)] : Hp)) (fun _ => True) ?_ ?_
    · rcases cond_some h_14 with ⟨hc_15, h_14⟩ | ⟨hc_15, h_14⟩
      · refine wH_ift rfl hc_15 ?_
        refine wH_seq ?_
        refine wH_region ?_
        refine h_op (gV n_6 8 r_3.1) (wt rfl) rfl ?_
        refine h_op (.ref (extN 0) 0 0) (wt rfl) rfl ?_
        refine h_op (gV n_6 8 r_3.1) (wt rfl) rfl ?_
        refine h_leng un27 rfl (wt rfl) ?_
        obtain ⟨r_16, hr_17, h_14⟩ := bind_some h_14
        refine h_calln [0] 0 (mk_Stream_Next_ok hr_17) rfl hb56 rfl (by kernel_rfl) (by kernel_rfl) (by kernel_rfl) (by kernel_rfl) (by kernel_rfl) (by kernel_rfl) (by kernel_rfl) (by decide) (by kernel_rfl) (by kernel_rfl) (wt rfl) (fun nu_18 => (vI r_16.1)) (fun _ => by kernel_rfl) (fun nu_18 => ([((extN 0), some (.cells 2 [(vL eI r_16.2.L), (vI r_16.2.f_at)])), (n_6, gB 8 Campaign.enc r_3.1)] : Hp)) (fun _ => by kernel_rfl) ?_
        intro nu_18
        obtain ⟨_, hi_19, h_14⟩ := bind_some h_14
        refine h_iavg es27 rfl rfl (inR_0 hi_19) (inR_lt hi_19) (wt rfl) ?_
        refine h_op (.ref n_6 (0 + (r_16.1).toNat) 0) (wt rfl) rfl ?_
        refine h_nil ?_
        refine wH_seq ?_
        refine wH_region ?_
        refine h_op (.ref (extN 0) 0 0) (wt rfl) rfl ?_
        obtain ⟨r_20, hr_21, h_14⟩ := bind_some h_14
        refine h_calln [0] 0 (mk_Stream_Next_ok hr_21) rfl hb56 rfl (by kernel_rfl) (by kernel_rfl) (by kernel_rfl) (by kernel_rfl) (by kernel_rfl) (by kernel_rfl) (by kernel_rfl) (by decide) (by kernel_rfl) (by kernel_rfl) (wt rfl) (fun nu_22 => (vI r_20.1)) (fun _ => by kernel_rfl) (fun nu_22 => ([((extN 0), some (.cells 2 [(vL eI r_20.2.L), (vI r_20.2.f_at)])), (n_6, gB 8 Campaign.enc r_3.1)] : Hp)) (fun _ => by kernel_rfl) ?_
        intro nu_22
        refine h_nil ?_
        refine wH_block ?_
        refine wH_seq ?_
        refine wH_region ?_
        refine h_op (vB (r_20.1 == 0)) (wt rfl) rfl ?_
        refine h_op (vB (r_20.1 == 0)) (wt rfl) rfl ?_
        refine h_nil ?_
        rcases cond_some h_14 with ⟨hc_23, h_14⟩ | ⟨hc_23, h_14⟩
        · refine wH_ift rfl hc_23 ?_
          refine wH_region ?_
          refine h_op (.ref n_6 (0 + (r_16.1).toNat) 0) (wt rfl) rfl ?_
          refine h_op (.ref n_6 (0 + (r_16.1).toNat) 0) (wt rfl) rfl ?_
          refine h_op (.ref (extN 0) 0 0) (wt rfl) rfl ?_
          refine h_op (.ref n_6 (0 + (r_16.1).toNat) 0) (wt rfl) rfl ?_
          refine h_op (.ref n_6 (0 + (r_16.1).toNat) 0) (wt rfl) rfl ?_
          refine h_far pl37_0 rfl 0 rfl (wt rfl) ?_
          obtain ⟨e_24, hy_25, h_14⟩ := bind_some h_14
          refine h_ldvg 1 sz9 ag9 rfl rfl hy_25 (vS e_24.Key) rfl (wt rfl) ?_
          refine h_lit (([e_24.Key, (⟨#[]⟩ : ByteArray), (⟨#[99, 97]⟩ : ByteArray)] : List ByteArray).map eS) es35 ez35 rfl rfl rfl rfl rfl (wt rfl) ?_
          obtain ⟨r_26, hr_27, h_14⟩ := bind_some h_14
          refine h_calln [0] 0 (mk_Stream_Some_ok hr_27) rfl hb28 rfl (by kernel_rfl) (by kernel_rfl) (by kernel_rfl) (by kernel_rfl) (by kernel_rfl) (by kernel_rfl) (by kernel_rfl) (by decide) (by kernel_rfl) (by kernel_rfl) (wt rfl) (fun nu_28 => (vS r_26.1)) (fun _ => by kernel_rfl) (fun nu_28 => ([((extN 0), some (.cells 2 [(vL eI r_26.2.L), (vI r_26.2.f_at)])), (n_6, gB 8 Campaign.enc r_3.1)] : Hp)) (fun _ => by kernel_rfl) ?_
          intro nu_28
          refine h_op (.ref (extN 0) 0 0) (wt rfl) rfl ?_
          refine h_lit (([(⟨#[]⟩ : ByteArray), (⟨#[65]⟩ : ByteArray)] : List ByteArray).map eS) es35 ez35 rfl rfl rfl rfl rfl (wt rfl) ?_
          obtain ⟨r_29, hr_30, h_14⟩ := bind_some h_14
          refine h_calln [0] 0 (mk_Stream_Some_ok hr_30) rfl hb28 rfl (by kernel_rfl) (by kernel_rfl) (by kernel_rfl) (by kernel_rfl) (by kernel_rfl) (by kernel_rfl) (by kernel_rfl) (by decide) (by kernel_rfl) (by kernel_rfl) (wt rfl) (fun nu_31 => (vS r_29.1)) (fun _ => by kernel_rfl) (fun nu_31 => ([((extN 0), some (.cells 2 [(vL eI r_29.2.L), (vI r_29.2.f_at)])), (n_6, gB 8 Campaign.enc r_3.1)] : Hp)) (fun _ => by kernel_rfl) ?_
          intro nu_31
          refine h_op (.ref n_6 (0 + (r_16.1).toNat) 0) (wt rfl) rfl ?_
          refine h_far pl37_0 rfl 0 rfl (wt rfl) ?_
          obtain ⟨e_32, hy_33, h_14⟩ := bind_some h_14
          refine h_stvg 1 sz9 rfl rfl hy_33 (⟨r_26.1, e_32.Class, e_32.Time, e_32.Tags, e_32.Goal, e_32.Most, e_32.Cents⟩ : Campaign) rfl (wt rfl) ?_
          refine h_re (v' := (gV n_6 8 (r_3.1.set (0 + (r_16.1).toNat) (⟨r_26.1, e_32.Class, e_32.Time, e_32.Tags, e_32.Goal, e_32.Most, e_32.Cents⟩ : Campaign)))) 5 rfl (gV_len (by simp)) ?_
          refine h_re (v' := (gV n_6 8 (r_3.1.set (0 + (r_16.1).toNat) (⟨r_26.1, e_32.Class, e_32.Time, e_32.Tags, e_32.Goal, e_32.Most, e_32.Cents⟩ : Campaign)))) 17 rfl (gV_len (by simp)) ?_
          refine h_re (v' := (gV n_6 8 (r_3.1.set (0 + (r_16.1).toNat) (⟨r_26.1, e_32.Class, e_32.Time, e_32.Tags, e_32.Goal, e_32.Most, e_32.Cents⟩ : Campaign)))) 19 rfl (gV_len (by simp)) ?_
          refine h_op (.ref n_6 (0 + (r_16.1).toNat) 0) (wt rfl) rfl ?_
          refine h_far pl37_1 rfl 1 rfl (wt rfl) ?_
          obtain ⟨e_34, hy_35, h_14⟩ := bind_some h_14
          refine h_stvg 1 sz9 rfl rfl hy_35 (⟨e_34.Key, r_29.1, e_34.Time, e_34.Tags, e_34.Goal, e_34.Most, e_34.Cents⟩ : Campaign) rfl (wt rfl) ?_
          refine h_re (v' := (gV n_6 8 ((r_3.1.set (0 + (r_16.1).toNat) (⟨r_26.1, e_32.Class, e_32.Time, e_32.Tags, e_32.Goal, e_32.Most, e_32.Cents⟩ : Campaign)).set (0 + (r_16.1).toNat) (⟨e_34.Key, r_29.1, e_34.Time, e_34.Tags, e_34.Goal, e_34.Most, e_34.Cents⟩ : Campaign)))) 5 rfl (gV_len (by simp)) ?_
          refine h_re (v' := (gV n_6 8 ((r_3.1.set (0 + (r_16.1).toNat) (⟨r_26.1, e_32.Class, e_32.Time, e_32.Tags, e_32.Goal, e_32.Most, e_32.Cents⟩ : Campaign)).set (0 + (r_16.1).toNat) (⟨e_34.Key, r_29.1, e_34.Time, e_34.Tags, e_34.Goal, e_34.Most, e_34.Cents⟩ : Campaign)))) 17 rfl (gV_len (by simp)) ?_
          refine h_re (v' := (gV n_6 8 ((r_3.1.set (0 + (r_16.1).toNat) (⟨r_26.1, e_32.Class, e_32.Time, e_32.Tags, e_32.Goal, e_32.Most, e_32.Cents⟩ : Campaign)).set (0 + (r_16.1).toNat) (⟨e_34.Key, r_29.1, e_34.Time, e_34.Tags, e_34.Goal, e_34.Most, e_34.Cents⟩ : Campaign)))) 19 rfl (gV_len (by simp)) ?_
          refine h_nil ?_
          replace h_14 := some_inj h_14
          subst h_14
          exact cut_mk () trivial rfl rfl
        · refine wH_iff rfl hc_23 ?_
          refine wH_seq ?_
          refine wH_region ?_
          refine h_op (vB (r_20.1 == 1)) (wt rfl) rfl ?_
          refine h_op (vB (r_20.1 == 1)) (wt rfl) rfl ?_
          refine h_nil ?_
          rcases cond_some h_14 with ⟨hc_36, h_14⟩ | ⟨hc_36, h_14⟩
          · refine wH_ift rfl hc_36 ?_
            refine wH_region ?_
            refine h_op (.ref n_6 (0 + (r_16.1).toNat) 0) (wt rfl) rfl ?_
            refine h_op (.ref (extN 0) 0 0) (wt rfl) rfl ?_
            obtain ⟨r_37, hr_38, h_14⟩ := bind_some h_14
            refine h_calln [0] 0 (mk_Stream_Odd_ok hr_38) rfl hb82 rfl (by kernel_rfl) (by kernel_rfl) (by kernel_rfl) (by kernel_rfl) (by kernel_rfl) (by kernel_rfl) (by kernel_rfl) (by decide) (by kernel_rfl) (by kernel_rfl) (wt rfl) (fun nu_39 => (vI r_37.1)) (fun _ => by kernel_rfl) (fun nu_39 => ([((extN 0), some (.cells 2 [(vL eI r_37.2.L), (vI r_37.2.f_at)])), (n_6, gB 8 Campaign.enc r_3.1)] : Hp)) (fun _ => by kernel_rfl) ?_
            intro nu_39
            refine h_op (.ref n_6 (0 + (r_16.1).toNat) 0) (wt rfl) rfl ?_
            refine h_far pl37_2 rfl 2 rfl (wt rfl) ?_
            refine h_far pl34_1 rfl 3 rfl (wt rfl) ?_
            obtain ⟨e_40, hy_41, h_14⟩ := bind_some h_14
            refine h_stvg 1 sz3 rfl rfl hy_41 (⟨e_40.Key, e_40.Class, (⟨e_40.Time.From, r_37.1⟩ : Window), e_40.Tags, e_40.Goal, e_40.Most, e_40.Cents⟩ : Campaign) rfl (wt rfl) ?_
            refine h_re (v' := (gV n_6 8 (r_3.1.set (0 + (r_16.1).toNat) (⟨e_40.Key, e_40.Class, (⟨e_40.Time.From, r_37.1⟩ : Window), e_40.Tags, e_40.Goal, e_40.Most, e_40.Cents⟩ : Campaign)))) 5 rfl (gV_len (by simp)) ?_
            refine h_re (v' := (gV n_6 8 (r_3.1.set (0 + (r_16.1).toNat) (⟨e_40.Key, e_40.Class, (⟨e_40.Time.From, r_37.1⟩ : Window), e_40.Tags, e_40.Goal, e_40.Most, e_40.Cents⟩ : Campaign)))) 17 rfl (gV_len (by simp)) ?_
            refine h_re (v' := (gV n_6 8 (r_3.1.set (0 + (r_16.1).toNat) (⟨e_40.Key, e_40.Class, (⟨e_40.Time.From, r_37.1⟩ : Window), e_40.Tags, e_40.Goal, e_40.Most, e_40.Cents⟩ : Campaign)))) 19 rfl (gV_len (by simp)) ?_
            refine h_nil ?_
            replace h_14 := some_inj h_14
            subst h_14
            exact cut_mk () trivial rfl rfl
          · refine wH_iff rfl hc_36 ?_
            refine wH_seq ?_
            refine wH_region ?_
            refine h_op (vB (r_20.1 == 2)) (wt rfl) rfl ?_
            refine h_op (vB (r_20.1 == 2)) (wt rfl) rfl ?_
            refine h_nil ?_
            rcases cond_some h_14 with ⟨hc_42, h_14⟩ | ⟨hc_42, h_14⟩
            · refine wH_ift rfl hc_42 ?_
              refine wH_region ?_
              refine h_op (.ref n_6 (0 + (r_16.1).toNat) 0) (wt rfl) rfl ?_
              refine h_op (.ref n_6 (0 + (r_16.1).toNat) 0) (wt rfl) rfl ?_
              refine h_op (.ref n_6 (0 + (r_16.1).toNat) 0) (wt rfl) rfl ?_
              refine h_op (.ref (extN 0) 0 0) (wt rfl) rfl ?_
              obtain ⟨r_43, hr_44, h_14⟩ := bind_some h_14
              refine h_calln [0] 0 (mk_Stream_Odd_ok hr_44) rfl hb82 rfl (by kernel_rfl) (by kernel_rfl) (by kernel_rfl) (by kernel_rfl) (by kernel_rfl) (by kernel_rfl) (by kernel_rfl) (by decide) (by kernel_rfl) (by kernel_rfl) (wt rfl) (fun nu_45 => (vI r_43.1)) (fun _ => by kernel_rfl) (fun nu_45 => ([((extN 0), some (.cells 2 [(vL eI r_43.2.L), (vI r_43.2.f_at)])), (n_6, gB 8 Campaign.enc r_3.1)] : Hp)) (fun _ => by kernel_rfl) ?_
              intro nu_45
              refine h_op (.ref (extN 0) 0 0) (wt rfl) rfl ?_
              obtain ⟨r_46, hr_47, h_14⟩ := bind_some h_14
              refine h_calln [0] 0 (mk_Stream_Odd_ok hr_47) rfl hb82 rfl (by kernel_rfl) (by kernel_rfl) (by kernel_rfl) (by kernel_rfl) (by kernel_rfl) (by kernel_rfl) (by kernel_rfl) (by decide) (by kernel_rfl) (by kernel_rfl) (wt rfl) (fun nu_48 => (vI r_46.1)) (fun _ => by kernel_rfl) (fun nu_48 => ([((extN 0), some (.cells 2 [(vL eI r_46.2.L), (vI r_46.2.f_at)])), (n_6, gB 8 Campaign.enc r_3.1)] : Hp)) (fun _ => by kernel_rfl) ?_
              intro nu_48
              refine h_op (.ref (extN 0) 0 0) (wt rfl) rfl ?_
              obtain ⟨r_49, hr_50, h_14⟩ := bind_some h_14
              refine h_calln [0] 0 (mk_Stream_Odd_ok hr_50) rfl hb82 rfl (by kernel_rfl) (by kernel_rfl) (by kernel_rfl) (by kernel_rfl) (by kernel_rfl) (by kernel_rfl) (by kernel_rfl) (by decide) (by kernel_rfl) (by kernel_rfl) (wt rfl) (fun nu_51 => (vI r_49.1)) (fun _ => by kernel_rfl) (fun nu_51 => ([((extN 0), some (.cells 2 [(vL eI r_49.2.L), (vI r_49.2.f_at)])), (n_6, gB 8 Campaign.enc r_3.1)] : Hp)) (fun _ => by kernel_rfl) ?_
              intro nu_51
              refine h_op (.ref n_6 (0 + (r_16.1).toNat) 0) (wt rfl) rfl ?_
              refine h_far pl37_4 rfl 5 rfl (wt rfl) ?_
              obtain ⟨e_52, hy_53, h_14⟩ := bind_some h_14
              refine h_stvg 1 sz3 rfl rfl hy_53 (⟨e_52.Key, e_52.Class, e_52.Time, e_52.Tags, r_43.1, e_52.Most, e_52.Cents⟩ : Campaign) rfl (wt rfl) ?_
              refine h_re (v' := (gV n_6 8 (r_3.1.set (0 + (r_16.1).toNat) (⟨e_52.Key, e_52.Class, e_52.Time, e_52.Tags, r_43.1, e_52.Most, e_52.Cents⟩ : Campaign)))) 5 rfl (gV_len (by simp)) ?_
              refine h_re (v' := (gV n_6 8 (r_3.1.set (0 + (r_16.1).toNat) (⟨e_52.Key, e_52.Class, e_52.Time, e_52.Tags, r_43.1, e_52.Most, e_52.Cents⟩ : Campaign)))) 17 rfl (gV_len (by simp)) ?_
              refine h_re (v' := (gV n_6 8 (r_3.1.set (0 + (r_16.1).toNat) (⟨e_52.Key, e_52.Class, e_52.Time, e_52.Tags, r_43.1, e_52.Most, e_52.Cents⟩ : Campaign)))) 19 rfl (gV_len (by simp)) ?_
              refine h_op (.ref n_6 (0 + (r_16.1).toNat) 0) (wt rfl) rfl ?_
              refine h_far pl37_5 rfl 6 rfl (wt rfl) ?_
              obtain ⟨e_54, hy_55, h_14⟩ := bind_some h_14
              refine h_stvg 1 sz3 rfl rfl hy_55 (⟨e_54.Key, e_54.Class, e_54.Time, e_54.Tags, e_54.Goal, r_46.1, e_54.Cents⟩ : Campaign) rfl (wt rfl) ?_
              refine h_re (v' := (gV n_6 8 ((r_3.1.set (0 + (r_16.1).toNat) (⟨e_52.Key, e_52.Class, e_52.Time, e_52.Tags, r_43.1, e_52.Most, e_52.Cents⟩ : Campaign)).set (0 + (r_16.1).toNat) (⟨e_54.Key, e_54.Class, e_54.Time, e_54.Tags, e_54.Goal, r_46.1, e_54.Cents⟩ : Campaign)))) 5 rfl (gV_len (by simp)) ?_
              refine h_re (v' := (gV n_6 8 ((r_3.1.set (0 + (r_16.1).toNat) (⟨e_52.Key, e_52.Class, e_52.Time, e_52.Tags, r_43.1, e_52.Most, e_52.Cents⟩ : Campaign)).set (0 + (r_16.1).toNat) (⟨e_54.Key, e_54.Class, e_54.Time, e_54.Tags, e_54.Goal, r_46.1, e_54.Cents⟩ : Campaign)))) 17 rfl (gV_len (by simp)) ?_
              refine h_re (v' := (gV n_6 8 ((r_3.1.set (0 + (r_16.1).toNat) (⟨e_52.Key, e_52.Class, e_52.Time, e_52.Tags, r_43.1, e_52.Most, e_52.Cents⟩ : Campaign)).set (0 + (r_16.1).toNat) (⟨e_54.Key, e_54.Class, e_54.Time, e_54.Tags, e_54.Goal, r_46.1, e_54.Cents⟩ : Campaign)))) 19 rfl (gV_len (by simp)) ?_
              refine h_op (.ref n_6 (0 + (r_16.1).toNat) 0) (wt rfl) rfl ?_
              refine h_far pl37_6 rfl 7 rfl (wt rfl) ?_
              obtain ⟨e_56, hy_57, h_14⟩ := bind_some h_14
              refine h_stvg 1 sz3 rfl rfl hy_57 (⟨e_56.Key, e_56.Class, e_56.Time, e_56.Tags, e_56.Goal, e_56.Most, r_49.1⟩ : Campaign) rfl (wt rfl) ?_
              refine h_re (v' := (gV n_6 8 (((r_3.1.set (0 + (r_16.1).toNat) (⟨e_52.Key, e_52.Class, e_52.Time, e_52.Tags, r_43.1, e_52.Most, e_52.Cents⟩ : Campaign)).set (0 + (r_16.1).toNat) (⟨e_54.Key, e_54.Class, e_54.Time, e_54.Tags, e_54.Goal, r_46.1, e_54.Cents⟩ : Campaign)).set (0 + (r_16.1).toNat) (⟨e_56.Key, e_56.Class, e_56.Time, e_56.Tags, e_56.Goal, e_56.Most, r_49.1⟩ : Campaign)))) 5 rfl (gV_len (by simp)) ?_
              refine h_re (v' := (gV n_6 8 (((r_3.1.set (0 + (r_16.1).toNat) (⟨e_52.Key, e_52.Class, e_52.Time, e_52.Tags, r_43.1, e_52.Most, e_52.Cents⟩ : Campaign)).set (0 + (r_16.1).toNat) (⟨e_54.Key, e_54.Class, e_54.Time, e_54.Tags, e_54.Goal, r_46.1, e_54.Cents⟩ : Campaign)).set (0 + (r_16.1).toNat) (⟨e_56.Key, e_56.Class, e_56.Time, e_56.Tags, e_56.Goal, e_56.Most, r_49.1⟩ : Campaign)))) 17 rfl (gV_len (by simp)) ?_
              refine h_re (v' := (gV n_6 8 (((r_3.1.set (0 + (r_16.1).toNat) (⟨e_52.Key, e_52.Class, e_52.Time, e_52.Tags, r_43.1, e_52.Most, e_52.Cents⟩ : Campaign)).set (0 + (r_16.1).toNat) (⟨e_54.Key, e_54.Class, e_54.Time, e_54.Tags, e_54.Goal, r_46.1, e_54.Cents⟩ : Campaign)).set (0 + (r_16.1).toNat) (⟨e_56.Key, e_56.Class, e_56.Time, e_56.Tags, e_56.Goal, e_56.Most, r_49.1⟩ : Campaign)))) 19 rfl (gV_len (by simp)) ?_
              refine h_nil ?_
              replace h_14 := some_inj h_14
              subst h_14
              exact cut_mk () trivial rfl rfl
            · refine wH_iff rfl hc_42 ?_
              refine wH_region ?_
              refine h_op (.ref n_6 (0 + (r_16.1).toNat) 0) (wt rfl) rfl ?_
              refine h_lit (([(⟨#[98]⟩ : ByteArray), (⟨#[97]⟩ : ByteArray)] : List ByteArray).map eS) es35 ez35 rfl rfl rfl rfl rfl (wt rfl) ?_
              refine h_lit (([(⟨#[65]⟩ : ByteArray)] : List ByteArray).map eS) es35 ez35 rfl rfl rfl rfl rfl (wt rfl) ?_
              refine h_lit (([(⟨#[97]⟩ : ByteArray), (⟨#[97]⟩ : ByteArray)] : List ByteArray).map eS) es35 ez35 rfl rfl rfl rfl rfl (wt rfl) ?_
              refine h_lit (([([(⟨#[98]⟩ : ByteArray), (⟨#[97]⟩ : ByteArray)] : List ByteArray), ([(⟨#[65]⟩ : ByteArray)] : List ByteArray), ([(⟨#[97]⟩ : ByteArray), (⟨#[97]⟩ : ByteArray)] : List ByteArray)] : List (List ByteArray)).map (eL eS)) es115 ez115 rfl rfl rfl rfl rfl (wt rfl) ?_
              refine h_op (.ref (extN 0) 0 0) (wt rfl) rfl ?_
              obtain ⟨r_58, hr_59, h_14⟩ := bind_some h_14
              refine h_calln [0] 0 (mk_Stream_Next_ok hr_59) rfl hb56 rfl (by kernel_rfl) (by kernel_rfl) (by kernel_rfl) (by kernel_rfl) (by kernel_rfl) (by kernel_rfl) (by kernel_rfl) (by decide) (by kernel_rfl) (by kernel_rfl) (wt rfl) (fun nu_60 => (vI r_58.1)) (fun _ => by kernel_rfl) (fun nu_60 => ([((extN 0), some (.cells 2 [(vL eI r_58.2.L), (vI r_58.2.f_at)])), (n_6, gB 8 Campaign.enc r_3.1)] : Hp)) (fun _ => by kernel_rfl) ?_
              intro nu_60
              obtain ⟨y_61, hy_62, h_14⟩ := bind_some h_14
              refine h_ia es115 rfl rfl hy_62 rfl (wt rfl) ?_
              refine h_ldc sz35 ag35 rfl (vL eS y_61) rfl (wt rfl) ?_
              refine h_op (.ref n_6 (0 + (r_16.1).toNat) 0) (wt rfl) rfl ?_
              refine h_far pl37_3 rfl 4 rfl (wt rfl) ?_
              obtain ⟨e_63, hy_64, h_14⟩ := bind_some h_14
              refine h_stvg 1 sz35 rfl rfl hy_64 (⟨e_63.Key, e_63.Class, e_63.Time, y_61, e_63.Goal, e_63.Most, e_63.Cents⟩ : Campaign) rfl (wt rfl) ?_
              refine h_re (v' := (gV n_6 8 (r_3.1.set (0 + (r_16.1).toNat) (⟨e_63.Key, e_63.Class, e_63.Time, y_61, e_63.Goal, e_63.Most, e_63.Cents⟩ : Campaign)))) 5 rfl (gV_len (by simp)) ?_
              refine h_re (v' := (gV n_6 8 (r_3.1.set (0 + (r_16.1).toNat) (⟨e_63.Key, e_63.Class, e_63.Time, y_61, e_63.Goal, e_63.Most, e_63.Cents⟩ : Campaign)))) 17 rfl (gV_len (by simp)) ?_
              refine h_re (v' := (gV n_6 8 (r_3.1.set (0 + (r_16.1).toNat) (⟨e_63.Key, e_63.Class, e_63.Time, y_61, e_63.Goal, e_63.Most, e_63.Cents⟩ : Campaign)))) 19 rfl (gV_len (by simp)) ?_
              refine h_nil ?_
              replace h_14 := some_inj h_14
              subst h_14
              exact cut_mk () trivial rfl rfl
      · refine wH_iff rfl hc_15 ?_
        refine wH_skip ?_
        replace h_14 := some_inj h_14
        subst h_14
        exact cut_mk () trivial rfl rfl
    · rintro ⟨⟩ _ sl_ H_ hp_ hq_
      refine wH_at _ hp_ hq_ ?_
      refine wH_seq ?_
      refine wH_region ?_
      refine h_op (gV n_6 8 v_13.1) (wt rfl) rfl ?_
      refine h_op (gV n_6 8 v_13.1) (wt rfl) rfl ?_
      refine h_nil ?_
      refine wH_frozg 1 rfl ?_
      refine wH_cog 4 1 rfl rfl ?_
      refine wH_cog 5 1 rfl rfl ?_
      refine wH_cog 79 1 rfl rfl ?_
      replace hF := some_inj hF
      subst hF
      refine wH_ret ?_
      exact finB (.inr rfl) [(vL Campaign.enc v_13.1)] _ [0] [extN 0] rfl (.cons (co_data rfl rfl) (.nil)) (by kernel_rfl) ⟨(by kernel_rfl), trivial⟩ (by decide) (by kernel_rfl)
theorem ref_in_ok {n_1 : Int} {low_2 : Int} {high_3 : Int} {r : Bool} (hF : ref_in n_1 low_2 high_3 = some r) :
    FnM Try.prog 47 [(vI n_1), (vI low_2), (vI high_3)] [] (vB r) [] := by
  refine FnM.of_wH ⟨Try.prog, 15, [], []⟩ rfl Try.func47 rfl rfl (Nat.le_of_ble_eq_true rfl) (by kernel_rfl) ?_
  unfold ref_in at hF
  refine wH_seq ?_
  refine wH_region ?_
  refine h_op (vB false) (wt rfl) rfl ?_
  refine h_nil ?_
  refine wH_seq ?_
  obtain ⟨v_4, h_5, hF⟩ := bind_some hF
  refine wH_join (β := Unit) (fun _ => ([(6, (vB v_4))] : List (Nat × V))) (fun _ => ([] : Hp)) (fun _ => True) ?_ ?_
  · refine wH_region ?_
    refine h_op (vI low_2) (wt rfl) rfl ?_
    refine h_op (vI n_1) (wt rfl) rfl ?_
    refine h_op (vB (decide (low_2 ≤ n_1))) (wt rfl) rfl ?_
    rcases cond_some h_5 with ⟨hc_6, h_5⟩ | ⟨hc_6, h_5⟩
    · refine h_movb rfl hc_6 (wt rfl) ?_
      refine h_op (vI n_1) (wg rfl rfl rfl) rfl ?_
      refine h_op (vI high_3) (wg rfl rfl rfl) rfl ?_
      refine h_op (vB (decide (n_1 ≤ high_3))) (wg rfl rfl rfl) rfl ?_
      refine h_op (vB (decide (n_1 ≤ high_3))) (wt rfl) rfl ?_
      refine h_op (vB (decide (n_1 ≤ high_3))) (wt rfl) rfl ?_
      refine h_nil ?_
      replace h_5 := some_inj h_5
      subst h_5
      exact cut_mk () trivial rfl rfl
    · refine h_movb rfl hc_6 (wt rfl) ?_
      refine h_skip (wg rfl rfl rfl) ?_
      refine h_skip (wg rfl rfl rfl) ?_
      refine h_skip (wg rfl rfl rfl) ?_
      refine h_op (vB false) (wt rfl) rfl ?_
      refine h_op (vB false) (wt rfl) rfl ?_
      refine h_nil ?_
      replace h_5 := some_inj h_5
      subst h_5
      exact cut_mk () trivial rfl rfl
  · rintro ⟨⟩ _ sl_ H_ hp_ hq_
    refine wH_at _ hp_ hq_ ?_
    replace hF := some_inj hF
    subst hF
    refine wH_ret ?_
    exact fin0 (.inr rfl) [(vB v_4)] rfl rfl rfl rfl
end Go.Proofs.Ytkjnmkompibhgaa.Law
