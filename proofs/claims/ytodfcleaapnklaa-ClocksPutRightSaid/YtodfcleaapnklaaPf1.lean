/-
  The machine computes these plain functions (written by a program of ours).
-/
import Derived.Test.YtodfcleaapnklaaFacts
import Derived.Test.YtodfcleaapnklaaDefs
open Go Go.Eng Go.Proofs
namespace Go.Proofs.Ytodfcleaapnklaa.Law
set_option maxRecDepth 100000
set_option linter.unusedVariables false
set_option maxHeartbeats 1000000
theorem mk_Below_ok {x_1 : Int} {n_2 : Int} {r : Int} (hF : mk_Below x_1 n_2 = some r) :
    FnM Try.prog 147 [(vI x_1), (vI n_2)] [] (vI r) [] := by
  refine FnM.of_wH ⟨Try.prog, 16, [], []⟩ rfl Try.func147 rfl rfl (Nat.le_of_ble_eq_true rfl) (by kernel_rfl) ?_
  unfold mk_Below at hF
  refine wH_seq ?_
  refine wH_region ?_
  refine h_op (vI 0) (wt rfl) rfl ?_
  refine h_nil ?_
  refine wH_seq ?_
  refine wH_seq ?_
  refine wH_region ?_
  refine h_op (vI n_2) (wt rfl) rfl ?_
  refine h_op (vB (decide (n_2 < 1))) (wt rfl) rfl ?_
  refine h_nil ?_
  rcases cond_some hF with ⟨hc_3, hF⟩ | ⟨hc_3, hF⟩
  · refine wH_ift rfl hc_3 ?_
    refine wH_seq ?_
    refine wH_region ?_
    refine h_op (vI 0) (wt rfl) rfl ?_
    refine h_nil ?_
    replace hF := some_inj hF
    subst hF
    refine wH_ret ?_
    exact fin0 (.inr rfl) [(vI 0)] ⟨rfl, trivial⟩ rfl rfl rfl
  · refine wH_iff rfl hc_3 ?_
    refine wH_skip ?_
    refine wH_seq ?_
    refine wH_region ?_
    refine h_op (vI x_1) (wt rfl) rfl ?_
    refine h_op (vI n_2) (wt rfl) rfl ?_
    obtain ⟨q_4, hz_5, hF⟩ := bind_some hF
    refine h_rem rfl rfl hz_5 (wt rfl) ?_
    refine h_op (vI q_4) (wt rfl) rfl ?_
    refine h_nil ?_
    refine wH_seq ?_
    refine wH_seq ?_
    refine wH_region ?_
    refine h_op (vI q_4) (wt rfl) rfl ?_
    refine h_op (vB (decide (q_4 < 0))) (wt rfl) rfl ?_
    refine h_nil ?_
    obtain ⟨v_6, h_7, hF⟩ := bind_some hF
    refine wH_join (β := Unit) (fun _ => ([(0, (vI v_6))] : List (Nat × V))) (fun _ => ([] : Hp)) (fun _ => True) ?_ ?_
    · rcases cond_some h_7 with ⟨hc_8, h_7⟩ | ⟨hc_8, h_7⟩
      · refine wH_ift rfl hc_8 ?_
        refine wH_region ?_
        refine h_op (vI q_4) (wt rfl) rfl ?_
        refine h_op (vI n_2) (wt rfl) rfl ?_
        refine h_op (vI (w64 (q_4 + n_2))) (wt rfl) rfl ?_
        refine h_op (vI (w64 (q_4 + n_2))) (wt rfl) rfl ?_
        refine h_nil ?_
        replace h_7 := some_inj h_7
        subst h_7
        exact cut_mk () trivial rfl rfl
      · refine wH_iff rfl hc_8 ?_
        refine wH_skip ?_
        replace h_7 := some_inj h_7
        subst h_7
        exact cut_mk () trivial rfl rfl
    · rintro ⟨⟩ _ sl_ H_ hp_ hq_
      refine wH_at _ hp_ hq_ ?_
      refine wH_seq ?_
      refine wH_region ?_
      refine h_op (vI v_6) (wt rfl) rfl ?_
      refine h_op (vI v_6) (wt rfl) rfl ?_
      refine h_nil ?_
      replace hF := some_inj hF
      subst hF
      refine wH_ret ?_
      exact fin0 (.inr rfl) [(vI v_6)] ⟨rfl, trivial⟩ rfl rfl rfl
theorem mk_Stream_Next_ok {s_1 : Stream} {n_2 : Int} {r : Int × Stream} (hF : mk_Stream_Next s_1 n_2 = some r) :
    FnM Try.prog 75 [(.ref (extN 0) 0 0), (vI n_2)] [(.cells 2 [(vL eI s_1.L), (vI s_1.f_at)])] (vI r.1) [some (.cells 2 [(vL eI r.2.L), (vI r.2.f_at)])] := by
  refine FnM.of_wH ⟨Try.prog, 64, [], []⟩ rfl Try.func75 rfl rfl (Nat.le_of_ble_eq_true rfl) (by kernel_rfl) ?_
  unfold mk_Stream_Next at hF
  refine wH_seq ?_
  refine wH_region ?_
  refine h_op (vI 0) (wt rfl) rfl ?_
  refine h_nil ?_
  refine wH_seq ?_
  refine wH_region ?_
  refine h_op (.ref (extN 0) 0 0) (wt rfl) rfl ?_
  refine h_op (.ref (extN 0) 0 0) (wt rfl) rfl ?_
  refine h_far pl25_1 rfl 1 rfl (wt rfl) ?_
  refine h_ldr 0 0 (.inl rfl) (fun _ _ _ => trivial) sz3 ag3 rfl rfl (vI s_1.f_at) rfl (wt rfl) ?_
  refine h_op (vI (w64 (s_1.f_at + 1))) (wt rfl) rfl ?_
  refine h_op (.ref (extN 0) 0 0) (wt rfl) rfl ?_
  refine h_far pl25_1 rfl 1 rfl (wt rfl) ?_
  refine h_str 0 (.inl rfl) (fun _ _ _ => trivial) 0 sz3 rfl rfl [(vL eI s_1.L), (vI (w64 (s_1.f_at + 1)))] rfl (wt rfl) ?_
  refine h_nil ?_
  refine wH_seq ?_
  refine wH_seq ?_
  refine wH_region ?_
  refine h_op (.ref (extN 0) 0 0) (wt rfl) rfl ?_
  refine h_op (.ref (extN 0) 0 0) (wt rfl) rfl ?_
  refine h_far pl25_0 rfl 0 rfl (wt rfl) ?_
  refine h_ldr 0 0 (.inl rfl) (fun _ _ _ => trivial) sz22 ag22 rfl rfl (vL eI s_1.L) rfl (wt rfl) ?_
  refine h_len un22 rfl (wt rfl) ?_
  refine h_op (vB ((s_1.L.length : Int) == 0)) (wt rfl) rfl ?_
  refine h_nil ?_
  rcases cond_some hF with ⟨hc_3, hF⟩ | ⟨hc_3, hF⟩
  · refine wH_ift rfl hc_3 ?_
    refine wH_seq ?_
    refine wH_region ?_
    refine h_op (.ref (extN 0) 0 0) (wt rfl) rfl ?_
    refine h_op (.ref (extN 0) 0 0) (wt rfl) rfl ?_
    refine h_far pl25_1 rfl 1 rfl (wt rfl) ?_
    refine h_ldr 0 0 (.inl rfl) (fun _ _ _ => trivial) sz3 ag3 rfl rfl (vI (w64 (s_1.f_at + 1))) rfl (wt rfl) ?_
    refine h_op (vI (w64 ((w64 (s_1.f_at + 1)) * 7919))) (wt rfl) rfl ?_
    refine h_op (vI n_2) (wt rfl) rfl ?_
    obtain ⟨r_4, hr_5, hF⟩ := bind_some hF
    refine h_call0 (mk_Below_ok hr_5) rfl hb147 rfl rfl rfl rfl (wt rfl) ?_
    refine h_op (vI r_4) (wt rfl) rfl ?_
    refine h_nil ?_
    replace hF := some_inj hF
    subst hF
    refine wH_ret ?_
    exact finB (.inr rfl) [(vI r_4)] _ [0] [extN 0] ⟨rfl, trivial⟩ (.cons (co_data rfl rfl) (.nil)) (by kernel_rfl) ⟨(by kernel_rfl), trivial⟩ (by decide) (by kernel_rfl)
  · refine wH_iff rfl hc_3 ?_
    refine wH_skip ?_
    refine wH_seq ?_
    refine wH_draws ?_
    refine h_op (.ref (extN 0) 0 0) (wt rfl) rfl ?_
    refine h_op (.ref (extN 0) 0 0) (wt rfl) rfl ?_
    refine h_far pl25_1 rfl 1 rfl (wt rfl) ?_
    refine h_ldr 3 0 (.inr (by kernel_rfl)) (fun _ _ ag => trivial) sz3 ag3 rfl rfl (vI (w64 (s_1.f_at + 1))) rfl (wt rfl) ?_
    refine h_op (vI (w64 ((w64 (s_1.f_at + 1)) - 1))) (wt rfl) rfl ?_
    refine h_op (.ref (extN 0) 0 0) (wt rfl) rfl ?_
    refine h_op (.ref (extN 0) 0 0) (wt rfl) rfl ?_
    refine h_far pl25_0 rfl 0 rfl (wt rfl) ?_
    refine h_ldr 8 0 (.inr (by kernel_rfl)) (fun _ _ ag => ⟨.inl ⟨rfl, rfl⟩, trivial⟩) sz22 ag22 rfl rfl (vL eI s_1.L) rfl (wt rfl) ?_
    refine h_len un22 rfl (wt rfl) ?_
    obtain ⟨q_6, hz_7, hF⟩ := bind_some hF
    refine h_rem rfl rfl hz_7 (wt rfl) ?_
    refine h_op (vI q_6) (wt rfl) rfl ?_
    refine h_nil ?_
    refine wH_seq ?_
    refine wH_draws ?_
    refine h_op (.ref (extN 0) 0 0) (wt rfl) rfl ?_
    refine h_op (.ref (extN 0) 0 0) (wt rfl) rfl ?_
    refine h_far pl25_1 rfl 1 rfl (wt rfl) ?_
    refine h_ldr 3 0 (.inr (by kernel_rfl)) (fun _ _ ag => trivial) sz3 ag3 rfl rfl (vI (w64 (s_1.f_at + 1))) rfl (wt rfl) ?_
    refine h_op (vI (w64 ((w64 (s_1.f_at + 1)) - 1))) (wt rfl) rfl ?_
    refine h_op (.ref (extN 0) 0 0) (wt rfl) rfl ?_
    refine h_op (.ref (extN 0) 0 0) (wt rfl) rfl ?_
    refine h_far pl25_0 rfl 0 rfl (wt rfl) ?_
    refine h_ldr 8 0 (.inr (by kernel_rfl)) (fun _ _ ag => ⟨.inl ⟨rfl, rfl⟩, trivial⟩) sz22 ag22 rfl rfl (vL eI s_1.L) rfl (wt rfl) ?_
    refine h_len un22 rfl (wt rfl) ?_
    obtain ⟨q_8, hz_9, hF⟩ := bind_some hF
    refine h_quo rfl rfl hz_9 (wt rfl) ?_
    refine h_op (vI q_8) (wt rfl) rfl ?_
    refine h_nil ?_
    refine wH_seq ?_
    refine wH_region ?_
    refine h_op (.ref (extN 0) 0 0) (wt rfl) rfl ?_
    refine h_op (.ref (extN 0) 0 0) (wt rfl) rfl ?_
    refine h_far pl25_0 rfl 0 rfl (wt rfl) ?_
    refine h_ldr 0 0 (.inl rfl) (fun _ _ _ => trivial) sz22 ag22 rfl rfl (vL eI s_1.L) rfl (wt rfl) ?_
    refine h_op (vI q_6) (wt rfl) rfl ?_
    obtain ⟨y_10, hy_11, hF⟩ := bind_some hF
    refine h_ia es22 rfl rfl hy_11 rfl (wt rfl) ?_
    refine h_ldc sz3 ag3 rfl (vI y_10) rfl (wt rfl) ?_
    obtain ⟨r_12, hr_13, hF⟩ := bind_some hF
    refine h_call0 (mk_Below_ok hr_13) rfl hb147 rfl rfl rfl rfl (wt rfl) ?_
    refine h_op (vI q_8) (wt rfl) rfl ?_
    refine h_op (vI q_6) (wt rfl) rfl ?_
    refine h_op (vI (w64 (7919 + q_6))) (wt rfl) rfl ?_
    refine h_op (vI (w64 (q_8 * (w64 (7919 + q_6))))) (wt rfl) rfl ?_
    refine h_op (vI (w64 (r_12 + (w64 (q_8 * (w64 (7919 + q_6))))))) (wt rfl) rfl ?_
    refine h_op (vI n_2) (wt rfl) rfl ?_
    obtain ⟨r_14, hr_15, hF⟩ := bind_some hF
    refine h_call0 (mk_Below_ok hr_15) rfl hb147 rfl rfl rfl rfl (wt rfl) ?_
    refine h_op (vI r_14) (wt rfl) rfl ?_
    refine h_nil ?_
    replace hF := some_inj hF
    subst hF
    refine wH_ret ?_
    exact finB (.inr rfl) [(vI r_14)] _ [0] [extN 0] ⟨rfl, trivial⟩ (.cons (co_data rfl rfl) (.nil)) (by kernel_rfl) ⟨(by kernel_rfl), trivial⟩ (by decide) (by kernel_rfl)
theorem mk_Stream_Range_ok {s_1 : Stream} {low_2 : Int} {high_3 : Int} {r : Int × Stream} (hF : mk_Stream_Range s_1 low_2 high_3 = some r) :
    FnM Try.prog 106 [(.ref (extN 0) 0 0), (vI low_2), (vI high_3)] [(.cells 2 [(vL eI s_1.L), (vI s_1.f_at)])] (vI r.1) [some (.cells 2 [(vL eI r.2.L), (vI r.2.f_at)])] := by
  refine FnM.of_wH ⟨Try.prog, 19, [], []⟩ rfl Try.func106 rfl rfl (Nat.le_of_ble_eq_true rfl) (by kernel_rfl) ?_
  unfold mk_Stream_Range at hF
  refine wH_seq ?_
  refine wH_region ?_
  refine h_op (vI 0) (wt rfl) rfl ?_
  refine h_nil ?_
  refine wH_seq ?_
  refine wH_seq ?_
  refine wH_region ?_
  refine h_op (vI high_3) (wt rfl) rfl ?_
  refine h_op (vI low_2) (wt rfl) rfl ?_
  refine h_op (vB (decide (high_3 < low_2))) (wt rfl) rfl ?_
  refine h_nil ?_
  rcases cond_some hF with ⟨hc_4, hF⟩ | ⟨hc_4, hF⟩
  · refine wH_ift rfl hc_4 ?_
    refine wH_seq ?_
    refine wH_region ?_
    refine h_op (vI low_2) (wt rfl) rfl ?_
    refine h_op (vI low_2) (wt rfl) rfl ?_
    refine h_nil ?_
    replace hF := some_inj hF
    subst hF
    refine wH_ret ?_
    exact finB (.inr rfl) [(vI low_2)] _ [0] [extN 0] ⟨rfl, trivial⟩ (.cons (co_data rfl rfl) (.nil)) (by kernel_rfl) ⟨(by kernel_rfl), trivial⟩ (by decide) (by kernel_rfl)
  · refine wH_iff rfl hc_4 ?_
    refine wH_skip ?_
    refine wH_seq ?_
    refine wH_region ?_
    refine h_op (vI low_2) (wt rfl) rfl ?_
    refine h_op (.ref (extN 0) 0 0) (wt rfl) rfl ?_
    refine h_op (vI high_3) (wt rfl) rfl ?_
    refine h_op (vI low_2) (wt rfl) rfl ?_
    refine h_op (vI (w64 (high_3 - low_2))) (wt rfl) rfl ?_
    refine h_op (vI (w64 ((w64 (high_3 - low_2)) + 1))) (wt rfl) rfl ?_
    obtain ⟨r_5, hr_6, hF⟩ := bind_some hF
    refine h_callq 0 [0] (.inl rfl) (fun _ _ _ => trivial) (mk_Stream_Next_ok hr_6) rfl hb75 rfl (by kernel_rfl) (by kernel_rfl) (by kernel_rfl) (by kernel_rfl) (by kernel_rfl) (by kernel_rfl) (by kernel_rfl) (by decide) (by kernel_rfl) (wt rfl) (vI r_5.1) (by kernel_rfl) ([((extN 0), some (.cells 2 [(vL eI r_5.2.L), (vI r_5.2.f_at)]))] : Hp) (by kernel_rfl) ?_
    refine h_op (vI (w64 (low_2 + r_5.1))) (wt rfl) rfl ?_
    refine h_op (vI (w64 (low_2 + r_5.1))) (wt rfl) rfl ?_
    refine h_nil ?_
    replace hF := some_inj hF
    subst hF
    refine wH_ret ?_
    exact finB (.inr rfl) [(vI (w64 (low_2 + r_5.1)))] _ [0] [extN 0] ⟨rfl, trivial⟩ (.cons (co_data rfl rfl) (.nil)) (by kernel_rfl) ⟨(by kernel_rfl), trivial⟩ (by decide) (by kernel_rfl)
theorem mk_Stream_Pick_ok {s_1 : Stream} {l_2 : (List Int)} {r : Int × Stream} (hF : mk_Stream_Pick s_1 l_2 = some r) :
    FnM Try.prog 10 [(.ref (extN 0) 0 0), (vL eI l_2)] [(.cells 2 [(vL eI s_1.L), (vI s_1.f_at)])] (vI r.1) [some (.cells 2 [(vL eI r.2.L), (vI r.2.f_at)])] := by
  refine FnM.of_wH ⟨Try.prog, 12, [], []⟩ rfl Try.func10 rfl rfl (Nat.le_of_ble_eq_true rfl) (by kernel_rfl) ?_
  unfold mk_Stream_Pick at hF
  refine wH_seq ?_
  refine wH_region ?_
  refine h_op (vI 0) (wt rfl) rfl ?_
  refine h_nil ?_
  refine wH_seq ?_
  refine wH_region ?_
  refine h_op (vL eI l_2) (wt rfl) rfl ?_
  refine h_op (.ref (extN 0) 0 0) (wt rfl) rfl ?_
  refine h_op (vL eI l_2) (wt rfl) rfl ?_
  refine h_len un22 rfl (wt rfl) ?_
  obtain ⟨r_3, hr_4, hF⟩ := bind_some hF
  refine h_callq 0 [0] (.inl rfl) (fun _ _ _ => trivial) (mk_Stream_Next_ok hr_4) rfl hb75 rfl (by kernel_rfl) (by kernel_rfl) (by kernel_rfl) (by kernel_rfl) (by kernel_rfl) (by kernel_rfl) (by kernel_rfl) (by decide) (by kernel_rfl) (wt rfl) (vI r_3.1) (by kernel_rfl) ([((extN 0), some (.cells 2 [(vL eI r_3.2.L), (vI r_3.2.f_at)]))] : Hp) (by kernel_rfl) ?_
  obtain ⟨y_6, hy_7, hF⟩ := bind_some hF
  refine h_ia es22 rfl rfl hy_7 rfl (wt rfl) ?_
  refine h_ldc sz3 ag3 rfl (vI y_6) rfl (wt rfl) ?_
  refine h_op (vI y_6) (wt rfl) rfl ?_
  refine h_nil ?_
  replace hF := some_inj hF
  subst hF
  refine wH_ret ?_
  exact finB (.inr rfl) [(vI y_6)] _ [0] [extN 0] ⟨rfl, trivial⟩ (.cons (co_data rfl rfl) (.nil)) (by kernel_rfl) ⟨(by kernel_rfl), trivial⟩ (by decide) (by kernel_rfl)
theorem mk_Stream_RightBeats_ok {s_1 : Stream} {r : (List Beat) × Stream} (hF : mk_Stream_RightBeats s_1 = some r) :
    FnM Try.prog 74 [(.ref (extN 0) 0 0)] [(.cells 2 [(vL eI s_1.L), (vI s_1.f_at)])] (vL Beat.enc r.1) [some (.cells 2 [(vL eI r.2.L), (vI r.2.f_at)])] := by
  refine FnM.of_wH ⟨Try.prog, 42, [], []⟩ rfl Try.func74 rfl rfl (Nat.le_of_ble_eq_true rfl) (by kernel_rfl) ?_
  unfold mk_Stream_RightBeats at hF
  refine wH_seq ?_
  refine wH_region ?_
  refine h_op .nil (wt rfl) rfl ?_
  refine h_nil ?_
  refine wH_seq ?_
  refine wH_region ?_
  refine h_op .nil (wt rfl) rfl ?_
  refine h_nil ?_
  refine wH_seq ?_
  refine wH_seq ?_
  refine wH_region ?_
  refine h_lit (([(⟨#[112, 97]⟩ : ByteArray), (⟨#[112, 98]⟩ : ByteArray)] : List ByteArray).map eS) es46 ez46 rfl rfl rfl rfl rfl (wt rfl) ?_
  refine h_len un46 rfl (wt rfl) ?_
  refine h_op (vI 0) (wt rfl) rfl ?_
  refine h_nil ?_
  refine wH_new (fun n_8 => ?_)
  obtain ⟨o_13, hj_14, hF⟩ := bind_some hF
  obtain ⟨hn_6, hj_14⟩ := forL_some hj_14
  refine wH_join (β := ((List Beat) × (List Int) × Int) × Nm) (fun p => (fun (s_7 : (List Beat) × (List Int) × Int) (n_10 : Nm) => ([(3, (gV n_10 3 s_7.1))] : List (Nat × V))) p.1 p.2) (fun p => (fun (s_7 : (List Beat) × (List Int) × Int) (n_10 : Nm) => ([((extN 0), some (.cells 2 [(vL eI s_7.2.1), (vI s_7.2.2)])), (n_10, gB 3 Beat.enc s_7.1)] : Hp)) p.1 p.2) (fun p => o_13 = .go p.1) ?_ ?_
  · refine wH_block ?_
    refine wH_loop (β := Nat × (List ByteArray) × ((List Beat) × (List Int) × Int) × Nm) (fun p => (fun (k_2 : Nat) (l_3 : List ByteArray) (s_7 : (List Beat) × (List Int) × Int) (n_10 : Nm) => ([(0, (.ref (extN 0) 0 0)), (3, (gV n_10 3 s_7.1)), (8, (vL eS ([(⟨#[112, 97]⟩ : ByteArray), (⟨#[112, 98]⟩ : ByteArray)] : List ByteArray))), (9, (vI (([(⟨#[112, 97]⟩ : ByteArray), (⟨#[112, 98]⟩ : ByteArray)] : List ByteArray).length : Int))), (10, (vI (k_2 : Int)))] : List (Nat × V))) p.1 p.2.1 p.2.2.1 p.2.2.2) (fun p => (fun (k_2 : Nat) (l_3 : List ByteArray) (s_7 : (List Beat) × (List Int) × Int) (n_10 : Nm) => ([((extN 0), some (.cells 2 [(vL eI s_7.2.1), (vI s_7.2.2)])), (n_10, gB 3 Beat.enc s_7.1)] : Hp)) p.1 p.2.1 p.2.2.1 p.2.2.2) (fun p => forR (fun k x s => mk_Stream_RightBeats_L2 k x s) p.2.1 p.1 p.2.2.1 = some o_13 ∧ (([(⟨#[112, 97]⟩ : ByteArray), (⟨#[112, 98]⟩ : ByteArray)] : List ByteArray)).drop p.1 = p.2.1) (fun p => p.2.1.length) (0, ([(⟨#[112, 97]⟩ : ByteArray), (⟨#[112, 98]⟩ : ByteArray)] : List ByteArray), (([] : List Beat), s_1.L, s_1.f_at), n_8) ⟨hj_14, rfl⟩ rfl rfl ?_
    rintro ⟨k_2, l_3, s_7, n_10⟩ ⟨hL_12, hD_5⟩
    dsimp only at hL_12 hD_5
    cases l_3 with
    | nil =>
      replace hL_12 := some_inj hL_12
      subst hL_12
      refine wH_seq (wH_region (h_op (vB (decide ((k_2 : Int) < (([(⟨#[112, 97]⟩ : ByteArray), (⟨#[112, 98]⟩ : ByteArray)] : List ByteArray).length : Int)))) (wt rfl) rfl (h_nil ?_)))
      refine wH_seq (wH_iff rfl (drop_nil hD_5) (wH_exit ?_))
      exact cut_mk (s_7, n_10) rfl rfl rfl
    | cons x_4 l_3 =>
      obtain ⟨c_, hc_11, hL_12⟩ := bind_some hL_12
      refine wH_seq (wH_region (h_op (vB (decide ((k_2 : Int) < (([(⟨#[112, 97]⟩ : ByteArray), (⟨#[112, 98]⟩ : ByteArray)] : List ByteArray).length : Int)))) (wt rfl) rfl (h_nil ?_)))
      refine wH_seq (wH_ift rfl (drop_cons hD_5) (wH_skip ?_))
      unfold mk_Stream_RightBeats_L2 at hc_11
      refine wH_seq ?_
      refine wH_block ?_
      refine wH_seq ?_
      refine wH_region ?_
      refine h_ia es46 rfl rfl (drop_idx hD_5) rfl (wt rfl) ?_
      refine h_ldc sz9 ag9 rfl (vS x_4) rfl (wt rfl) ?_
      refine h_op (vS x_4) (wt rfl) rfl ?_
      refine h_nil ?_
      refine wH_seq ?_
      refine wH_region ?_
      refine h_op (.ref (extN 0) 0 0) (wt rfl) rfl ?_
      obtain ⟨r_15, hr_16, hc_11⟩ := bind_some hc_11
      refine h_callq 0 [0] (.inl rfl) (fun _ _ _ => trivial) (mk_Stream_Range_ok hr_16) rfl hb106 rfl (by kernel_rfl) (by kernel_rfl) (by kernel_rfl) (by kernel_rfl) (by kernel_rfl) (by kernel_rfl) (by kernel_rfl) (by decide) (by kernel_rfl) (wt rfl) (vI r_15.1) (by kernel_rfl) ([((extN 0), some (.cells 2 [(vL eI r_15.2.L), (vI r_15.2.f_at)])), (n_10, gB 3 Beat.enc s_7.1)] : Hp) (by kernel_rfl) ?_
      refine h_op (.ref (extN 0) 0 0) (wt rfl) rfl ?_
      obtain ⟨r_18, hr_19, hc_11⟩ := bind_some hc_11
      refine h_callq 0 [0] (.inl rfl) (fun _ _ _ => trivial) (mk_Stream_Range_ok hr_19) rfl hb106 rfl (by kernel_rfl) (by kernel_rfl) (by kernel_rfl) (by kernel_rfl) (by kernel_rfl) (by kernel_rfl) (by kernel_rfl) (by decide) (by kernel_rfl) (wt rfl) (vI r_18.1) (by kernel_rfl) ([((extN 0), some (.cells 2 [(vL eI r_18.2.L), (vI r_18.2.f_at)])), (n_10, gB 3 Beat.enc s_7.1)] : Hp) (by kernel_rfl) ?_
      refine h_op (vI r_15.1) (wt rfl) rfl ?_
      refine h_op (vI r_18.1) (wt rfl) rfl ?_
      refine h_nil ?_
      refine wH_seq ?_
      refine wH_region ?_
      refine h_op (.ref (extN 0) 0 0) (wt rfl) rfl ?_
      obtain ⟨r_21, hr_22, hc_11⟩ := bind_some hc_11
      refine h_callq 0 [0] (.inl rfl) (fun _ _ _ => trivial) (mk_Stream_Range_ok hr_22) rfl hb106 rfl (by kernel_rfl) (by kernel_rfl) (by kernel_rfl) (by kernel_rfl) (by kernel_rfl) (by kernel_rfl) (by kernel_rfl) (by decide) (by kernel_rfl) (wt rfl) (vI r_21.1) (by kernel_rfl) ([((extN 0), some (.cells 2 [(vL eI r_21.2.L), (vI r_21.2.f_at)])), (n_10, gB 3 Beat.enc s_7.1)] : Hp) (by kernel_rfl) ?_
      refine h_op (vI 0) (wt rfl) rfl ?_
      refine h_nil ?_
      obtain ⟨o_34, hj_35, hc_11⟩ := bind_some hc_11
      obtain ⟨hn_28, hj_35⟩ := forL_some hj_35
      refine wH_join (β := ((List Beat) × Int × Int × (List Int) × Int) × Nm) (fun p => (fun (s_29 : (List Beat) × Int × Int × (List Int) × Int) (n_31 : Nm) => ([(0, (.ref (extN 0) 0 0)), (3, (gV n_31 3 s_29.1)), (8, (vL eS ([(⟨#[112, 97]⟩ : ByteArray), (⟨#[112, 98]⟩ : ByteArray)] : List ByteArray))), (9, (vI (([(⟨#[112, 97]⟩ : ByteArray), (⟨#[112, 98]⟩ : ByteArray)] : List ByteArray).length : Int))), (10, (vI (k_2 : Int)))] : List (Nat × V))) p.1 p.2) (fun p => (fun (s_29 : (List Beat) × Int × Int × (List Int) × Int) (n_31 : Nm) => ([((extN 0), some (.cells 2 [(vL eI s_29.2.2.2.1), (vI s_29.2.2.2.2)])), (n_31, gB 3 Beat.enc s_29.1)] : Hp)) p.1 p.2) (fun p => o_34 = .go p.1) ?_ ?_
      · refine wH_block ?_
        refine wH_loop (β := Nat × (List Nat) × ((List Beat) × Int × Int × (List Int) × Int) × Nm) (fun p => (fun (k_24 : Nat) (l_25 : List Nat) (s_29 : (List Beat) × Int × Int × (List Int) × Int) (n_31 : Nm) => ([(0, (.ref (extN 0) 0 0)), (3, (gV n_31 3 s_29.1)), (5, (vS x_4)), (6, (vI s_29.2.1)), (7, (vI s_29.2.2.1)), (8, (vL eS ([(⟨#[112, 97]⟩ : ByteArray), (⟨#[112, 98]⟩ : ByteArray)] : List ByteArray))), (9, (vI (([(⟨#[112, 97]⟩ : ByteArray), (⟨#[112, 98]⟩ : ByteArray)] : List ByteArray).length : Int))), (10, (vI (k_2 : Int))), (19, (vI r_21.1)), (20, (vI (k_24 : Int)))] : List (Nat × V))) p.1 p.2.1 p.2.2.1 p.2.2.2) (fun p => (fun (k_24 : Nat) (l_25 : List Nat) (s_29 : (List Beat) × Int × Int × (List Int) × Int) (n_31 : Nm) => ([((extN 0), some (.cells 2 [(vL eI s_29.2.2.2.1), (vI s_29.2.2.2.2)])), (n_31, gB 3 Beat.enc s_29.1)] : Hp)) p.1 p.2.1 p.2.2.1 p.2.2.2) (fun p => forR (fun k x s => mk_Stream_RightBeats_L1 x_4 k x s) p.2.1 p.1 p.2.2.1 = some o_34 ∧ ((List.range (r_21.1).toNat)).drop p.1 = p.2.1) (fun p => p.2.1.length) (0, (List.range (r_21.1).toNat), (s_7.1, r_15.1, r_18.1, r_21.2.L, r_21.2.f_at), n_10) ⟨hj_35, rfl⟩ rfl rfl ?_
        rintro ⟨k_24, l_25, s_29, n_31⟩ ⟨hL_33, hD_27⟩
        dsimp only at hL_33 hD_27
        cases l_25 with
        | nil =>
          replace hL_33 := some_inj hL_33
          subst hL_33
          refine wH_seq (wH_region (h_op (vB (decide ((k_24 : Int) < r_21.1))) (wt rfl) rfl (h_nil ?_)))
          refine wH_seq (wH_iff rfl (range_nil hD_27) (wH_exit ?_))
          exact cut_mk (s_29, n_31) rfl rfl rfl
        | cons x_26 l_25 =>
          obtain ⟨c_, hc_32, hL_33⟩ := bind_some hL_33
          refine wH_seq (wH_region (h_op (vB (decide ((k_24 : Int) < r_21.1))) (wt rfl) rfl (h_nil ?_)))
          refine wH_seq (wH_ift rfl (range_cons hD_27) (wH_skip ?_))
          unfold mk_Stream_RightBeats_L1 at hc_32
          refine wH_seq ?_
          refine wH_block ?_
          refine wH_seq ?_
          refine wH_region ?_
          refine h_op (gV n_31 3 s_29.1) (wt rfl) rfl ?_
          refine h_op (vS x_4) (wt rfl) rfl ?_
          refine h_op (vI s_29.2.1) (wt rfl) rfl ?_
          refine h_op (vI s_29.2.2.1) (wt rfl) rfl ?_
          refine h_op (.d (.agg (Beat.enc (⟨x_4, s_29.2.1, s_29.2.2.1⟩ : Beat)))) (wt rfl) (by kernel_rfl) ?_
          refine h_lit (([(⟨x_4, s_29.2.1, s_29.2.2.1⟩ : Beat)] : List Beat).map Beat.enc) es26 ez26 rfl rfl rfl rfl rfl (wt rfl) ?_
          obtain ⟨a_36, hz_37, hc_32⟩ := bind_some hc_32
          refine h_appg 0 (.inl rfl) (fun _ _ _ => trivial) (i := 1) el26 el26 sz119 z119 rfl (by decide) by119 (by decide) (fun _ => rfl) rfl rfl rfl hz_37 (wt rfl) (fun n_38 => ?_)
          refine h_op (gV n_38 3 a_36) (wt rfl) rfl ?_
          refine h_nil ?_
          refine wH_seq ?_
          refine wH_region ?_
          refine h_op (vI s_29.2.1) (wt rfl) rfl ?_
          refine h_op (.ref (extN 0) 0 0) (wt rfl) rfl ?_
          refine h_lit (([1, 50, 100, 1000, 2678400000] : List Int).map eI) es22 ez22 rfl rfl rfl rfl rfl (wt rfl) ?_
          obtain ⟨r_39, hr_40, hc_32⟩ := bind_some hc_32
          refine h_callq 0 [0] (.inl rfl) (fun _ _ _ => trivial) (mk_Stream_Pick_ok hr_40) rfl hb10 rfl (by kernel_rfl) (by kernel_rfl) (by kernel_rfl) (by kernel_rfl) (by kernel_rfl) (by kernel_rfl) (by kernel_rfl) (by decide) (by kernel_rfl) (wt rfl) (vI r_39.1) (by kernel_rfl) ([((extN 0), some (.cells 2 [(vL eI r_39.2.L), (vI r_39.2.f_at)])), (n_38, gB 3 Beat.enc a_36)] : Hp) (by kernel_rfl) ?_
          refine h_op (vI (w64 (s_29.2.1 + r_39.1))) (wt rfl) rfl ?_
          refine h_op (vI (w64 (s_29.2.1 + r_39.1))) (wt rfl) rfl ?_
          refine h_nil ?_
          refine wH_region ?_
          refine h_op (vI s_29.2.2.1) (wt rfl) rfl ?_
          refine h_op (.ref (extN 0) 0 0) (wt rfl) rfl ?_
          refine h_lit (([1, 40, 100, 1300, 2592000000] : List Int).map eI) es22 ez22 rfl rfl rfl rfl rfl (wt rfl) ?_
          obtain ⟨r_42, hr_43, hc_32⟩ := bind_some hc_32
          refine h_callq 0 [0] (.inl rfl) (fun _ _ _ => trivial) (mk_Stream_Pick_ok hr_43) rfl hb10 rfl (by kernel_rfl) (by kernel_rfl) (by kernel_rfl) (by kernel_rfl) (by kernel_rfl) (by kernel_rfl) (by kernel_rfl) (by decide) (by kernel_rfl) (wt rfl) (vI r_42.1) (by kernel_rfl) ([((extN 0), some (.cells 2 [(vL eI r_42.2.L), (vI r_42.2.f_at)])), (n_38, gB 3 Beat.enc a_36)] : Hp) (by kernel_rfl) ?_
          refine h_op (vI (w64 (s_29.2.2.1 + r_42.1))) (wt rfl) rfl ?_
          refine h_op (vI (w64 (s_29.2.2.1 + r_42.1))) (wt rfl) rfl ?_
          refine h_nil ?_
          refine wH_region ?_
          refine h_opw (w64_nextr hD_27 hn_28) (wt rfl) rfl ?_
          refine h_op (vI ((k_24 + 1 : Nat) : Int)) (wt rfl) rfl ?_
          refine h_nil ?_
          replace hc_32 := some_inj hc_32
          subst hc_32
          exact loop_mk (k_24 + 1, l_25, (a_36, (w64 (s_29.2.1 + r_39.1)), (w64 (s_29.2.2.1 + r_42.1)), r_42.2.L, r_42.2.f_at), n_38) ⟨hL_33, drop_next hD_27⟩ (Nat.lt_succ_self _) rfl rfl
      · rintro ⟨s_29, n_31⟩ ho_ sl_ H_ hp_ hq_
        subst ho_
        refine wH_at _ hp_ hq_ ?_
        refine wH_region ?_
        refine h_opw (w64_next hD_5 hn_6) (wt rfl) rfl ?_
        refine h_op (vI ((k_2 + 1 : Nat) : Int)) (wt rfl) rfl ?_
        refine h_nil ?_
        replace hc_11 := some_inj hc_11
        subst hc_11
        exact loop_mk (k_2 + 1, l_3, (s_29.1, s_29.2.2.2.1, s_29.2.2.2.2), n_31) ⟨hL_12, drop_next hD_5⟩ (Nat.lt_succ_self _) rfl rfl
  · rintro ⟨s_7, n_10⟩ ho_ sl_ H_ hp_ hq_
    subst ho_
    refine wH_at _ hp_ hq_ ?_
    refine wH_seq ?_
    refine wH_region ?_
    refine h_op (gV n_10 3 s_7.1) (wt rfl) rfl ?_
    refine h_op (gV n_10 3 s_7.1) (wt rfl) rfl ?_
    refine h_nil ?_
    refine wH_frozg 1 rfl ?_
    refine wH_cog 2 1 rfl rfl ?_
    refine wH_cog 3 1 rfl rfl ?_
    refine wH_cog 41 1 rfl rfl ?_
    replace hF := some_inj hF
    subst hF
    refine wH_ret ?_
    exact finB (.inr rfl) [(vL Beat.enc s_7.1)] _ [0] [extN 0] ⟨rfl, trivial⟩ (.cons (co_data rfl rfl) (.nil)) (by kernel_rfl) ⟨(by kernel_rfl), trivial⟩ (by decide) (by kernel_rfl)
theorem mk_Stream_Flip_ok {s_1 : Stream} {n_2 : Int} {r : Bool × Stream} (hF : mk_Stream_Flip s_1 n_2 = some r) :
    FnM Try.prog 37 [(.ref (extN 0) 0 0), (vI n_2)] [(.cells 2 [(vL eI s_1.L), (vI s_1.f_at)])] (vB r.1) [some (.cells 2 [(vL eI r.2.L), (vI r.2.f_at)])] := by
  refine FnM.of_wH ⟨Try.prog, 9, [], []⟩ rfl Try.func37 rfl rfl (Nat.le_of_ble_eq_true rfl) (by kernel_rfl) ?_
  unfold mk_Stream_Flip at hF
  refine wH_seq ?_
  refine wH_region ?_
  refine h_op (vB false) (wt rfl) rfl ?_
  refine h_nil ?_
  refine wH_seq ?_
  refine wH_region ?_
  refine h_op (.ref (extN 0) 0 0) (wt rfl) rfl ?_
  refine h_op (vI n_2) (wt rfl) rfl ?_
  obtain ⟨r_3, hr_4, hF⟩ := bind_some hF
  refine h_callq 0 [0] (.inl rfl) (fun _ _ _ => trivial) (mk_Stream_Next_ok hr_4) rfl hb75 rfl (by kernel_rfl) (by kernel_rfl) (by kernel_rfl) (by kernel_rfl) (by kernel_rfl) (by kernel_rfl) (by kernel_rfl) (by decide) (by kernel_rfl) (wt rfl) (vI r_3.1) (by kernel_rfl) ([((extN 0), some (.cells 2 [(vL eI r_3.2.L), (vI r_3.2.f_at)]))] : Hp) (by kernel_rfl) ?_
  refine h_op (vB (r_3.1 == 0)) (wt rfl) rfl ?_
  refine h_op (vB (r_3.1 == 0)) (wt rfl) rfl ?_
  refine h_nil ?_
  replace hF := some_inj hF
  subst hF
  refine wH_ret ?_
  exact finB (.inr rfl) [(vB (r_3.1 == 0))] _ [0] [extN 0] ⟨rfl, trivial⟩ (.cons (co_data rfl rfl) (.nil)) (by kernel_rfl) ⟨(by kernel_rfl), trivial⟩ (by decide) (by kernel_rfl)
theorem mk_Stream_Some_ok {s_1 : Stream} {l_2 : (List ByteArray)} {r : ByteArray × Stream} (hF : mk_Stream_Some s_1 l_2 = some r) :
    FnM Try.prog 9 [(.ref (extN 0) 0 0), (vL eS l_2)] [(.cells 2 [(vL eI s_1.L), (vI s_1.f_at)])] (vS r.1) [some (.cells 2 [(vL eI r.2.L), (vI r.2.f_at)])] := by
  refine FnM.of_wH ⟨Try.prog, 12, [], []⟩ rfl Try.func9 rfl rfl (Nat.le_of_ble_eq_true rfl) (by kernel_rfl) ?_
  unfold mk_Stream_Some at hF
  refine wH_seq ?_
  refine wH_region ?_
  refine h_op (vS (⟨#[]⟩ : ByteArray)) (wt rfl) rfl ?_
  refine h_nil ?_
  refine wH_seq ?_
  refine wH_region ?_
  refine h_op (vL eS l_2) (wt rfl) rfl ?_
  refine h_op (.ref (extN 0) 0 0) (wt rfl) rfl ?_
  refine h_op (vL eS l_2) (wt rfl) rfl ?_
  refine h_len un46 rfl (wt rfl) ?_
  obtain ⟨r_3, hr_4, hF⟩ := bind_some hF
  refine h_callq 0 [0] (.inl rfl) (fun _ _ _ => trivial) (mk_Stream_Next_ok hr_4) rfl hb75 rfl (by kernel_rfl) (by kernel_rfl) (by kernel_rfl) (by kernel_rfl) (by kernel_rfl) (by kernel_rfl) (by kernel_rfl) (by decide) (by kernel_rfl) (wt rfl) (vI r_3.1) (by kernel_rfl) ([((extN 0), some (.cells 2 [(vL eI r_3.2.L), (vI r_3.2.f_at)]))] : Hp) (by kernel_rfl) ?_
  obtain ⟨y_6, hy_7, hF⟩ := bind_some hF
  refine h_ia es46 rfl rfl hy_7 rfl (wt rfl) ?_
  refine h_ldc sz9 ag9 rfl (vS y_6) rfl (wt rfl) ?_
  refine h_op (vS y_6) (wt rfl) rfl ?_
  refine h_nil ?_
  replace hF := some_inj hF
  subst hF
  refine wH_ret ?_
  exact finB (.inr rfl) [(vS y_6)] _ [0] [extN 0] ⟨rfl, trivial⟩ (.cons (co_data rfl rfl) (.nil)) (by kernel_rfl) ⟨(by kernel_rfl), trivial⟩ (by decide) (by kernel_rfl)
theorem mk_Stream_Odd_ok {s_1 : Stream} {low_2 : Int} {high_3 : Int} {r : Int × Stream} (hF : mk_Stream_Odd s_1 low_2 high_3 = some r) :
    FnM Try.prog 38 [(.ref (extN 0) 0 0), (vI low_2), (vI high_3)] [(.cells 2 [(vL eI s_1.L), (vI s_1.f_at)])] (vI r.1) [some (.cells 2 [(vL eI r.2.L), (vI r.2.f_at)])] := by
  refine FnM.of_wH ⟨Try.prog, 22, [], []⟩ rfl Try.func38 rfl rfl (Nat.le_of_ble_eq_true rfl) (by kernel_rfl) ?_
  unfold mk_Stream_Odd at hF
  refine wH_seq ?_
  refine wH_region ?_
  refine h_op (vI 0) (wt rfl) rfl ?_
  refine h_nil ?_
  refine wH_seq ?_
  refine wH_seq ?_
  refine wH_region ?_
  refine h_op (.ref (extN 0) 0 0) (wt rfl) rfl ?_
  obtain ⟨r_4, hr_5, hF⟩ := bind_some hF
  refine h_callq 0 [0] (.inl rfl) (fun _ _ _ => trivial) (mk_Stream_Flip_ok hr_5) rfl hb37 rfl (by kernel_rfl) (by kernel_rfl) (by kernel_rfl) (by kernel_rfl) (by kernel_rfl) (by kernel_rfl) (by kernel_rfl) (by decide) (by kernel_rfl) (wt rfl) (vB r_4.1) (by kernel_rfl) ([((extN 0), some (.cells 2 [(vL eI r_4.2.L), (vI r_4.2.f_at)]))] : Hp) (by kernel_rfl) ?_
  refine h_nil ?_
  rcases cond_some hF with ⟨hc_7, hF⟩ | ⟨hc_7, hF⟩
  · refine wH_ift rfl hc_7 ?_
    refine wH_seq ?_
    refine wH_region ?_
    refine h_op (.ref (extN 0) 0 0) (wt rfl) rfl ?_
    refine h_op (vI low_2) (wt rfl) rfl ?_
    refine h_op (vI (w64 (low_2 - 1))) (wt rfl) rfl ?_
    refine h_op (vI high_3) (wt rfl) rfl ?_
    refine h_op (vI (w64 (high_3 + 1))) (wt rfl) rfl ?_
    refine h_op (vI low_2) (wt rfl) rfl ?_
    refine h_op (vI high_3) (wt rfl) rfl ?_
    refine h_lit (([(w64 (low_2 - 1)), (w64 (high_3 + 1)), low_2, high_3, (-1099511627776), 1099511627776] : List Int).map eI) es22 ez22 rfl rfl rfl rfl rfl (wt rfl) ?_
    obtain ⟨r_8, hr_9, hF⟩ := bind_some hF
    refine h_callq 0 [0] (.inl rfl) (fun _ _ _ => trivial) (mk_Stream_Pick_ok hr_9) rfl hb10 rfl (by kernel_rfl) (by kernel_rfl) (by kernel_rfl) (by kernel_rfl) (by kernel_rfl) (by kernel_rfl) (by kernel_rfl) (by decide) (by kernel_rfl) (wt rfl) (vI r_8.1) (by kernel_rfl) ([((extN 0), some (.cells 2 [(vL eI r_8.2.L), (vI r_8.2.f_at)]))] : Hp) (by kernel_rfl) ?_
    refine h_op (vI r_8.1) (wt rfl) rfl ?_
    refine h_nil ?_
    replace hF := some_inj hF
    subst hF
    refine wH_ret ?_
    exact finB (.inr rfl) [(vI r_8.1)] _ [0] [extN 0] ⟨rfl, trivial⟩ (.cons (co_data rfl rfl) (.nil)) (by kernel_rfl) ⟨(by kernel_rfl), trivial⟩ (by decide) (by kernel_rfl)
  · refine wH_iff rfl hc_7 ?_
    refine wH_skip ?_
    refine wH_seq ?_
    refine wH_region ?_
    refine h_op (.ref (extN 0) 0 0) (wt rfl) rfl ?_
    refine h_op (vI low_2) (wt rfl) rfl ?_
    refine h_op (vI high_3) (wt rfl) rfl ?_
    obtain ⟨r_11, hr_12, hF⟩ := bind_some hF
    refine h_callq 0 [0] (.inl rfl) (fun _ _ _ => trivial) (mk_Stream_Range_ok hr_12) rfl hb106 rfl (by kernel_rfl) (by kernel_rfl) (by kernel_rfl) (by kernel_rfl) (by kernel_rfl) (by kernel_rfl) (by kernel_rfl) (by decide) (by kernel_rfl) (wt rfl) (vI r_11.1) (by kernel_rfl) ([((extN 0), some (.cells 2 [(vL eI r_11.2.L), (vI r_11.2.f_at)]))] : Hp) (by kernel_rfl) ?_
    refine h_op (vI r_11.1) (wt rfl) rfl ?_
    refine h_nil ?_
    replace hF := some_inj hF
    subst hF
    refine wH_ret ?_
    exact finB (.inr rfl) [(vI r_11.1)] _ [0] [extN 0] ⟨rfl, trivial⟩ (.cons (co_data rfl rfl) (.nil)) (by kernel_rfl) ⟨(by kernel_rfl), trivial⟩ (by decide) (by kernel_rfl)
theorem mk_Stream_RightBeats_okb {s_1 : Stream} {r : (List Beat) × Stream} (hF : mk_Stream_RightBeats s_1 = some r) :
    FnM Try.prog 74 [(.ref (extN 0) 0 0)] [(.cells 2 [(vL eI s_1.L), (vI s_1.f_at)])] (gV (extN 1) 3 r.1) (([(.cells 2 [(vL eI r.2.L), (vI r.2.f_at)])] : List Box).map some ++ gO 3 Beat.enc r.1) := by
  refine FnM.of_wH ⟨Try.prog, 42, [], []⟩ rfl Try.func74 rfl rfl (Nat.le_of_ble_eq_true rfl) (by kernel_rfl) ?_
  unfold mk_Stream_RightBeats at hF
  refine wH_seq ?_
  refine wH_region ?_
  refine h_op .nil (wt rfl) rfl ?_
  refine h_nil ?_
  refine wH_seq ?_
  refine wH_region ?_
  refine h_op .nil (wt rfl) rfl ?_
  refine h_nil ?_
  refine wH_seq ?_
  refine wH_seq ?_
  refine wH_region ?_
  refine h_lit (([(⟨#[112, 97]⟩ : ByteArray), (⟨#[112, 98]⟩ : ByteArray)] : List ByteArray).map eS) es46 ez46 rfl rfl rfl rfl rfl (wt rfl) ?_
  refine h_len un46 rfl (wt rfl) ?_
  refine h_op (vI 0) (wt rfl) rfl ?_
  refine h_nil ?_
  refine wH_new (fun n_8 => ?_)
  obtain ⟨o_13, hj_14, hF⟩ := bind_some hF
  obtain ⟨hn_6, hj_14⟩ := forL_some hj_14
  refine wH_join (β := ((List Beat) × (List Int) × Int) × Nm) (fun p => (fun (s_7 : (List Beat) × (List Int) × Int) (n_10 : Nm) => ([(3, (gV n_10 3 s_7.1))] : List (Nat × V))) p.1 p.2) (fun p => (fun (s_7 : (List Beat) × (List Int) × Int) (n_10 : Nm) => ([((extN 0), some (.cells 2 [(vL eI s_7.2.1), (vI s_7.2.2)])), (n_10, gB 3 Beat.enc s_7.1)] : Hp)) p.1 p.2) (fun p => o_13 = .go p.1) ?_ ?_
  · refine wH_block ?_
    refine wH_loop (β := Nat × (List ByteArray) × ((List Beat) × (List Int) × Int) × Nm) (fun p => (fun (k_2 : Nat) (l_3 : List ByteArray) (s_7 : (List Beat) × (List Int) × Int) (n_10 : Nm) => ([(0, (.ref (extN 0) 0 0)), (3, (gV n_10 3 s_7.1)), (8, (vL eS ([(⟨#[112, 97]⟩ : ByteArray), (⟨#[112, 98]⟩ : ByteArray)] : List ByteArray))), (9, (vI (([(⟨#[112, 97]⟩ : ByteArray), (⟨#[112, 98]⟩ : ByteArray)] : List ByteArray).length : Int))), (10, (vI (k_2 : Int)))] : List (Nat × V))) p.1 p.2.1 p.2.2.1 p.2.2.2) (fun p => (fun (k_2 : Nat) (l_3 : List ByteArray) (s_7 : (List Beat) × (List Int) × Int) (n_10 : Nm) => ([((extN 0), some (.cells 2 [(vL eI s_7.2.1), (vI s_7.2.2)])), (n_10, gB 3 Beat.enc s_7.1)] : Hp)) p.1 p.2.1 p.2.2.1 p.2.2.2) (fun p => forR (fun k x s => mk_Stream_RightBeats_L2 k x s) p.2.1 p.1 p.2.2.1 = some o_13 ∧ (([(⟨#[112, 97]⟩ : ByteArray), (⟨#[112, 98]⟩ : ByteArray)] : List ByteArray)).drop p.1 = p.2.1) (fun p => p.2.1.length) (0, ([(⟨#[112, 97]⟩ : ByteArray), (⟨#[112, 98]⟩ : ByteArray)] : List ByteArray), (([] : List Beat), s_1.L, s_1.f_at), n_8) ⟨hj_14, rfl⟩ rfl rfl ?_
    rintro ⟨k_2, l_3, s_7, n_10⟩ ⟨hL_12, hD_5⟩
    dsimp only at hL_12 hD_5
    cases l_3 with
    | nil =>
      replace hL_12 := some_inj hL_12
      subst hL_12
      refine wH_seq (wH_region (h_op (vB (decide ((k_2 : Int) < (([(⟨#[112, 97]⟩ : ByteArray), (⟨#[112, 98]⟩ : ByteArray)] : List ByteArray).length : Int)))) (wt rfl) rfl (h_nil ?_)))
      refine wH_seq (wH_iff rfl (drop_nil hD_5) (wH_exit ?_))
      exact cut_mk (s_7, n_10) rfl rfl rfl
    | cons x_4 l_3 =>
      obtain ⟨c_, hc_11, hL_12⟩ := bind_some hL_12
      refine wH_seq (wH_region (h_op (vB (decide ((k_2 : Int) < (([(⟨#[112, 97]⟩ : ByteArray), (⟨#[112, 98]⟩ : ByteArray)] : List ByteArray).length : Int)))) (wt rfl) rfl (h_nil ?_)))
      refine wH_seq (wH_ift rfl (drop_cons hD_5) (wH_skip ?_))
      unfold mk_Stream_RightBeats_L2 at hc_11
      refine wH_seq ?_
      refine wH_block ?_
      refine wH_seq ?_
      refine wH_region ?_
      refine h_ia es46 rfl rfl (drop_idx hD_5) rfl (wt rfl) ?_
      refine h_ldc sz9 ag9 rfl (vS x_4) rfl (wt rfl) ?_
      refine h_op (vS x_4) (wt rfl) rfl ?_
      refine h_nil ?_
      refine wH_seq ?_
      refine wH_region ?_
      refine h_op (.ref (extN 0) 0 0) (wt rfl) rfl ?_
      obtain ⟨r_15, hr_16, hc_11⟩ := bind_some hc_11
      refine h_callq 0 [0] (.inl rfl) (fun _ _ _ => trivial) (mk_Stream_Range_ok hr_16) rfl hb106 rfl (by kernel_rfl) (by kernel_rfl) (by kernel_rfl) (by kernel_rfl) (by kernel_rfl) (by kernel_rfl) (by kernel_rfl) (by decide) (by kernel_rfl) (wt rfl) (vI r_15.1) (by kernel_rfl) ([((extN 0), some (.cells 2 [(vL eI r_15.2.L), (vI r_15.2.f_at)])), (n_10, gB 3 Beat.enc s_7.1)] : Hp) (by kernel_rfl) ?_
      refine h_op (.ref (extN 0) 0 0) (wt rfl) rfl ?_
      obtain ⟨r_18, hr_19, hc_11⟩ := bind_some hc_11
      refine h_callq 0 [0] (.inl rfl) (fun _ _ _ => trivial) (mk_Stream_Range_ok hr_19) rfl hb106 rfl (by kernel_rfl) (by kernel_rfl) (by kernel_rfl) (by kernel_rfl) (by kernel_rfl) (by kernel_rfl) (by kernel_rfl) (by decide) (by kernel_rfl) (wt rfl) (vI r_18.1) (by kernel_rfl) ([((extN 0), some (.cells 2 [(vL eI r_18.2.L), (vI r_18.2.f_at)])), (n_10, gB 3 Beat.enc s_7.1)] : Hp) (by kernel_rfl) ?_
      refine h_op (vI r_15.1) (wt rfl) rfl ?_
      refine h_op (vI r_18.1) (wt rfl) rfl ?_
      refine h_nil ?_
      refine wH_seq ?_
      refine wH_region ?_
      refine h_op (.ref (extN 0) 0 0) (wt rfl) rfl ?_
      obtain ⟨r_21, hr_22, hc_11⟩ := bind_some hc_11
      refine h_callq 0 [0] (.inl rfl) (fun _ _ _ => trivial) (mk_Stream_Range_ok hr_22) rfl hb106 rfl (by kernel_rfl) (by kernel_rfl) (by kernel_rfl) (by kernel_rfl) (by kernel_rfl) (by kernel_rfl) (by kernel_rfl) (by decide) (by kernel_rfl) (wt rfl) (vI r_21.1) (by kernel_rfl) ([((extN 0), some (.cells 2 [(vL eI r_21.2.L), (vI r_21.2.f_at)])), (n_10, gB 3 Beat.enc s_7.1)] : Hp) (by kernel_rfl) ?_
      refine h_op (vI 0) (wt rfl) rfl ?_
      refine h_nil ?_
      obtain ⟨o_34, hj_35, hc_11⟩ := bind_some hc_11
      obtain ⟨hn_28, hj_35⟩ := forL_some hj_35
      refine wH_join (β := ((List Beat) × Int × Int × (List Int) × Int) × Nm) (fun p => (fun (s_29 : (List Beat) × Int × Int × (List Int) × Int) (n_31 : Nm) => ([(0, (.ref (extN 0) 0 0)), (3, (gV n_31 3 s_29.1)), (8, (vL eS ([(⟨#[112, 97]⟩ : ByteArray), (⟨#[112, 98]⟩ : ByteArray)] : List ByteArray))), (9, (vI (([(⟨#[112, 97]⟩ : ByteArray), (⟨#[112, 98]⟩ : ByteArray)] : List ByteArray).length : Int))), (10, (vI (k_2 : Int)))] : List (Nat × V))) p.1 p.2) (fun p => (fun (s_29 : (List Beat) × Int × Int × (List Int) × Int) (n_31 : Nm) => ([((extN 0), some (.cells 2 [(vL eI s_29.2.2.2.1), (vI s_29.2.2.2.2)])), (n_31, gB 3 Beat.enc s_29.1)] : Hp)) p.1 p.2) (fun p => o_34 = .go p.1) ?_ ?_
      · refine wH_block ?_
        refine wH_loop (β := Nat × (List Nat) × ((List Beat) × Int × Int × (List Int) × Int) × Nm) (fun p => (fun (k_24 : Nat) (l_25 : List Nat) (s_29 : (List Beat) × Int × Int × (List Int) × Int) (n_31 : Nm) => ([(0, (.ref (extN 0) 0 0)), (3, (gV n_31 3 s_29.1)), (5, (vS x_4)), (6, (vI s_29.2.1)), (7, (vI s_29.2.2.1)), (8, (vL eS ([(⟨#[112, 97]⟩ : ByteArray), (⟨#[112, 98]⟩ : ByteArray)] : List ByteArray))), (9, (vI (([(⟨#[112, 97]⟩ : ByteArray), (⟨#[112, 98]⟩ : ByteArray)] : List ByteArray).length : Int))), (10, (vI (k_2 : Int))), (19, (vI r_21.1)), (20, (vI (k_24 : Int)))] : List (Nat × V))) p.1 p.2.1 p.2.2.1 p.2.2.2) (fun p => (fun (k_24 : Nat) (l_25 : List Nat) (s_29 : (List Beat) × Int × Int × (List Int) × Int) (n_31 : Nm) => ([((extN 0), some (.cells 2 [(vL eI s_29.2.2.2.1), (vI s_29.2.2.2.2)])), (n_31, gB 3 Beat.enc s_29.1)] : Hp)) p.1 p.2.1 p.2.2.1 p.2.2.2) (fun p => forR (fun k x s => mk_Stream_RightBeats_L1 x_4 k x s) p.2.1 p.1 p.2.2.1 = some o_34 ∧ ((List.range (r_21.1).toNat)).drop p.1 = p.2.1) (fun p => p.2.1.length) (0, (List.range (r_21.1).toNat), (s_7.1, r_15.1, r_18.1, r_21.2.L, r_21.2.f_at), n_10) ⟨hj_35, rfl⟩ rfl rfl ?_
        rintro ⟨k_24, l_25, s_29, n_31⟩ ⟨hL_33, hD_27⟩
        dsimp only at hL_33 hD_27
        cases l_25 with
        | nil =>
          replace hL_33 := some_inj hL_33
          subst hL_33
          refine wH_seq (wH_region (h_op (vB (decide ((k_24 : Int) < r_21.1))) (wt rfl) rfl (h_nil ?_)))
          refine wH_seq (wH_iff rfl (range_nil hD_27) (wH_exit ?_))
          exact cut_mk (s_29, n_31) rfl rfl rfl
        | cons x_26 l_25 =>
          obtain ⟨c_, hc_32, hL_33⟩ := bind_some hL_33
          refine wH_seq (wH_region (h_op (vB (decide ((k_24 : Int) < r_21.1))) (wt rfl) rfl (h_nil ?_)))
          refine wH_seq (wH_ift rfl (range_cons hD_27) (wH_skip ?_))
          unfold mk_Stream_RightBeats_L1 at hc_32
          refine wH_seq ?_
          refine wH_block ?_
          refine wH_seq ?_
          refine wH_region ?_
          refine h_op (gV n_31 3 s_29.1) (wt rfl) rfl ?_
          refine h_op (vS x_4) (wt rfl) rfl ?_
          refine h_op (vI s_29.2.1) (wt rfl) rfl ?_
          refine h_op (vI s_29.2.2.1) (wt rfl) rfl ?_
          refine h_op (.d (.agg (Beat.enc (⟨x_4, s_29.2.1, s_29.2.2.1⟩ : Beat)))) (wt rfl) (by kernel_rfl) ?_
          refine h_lit (([(⟨x_4, s_29.2.1, s_29.2.2.1⟩ : Beat)] : List Beat).map Beat.enc) es26 ez26 rfl rfl rfl rfl rfl (wt rfl) ?_
          obtain ⟨a_36, hz_37, hc_32⟩ := bind_some hc_32
          refine h_appg 0 (.inl rfl) (fun _ _ _ => trivial) (i := 1) el26 el26 sz119 z119 rfl (by decide) by119 (by decide) (fun _ => rfl) rfl rfl rfl hz_37 (wt rfl) (fun n_38 => ?_)
          refine h_op (gV n_38 3 a_36) (wt rfl) rfl ?_
          refine h_nil ?_
          refine wH_seq ?_
          refine wH_region ?_
          refine h_op (vI s_29.2.1) (wt rfl) rfl ?_
          refine h_op (.ref (extN 0) 0 0) (wt rfl) rfl ?_
          refine h_lit (([1, 50, 100, 1000, 2678400000] : List Int).map eI) es22 ez22 rfl rfl rfl rfl rfl (wt rfl) ?_
          obtain ⟨r_39, hr_40, hc_32⟩ := bind_some hc_32
          refine h_callq 0 [0] (.inl rfl) (fun _ _ _ => trivial) (mk_Stream_Pick_ok hr_40) rfl hb10 rfl (by kernel_rfl) (by kernel_rfl) (by kernel_rfl) (by kernel_rfl) (by kernel_rfl) (by kernel_rfl) (by kernel_rfl) (by decide) (by kernel_rfl) (wt rfl) (vI r_39.1) (by kernel_rfl) ([((extN 0), some (.cells 2 [(vL eI r_39.2.L), (vI r_39.2.f_at)])), (n_38, gB 3 Beat.enc a_36)] : Hp) (by kernel_rfl) ?_
          refine h_op (vI (w64 (s_29.2.1 + r_39.1))) (wt rfl) rfl ?_
          refine h_op (vI (w64 (s_29.2.1 + r_39.1))) (wt rfl) rfl ?_
          refine h_nil ?_
          refine wH_region ?_
          refine h_op (vI s_29.2.2.1) (wt rfl) rfl ?_
          refine h_op (.ref (extN 0) 0 0) (wt rfl) rfl ?_
          refine h_lit (([1, 40, 100, 1300, 2592000000] : List Int).map eI) es22 ez22 rfl rfl rfl rfl rfl (wt rfl) ?_
          obtain ⟨r_42, hr_43, hc_32⟩ := bind_some hc_32
          refine h_callq 0 [0] (.inl rfl) (fun _ _ _ => trivial) (mk_Stream_Pick_ok hr_43) rfl hb10 rfl (by kernel_rfl) (by kernel_rfl) (by kernel_rfl) (by kernel_rfl) (by kernel_rfl) (by kernel_rfl) (by kernel_rfl) (by decide) (by kernel_rfl) (wt rfl) (vI r_42.1) (by kernel_rfl) ([((extN 0), some (.cells 2 [(vL eI r_42.2.L), (vI r_42.2.f_at)])), (n_38, gB 3 Beat.enc a_36)] : Hp) (by kernel_rfl) ?_
          refine h_op (vI (w64 (s_29.2.2.1 + r_42.1))) (wt rfl) rfl ?_
          refine h_op (vI (w64 (s_29.2.2.1 + r_42.1))) (wt rfl) rfl ?_
          refine h_nil ?_
          refine wH_region ?_
          refine h_opw (w64_nextr hD_27 hn_28) (wt rfl) rfl ?_
          refine h_op (vI ((k_24 + 1 : Nat) : Int)) (wt rfl) rfl ?_
          refine h_nil ?_
          replace hc_32 := some_inj hc_32
          subst hc_32
          exact loop_mk (k_24 + 1, l_25, (a_36, (w64 (s_29.2.1 + r_39.1)), (w64 (s_29.2.2.1 + r_42.1)), r_42.2.L, r_42.2.f_at), n_38) ⟨hL_33, drop_next hD_27⟩ (Nat.lt_succ_self _) rfl rfl
      · rintro ⟨s_29, n_31⟩ ho_ sl_ H_ hp_ hq_
        subst ho_
        refine wH_at _ hp_ hq_ ?_
        refine wH_region ?_
        refine h_opw (w64_next hD_5 hn_6) (wt rfl) rfl ?_
        refine h_op (vI ((k_2 + 1 : Nat) : Int)) (wt rfl) rfl ?_
        refine h_nil ?_
        replace hc_11 := some_inj hc_11
        subst hc_11
        exact loop_mk (k_2 + 1, l_3, (s_29.1, s_29.2.2.2.1, s_29.2.2.2.2), n_31) ⟨hL_12, drop_next hD_5⟩ (Nat.lt_succ_self _) rfl rfl
  · rintro ⟨s_7, n_10⟩ ho_ sl_ H_ hp_ hq_
    subst ho_
    refine wH_at _ hp_ hq_ ?_
    refine wH_seq ?_
    refine wH_region ?_
    refine h_op (gV n_10 3 s_7.1) (wt rfl) rfl ?_
    refine h_op (gV n_10 3 s_7.1) (wt rfl) rfl ?_
    refine h_nil ?_
    replace hF := some_inj hF
    subst hF
    refine wH_ret ?_
    exact finG (outs := ([(.cells 2 [(vL eI s_7.2.1), (vI s_7.2.2)])] : List Box)) (.inr rfl) 1 rfl rfl rfl (by kernel_rfl) (by kernel_rfl)
theorem mk_Stream_Beats_ok {s_1 : Stream} {r : (List Beat) × Stream} (hF : mk_Stream_Beats s_1 = some r) :
    FnM Try.prog 8 [(.ref (extN 0) 0 0)] [(.cells 2 [(vL eI s_1.L), (vI s_1.f_at)])] (vL Beat.enc r.1) [some (.cells 2 [(vL eI r.2.L), (vI r.2.f_at)])] := by
  refine FnM.of_wH ⟨Try.prog, 41, [], []⟩ rfl Try.func8 rfl rfl (Nat.le_of_ble_eq_true rfl) (by kernel_rfl) ?_
  unfold mk_Stream_Beats at hF
  refine wH_seq ?_
  refine wH_region ?_
  refine h_op .nil (wt rfl) rfl ?_
  refine h_nil ?_
  refine wH_seq ?_
  refine wH_region ?_
  refine h_op (.ref (extN 0) 0 0) (wt rfl) rfl ?_
  obtain ⟨r_2, hr_3, hF⟩ := bind_some hF
  refine h_callg [0] (mk_Stream_RightBeats_okb hr_3) rfl hb74 rfl (by kernel_rfl) (by kernel_rfl) (by kernel_rfl) (by kernel_rfl) (by kernel_rfl) rfl (by decide) (by kernel_rfl) (wt rfl) ([((extN 0), some (.cells 2 [(vL eI r_2.2.L), (vI r_2.2.f_at)]))] : Hp) (fun _ => by kernel_rfl) (fun n_5 => ?_)
  refine h_op (gV n_5 3 r_2.1) (wt rfl) rfl ?_
  refine h_nil ?_
  refine wH_seq ?_
  refine wH_seq ?_
  obtain ⟨v_6, h_7, hF⟩ := bind_some hF
  refine wH_join (β := Unit) (fun _ => ([(0, (.ref (extN 0) 0 0)), (3, (gV n_5 3 r_2.1)), (13, (vB v_6.1))] : List (Nat × V))) (fun _ => ([((extN 0), some (.cells 2 [(vL eI v_6.2.1), (vI v_6.2.2)])), (n_5, gB 3 Beat.enc r_2.1)] : Hp)) (fun _ => True) ?_ ?_
  · refine wH_region ?_
    refine h_op (gV n_5 3 r_2.1) (wt rfl) rfl ?_
    refine h_leng un26 rfl (wt rfl) ?_
    refine h_op (vB (decide ((r_2.1.length : Int) > 0))) (wt rfl) rfl ?_
    rcases cond_some h_7 with ⟨hc_8, h_7⟩ | ⟨hc_8, h_7⟩
    · refine h_movb rfl hc_8 (wt rfl) ?_
      refine h_op (.ref (extN 0) 0 0) (wg rfl rfl rfl) rfl ?_
      obtain ⟨r_9, hr_10, h_7⟩ := bind_some h_7
      refine h_callq 0 [0] (.inl rfl) (fun _ _ _ => trivial) (mk_Stream_Flip_ok hr_10) rfl hb37 rfl (by kernel_rfl) (by kernel_rfl) (by kernel_rfl) (by kernel_rfl) (by kernel_rfl) (by kernel_rfl) (by kernel_rfl) (by decide) (by kernel_rfl) (wg rfl rfl rfl) (vB r_9.1) (by kernel_rfl) ([((extN 0), some (.cells 2 [(vL eI r_9.2.L), (vI r_9.2.f_at)])), (n_5, gB 3 Beat.enc r_2.1)] : Hp) (by kernel_rfl) ?_
      refine h_op (vB r_9.1) (wt rfl) rfl ?_
      refine h_nil ?_
      replace h_7 := some_inj h_7
      subst h_7
      exact cut_mk () trivial rfl rfl
    · refine h_movb rfl hc_8 (wt rfl) ?_
      refine h_skip (wg rfl rfl rfl) ?_
      refine h_skip (wg rfl rfl rfl) ?_
      refine h_op (vB false) (wt rfl) rfl ?_
      refine h_nil ?_
      replace h_7 := some_inj h_7
      subst h_7
      exact cut_mk () trivial rfl rfl
  · rintro ⟨⟩ _ sl_ H_ hp_ hq_
    refine wH_at _ hp_ hq_ ?_
    obtain ⟨v_12, h_13, hF⟩ := bind_some hF
    refine wH_join (β := Unit) (fun _ => ([(3, (gV n_5 3 v_12.1))] : List (Nat × V))) (fun _ => ([((extN 0), some (.cells 2 [(vL eI v_12.2.1), (vI v_12.2.2)])), (n_5, gB 3 Beat.enc v_12.1)] : Hp)) (fun _ => True) ?_ ?_
    · rcases cond_some h_13 with ⟨hc_14, h_13⟩ | ⟨hc_14, h_13⟩
      · refine wH_ift rfl hc_14 ?_
        refine wH_seq ?_
        refine wH_region ?_
        refine h_op (gV n_5 3 r_2.1) (wt rfl) rfl ?_
        refine h_op (.ref (extN 0) 0 0) (wt rfl) rfl ?_
        refine h_op (gV n_5 3 r_2.1) (wt rfl) rfl ?_
        refine h_leng un26 rfl (wt rfl) ?_
        obtain ⟨r_15, hr_16, h_13⟩ := bind_some h_13
        refine h_callq 0 [0] (.inl rfl) (fun _ _ _ => trivial) (mk_Stream_Next_ok hr_16) rfl hb75 rfl (by kernel_rfl) (by kernel_rfl) (by kernel_rfl) (by kernel_rfl) (by kernel_rfl) (by kernel_rfl) (by kernel_rfl) (by decide) (by kernel_rfl) (wt rfl) (vI r_15.1) (by kernel_rfl) ([((extN 0), some (.cells 2 [(vL eI r_15.2.L), (vI r_15.2.f_at)])), (n_5, gB 3 Beat.enc r_2.1)] : Hp) (by kernel_rfl) ?_
        obtain ⟨_, hi_18, h_13⟩ := bind_some h_13
        refine h_iavg es26 rfl rfl (inR_0 hi_18) (inR_lt hi_18) (wt rfl) ?_
        refine h_op (.ref n_5 (0 + (r_15.1).toNat) 0) (wt rfl) rfl ?_
        refine h_nil ?_
        refine wH_region ?_
        refine h_op (.ref n_5 (0 + (r_15.1).toNat) 0) (wt rfl) rfl ?_
        refine h_op (.ref n_5 (0 + (r_15.1).toNat) 0) (wt rfl) rfl ?_
        refine h_op (.ref n_5 (0 + (r_15.1).toNat) 0) (wt rfl) rfl ?_
        refine h_op (.ref (extN 0) 0 0) (wt rfl) rfl ?_
        refine h_op (.ref n_5 (0 + (r_15.1).toNat) 0) (wt rfl) rfl ?_
        refine h_op (.ref n_5 (0 + (r_15.1).toNat) 0) (wt rfl) rfl ?_
        refine h_far pl119_0 rfl 0 rfl (wt rfl) ?_
        obtain ⟨e_19, hy_20, h_13⟩ := bind_some h_13
        refine h_ldvg 0 1 (.inl rfl) (fun _ _ _ => trivial) sz9 ag9 rfl rfl hy_20 (vS e_19.Player) rfl (wt rfl) ?_
        refine h_lit (([e_19.Player, (⟨#[]⟩ : ByteArray), (⟨#[112, 97]⟩ : ByteArray)] : List ByteArray).map eS) es46 ez46 rfl rfl rfl rfl rfl (wt rfl) ?_
        obtain ⟨r_21, hr_22, h_13⟩ := bind_some h_13
        refine h_callq 0 [0] (.inl rfl) (fun _ _ _ => trivial) (mk_Stream_Some_ok hr_22) rfl hb9 rfl (by kernel_rfl) (by kernel_rfl) (by kernel_rfl) (by kernel_rfl) (by kernel_rfl) (by kernel_rfl) (by kernel_rfl) (by decide) (by kernel_rfl) (wt rfl) (vS r_21.1) (by kernel_rfl) ([((extN 0), some (.cells 2 [(vL eI r_21.2.L), (vI r_21.2.f_at)])), (n_5, gB 3 Beat.enc r_2.1)] : Hp) (by kernel_rfl) ?_
        refine h_op (.ref (extN 0) 0 0) (wt rfl) rfl ?_
        obtain ⟨r_24, hr_25, h_13⟩ := bind_some h_13
        refine h_callq 0 [0] (.inl rfl) (fun _ _ _ => trivial) (mk_Stream_Odd_ok hr_25) rfl hb38 rfl (by kernel_rfl) (by kernel_rfl) (by kernel_rfl) (by kernel_rfl) (by kernel_rfl) (by kernel_rfl) (by kernel_rfl) (by decide) (by kernel_rfl) (wt rfl) (vI r_24.1) (by kernel_rfl) ([((extN 0), some (.cells 2 [(vL eI r_24.2.L), (vI r_24.2.f_at)])), (n_5, gB 3 Beat.enc r_2.1)] : Hp) (by kernel_rfl) ?_
        refine h_op (.ref (extN 0) 0 0) (wt rfl) rfl ?_
        obtain ⟨r_27, hr_28, h_13⟩ := bind_some h_13
        refine h_callq 0 [0] (.inl rfl) (fun _ _ _ => trivial) (mk_Stream_Odd_ok hr_28) rfl hb38 rfl (by kernel_rfl) (by kernel_rfl) (by kernel_rfl) (by kernel_rfl) (by kernel_rfl) (by kernel_rfl) (by kernel_rfl) (by decide) (by kernel_rfl) (wt rfl) (vI r_27.1) (by kernel_rfl) ([((extN 0), some (.cells 2 [(vL eI r_27.2.L), (vI r_27.2.f_at)])), (n_5, gB 3 Beat.enc r_2.1)] : Hp) (by kernel_rfl) ?_
        refine h_op (.ref n_5 (0 + (r_15.1).toNat) 0) (wt rfl) rfl ?_
        refine h_far pl119_0 rfl 0 rfl (wt rfl) ?_
        obtain ⟨e_30, hy_31, h_13⟩ := bind_some h_13
        refine h_stvg 0 (.inl rfl) (fun _ _ _ => trivial) 1 sz9 rfl rfl hy_31 (⟨r_21.1, e_30.At, e_30.Clock⟩ : Beat) rfl (wt rfl) ?_
        refine h_re (v' := (gV n_5 3 (r_2.1.set (0 + (r_15.1).toNat) (⟨r_21.1, e_30.At, e_30.Clock⟩ : Beat)))) 3 rfl (gV_len (by simp)) ?_
        refine h_re (v' := (gV n_5 3 (r_2.1.set (0 + (r_15.1).toNat) (⟨r_21.1, e_30.At, e_30.Clock⟩ : Beat)))) 14 rfl (gV_len (by simp)) ?_
        refine h_re (v' := (gV n_5 3 (r_2.1.set (0 + (r_15.1).toNat) (⟨r_21.1, e_30.At, e_30.Clock⟩ : Beat)))) 16 rfl (gV_len (by simp)) ?_
        refine h_op (.ref n_5 (0 + (r_15.1).toNat) 0) (wt rfl) rfl ?_
        refine h_far pl119_1 rfl 1 rfl (wt rfl) ?_
        obtain ⟨e_32, hy_33, h_13⟩ := bind_some h_13
        refine h_stvg 0 (.inl rfl) (fun _ _ _ => trivial) 1 sz3 rfl rfl hy_33 (⟨e_32.Player, r_24.1, e_32.Clock⟩ : Beat) rfl (wt rfl) ?_
        refine h_re (v' := (gV n_5 3 ((r_2.1.set (0 + (r_15.1).toNat) (⟨r_21.1, e_30.At, e_30.Clock⟩ : Beat)).set (0 + (r_15.1).toNat) (⟨e_32.Player, r_24.1, e_32.Clock⟩ : Beat)))) 3 rfl (gV_len (by simp)) ?_
        refine h_re (v' := (gV n_5 3 ((r_2.1.set (0 + (r_15.1).toNat) (⟨r_21.1, e_30.At, e_30.Clock⟩ : Beat)).set (0 + (r_15.1).toNat) (⟨e_32.Player, r_24.1, e_32.Clock⟩ : Beat)))) 14 rfl (gV_len (by simp)) ?_
        refine h_re (v' := (gV n_5 3 ((r_2.1.set (0 + (r_15.1).toNat) (⟨r_21.1, e_30.At, e_30.Clock⟩ : Beat)).set (0 + (r_15.1).toNat) (⟨e_32.Player, r_24.1, e_32.Clock⟩ : Beat)))) 16 rfl (gV_len (by simp)) ?_
        refine h_op (.ref n_5 (0 + (r_15.1).toNat) 0) (wt rfl) rfl ?_
        refine h_far pl119_2 rfl 2 rfl (wt rfl) ?_
        obtain ⟨e_34, hy_35, h_13⟩ := bind_some h_13
        refine h_stvg 0 (.inl rfl) (fun _ _ _ => trivial) 1 sz3 rfl rfl hy_35 (⟨e_34.Player, e_34.At, r_27.1⟩ : Beat) rfl (wt rfl) ?_
        refine h_re (v' := (gV n_5 3 (((r_2.1.set (0 + (r_15.1).toNat) (⟨r_21.1, e_30.At, e_30.Clock⟩ : Beat)).set (0 + (r_15.1).toNat) (⟨e_32.Player, r_24.1, e_32.Clock⟩ : Beat)).set (0 + (r_15.1).toNat) (⟨e_34.Player, e_34.At, r_27.1⟩ : Beat)))) 3 rfl (gV_len (by simp)) ?_
        refine h_re (v' := (gV n_5 3 (((r_2.1.set (0 + (r_15.1).toNat) (⟨r_21.1, e_30.At, e_30.Clock⟩ : Beat)).set (0 + (r_15.1).toNat) (⟨e_32.Player, r_24.1, e_32.Clock⟩ : Beat)).set (0 + (r_15.1).toNat) (⟨e_34.Player, e_34.At, r_27.1⟩ : Beat)))) 14 rfl (gV_len (by simp)) ?_
        refine h_re (v' := (gV n_5 3 (((r_2.1.set (0 + (r_15.1).toNat) (⟨r_21.1, e_30.At, e_30.Clock⟩ : Beat)).set (0 + (r_15.1).toNat) (⟨e_32.Player, r_24.1, e_32.Clock⟩ : Beat)).set (0 + (r_15.1).toNat) (⟨e_34.Player, e_34.At, r_27.1⟩ : Beat)))) 16 rfl (gV_len (by simp)) ?_
        refine h_nil ?_
        replace h_13 := some_inj h_13
        subst h_13
        exact cut_mk () trivial rfl rfl
      · refine wH_iff rfl hc_14 ?_
        refine wH_skip ?_
        replace h_13 := some_inj h_13
        subst h_13
        exact cut_mk () trivial rfl rfl
    · rintro ⟨⟩ _ sl_ H_ hp_ hq_
      refine wH_at _ hp_ hq_ ?_
      refine wH_seq ?_
      refine wH_region ?_
      refine h_op (gV n_5 3 v_12.1) (wt rfl) rfl ?_
      refine h_op (gV n_5 3 v_12.1) (wt rfl) rfl ?_
      refine h_nil ?_
      refine wH_frozg 1 rfl ?_
      refine wH_cog 2 1 rfl rfl ?_
      refine wH_cog 3 1 rfl rfl ?_
      refine wH_cog 40 1 rfl rfl ?_
      replace hF := some_inj hF
      subst hF
      refine wH_ret ?_
      exact finB (.inr rfl) [(vL Beat.enc v_12.1)] _ [0] [extN 0] ⟨rfl, trivial⟩ (.cons (co_data rfl rfl) (.nil)) (by kernel_rfl) ⟨(by kernel_rfl), trivial⟩ (by decide) (by kernel_rfl)
theorem kit_IsKey_ok {s_1 : ByteArray} {r : Bool} (hF : kit_IsKey s_1 = some r) :
    FnM Try.prog 77 [(vS s_1)] [] (vB r) [] := by
  refine FnM.of_wH ⟨Try.prog, 48, [], []⟩ rfl Try.func77 rfl rfl (Nat.le_of_ble_eq_true rfl) (by kernel_rfl) ?_
  unfold kit_IsKey at hF
  refine wH_seq ?_
  refine wH_region ?_
  refine h_op (vB false) (wt rfl) rfl ?_
  refine h_nil ?_
  refine wH_seq ?_
  refine wH_seq ?_
  refine wH_region ?_
  refine h_op (vI 0) (wt rfl) rfl ?_
  refine h_nil ?_
  obtain ⟨o_10, hj_11, hF⟩ := bind_some hF
  obtain ⟨nq_33, hj_11⟩ := loopO_iter hj_11
  refine wH_join (β := (Int)) (fun (s_7 : Int) => ([(0, (vS s_1))] : List (Nat × V))) (fun (s_7 : Int) => ([] : Hp)) (fun p => o_10 = .go p) ?_ ?_
  · refine wH_block ?_
    refine wH_loop (β := Nat × (Int)) (fun p => (fun (k_2 : Nat) (s_7 : Int) => ([(0, (vS s_1)), (3, (vI s_7))] : List (Nat × V))) p.1 p.2) (fun p => (fun (k_2 : Nat) (s_7 : Int) => ([] : Hp)) p.1 p.2) (fun p => iterN (fun s => kit_IsKey_L1 s_1 s) p.1 p.2 = some o_10) (fun p => p.1) (nq_33, 0) hj_11 rfl rfl ?_
    rintro ⟨k_2, s_7⟩ hL_9
    dsimp only at hL_9
    cases k_2 with
    | zero => cases hL_9
    | succ k_2 =>
      obtain ⟨c_, hc_8, hL_9⟩ := bind_some hL_9
      unfold kit_IsKey_L1 at hc_8
      refine wH_seq ?_
      refine wH_seq ?_
      refine wH_region ?_
      refine h_op (vI s_7) (wt rfl) rfl ?_
      refine h_op (vS s_1) (wt rfl) rfl ?_
      refine h_lens un9 rfl (wt rfl) ?_
      refine h_op (vB (decide (s_7 < (s_1.size : Int)))) (wt rfl) rfl ?_
      refine h_nil ?_
      rcases cond_some hc_8 with ⟨hc_12, hc_8⟩ | ⟨hc_12, hc_8⟩
      · refine wH_ift rfl hc_12 ?_
        refine wH_skip ?_
        refine wH_seq ?_
        refine wH_block ?_
        refine wH_seq ?_
        refine wH_region ?_
        refine h_op (vS s_1) (wt rfl) rfl ?_
        refine h_op (vI s_7) (wt rfl) rfl ?_
        obtain ⟨b_13, hy_14, hc_8⟩ := bind_some hc_8
        refine h_idxs un9 rfl rfl hy_14 (wt rfl) ?_
        refine h_op (.d (.int .u8 (b_13.toNat : Int))) (wt rfl) rfl ?_
        refine h_nil ?_
        refine wH_seq ?_
        obtain ⟨v_15, h_16, hc_8⟩ := bind_some hc_8
        refine wH_join (β := Unit) (fun _ => ([(0, (vS s_1)), (3, (vI s_7)), (40, (vB v_15))] : List (Nat × V))) (fun _ => ([] : Hp)) (fun _ => True) ?_ ?_
        · refine wH_region ?_
          refine h_op (.d (.int .u8 (b_13.toNat : Int))) (wt rfl) rfl ?_
          refine h_op (vB (decide ((b_13.toNat : Int) ≥ 97))) (wt rfl) rfl ?_
          rcases cond_some h_16 with ⟨hc_17, h_16⟩ | ⟨hc_17, h_16⟩
          · refine h_movb rfl hc_17 (wt rfl) ?_
            refine h_op (.d (.int .u8 (b_13.toNat : Int))) (wg rfl rfl rfl) rfl ?_
            refine h_op (vB (decide ((b_13.toNat : Int) ≤ 122))) (wg rfl rfl rfl) rfl ?_
            refine h_op (vB (decide ((b_13.toNat : Int) ≤ 122))) (wt rfl) rfl ?_
            rcases cond_some h_16 with ⟨hc_18, h_16⟩ | ⟨hc_18, h_16⟩
            · refine h_movb rfl hc_18 (wt rfl) ?_
              refine h_skip (wg rfl rfl rfl) ?_
              refine h_skip (wg rfl rfl rfl) ?_
              refine h_skip (wg rfl rfl rfl) ?_
              refine h_skip (wn rfl rfl) ?_
              refine h_skip (wn rfl rfl) ?_
              refine h_skip (wn rfl rfl) ?_
              refine h_skip (wn rfl rfl) ?_
              refine h_skip (wn rfl rfl) ?_
              refine h_skip (wn rfl rfl) ?_
              refine h_skip (wn rfl rfl) ?_
              refine h_skip (wn rfl rfl) ?_
              refine h_skip (wn rfl rfl) ?_
              refine h_skip (wn rfl rfl) ?_
              refine h_skip (wn rfl rfl) ?_
              refine h_skip (wn rfl rfl) ?_
              refine h_skip (wn rfl rfl) ?_
              refine h_skip (wn rfl rfl) ?_
              refine h_skip (wg rfl rfl rfl) ?_
              refine h_op (vB true) (wt rfl) rfl ?_
              refine h_op (vB false) (wt rfl) rfl ?_
              refine h_nil ?_
              replace h_16 := some_inj h_16
              subst h_16
              exact cut_mk () trivial rfl rfl
            · refine h_movb rfl hc_18 (wt rfl) ?_
              refine h_op (vI s_7) (wg rfl rfl rfl) rfl ?_
              refine h_op (vB (decide (s_7 > 0))) (wg rfl rfl rfl) rfl ?_
              rcases cond_some h_16 with ⟨hc_19, h_16⟩ | ⟨hc_19, h_16⟩
              · refine h_movb rfl hc_19 (wg rfl rfl rfl) ?_
                refine h_op (.d (.int .u8 (b_13.toNat : Int))) (wg rfl rfl rfl) rfl ?_
                refine h_op (vB (decide ((b_13.toNat : Int) ≥ 48))) (wg rfl rfl rfl) rfl ?_
                rcases cond_some h_16 with ⟨hc_20, h_16⟩ | ⟨hc_20, h_16⟩
                · refine h_movb rfl hc_20 (wg rfl rfl rfl) ?_
                  refine h_op (.d (.int .u8 (b_13.toNat : Int))) (wg rfl rfl rfl) rfl ?_
                  refine h_op (vB (decide ((b_13.toNat : Int) ≤ 57))) (wg rfl rfl rfl) rfl ?_
                  refine h_op (vB (decide ((b_13.toNat : Int) ≤ 57))) (wg rfl rfl rfl) rfl ?_
                  rcases cond_some h_16 with ⟨hc_21, h_16⟩ | ⟨hc_21, h_16⟩
                  · refine h_movb rfl hc_21 (wg rfl rfl rfl) ?_
                    refine h_skip (wg rfl rfl rfl) ?_
                    refine h_skip (wg rfl rfl rfl) ?_
                    refine h_op (vB true) (wg rfl rfl rfl) rfl ?_
                    refine h_op (vB true) (wg rfl rfl rfl) rfl ?_
                    refine h_skip (wg rfl rfl rfl) ?_
                    refine h_skip (wg rfl rfl rfl) ?_
                    refine h_op (vB true) (wg rfl rfl rfl) rfl ?_
                    refine h_op (vB true) (wg rfl rfl rfl) rfl ?_
                    refine h_op (vB true) (wt rfl) rfl ?_
                    refine h_op (vB false) (wt rfl) rfl ?_
                    refine h_nil ?_
                    replace h_16 := some_inj h_16
                    subst h_16
                    exact cut_mk () trivial rfl rfl
                  · refine h_movb rfl hc_21 (wg rfl rfl rfl) ?_
                    refine h_op (.d (.int .u8 (b_13.toNat : Int))) (wg rfl rfl rfl) rfl ?_
                    refine h_op (vB ((b_13.toNat : Int) == 45)) (wg rfl rfl rfl) rfl ?_
                    refine h_op (vB ((b_13.toNat : Int) == 45)) (wg rfl rfl rfl) rfl ?_
                    rcases cond_some h_16 with ⟨hc_22, h_16⟩ | ⟨hc_22, h_16⟩
                    · refine h_movb rfl hc_22 (wg rfl rfl rfl) ?_
                      refine h_skip (wg rfl rfl rfl) ?_
                      refine h_skip (wg rfl rfl rfl) ?_
                      refine h_op (vB true) (wg rfl rfl rfl) rfl ?_
                      refine h_op (vB true) (wg rfl rfl rfl) rfl ?_
                      refine h_op (vB true) (wt rfl) rfl ?_
                      refine h_op (vB false) (wt rfl) rfl ?_
                      refine h_nil ?_
                      replace h_16 := some_inj h_16
                      subst h_16
                      exact cut_mk () trivial rfl rfl
                    · refine h_movb rfl hc_22 (wg rfl rfl rfl) ?_
                      refine h_op (.d (.int .u8 (b_13.toNat : Int))) (wg rfl rfl rfl) rfl ?_
                      refine h_op (vB ((b_13.toNat : Int) == 95)) (wg rfl rfl rfl) rfl ?_
                      refine h_op (vB ((b_13.toNat : Int) == 95)) (wg rfl rfl rfl) rfl ?_
                      refine h_op (vB ((b_13.toNat : Int) == 95)) (wg rfl rfl rfl) rfl ?_
                      refine h_op (vB ((b_13.toNat : Int) == 95)) (wt rfl) rfl ?_
                      refine h_op (vB (!((b_13.toNat : Int) == 95))) (wt rfl) rfl ?_
                      refine h_nil ?_
                      replace h_16 := some_inj h_16
                      subst h_16
                      exact cut_mk () trivial rfl rfl
                · refine h_movb rfl hc_20 (wg rfl rfl rfl) ?_
                  refine h_skip (wg rfl rfl rfl) ?_
                  refine h_skip (wg rfl rfl rfl) ?_
                  refine h_op (vB false) (wg rfl rfl rfl) rfl ?_
                  refine h_op (vB false) (wg rfl rfl rfl) rfl ?_
                  refine h_op (.d (.int .u8 (b_13.toNat : Int))) (wg rfl rfl rfl) rfl ?_
                  refine h_op (vB ((b_13.toNat : Int) == 45)) (wg rfl rfl rfl) rfl ?_
                  refine h_op (vB ((b_13.toNat : Int) == 45)) (wg rfl rfl rfl) rfl ?_
                  rcases cond_some h_16 with ⟨hc_23, h_16⟩ | ⟨hc_23, h_16⟩
                  · refine h_movb rfl hc_23 (wg rfl rfl rfl) ?_
                    refine h_skip (wg rfl rfl rfl) ?_
                    refine h_skip (wg rfl rfl rfl) ?_
                    refine h_op (vB true) (wg rfl rfl rfl) rfl ?_
                    refine h_op (vB true) (wg rfl rfl rfl) rfl ?_
                    refine h_op (vB true) (wt rfl) rfl ?_
                    refine h_op (vB false) (wt rfl) rfl ?_
                    refine h_nil ?_
                    replace h_16 := some_inj h_16
                    subst h_16
                    exact cut_mk () trivial rfl rfl
                  · refine h_movb rfl hc_23 (wg rfl rfl rfl) ?_
                    refine h_op (.d (.int .u8 (b_13.toNat : Int))) (wg rfl rfl rfl) rfl ?_
                    refine h_op (vB ((b_13.toNat : Int) == 95)) (wg rfl rfl rfl) rfl ?_
                    refine h_op (vB ((b_13.toNat : Int) == 95)) (wg rfl rfl rfl) rfl ?_
                    refine h_op (vB ((b_13.toNat : Int) == 95)) (wg rfl rfl rfl) rfl ?_
                    refine h_op (vB ((b_13.toNat : Int) == 95)) (wt rfl) rfl ?_
                    refine h_op (vB (!((b_13.toNat : Int) == 95))) (wt rfl) rfl ?_
                    refine h_nil ?_
                    replace h_16 := some_inj h_16
                    subst h_16
                    exact cut_mk () trivial rfl rfl
              · refine h_movb rfl hc_19 (wg rfl rfl rfl) ?_
                refine h_skip (wg rfl rfl rfl) ?_
                refine h_skip (wg rfl rfl rfl) ?_
                refine h_skip (wg rfl rfl rfl) ?_
                refine h_skip (wn rfl rfl) ?_
                refine h_skip (wn rfl rfl) ?_
                refine h_skip (wg rfl rfl rfl) ?_
                refine h_skip (wg rfl rfl rfl) ?_
                refine h_skip (wn rfl rfl) ?_
                refine h_skip (wn rfl rfl) ?_
                refine h_skip (wg rfl rfl rfl) ?_
                refine h_skip (wg rfl rfl rfl) ?_
                refine h_skip (wn rfl rfl) ?_
                refine h_skip (wn rfl rfl) ?_
                refine h_skip (wg rfl rfl rfl) ?_
                refine h_op (vB false) (wg rfl rfl rfl) rfl ?_
                refine h_op (vB false) (wt rfl) rfl ?_
                refine h_op (vB true) (wt rfl) rfl ?_
                refine h_nil ?_
                replace h_16 := some_inj h_16
                subst h_16
                exact cut_mk () trivial rfl rfl
          · refine h_movb rfl hc_17 (wt rfl) ?_
            refine h_skip (wg rfl rfl rfl) ?_
            refine h_skip (wg rfl rfl rfl) ?_
            refine h_op (vB false) (wt rfl) rfl ?_
            refine h_op (vB false) (wt rfl) rfl ?_
            refine h_op (vI s_7) (wg rfl rfl rfl) rfl ?_
            refine h_op (vB (decide (s_7 > 0))) (wg rfl rfl rfl) rfl ?_
            rcases cond_some h_16 with ⟨hc_24, h_16⟩ | ⟨hc_24, h_16⟩
            · refine h_movb rfl hc_24 (wg rfl rfl rfl) ?_
              refine h_op (.d (.int .u8 (b_13.toNat : Int))) (wg rfl rfl rfl) rfl ?_
              refine h_op (vB (decide ((b_13.toNat : Int) ≥ 48))) (wg rfl rfl rfl) rfl ?_
              rcases cond_some h_16 with ⟨hc_25, h_16⟩ | ⟨hc_25, h_16⟩
              · refine h_movb rfl hc_25 (wg rfl rfl rfl) ?_
                refine h_op (.d (.int .u8 (b_13.toNat : Int))) (wg rfl rfl rfl) rfl ?_
                refine h_op (vB (decide ((b_13.toNat : Int) ≤ 57))) (wg rfl rfl rfl) rfl ?_
                refine h_op (vB (decide ((b_13.toNat : Int) ≤ 57))) (wg rfl rfl rfl) rfl ?_
                rcases cond_some h_16 with ⟨hc_26, h_16⟩ | ⟨hc_26, h_16⟩
                · refine h_movb rfl hc_26 (wg rfl rfl rfl) ?_
                  refine h_skip (wg rfl rfl rfl) ?_
                  refine h_skip (wg rfl rfl rfl) ?_
                  refine h_op (vB true) (wg rfl rfl rfl) rfl ?_
                  refine h_op (vB true) (wg rfl rfl rfl) rfl ?_
                  refine h_skip (wg rfl rfl rfl) ?_
                  refine h_skip (wg rfl rfl rfl) ?_
                  refine h_op (vB true) (wg rfl rfl rfl) rfl ?_
                  refine h_op (vB true) (wg rfl rfl rfl) rfl ?_
                  refine h_op (vB true) (wt rfl) rfl ?_
                  refine h_op (vB false) (wt rfl) rfl ?_
                  refine h_nil ?_
                  replace h_16 := some_inj h_16
                  subst h_16
                  exact cut_mk () trivial rfl rfl
                · refine h_movb rfl hc_26 (wg rfl rfl rfl) ?_
                  refine h_op (.d (.int .u8 (b_13.toNat : Int))) (wg rfl rfl rfl) rfl ?_
                  refine h_op (vB ((b_13.toNat : Int) == 45)) (wg rfl rfl rfl) rfl ?_
                  refine h_op (vB ((b_13.toNat : Int) == 45)) (wg rfl rfl rfl) rfl ?_
                  rcases cond_some h_16 with ⟨hc_27, h_16⟩ | ⟨hc_27, h_16⟩
                  · refine h_movb rfl hc_27 (wg rfl rfl rfl) ?_
                    refine h_skip (wg rfl rfl rfl) ?_
                    refine h_skip (wg rfl rfl rfl) ?_
                    refine h_op (vB true) (wg rfl rfl rfl) rfl ?_
                    refine h_op (vB true) (wg rfl rfl rfl) rfl ?_
                    refine h_op (vB true) (wt rfl) rfl ?_
                    refine h_op (vB false) (wt rfl) rfl ?_
                    refine h_nil ?_
                    replace h_16 := some_inj h_16
                    subst h_16
                    exact cut_mk () trivial rfl rfl
                  · refine h_movb rfl hc_27 (wg rfl rfl rfl) ?_
                    refine h_op (.d (.int .u8 (b_13.toNat : Int))) (wg rfl rfl rfl) rfl ?_
                    refine h_op (vB ((b_13.toNat : Int) == 95)) (wg rfl rfl rfl) rfl ?_
                    refine h_op (vB ((b_13.toNat : Int) == 95)) (wg rfl rfl rfl) rfl ?_
                    refine h_op (vB ((b_13.toNat : Int) == 95)) (wg rfl rfl rfl) rfl ?_
                    refine h_op (vB ((b_13.toNat : Int) == 95)) (wt rfl) rfl ?_
                    refine h_op (vB (!((b_13.toNat : Int) == 95))) (wt rfl) rfl ?_
                    refine h_nil ?_
                    replace h_16 := some_inj h_16
                    subst h_16
                    exact cut_mk () trivial rfl rfl
              · refine h_movb rfl hc_25 (wg rfl rfl rfl) ?_
                refine h_skip (wg rfl rfl rfl) ?_
                refine h_skip (wg rfl rfl rfl) ?_
                refine h_op (vB false) (wg rfl rfl rfl) rfl ?_
                refine h_op (vB false) (wg rfl rfl rfl) rfl ?_
                refine h_op (.d (.int .u8 (b_13.toNat : Int))) (wg rfl rfl rfl) rfl ?_
                refine h_op (vB ((b_13.toNat : Int) == 45)) (wg rfl rfl rfl) rfl ?_
                refine h_op (vB ((b_13.toNat : Int) == 45)) (wg rfl rfl rfl) rfl ?_
                rcases cond_some h_16 with ⟨hc_28, h_16⟩ | ⟨hc_28, h_16⟩
                · refine h_movb rfl hc_28 (wg rfl rfl rfl) ?_
                  refine h_skip (wg rfl rfl rfl) ?_
                  refine h_skip (wg rfl rfl rfl) ?_
                  refine h_op (vB true) (wg rfl rfl rfl) rfl ?_
                  refine h_op (vB true) (wg rfl rfl rfl) rfl ?_
                  refine h_op (vB true) (wt rfl) rfl ?_
                  refine h_op (vB false) (wt rfl) rfl ?_
                  refine h_nil ?_
                  replace h_16 := some_inj h_16
                  subst h_16
                  exact cut_mk () trivial rfl rfl
                · refine h_movb rfl hc_28 (wg rfl rfl rfl) ?_
                  refine h_op (.d (.int .u8 (b_13.toNat : Int))) (wg rfl rfl rfl) rfl ?_
                  refine h_op (vB ((b_13.toNat : Int) == 95)) (wg rfl rfl rfl) rfl ?_
                  refine h_op (vB ((b_13.toNat : Int) == 95)) (wg rfl rfl rfl) rfl ?_
                  refine h_op (vB ((b_13.toNat : Int) == 95)) (wg rfl rfl rfl) rfl ?_
                  refine h_op (vB ((b_13.toNat : Int) == 95)) (wt rfl) rfl ?_
                  refine h_op (vB (!((b_13.toNat : Int) == 95))) (wt rfl) rfl ?_
                  refine h_nil ?_
                  replace h_16 := some_inj h_16
                  subst h_16
                  exact cut_mk () trivial rfl rfl
            · refine h_movb rfl hc_24 (wg rfl rfl rfl) ?_
              refine h_skip (wg rfl rfl rfl) ?_
              refine h_skip (wg rfl rfl rfl) ?_
              refine h_skip (wg rfl rfl rfl) ?_
              refine h_skip (wn rfl rfl) ?_
              refine h_skip (wn rfl rfl) ?_
              refine h_skip (wg rfl rfl rfl) ?_
              refine h_skip (wg rfl rfl rfl) ?_
              refine h_skip (wn rfl rfl) ?_
              refine h_skip (wn rfl rfl) ?_
              refine h_skip (wg rfl rfl rfl) ?_
              refine h_skip (wg rfl rfl rfl) ?_
              refine h_skip (wn rfl rfl) ?_
              refine h_skip (wn rfl rfl) ?_
              refine h_skip (wg rfl rfl rfl) ?_
              refine h_op (vB false) (wg rfl rfl rfl) rfl ?_
              refine h_op (vB false) (wt rfl) rfl ?_
              refine h_op (vB true) (wt rfl) rfl ?_
              refine h_nil ?_
              replace h_16 := some_inj h_16
              subst h_16
              exact cut_mk () trivial rfl rfl
        · rintro ⟨⟩ _ sl_ H_ hp_ hq_
          refine wH_at _ hp_ hq_ ?_
          rcases cond_some hc_8 with ⟨hc_29, hc_8⟩ | ⟨hc_29, hc_8⟩
          · refine wH_ift rfl hc_29 ?_
            refine wH_seq ?_
            refine wH_region ?_
            refine h_op (vB false) (wt rfl) rfl ?_
            refine h_nil ?_
            replace hc_8 := some_inj hc_8
            subst hc_8
            replace hL_9 := some_inj hL_9
            subst hL_9
            replace hF := some_inj hF
            subst hF
            refine wH_ret ?_
            exact fin0 (.inr rfl) [(vB false)] ⟨rfl, trivial⟩ rfl rfl rfl
          · refine wH_iff rfl hc_29 ?_
            refine wH_skip ?_
            refine wH_region ?_
            refine h_op (vI s_7) (wt rfl) rfl ?_
            refine h_op (vI (w64 (s_7 + 1))) (wt rfl) rfl ?_
            refine h_op (vI (w64 (s_7 + 1))) (wt rfl) rfl ?_
            refine h_nil ?_
            replace hc_8 := some_inj hc_8
            subst hc_8
            exact loop_mk (k_2, (w64 (s_7 + 1))) hL_9 (Nat.lt_succ_self _) rfl rfl
      · refine wH_iff rfl hc_12 ?_
        refine wH_exit ?_
        replace hc_8 := some_inj hc_8
        subst hc_8
        replace hL_9 := some_inj hL_9
        subst hL_9
        exact cut_mk (s_7) rfl rfl rfl
  · rintro s_7 ho_ sl_ H_ hp_ hq_
    subst ho_
    refine wH_at _ hp_ hq_ ?_
    refine wH_seq ?_
    obtain ⟨v_30, h_31, hF⟩ := bind_some hF
    refine wH_join (β := Unit) (fun _ => ([(2, (vB v_30))] : List (Nat × V))) (fun _ => ([] : Hp)) (fun _ => True) ?_ ?_
    · refine wH_region ?_
      refine h_op (vS s_1) (wt rfl) rfl ?_
      refine h_op (vB (sNe s_1 (⟨#[]⟩ : ByteArray))) (wt rfl) rfl ?_
      rcases cond_some h_31 with ⟨hc_32, h_31⟩ | ⟨hc_32, h_31⟩
      · refine h_movb rfl hc_32 (wt rfl) ?_
        refine h_op (vS s_1) (wg rfl rfl rfl) rfl ?_
        refine h_lens un9 rfl (wg rfl rfl rfl) ?_
        refine h_op (vB (decide ((s_1.size : Int) ≤ 40))) (wg rfl rfl rfl) rfl ?_
        refine h_op (vB (decide ((s_1.size : Int) ≤ 40))) (wt rfl) rfl ?_
        refine h_op (vB (decide ((s_1.size : Int) ≤ 40))) (wt rfl) rfl ?_
        refine h_nil ?_
        replace h_31 := some_inj h_31
        subst h_31
        exact cut_mk () trivial rfl rfl
      · refine h_movb rfl hc_32 (wt rfl) ?_
        refine h_skip (wg rfl rfl rfl) ?_
        refine h_skip (wg rfl rfl rfl) ?_
        refine h_skip (wg rfl rfl rfl) ?_
        refine h_op (vB false) (wt rfl) rfl ?_
        refine h_op (vB false) (wt rfl) rfl ?_
        refine h_nil ?_
        replace h_31 := some_inj h_31
        subst h_31
        exact cut_mk () trivial rfl rfl
    · rintro ⟨⟩ _ sl_ H_ hp_ hq_
      refine wH_at _ hp_ hq_ ?_
      replace hF := some_inj hF
      subst hF
      refine wH_ret ?_
      exact fin0 (.inr rfl) [(vB v_30)] ⟨rfl, trivial⟩ rfl rfl rfl
theorem kit_IsMoment_ok {n_1 : Int} {r : Bool} (hF : kit_IsMoment n_1 = some r) :
    FnM Try.prog 81 [(vI n_1)] [] (vB r) [] := by
  refine FnM.of_wH ⟨Try.prog, 9, [], []⟩ rfl Try.func81 rfl rfl (Nat.le_of_ble_eq_true rfl) (by kernel_rfl) ?_
  unfold kit_IsMoment at hF
  refine wH_seq ?_
  refine wH_region ?_
  refine h_op (vB false) (wt rfl) rfl ?_
  refine h_nil ?_
  refine wH_seq ?_
  obtain ⟨v_2, h_3, hF⟩ := bind_some hF
  refine wH_join (β := Unit) (fun _ => ([(2, (vB v_2))] : List (Nat × V))) (fun _ => ([] : Hp)) (fun _ => True) ?_ ?_
  · refine wH_region ?_
    refine h_op (vI n_1) (wt rfl) rfl ?_
    refine h_op (vB (decide (n_1 ≥ 0))) (wt rfl) rfl ?_
    rcases cond_some h_3 with ⟨hc_4, h_3⟩ | ⟨hc_4, h_3⟩
    · refine h_movb rfl hc_4 (wt rfl) ?_
      refine h_op (vI n_1) (wg rfl rfl rfl) rfl ?_
      refine h_op (vB (decide (n_1 < 345686400000))) (wg rfl rfl rfl) rfl ?_
      refine h_op (vB (decide (n_1 < 345686400000))) (wt rfl) rfl ?_
      refine h_op (vB (decide (n_1 < 345686400000))) (wt rfl) rfl ?_
      refine h_nil ?_
      replace h_3 := some_inj h_3
      subst h_3
      exact cut_mk () trivial rfl rfl
    · refine h_movb rfl hc_4 (wt rfl) ?_
      refine h_skip (wg rfl rfl rfl) ?_
      refine h_skip (wg rfl rfl rfl) ?_
      refine h_op (vB false) (wt rfl) rfl ?_
      refine h_op (vB false) (wt rfl) rfl ?_
      refine h_nil ?_
      replace h_3 := some_inj h_3
      subst h_3
      exact cut_mk () trivial rfl rfl
  · rintro ⟨⟩ _ sl_ H_ hp_ hq_
    refine wH_at _ hp_ hq_ ?_
    replace hF := some_inj hF
    subst hF
    refine wH_ret ?_
    exact fin0 (.inr rfl) [(vB v_2)] ⟨rfl, trivial⟩ rfl rfl rfl
theorem kit_Outside_ok {n_1 : Int} {low_2 : Int} {high_3 : Int} {r : Bool} (hF : kit_Outside n_1 low_2 high_3 = some r) :
    FnM Try.prog 82 [(vI n_1), (vI low_2), (vI high_3)] [] (vB r) [] := by
  refine FnM.of_wH ⟨Try.prog, 15, [], []⟩ rfl Try.func82 rfl rfl (Nat.le_of_ble_eq_true rfl) (by kernel_rfl) ?_
  unfold kit_Outside at hF
  refine wH_seq ?_
  refine wH_region ?_
  refine h_op (vB false) (wt rfl) rfl ?_
  refine h_nil ?_
  refine wH_seq ?_
  obtain ⟨v_4, h_5, hF⟩ := bind_some hF
  refine wH_join (β := Unit) (fun _ => ([(6, (vB v_4))] : List (Nat × V))) (fun _ => ([] : Hp)) (fun _ => True) ?_ ?_
  · refine wH_region ?_
    refine h_op (vI n_1) (wt rfl) rfl ?_
    refine h_op (vI low_2) (wt rfl) rfl ?_
    refine h_op (vB (decide (n_1 < low_2))) (wt rfl) rfl ?_
    rcases cond_some h_5 with ⟨hc_6, h_5⟩ | ⟨hc_6, h_5⟩
    · refine h_movb rfl hc_6 (wt rfl) ?_
      refine h_skip (wg rfl rfl rfl) ?_
      refine h_skip (wg rfl rfl rfl) ?_
      refine h_skip (wg rfl rfl rfl) ?_
      refine h_op (vB true) (wt rfl) rfl ?_
      refine h_op (vB true) (wt rfl) rfl ?_
      refine h_nil ?_
      replace h_5 := some_inj h_5
      subst h_5
      exact cut_mk () trivial rfl rfl
    · refine h_movb rfl hc_6 (wt rfl) ?_
      refine h_op (vI n_1) (wg rfl rfl rfl) rfl ?_
      refine h_op (vI high_3) (wg rfl rfl rfl) rfl ?_
      refine h_op (vB (decide (n_1 > high_3))) (wg rfl rfl rfl) rfl ?_
      refine h_op (vB (decide (n_1 > high_3))) (wt rfl) rfl ?_
      refine h_op (vB (decide (n_1 > high_3))) (wt rfl) rfl ?_
      refine h_nil ?_
      replace h_5 := some_inj h_5
      subst h_5
      exact cut_mk () trivial rfl rfl
  · rintro ⟨⟩ _ sl_ H_ hp_ hq_
    refine wH_at _ hp_ hq_ ?_
    replace hF := some_inj hF
    subst hF
    refine wH_ret ?_
    exact fin0 (.inr rfl) [(vB v_4)] ⟨rfl, trivial⟩ rfl rfl rfl
theorem internal_bytealg_CompareString_ok {a_1 : ByteArray} {b_2 : ByteArray} {r : Int} (hF : internal_bytealg_CompareString a_1 b_2 = some r) :
    FnM Try.prog 164 [(vS a_1), (vS b_2)] [] (vI r) [] := by
  refine FnM.of_wH ⟨Try.prog, 8, [], []⟩ rfl Try.func164 rfl rfl (Nat.le_of_ble_eq_true rfl) (by kernel_rfl) ?_
  unfold internal_bytealg_CompareString at hF
  refine wH_seq ?_
  refine wH_region ?_
  refine h_op (vI 0) (wt rfl) rfl ?_
  refine h_nil ?_
  refine wH_seq ?_
  refine wH_region ?_
  refine h_op (vS a_1) (wt rfl) rfl ?_
  refine h_op (vS b_2) (wt rfl) rfl ?_
  refine h_ext (ext_cmpB (f := 200) Try.func200 rfl rfl (by kernel_rfl) (by kernel_rfl) _ _) rfl nb200 rfl (wt rfl) ?_
  refine h_op (vI (cmpB a_1 b_2)) (wt rfl) rfl ?_
  refine h_nil ?_
  replace hF := some_inj hF
  subst hF
  refine wH_ret ?_
  exact fin0 (.inr rfl) [(vI (cmpB a_1 b_2))] ⟨rfl, trivial⟩ rfl rfl rfl
theorem strings_Compare_ok {a_1 : ByteArray} {b_2 : ByteArray} {r : Int} (hF : strings_Compare a_1 b_2 = some r) :
    FnM Try.prog 111 [(vS a_1), (vS b_2)] [] (vI r) [] := by
  refine FnM.of_wH ⟨Try.prog, 8, [], []⟩ rfl Try.func111 rfl rfl (Nat.le_of_ble_eq_true rfl) (by kernel_rfl) ?_
  unfold strings_Compare at hF
  refine wH_seq ?_
  refine wH_region ?_
  refine h_op (vI 0) (wt rfl) rfl ?_
  refine h_nil ?_
  refine wH_seq ?_
  refine wH_region ?_
  refine h_op (vS a_1) (wt rfl) rfl ?_
  refine h_op (vS b_2) (wt rfl) rfl ?_
  obtain ⟨r_3, hr_4, hF⟩ := bind_some hF
  refine h_call0 (internal_bytealg_CompareString_ok hr_4) rfl hb164 rfl rfl rfl rfl (wt rfl) ?_
  refine h_op (vI r_3) (wt rfl) rfl ?_
  refine h_nil ?_
  replace hF := some_inj hF
  subst hF
  refine wH_ret ?_
  exact fin0 (.inr rfl) [(vI r_3)] ⟨rfl, trivial⟩ rfl rfl rfl
theorem cmp_isNaN_int_ok {x_1 : Int} {r : Bool} (hF : cmp_isNaN_int x_1 = some r) :
    FnM Try.prog 165 [(vI x_1)] [] (vB r) [] := by
  refine FnM.of_wH ⟨Try.prog, 6, [], []⟩ rfl Try.func165 rfl rfl (Nat.le_of_ble_eq_true rfl) (by kernel_rfl) ?_
  unfold cmp_isNaN_int at hF
  refine wH_seq ?_
  refine wH_region ?_
  refine h_op (vB false) (wt rfl) rfl ?_
  refine h_nil ?_
  refine wH_seq ?_
  refine wH_region ?_
  refine h_op (vI x_1) (wt rfl) rfl ?_
  refine h_op (vI x_1) (wt rfl) rfl ?_
  refine h_op (vB (x_1 != x_1)) (wt rfl) rfl ?_
  refine h_op (vB (x_1 != x_1)) (wt rfl) rfl ?_
  refine h_nil ?_
  replace hF := some_inj hF
  subst hF
  refine wH_ret ?_
  exact fin0 (.inr rfl) [(vB (x_1 != x_1))] ⟨rfl, trivial⟩ rfl rfl rfl
theorem cmp_Compare_int_ok {x_1 : Int} {y_2 : Int} {r : Int} (hF : cmp_Compare_int x_1 y_2 = some r) :
    FnM Try.prog 112 [(vI x_1), (vI y_2)] [] (vI r) [] := by
  refine FnM.of_wH ⟨Try.prog, 20, [], []⟩ rfl Try.func112 rfl rfl (Nat.le_of_ble_eq_true rfl) (by kernel_rfl) ?_
  unfold cmp_Compare_int at hF
  refine wH_seq ?_
  refine wH_region ?_
  refine h_op (vI 0) (wt rfl) rfl ?_
  refine h_nil ?_
  refine wH_seq ?_
  refine wH_region ?_
  refine h_op (vI x_1) (wt rfl) rfl ?_
  obtain ⟨r_3, hr_4, hF⟩ := bind_some hF
  refine h_call0 (cmp_isNaN_int_ok hr_4) rfl hb165 rfl rfl rfl rfl (wt rfl) ?_
  refine h_op (vB r_3) (wt rfl) rfl ?_
  refine h_nil ?_
  refine wH_seq ?_
  refine wH_region ?_
  refine h_op (vI y_2) (wt rfl) rfl ?_
  obtain ⟨r_5, hr_6, hF⟩ := bind_some hF
  refine h_call0 (cmp_isNaN_int_ok hr_6) rfl hb165 rfl rfl rfl rfl (wt rfl) ?_
  refine h_op (vB r_5) (wt rfl) rfl ?_
  refine h_nil ?_
  refine wH_seq ?_
  refine wH_seq ?_
  refine wH_region ?_
  refine h_op (vB r_3) (wt rfl) rfl ?_
  refine h_nil ?_
  rcases cond_some hF with ⟨hc_7, hF⟩ | ⟨hc_7, hF⟩
  · refine wH_ift rfl hc_7 ?_
    refine wH_seq ?_
    refine wH_seq ?_
    refine wH_region ?_
    refine h_op (vB r_5) (wt rfl) rfl ?_
    refine h_nil ?_
    rcases cond_some hF with ⟨hc_8, hF⟩ | ⟨hc_8, hF⟩
    · refine wH_ift rfl hc_8 ?_
      refine wH_seq ?_
      refine wH_region ?_
      refine h_op (vI 0) (wt rfl) rfl ?_
      refine h_nil ?_
      replace hF := some_inj hF
      subst hF
      refine wH_ret ?_
      exact fin0 (.inr rfl) [(vI 0)] ⟨rfl, trivial⟩ rfl rfl rfl
    · refine wH_iff rfl hc_8 ?_
      refine wH_skip ?_
      refine wH_seq ?_
      refine wH_region ?_
      refine h_op (vI (-1)) (wt rfl) rfl ?_
      refine h_nil ?_
      replace hF := some_inj hF
      subst hF
      refine wH_ret ?_
      exact fin0 (.inr rfl) [(vI (-1))] ⟨rfl, trivial⟩ rfl rfl rfl
  · refine wH_iff rfl hc_7 ?_
    refine wH_skip ?_
    refine wH_seq ?_
    refine wH_seq ?_
    refine wH_region ?_
    refine h_op (vB r_5) (wt rfl) rfl ?_
    refine h_nil ?_
    rcases cond_some hF with ⟨hc_9, hF⟩ | ⟨hc_9, hF⟩
    · refine wH_ift rfl hc_9 ?_
      refine wH_seq ?_
      refine wH_region ?_
      refine h_op (vI 1) (wt rfl) rfl ?_
      refine h_nil ?_
      replace hF := some_inj hF
      subst hF
      refine wH_ret ?_
      exact fin0 (.inr rfl) [(vI 1)] ⟨rfl, trivial⟩ rfl rfl rfl
    · refine wH_iff rfl hc_9 ?_
      refine wH_skip ?_
      refine wH_seq ?_
      refine wH_seq ?_
      refine wH_region ?_
      refine h_op (vI x_1) (wt rfl) rfl ?_
      refine h_op (vI y_2) (wt rfl) rfl ?_
      refine h_op (vB (decide (x_1 < y_2))) (wt rfl) rfl ?_
      refine h_nil ?_
      rcases cond_some hF with ⟨hc_10, hF⟩ | ⟨hc_10, hF⟩
      · refine wH_ift rfl hc_10 ?_
        refine wH_seq ?_
        refine wH_region ?_
        refine h_op (vI (-1)) (wt rfl) rfl ?_
        refine h_nil ?_
        replace hF := some_inj hF
        subst hF
        refine wH_ret ?_
        exact fin0 (.inr rfl) [(vI (-1))] ⟨rfl, trivial⟩ rfl rfl rfl
      · refine wH_iff rfl hc_10 ?_
        refine wH_skip ?_
        refine wH_seq ?_
        refine wH_seq ?_
        refine wH_region ?_
        refine h_op (vI x_1) (wt rfl) rfl ?_
        refine h_op (vI y_2) (wt rfl) rfl ?_
        refine h_op (vB (decide (x_1 > y_2))) (wt rfl) rfl ?_
        refine h_nil ?_
        rcases cond_some hF with ⟨hc_11, hF⟩ | ⟨hc_11, hF⟩
        · refine wH_ift rfl hc_11 ?_
          refine wH_seq ?_
          refine wH_region ?_
          refine h_op (vI 1) (wt rfl) rfl ?_
          refine h_nil ?_
          replace hF := some_inj hF
          subst hF
          refine wH_ret ?_
          exact fin0 (.inr rfl) [(vI 1)] ⟨rfl, trivial⟩ rfl rfl rfl
        · refine wH_iff rfl hc_11 ?_
          refine wH_skip ?_
          refine wH_seq ?_
          refine wH_region ?_
          refine h_op (vI 0) (wt rfl) rfl ?_
          refine h_nil ?_
          replace hF := some_inj hF
          subst hF
          refine wH_ret ?_
          exact fin0 (.inr rfl) [(vI 0)] ⟨rfl, trivial⟩ rfl rfl rfl
theorem cmp_Or_int_ok {vals_1 : (List Int)} {r : Int} (hF : cmp_Or_int vals_1 = some r) :
    FnM Try.prog 110 [(vL eI vals_1)] [] (vI r) [] := by
  refine FnM.of_wH ⟨Try.prog, 18, [], []⟩ rfl Try.func110 rfl rfl (Nat.le_of_ble_eq_true rfl) (by kernel_rfl) ?_
  unfold cmp_Or_int at hF
  refine wH_seq ?_
  refine wH_region ?_
  refine h_op (vI 0) (wt rfl) rfl ?_
  refine h_nil ?_
  refine wH_seq ?_
  refine wH_region ?_
  refine h_op (vI 0) (wt rfl) rfl ?_
  refine h_nil ?_
  refine wH_seq ?_
  refine wH_seq ?_
  refine wH_region ?_
  refine h_op (vL eI vals_1) (wt rfl) rfl ?_
  refine h_len un22 rfl (wt rfl) ?_
  refine h_op (vI 0) (wt rfl) rfl ?_
  refine h_nil ?_
  obtain ⟨o_10, hj_11, hF⟩ := bind_some hF
  obtain ⟨hn_6, hj_11⟩ := forL_some hj_11
  refine wH_join (β := (Unit)) (fun (s_7 : Unit) => ([(3, (vI 0))] : List (Nat × V))) (fun (s_7 : Unit) => ([] : Hp)) (fun p => o_10 = .go p) ?_ ?_
  · refine wH_block ?_
    refine wH_loop (β := Nat × (List Int) × (Unit)) (fun p => (fun (k_2 : Nat) (l_3 : List Int) (s_7 : Unit) => ([(3, (vI 0)), (6, (vL eI vals_1)), (7, (vI (vals_1.length : Int))), (8, (vI (k_2 : Int)))] : List (Nat × V))) p.1 p.2.1 p.2.2) (fun p => (fun (k_2 : Nat) (l_3 : List Int) (s_7 : Unit) => ([] : Hp)) p.1 p.2.1 p.2.2) (fun p => forR (fun k x s => cmp_Or_int_L1 k x s) p.2.1 p.1 p.2.2 = some o_10 ∧ (vals_1).drop p.1 = p.2.1) (fun p => p.2.1.length) (0, vals_1, ()) ⟨hj_11, rfl⟩ rfl rfl ?_
    rintro ⟨k_2, l_3, s_7⟩ ⟨hL_9, hD_5⟩
    dsimp only at hL_9 hD_5
    cases l_3 with
    | nil =>
      replace hL_9 := some_inj hL_9
      subst hL_9
      refine wH_seq (wH_region (h_op (vB (decide ((k_2 : Int) < (vals_1.length : Int)))) (wt rfl) rfl (h_nil ?_)))
      refine wH_seq (wH_iff rfl (drop_nil hD_5) (wH_exit ?_))
      exact cut_mk (s_7) rfl rfl rfl
    | cons x_4 l_3 =>
      obtain ⟨c_, hc_8, hL_9⟩ := bind_some hL_9
      refine wH_seq (wH_region (h_op (vB (decide ((k_2 : Int) < (vals_1.length : Int)))) (wt rfl) rfl (h_nil ?_)))
      refine wH_seq (wH_ift rfl (drop_cons hD_5) (wH_skip ?_))
      unfold cmp_Or_int_L1 at hc_8
      refine wH_seq ?_
      refine wH_block ?_
      refine wH_seq ?_
      refine wH_region ?_
      refine h_ia es22 rfl rfl (drop_idx hD_5) rfl (wt rfl) ?_
      refine h_ldc sz3 ag3 rfl (vI x_4) rfl (wt rfl) ?_
      refine h_op (vI x_4) (wt rfl) rfl ?_
      refine h_nil ?_
      refine wH_seq ?_
      refine wH_region ?_
      refine h_op (vI x_4) (wt rfl) rfl ?_
      refine h_op (vI 0) (wt rfl) rfl ?_
      refine h_op (vB (x_4 != 0)) (wt rfl) rfl ?_
      refine h_nil ?_
      rcases cond_some hc_8 with ⟨hc_12, hc_8⟩ | ⟨hc_12, hc_8⟩
      · refine wH_ift rfl hc_12 ?_
        refine wH_seq ?_
        refine wH_region ?_
        refine h_op (vI x_4) (wt rfl) rfl ?_
        refine h_op (vI x_4) (wt rfl) rfl ?_
        refine h_nil ?_
        replace hc_8 := some_inj hc_8
        subst hc_8
        replace hL_9 := some_inj hL_9
        subst hL_9
        replace hF := some_inj hF
        subst hF
        refine wH_ret ?_
        exact fin0 (.inr rfl) [(vI x_4)] ⟨rfl, trivial⟩ rfl rfl rfl
      · refine wH_iff rfl hc_12 ?_
        refine wH_skip ?_
        refine wH_region ?_
        refine h_opw (w64_next hD_5 hn_6) (wt rfl) rfl ?_
        refine h_op (vI ((k_2 + 1 : Nat) : Int)) (wt rfl) rfl ?_
        refine h_nil ?_
        replace hc_8 := some_inj hc_8
        subst hc_8
        exact loop_mk (k_2 + 1, l_3, ()) ⟨hL_9, drop_next hD_5⟩ (Nat.lt_succ_self _) rfl rfl
  · rintro s_7 ho_ sl_ H_ hp_ hq_
    subst ho_
    refine wH_at _ hp_ hq_ ?_
    refine wH_seq ?_
    refine wH_region ?_
    refine h_op (vI 0) (wt rfl) rfl ?_
    refine h_op (vI 0) (wt rfl) rfl ?_
    refine h_nil ?_
    replace hF := some_inj hF
    subst hF
    refine wH_ret ?_
    exact fin0 (.inr rfl) [(vI 0)] ⟨rfl, trivial⟩ rfl rfl rfl
theorem proof_compareBeats_ok {a_1 : Beat} {b_2 : Beat} {r : Int} (hF : proof_compareBeats a_1 b_2 = some r) :
    FnM Try.prog 83 [(.d (.agg (Beat.enc a_1))), (.d (.agg (Beat.enc b_2)))] [] (vI r) [] := by
  refine FnM.of_wH ⟨Try.prog, 17, [], []⟩ rfl Try.func83 rfl rfl (Nat.le_of_ble_eq_true rfl) (by kernel_rfl) ?_
  unfold proof_compareBeats at hF
  refine wH_seq ?_
  refine wH_region ?_
  refine h_box 0 (.inl rfl) [(vS a_1.Player), (vI a_1.At), (vI a_1.Clock)] rfl rfl (wt rfl) (fun n_3 => ?_)
  refine h_box 0 (.inl rfl) [(vS b_2.Player), (vI b_2.At), (vI b_2.Clock)] rfl rfl (wt rfl) (fun n_4 => ?_)
  refine h_op (vI 0) (wt rfl) rfl ?_
  refine h_nil ?_
  refine wH_seq ?_
  refine wH_draws ?_
  refine h_far pl119_0 rfl 0 rfl (wt rfl) ?_
  refine h_ldr 1 0 (.inr (by kernel_rfl)) (fun _ _ ag => trivial) sz9 ag9 rfl rfl (vS a_1.Player) rfl (wt rfl) ?_
  refine h_far pl119_0 rfl 0 rfl (wt rfl) ?_
  refine h_ldr 3 1 (.inr (by kernel_rfl)) (fun _ _ ag => ⟨.inl ⟨rfl, rfl⟩, trivial⟩) sz9 ag9 rfl rfl (vS b_2.Player) rfl (wt rfl) ?_
  obtain ⟨r_5, hr_6, hF⟩ := bind_some hF
  refine h_call0 (strings_Compare_ok hr_6) rfl hb111 rfl rfl rfl rfl (wt rfl) ?_
  refine h_far pl119_1 rfl 1 rfl (wt rfl) ?_
  refine h_ldr 6 0 (.inr (by kernel_rfl)) (fun _ _ ag => ⟨.inl ⟨rfl, rfl⟩, ⟨.inl ⟨rfl, rfl⟩, trivial⟩⟩) sz3 ag3 rfl rfl (vI a_1.At) rfl (wt rfl) ?_
  refine h_far pl119_1 rfl 1 rfl (wt rfl) ?_
  refine h_ldr 8 1 (.inr (by kernel_rfl)) (fun _ _ ag => ⟨.inl ⟨rfl, rfl⟩, ⟨.inl ⟨rfl, rfl⟩, ⟨.inl ⟨rfl, rfl⟩, trivial⟩⟩⟩) sz3 ag3 rfl rfl (vI b_2.At) rfl (wt rfl) ?_
  obtain ⟨r_7, hr_8, hF⟩ := bind_some hF
  refine h_call0 (cmp_Compare_int_ok hr_8) rfl hb112 rfl rfl rfl rfl (wt rfl) ?_
  refine h_lit (([r_5, r_7] : List Int).map eI) es22 ez22 rfl rfl rfl rfl rfl (wt rfl) ?_
  obtain ⟨r_9, hr_10, hF⟩ := bind_some hF
  refine h_call0 (cmp_Or_int_ok hr_10) rfl hb110 rfl rfl rfl rfl (wt rfl) ?_
  refine h_op (vI r_9) (wt rfl) rfl ?_
  refine h_nil ?_
  replace hF := some_inj hF
  subst hF
  refine wH_ret ?_
  exact fin0 (.inr rfl) [(vI r_9)] ⟨rfl, trivial⟩ rfl rfl rfl
theorem proof_CheckBeats_ok {l_1 : (List Beat)} {r : Int} (hF : proof_CheckBeats l_1 = some r) :
    FnM Try.prog 15 [(vL Beat.enc l_1)] [] (vI r) [] := by
  refine FnM.of_wH ⟨Try.prog, 69, [], []⟩ rfl Try.func15 rfl rfl (Nat.le_of_ble_eq_true rfl) (by kernel_rfl) ?_
  unfold proof_CheckBeats at hF
  refine wH_seq ?_
  refine wH_region ?_
  refine h_op (vI 0) (wt rfl) rfl ?_
  refine h_nil ?_
  refine wH_seq ?_
  refine wH_seq ?_
  refine wH_region ?_
  refine h_op (vL Beat.enc l_1) (wt rfl) rfl ?_
  refine h_len un26 rfl (wt rfl) ?_
  refine h_op (vB (decide ((l_1.length : Int) > 500))) (wt rfl) rfl ?_
  refine h_nil ?_
  rcases cond_some hF with ⟨hc_2, hF⟩ | ⟨hc_2, hF⟩
  · refine wH_ift rfl hc_2 ?_
    refine wH_seq ?_
    refine wH_region ?_
    refine h_op (vI 2) (wt rfl) rfl ?_
    refine h_nil ?_
    replace hF := some_inj hF
    subst hF
    refine wH_ret ?_
    exact fin0 (.inr rfl) [(vI 2)] ⟨rfl, trivial⟩ rfl rfl rfl
  · refine wH_iff rfl hc_2 ?_
    refine wH_skip ?_
    refine wH_seq ?_
    refine wH_seq ?_
    refine wH_region ?_
    refine h_op (vL Beat.enc l_1) (wt rfl) rfl ?_
    refine h_len un26 rfl (wt rfl) ?_
    refine h_op (vI 0) (wt rfl) rfl ?_
    refine h_nil ?_
    obtain ⟨o_11, hj_12, hF⟩ := bind_some hF
    obtain ⟨hn_7, hj_12⟩ := forL_some hj_12
    refine wH_join (β := (Unit)) (fun (s_8 : Unit) => ([] : List (Nat × V))) (fun (s_8 : Unit) => ([] : Hp)) (fun p => o_11 = .go p) ?_ ?_
    · refine wH_block ?_
      refine wH_loop (β := Nat × (List Beat) × (Unit)) (fun p => (fun (k_3 : Nat) (l_4 : List Beat) (s_8 : Unit) => ([(0, (vL Beat.enc l_1)), (8, (vL Beat.enc l_1)), (9, (vI (l_1.length : Int))), (10, (vI (k_3 : Int)))] : List (Nat × V))) p.1 p.2.1 p.2.2) (fun p => (fun (k_3 : Nat) (l_4 : List Beat) (s_8 : Unit) => ([] : Hp)) p.1 p.2.1 p.2.2) (fun p => forR (fun k x s => proof_CheckBeats_L1 l_1 k x s) p.2.1 p.1 p.2.2 = some o_11 ∧ (l_1).drop p.1 = p.2.1) (fun p => p.2.1.length) (0, l_1, ()) ⟨hj_12, rfl⟩ rfl rfl ?_
      rintro ⟨k_3, l_4, s_8⟩ ⟨hL_10, hD_6⟩
      dsimp only at hL_10 hD_6
      cases l_4 with
      | nil =>
        replace hL_10 := some_inj hL_10
        subst hL_10
        refine wH_seq (wH_region (h_op (vB (decide ((k_3 : Int) < (l_1.length : Int)))) (wt rfl) rfl (h_nil ?_)))
        refine wH_seq (wH_iff rfl (drop_nil hD_6) (wH_exit ?_))
        exact cut_mk (s_8) rfl rfl rfl
      | cons x_5 l_4 =>
        obtain ⟨c_, hc_9, hL_10⟩ := bind_some hL_10
        refine wH_seq (wH_region (h_op (vB (decide ((k_3 : Int) < (l_1.length : Int)))) (wt rfl) rfl (h_nil ?_)))
        refine wH_seq (wH_ift rfl (drop_cons hD_6) (wH_skip ?_))
        unfold proof_CheckBeats_L1 at hc_9
        refine wH_seq ?_
        refine wH_block ?_
        refine wH_seq ?_
        refine wH_region ?_
        refine h_op (vI (k_3 : Int)) (wt rfl) rfl ?_
        refine h_ia es26 rfl rfl (drop_idx hD_6) rfl (wt rfl) ?_
        refine h_ldc sz119 ag119 rfl (.d (.agg (Beat.enc x_5))) rfl (wt rfl) ?_
        refine h_alloc 0 (.inl rfl) z119 rfl (wt rfl) (fun n_13 => ?_)
        refine h_op (vI (k_3 : Int)) (wt rfl) rfl ?_
        refine h_str 0 (.inl rfl) (fun _ _ _ => trivial) 0 sz119 rfl rfl [(vS x_5.Player), (vI x_5.At), (vI x_5.Clock)] rfl (wt rfl) ?_
        refine h_nil ?_
        refine wH_block ?_
        refine wH_seq ?_
        refine wH_region ?_
        refine h_far pl119_0 rfl 0 rfl (wt rfl) ?_
        refine h_ldr 0 0 (.inl rfl) (fun _ _ _ => trivial) sz9 ag9 rfl rfl (vS x_5.Player) rfl (wt rfl) ?_
        obtain ⟨r_14, hr_15, hc_9⟩ := bind_some hc_9
        refine h_call0 (kit_IsKey_ok hr_15) rfl hb77 rfl rfl rfl rfl (wt rfl) ?_
        refine h_op (vB (!r_14)) (wt rfl) rfl ?_
        refine h_op (vB (!r_14)) (wt rfl) rfl ?_
        refine h_nil ?_
        rcases cond_some hc_9 with ⟨hc_16, hc_9⟩ | ⟨hc_16, hc_9⟩
        · refine wH_ift rfl hc_16 ?_
          refine wH_seq ?_
          refine wH_region ?_
          refine h_op (vI 5) (wt rfl) rfl ?_
          refine h_nil ?_
          replace hc_9 := some_inj hc_9
          subst hc_9
          replace hL_10 := some_inj hL_10
          subst hL_10
          replace hF := some_inj hF
          subst hF
          refine wH_ret ?_
          exact fin0 (.inr rfl) [(vI 5)] ⟨rfl, trivial⟩ rfl rfl rfl
        · refine wH_iff rfl hc_16 ?_
          refine wH_seq ?_
          obtain ⟨v_17, h_18, hc_9⟩ := bind_some hc_9
          refine wH_join (β := Unit) (fun _ => ([(0, (vL Beat.enc l_1)), (3, (vI (k_3 : Int))), (4, (.ref n_13 0 0)), (8, (vL Beat.enc l_1)), (9, (vI (l_1.length : Int))), (10, (vI (k_3 : Int))), (20, (vB v_17))] : List (Nat × V))) (fun _ => ([(n_13, some (.cells 3 [(vS x_5.Player), (vI x_5.At), (vI x_5.Clock)]))] : Hp)) (fun _ => True) ?_ ?_
          · refine wH_region ?_
            refine h_far pl119_1 rfl 1 rfl (wt rfl) ?_
            refine h_ldr 0 0 (.inl rfl) (fun _ _ _ => trivial) sz3 ag3 rfl rfl (vI x_5.At) rfl (wt rfl) ?_
            obtain ⟨r_19, hr_20, h_18⟩ := bind_some h_18
            refine h_call0 (kit_IsMoment_ok hr_20) rfl hb81 rfl rfl rfl rfl (wt rfl) ?_
            refine h_op (vB (!r_19)) (wt rfl) rfl ?_
            rcases cond_some h_18 with ⟨hc_21, h_18⟩ | ⟨hc_21, h_18⟩
            · refine h_movb rfl hc_21 (wt rfl) ?_
              refine h_skip (wg rfl rfl rfl) ?_
              refine h_skip (wg rfl rfl rfl) ?_
              refine h_skip (wg rfl rfl rfl) ?_
              refine h_op (vB true) (wt rfl) rfl ?_
              refine h_op (vB true) (wt rfl) rfl ?_
              refine h_nil ?_
              replace h_18 := some_inj h_18
              subst h_18
              exact cut_mk () trivial rfl rfl
            · refine h_movb rfl hc_21 (wt rfl) ?_
              refine h_far pl119_2 rfl 2 rfl (wg rfl rfl rfl) ?_
              refine h_ldr 0 0 (.inl rfl) (fun _ _ _ => trivial) sz3 ag3 rfl rfl (vI x_5.Clock) rfl (wg rfl rfl rfl) ?_
              obtain ⟨r_22, hr_23, h_18⟩ := bind_some h_18
              refine h_call0 (kit_Outside_ok hr_23) rfl hb82 rfl rfl rfl rfl (wg rfl rfl rfl) ?_
              refine h_op (vB r_22) (wt rfl) rfl ?_
              refine h_op (vB r_22) (wt rfl) rfl ?_
              refine h_nil ?_
              replace h_18 := some_inj h_18
              subst h_18
              exact cut_mk () trivial rfl rfl
          · rintro ⟨⟩ _ sl_ H_ hp_ hq_
            refine wH_at _ hp_ hq_ ?_
            rcases cond_some hc_9 with ⟨hc_24, hc_9⟩ | ⟨hc_24, hc_9⟩
            · refine wH_ift rfl hc_24 ?_
              refine wH_seq ?_
              refine wH_region ?_
              refine h_op (vI 1) (wt rfl) rfl ?_
              refine h_nil ?_
              replace hc_9 := some_inj hc_9
              subst hc_9
              replace hL_10 := some_inj hL_10
              subst hL_10
              replace hF := some_inj hF
              subst hF
              refine wH_ret ?_
              exact fin0 (.inr rfl) [(vI 1)] ⟨rfl, trivial⟩ rfl rfl rfl
            · refine wH_iff rfl hc_24 ?_
              refine wH_seq ?_
              obtain ⟨v_25, h_26, hc_9⟩ := bind_some hc_9
              refine wH_join (β := Unit) (fun _ => ([(0, (vL Beat.enc l_1)), (3, (vI (k_3 : Int))), (4, (.ref n_13 0 0)), (8, (vL Beat.enc l_1)), (9, (vI (l_1.length : Int))), (10, (vI (k_3 : Int))), (30, (vB v_25))] : List (Nat × V))) (fun _ => ([(n_13, some (.cells 3 [(vS x_5.Player), (vI x_5.At), (vI x_5.Clock)]))] : Hp)) (fun _ => True) ?_ ?_
              · refine wH_draws ?_
                refine h_op (vI (k_3 : Int)) (wt rfl) rfl ?_
                refine h_op (vB (decide ((k_3 : Int) > 0))) (wt rfl) rfl ?_
                rcases cond_some h_26 with ⟨hc_27, h_26⟩ | ⟨hc_27, h_26⟩
                · refine h_movb rfl hc_27 (wt rfl) ?_
                  refine h_op (vL Beat.enc l_1) (wg rfl rfl rfl) rfl ?_
                  refine h_op (vI (k_3 : Int)) (wg rfl rfl rfl) rfl ?_
                  refine h_op (vI (w64 ((k_3 : Int) - 1))) (wg rfl rfl rfl) rfl ?_
                  obtain ⟨y_28, hy_29, h_26⟩ := bind_some h_26
                  refine h_ia es26 rfl rfl hy_29 rfl (wg rfl rfl rfl) ?_
                  refine h_ldc sz119 ag119 rfl (.d (.agg (Beat.enc y_28))) rfl (wg rfl rfl rfl) ?_
                  refine h_ldr 8 0 (.inr (by kernel_rfl)) (fun _ _ ag => trivial) sz119 ag119 rfl rfl (.d (.agg (Beat.enc x_5))) rfl (wg rfl rfl rfl) ?_
                  obtain ⟨r_30, hr_31, h_26⟩ := bind_some h_26
                  refine h_call0 (proof_compareBeats_ok hr_31) rfl hb83 rfl rfl rfl rfl (wg rfl rfl rfl) ?_
                  refine h_op (vB (decide (r_30 ≥ 0))) (wg rfl rfl rfl) rfl ?_
                  refine h_op (vB (decide (r_30 ≥ 0))) (wt rfl) rfl ?_
                  refine h_op (vB (decide (r_30 ≥ 0))) (wt rfl) rfl ?_
                  refine h_nil ?_
                  replace h_26 := some_inj h_26
                  subst h_26
                  exact cut_mk () trivial rfl rfl
                · refine h_movb rfl hc_27 (wt rfl) ?_
                  refine h_skip (wg rfl rfl rfl) ?_
                  refine h_skip (wg rfl rfl rfl) ?_
                  refine h_skip (wg rfl rfl rfl) ?_
                  refine h_skip (wg rfl rfl rfl) ?_
                  refine h_skip (wg rfl rfl rfl) ?_
                  refine h_skip (wg rfl rfl rfl) ?_
                  refine h_skip (wg rfl rfl rfl) ?_
                  refine h_skip (wg rfl rfl rfl) ?_
                  refine h_op (vB false) (wt rfl) rfl ?_
                  refine h_op (vB false) (wt rfl) rfl ?_
                  refine h_nil ?_
                  replace h_26 := some_inj h_26
                  subst h_26
                  exact cut_mk () trivial rfl rfl
              · rintro ⟨⟩ _ sl_ H_ hp_ hq_
                refine wH_at _ hp_ hq_ ?_
                rcases cond_some hc_9 with ⟨hc_32, hc_9⟩ | ⟨hc_32, hc_9⟩
                · refine wH_ift rfl hc_32 ?_
                  refine wH_seq ?_
                  refine wH_region ?_
                  refine h_op (vI 7) (wt rfl) rfl ?_
                  refine h_nil ?_
                  replace hc_9 := some_inj hc_9
                  subst hc_9
                  replace hL_10 := some_inj hL_10
                  subst hL_10
                  replace hF := some_inj hF
                  subst hF
                  refine wH_ret ?_
                  exact fin0 (.inr rfl) [(vI 7)] ⟨rfl, trivial⟩ rfl rfl rfl
                · refine wH_iff rfl hc_32 ?_
                  refine wH_seq ?_
                  obtain ⟨v_33, h_34, hc_9⟩ := bind_some hc_9
                  refine wH_join (β := Unit) (fun _ => ([(0, (vL Beat.enc l_1)), (8, (vL Beat.enc l_1)), (9, (vI (l_1.length : Int))), (10, (vI (k_3 : Int))), (43, (vB v_33))] : List (Nat × V))) (fun _ => ([(n_13, some (.cells 3 [(vS x_5.Player), (vI x_5.At), (vI x_5.Clock)]))] : Hp)) (fun _ => True) ?_ ?_
                  · refine wH_draws ?_
                    refine h_op (vI (k_3 : Int)) (wt rfl) rfl ?_
                    refine h_op (vB (decide ((k_3 : Int) > 0))) (wt rfl) rfl ?_
                    rcases cond_some h_34 with ⟨hc_35, h_34⟩ | ⟨hc_35, h_34⟩
                    · refine h_movb rfl hc_35 (wt rfl) ?_
                      refine h_far pl119_0 rfl 0 rfl (wg rfl rfl rfl) ?_
                      refine h_ldr 4 0 (.inr (by kernel_rfl)) (fun _ _ ag => trivial) sz9 ag9 rfl rfl (vS x_5.Player) rfl (wg rfl rfl rfl) ?_
                      refine h_op (vL Beat.enc l_1) (wg rfl rfl rfl) rfl ?_
                      refine h_op (vI (k_3 : Int)) (wg rfl rfl rfl) rfl ?_
                      refine h_op (vI (w64 ((k_3 : Int) - 1))) (wg rfl rfl rfl) rfl ?_
                      obtain ⟨y_36, hy_37, h_34⟩ := bind_some h_34
                      refine h_ia es26 rfl rfl hy_37 rfl (wg rfl rfl rfl) ?_
                      refine h_fac pl119_0 rfl [.str y_36.Player, .int .i64 y_36.At, .int .i64 y_36.Clock] rfl rfl (wg rfl rfl rfl) ?_
                      refine h_ldc sz9 ag9 rfl (vS y_36.Player) rfl (wg rfl rfl rfl) ?_
                      refine h_op (vB (sEq x_5.Player y_36.Player)) (wg rfl rfl rfl) rfl ?_
                      refine h_op (vB (sEq x_5.Player y_36.Player)) (wt rfl) rfl ?_
                      rcases cond_some h_34 with ⟨hc_38, h_34⟩ | ⟨hc_38, h_34⟩
                      · refine h_movb rfl hc_38 (wt rfl) ?_
                        refine h_far pl119_2 rfl 2 rfl (wg rfl rfl rfl) ?_
                        refine h_ldr 15 0 (.inr (by kernel_rfl)) (fun _ _ ag => ⟨.inl ⟨rfl, rfl⟩, trivial⟩) sz3 ag3 rfl rfl (vI x_5.Clock) rfl (wg rfl rfl rfl) ?_
                        refine h_op (vL Beat.enc l_1) (wg rfl rfl rfl) rfl ?_
                        refine h_op (vI (k_3 : Int)) (wg rfl rfl rfl) rfl ?_
                        refine h_op (vI (w64 ((k_3 : Int) - 1))) (wg rfl rfl rfl) rfl ?_
                        obtain ⟨y_39, hy_40, h_34⟩ := bind_some h_34
                        refine h_ia es26 rfl rfl hy_40 rfl (wg rfl rfl rfl) ?_
                        refine h_fac pl119_2 rfl [.int .i64 y_39.Clock] rfl rfl (wg rfl rfl rfl) ?_
                        refine h_ldc sz3 ag3 rfl (vI y_39.Clock) rfl (wg rfl rfl rfl) ?_
                        refine h_op (vB (decide (x_5.Clock ≤ y_39.Clock))) (wg rfl rfl rfl) rfl ?_
                        refine h_op (vB (decide (x_5.Clock ≤ y_39.Clock))) (wt rfl) rfl ?_
                        refine h_op (vB (decide (x_5.Clock ≤ y_39.Clock))) (wt rfl) rfl ?_
                        refine h_nil ?_
                        replace h_34 := some_inj h_34
                        subst h_34
                        exact cut_mk () trivial rfl rfl
                      · refine h_movb rfl hc_38 (wt rfl) ?_
                        refine h_skip (wg rfl rfl rfl) ?_
                        refine h_skip (wg rfl rfl rfl) ?_
                        refine h_skip (wg rfl rfl rfl) ?_
                        refine h_skip (wg rfl rfl rfl) ?_
                        refine h_skip (wg rfl rfl rfl) ?_
                        refine h_skip (wg rfl rfl rfl) ?_
                        refine h_skip (wg rfl rfl rfl) ?_
                        refine h_skip (wg rfl rfl rfl) ?_
                        refine h_skip (wg rfl rfl rfl) ?_
                        refine h_op (vB false) (wt rfl) rfl ?_
                        refine h_op (vB false) (wt rfl) rfl ?_
                        refine h_nil ?_
                        replace h_34 := some_inj h_34
                        subst h_34
                        exact cut_mk () trivial rfl rfl
                    · refine h_movb rfl hc_35 (wt rfl) ?_
                      refine h_skip (wg rfl rfl rfl) ?_
                      refine h_skip (wg rfl rfl rfl) ?_
                      refine h_skip (wg rfl rfl rfl) ?_
                      refine h_skip (wg rfl rfl rfl) ?_
                      refine h_skip (wg rfl rfl rfl) ?_
                      refine h_skip (wg rfl rfl rfl) ?_
                      refine h_skip (wg rfl rfl rfl) ?_
                      refine h_skip (wg rfl rfl rfl) ?_
                      refine h_skip (wg rfl rfl rfl) ?_
                      refine h_op (vB false) (wt rfl) rfl ?_
                      refine h_op (vB false) (wt rfl) rfl ?_
                      refine h_skip (wg rfl rfl rfl) ?_
                      refine h_skip (wg rfl rfl rfl) ?_
                      refine h_skip (wg rfl rfl rfl) ?_
                      refine h_skip (wg rfl rfl rfl) ?_
                      refine h_skip (wg rfl rfl rfl) ?_
                      refine h_skip (wg rfl rfl rfl) ?_
                      refine h_skip (wg rfl rfl rfl) ?_
                      refine h_skip (wg rfl rfl rfl) ?_
                      refine h_skip (wg rfl rfl rfl) ?_
                      refine h_op (vB false) (wt rfl) rfl ?_
                      refine h_op (vB false) (wt rfl) rfl ?_
                      refine h_nil ?_
                      replace h_34 := some_inj h_34
                      subst h_34
                      exact cut_mk () trivial rfl rfl
                  · rintro ⟨⟩ _ sl_ H_ hp_ hq_
                    refine wH_at _ hp_ hq_ ?_
                    rcases cond_some hc_9 with ⟨hc_41, hc_9⟩ | ⟨hc_41, hc_9⟩
                    · refine wH_ift rfl hc_41 ?_
                      refine wH_seq ?_
                      refine wH_region ?_
                      refine h_op (vI 16) (wt rfl) rfl ?_
                      refine h_nil ?_
                      replace hc_9 := some_inj hc_9
                      subst hc_9
                      replace hL_10 := some_inj hL_10
                      subst hL_10
                      replace hF := some_inj hF
                      subst hF
                      refine wH_ret ?_
                      exact fin0 (.inr rfl) [(vI 16)] ⟨rfl, trivial⟩ rfl rfl rfl
                    · refine wH_iff rfl hc_41 ?_
                      refine wH_skip ?_
                      refine wH_region ?_
                      refine h_opw (w64_next hD_6 hn_7) (wt rfl) rfl ?_
                      refine h_op (vI ((k_3 + 1 : Nat) : Int)) (wt rfl) rfl ?_
                      refine h_nil ?_
                      replace hc_9 := some_inj hc_9
                      subst hc_9
                      exact loop_mk (k_3 + 1, l_4, ()) ⟨hL_10, drop_next hD_6⟩ (Nat.lt_succ_self _) rfl rfl
    · rintro s_8 ho_ sl_ H_ hp_ hq_
      subst ho_
      refine wH_at _ hp_ hq_ ?_
      refine wH_seq ?_
      refine wH_region ?_
      refine h_op (vI 0) (wt rfl) rfl ?_
      refine h_nil ?_
      replace hF := some_inj hF
      subst hF
      refine wH_ret ?_
      exact fin0 (.inr rfl) [(vI 0)] ⟨rfl, trivial⟩ rfl rfl rfl
theorem proof_beatsOf_ok {l_1 : (List Beat)} {player_2 : ByteArray} {back_3 : Bool} {r : (List Beat_)} (hF : proof_beatsOf l_1 player_2 back_3 = some r) :
    FnM Try.prog 78 [(vL Beat.enc l_1), (vS player_2), (vB back_3)] [] (vL Beat_.enc r) [] := by
  refine FnM.of_wH ⟨Try.prog, 41, [], []⟩ rfl Try.func78 rfl rfl (Nat.le_of_ble_eq_true rfl) (by kernel_rfl) ?_
  unfold proof_beatsOf at hF
  refine wH_seq ?_
  refine wH_region ?_
  refine h_op .nil (wt rfl) rfl ?_
  refine h_nil ?_
  refine wH_seq ?_
  refine wH_region ?_
  refine h_op .nil (wt rfl) rfl ?_
  refine h_nil ?_
  refine wH_seq ?_
  refine wH_seq ?_
  refine wH_region ?_
  refine h_op (vL Beat.enc l_1) (wt rfl) rfl ?_
  refine h_len un26 rfl (wt rfl) ?_
  refine h_op (vI 0) (wt rfl) rfl ?_
  refine h_nil ?_
  refine wH_new (fun n_10 => ?_)
  obtain ⟨o_15, hj_16, hF⟩ := bind_some hF
  obtain ⟨hn_8, hj_16⟩ := forL_some hj_16
  refine wH_join (β := ((List Beat_)) × Nm) (fun p => (fun (s_9 : (List Beat_)) (n_12 : Nm) => ([(7, (gV n_12 2 s_9))] : List (Nat × V))) p.1 p.2) (fun p => (fun (s_9 : (List Beat_)) (n_12 : Nm) => ([(n_12, gB 2 Beat_.enc s_9)] : Hp)) p.1 p.2) (fun p => o_15 = .go p.1) ?_ ?_
  · refine wH_block ?_
    refine wH_loop (β := Nat × (List Beat) × ((List Beat_)) × Nm) (fun p => (fun (k_4 : Nat) (l_5 : List Beat) (s_9 : (List Beat_)) (n_12 : Nm) => ([(1, (vS player_2)), (2, (vB back_3)), (7, (gV n_12 2 s_9)), (10, (vL Beat.enc l_1)), (11, (vI (l_1.length : Int))), (12, (vI (k_4 : Int)))] : List (Nat × V))) p.1 p.2.1 p.2.2.1 p.2.2.2) (fun p => (fun (k_4 : Nat) (l_5 : List Beat) (s_9 : (List Beat_)) (n_12 : Nm) => ([(n_12, gB 2 Beat_.enc s_9)] : Hp)) p.1 p.2.1 p.2.2.1 p.2.2.2) (fun p => forR (fun k x s => proof_beatsOf_L1 player_2 back_3 k x s) p.2.1 p.1 p.2.2.1 = some o_15 ∧ (l_1).drop p.1 = p.2.1) (fun p => p.2.1.length) (0, l_1, ([] : List Beat_), n_10) ⟨hj_16, rfl⟩ rfl rfl ?_
    rintro ⟨k_4, l_5, s_9, n_12⟩ ⟨hL_14, hD_7⟩
    dsimp only at hL_14 hD_7
    cases l_5 with
    | nil =>
      replace hL_14 := some_inj hL_14
      subst hL_14
      refine wH_seq (wH_region (h_op (vB (decide ((k_4 : Int) < (l_1.length : Int)))) (wt rfl) rfl (h_nil ?_)))
      refine wH_seq (wH_iff rfl (drop_nil hD_7) (wH_exit ?_))
      exact cut_mk (s_9, n_12) rfl rfl rfl
    | cons x_6 l_5 =>
      obtain ⟨c_, hc_13, hL_14⟩ := bind_some hL_14
      refine wH_seq (wH_region (h_op (vB (decide ((k_4 : Int) < (l_1.length : Int)))) (wt rfl) rfl (h_nil ?_)))
      refine wH_seq (wH_ift rfl (drop_cons hD_7) (wH_skip ?_))
      unfold proof_beatsOf_L1 at hc_13
      refine wH_seq ?_
      refine wH_block ?_
      refine wH_seq ?_
      refine wH_region ?_
      refine h_ia es26 rfl rfl (drop_idx hD_7) rfl (wt rfl) ?_
      refine h_ldc sz119 ag119 rfl (.d (.agg (Beat.enc x_6))) rfl (wt rfl) ?_
      refine h_alloc 0 (.inl rfl) z119 rfl (wt rfl) (fun n_17 => ?_)
      refine h_str 0 (.inl rfl) (fun _ _ _ => trivial) 1 sz119 rfl rfl [(vS x_6.Player), (vI x_6.At), (vI x_6.Clock)] rfl (wt rfl) ?_
      refine h_nil ?_
      refine wH_block ?_
      refine wH_seq ?_
      refine wH_region ?_
      refine h_far pl119_0 rfl 0 rfl (wt rfl) ?_
      refine h_ldr 0 1 (.inl rfl) (fun _ _ _ => trivial) sz9 ag9 rfl rfl (vS x_6.Player) rfl (wt rfl) ?_
      refine h_op (vS player_2) (wt rfl) rfl ?_
      refine h_op (vB (sNe x_6.Player player_2)) (wt rfl) rfl ?_
      refine h_op (vB (sNe x_6.Player player_2)) (wt rfl) rfl ?_
      refine h_nil ?_
      obtain ⟨v_18, h_19, hc_13⟩ := bind_some hc_13
      refine wH_join (β := Nm) (fun (n_20 : Nm) => ([(1, (vS player_2)), (2, (vB back_3)), (7, (gV n_20 2 v_18)), (10, (vL Beat.enc l_1)), (11, (vI (l_1.length : Int))), (12, (vI (k_4 : Int)))] : List (Nat × V))) (fun (n_20 : Nm) => ([(n_20, gB 2 Beat_.enc v_18), (n_17, some (.cells 3 [(vS x_6.Player), (vI x_6.At), (vI x_6.Clock)]))] : Hp)) (fun _ => True) ?_ ?_
      · rcases cond_some h_19 with ⟨hc_21, h_19⟩ | ⟨hc_21, h_19⟩
        · refine wH_ift rfl hc_21 ?_
          refine wH_skip ?_
          replace h_19 := some_inj h_19
          subst h_19
          exact cut_mk n_12 trivial rfl rfl
        · refine wH_iff rfl hc_21 ?_
          refine wH_seq ?_
          refine wH_region ?_
          refine h_op (vB back_3) (wt rfl) rfl ?_
          refine h_op (vB back_3) (wt rfl) rfl ?_
          refine h_nil ?_
          rcases cond_some h_19 with ⟨hc_22, h_19⟩ | ⟨hc_22, h_19⟩
          · refine wH_ift rfl hc_22 ?_
            refine wH_region ?_
            refine h_op (gV n_12 2 s_9) (wt rfl) rfl ?_
            refine h_far pl119_1 rfl 1 rfl (wt rfl) ?_
            refine h_ldr 0 1 (.inl rfl) (fun _ _ _ => trivial) sz3 ag3 rfl rfl (vI x_6.At) rfl (wt rfl) ?_
            refine h_far pl119_2 rfl 2 rfl (wt rfl) ?_
            refine h_ldr 0 1 (.inl rfl) (fun _ _ _ => trivial) sz3 ag3 rfl rfl (vI x_6.Clock) rfl (wt rfl) ?_
            refine h_op (.d (.agg (Beat_.enc (⟨x_6.At, x_6.Clock⟩ : Beat_)))) (wt rfl) (by kernel_rfl) ?_
            refine h_lit (([(⟨x_6.At, x_6.Clock⟩ : Beat_)] : List Beat_).map Beat_.enc) es122 ez122 rfl rfl rfl rfl rfl (wt rfl) ?_
            obtain ⟨a_23, hz_24, h_19⟩ := bind_some h_19
            refine h_appg 0 (.inl rfl) (fun _ _ _ => trivial) (i := 0) el122 el122 sz125 z125 rfl (by decide) by125 (by decide) (fun _ => rfl) rfl rfl rfl hz_24 (wt rfl) (fun n_25 => ?_)
            refine h_op (gV n_25 2 a_23) (wt rfl) rfl ?_
            refine h_nil ?_
            replace h_19 := some_inj h_19
            subst h_19
            exact cut_mk n_25 trivial rfl rfl
          · refine wH_iff rfl hc_22 ?_
            refine wH_region ?_
            refine h_op (gV n_12 2 s_9) (wt rfl) rfl ?_
            refine h_far pl119_2 rfl 2 rfl (wt rfl) ?_
            refine h_ldr 0 1 (.inl rfl) (fun _ _ _ => trivial) sz3 ag3 rfl rfl (vI x_6.Clock) rfl (wt rfl) ?_
            refine h_far pl119_1 rfl 1 rfl (wt rfl) ?_
            refine h_ldr 0 1 (.inl rfl) (fun _ _ _ => trivial) sz3 ag3 rfl rfl (vI x_6.At) rfl (wt rfl) ?_
            refine h_op (.d (.agg (Beat_.enc (⟨x_6.Clock, x_6.At⟩ : Beat_)))) (wt rfl) (by kernel_rfl) ?_
            refine h_lit (([(⟨x_6.Clock, x_6.At⟩ : Beat_)] : List Beat_).map Beat_.enc) es122 ez122 rfl rfl rfl rfl rfl (wt rfl) ?_
            obtain ⟨a_26, hz_27, h_19⟩ := bind_some h_19
            refine h_appg 0 (.inl rfl) (fun _ _ _ => trivial) (i := 0) el122 el122 sz125 z125 rfl (by decide) by125 (by decide) (fun _ => rfl) rfl rfl rfl hz_27 (wt rfl) (fun n_28 => ?_)
            refine h_op (gV n_28 2 a_26) (wt rfl) rfl ?_
            refine h_nil ?_
            replace h_19 := some_inj h_19
            subst h_19
            exact cut_mk n_28 trivial rfl rfl
      · rintro n_20 _ sl_ H_ hp_ hq_
        refine wH_at _ hp_ hq_ ?_
        refine wH_region ?_
        refine h_opw (w64_next hD_7 hn_8) (wt rfl) rfl ?_
        refine h_op (vI ((k_4 + 1 : Nat) : Int)) (wt rfl) rfl ?_
        refine h_nil ?_
        replace hc_13 := some_inj hc_13
        subst hc_13
        exact loop_mk (k_4 + 1, l_5, v_18, n_20) ⟨hL_14, drop_next hD_7⟩ (Nat.lt_succ_self _) rfl rfl
  · rintro ⟨s_9, n_12⟩ ho_ sl_ H_ hp_ hq_
    subst ho_
    refine wH_at _ hp_ hq_ ?_
    refine wH_seq ?_
    refine wH_region ?_
    refine h_op (gV n_12 2 s_9) (wt rfl) rfl ?_
    refine h_op (gV n_12 2 s_9) (wt rfl) rfl ?_
    refine h_nil ?_
    refine wH_frozg 0 rfl ?_
    refine wH_cog 6 0 rfl rfl ?_
    refine wH_cog 7 0 rfl rfl ?_
    refine wH_cog 40 0 rfl rfl ?_
    replace hF := some_inj hF
    subst hF
    refine wH_ret ?_
    exact fin0 (.inr rfl) [(vL Beat_.enc s_9)] ⟨rfl, trivial⟩ rfl rfl rfl
end Go.Proofs.Ytodfcleaapnklaa.Law
