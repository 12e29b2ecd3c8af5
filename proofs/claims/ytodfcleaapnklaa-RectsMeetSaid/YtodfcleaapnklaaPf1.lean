/-
  The machine computes these plain functions (written by a program of ours).
-/
import Derived.Test.YtodfcleaapnklaaFacts
import Derived.Test.YtodfcleaapnklaaDefs
import Derived.Test.YtodfcleaapnklaaShelf
open Go Go.Eng Go.Proofs
namespace Go.Proofs.Ytodfcleaapnklaa.Law
set_option maxRecDepth 100000
set_option linter.unusedVariables false
set_option maxHeartbeats 1000000
theorem mk_Below_ok {x_1 : Int} {n_2 : Int} {r : Int} (hF : mk_Below x_1 n_2 = some r) :
    FnM Try.prog 147 [(vI x_1), (vI n_2)] [] (vI r) [] := by
  refine FnM.of_wH ⟨Try.prog, 16, [], []⟩ rfl Try.func147 rfl rfl (Nat.le_of_ble_eq_true rfl) (by kernel_rfl) ?_
  unfold mk_Below at hF
  refine wH_seq ?_
  refine wH_region ?_
  refine h_op (vI 0) (wt rfl) rfl ?_
  refine h_nil ?_
  refine wH_seq ?_
  refine wH_seq ?_
  refine wH_region ?_
  refine h_op (vI n_2) (wt rfl) rfl ?_
  refine h_op (vB (decide (n_2 < 1))) (wt rfl) rfl ?_
  refine h_nil ?_
  rcases cond_some hF with ⟨hc_3, hF⟩ | ⟨hc_3, hF⟩
  · refine wH_ift rfl hc_3 ?_
    refine wH_seq ?_
    refine wH_region ?_
    refine h_op (vI 0) (wt rfl) rfl ?_
    refine h_nil ?_
    replace hF := some_inj hF
    subst hF
    refine wH_ret ?_
    exact fin0 (.inr rfl) [(vI 0)] ⟨rfl, trivial⟩ rfl rfl rfl
  · refine wH_iff rfl hc_3 ?_
    refine wH_skip ?_
    refine wH_seq ?_
    refine wH_region ?_
    refine h_op (vI x_1) (wt rfl) rfl ?_
    refine h_op (vI n_2) (wt rfl) rfl ?_
    obtain ⟨q_4, hz_5, hF⟩ := bind_some hF
    refine h_rem rfl rfl hz_5 (wt rfl) ?_
    refine h_op (vI q_4) (wt rfl) rfl ?_
    refine h_nil ?_
    refine wH_seq ?_
    refine wH_seq ?_
    refine wH_region ?_
    refine h_op (vI q_4) (wt rfl) rfl ?_
    refine h_op (vB (decide (q_4 < 0))) (wt rfl) rfl ?_
    refine h_nil ?_
    obtain ⟨v_6, h_7, hF⟩ := bind_some hF
    refine wH_join (β := Unit) (fun _ => ([(0, (vI v_6))] : List (Nat × V))) (fun _ => ([] : Hp)) (fun _ => True) ?_ ?_
    · rcases cond_some h_7 with ⟨hc_8, h_7⟩ | ⟨hc_8, h_7⟩
      · refine wH_ift rfl hc_8 ?_
        refine wH_region ?_
        refine h_op (vI q_4) (wt rfl) rfl ?_
        refine h_op (vI n_2) (wt rfl) rfl ?_
        refine h_op (vI (w64 (q_4 + n_2))) (wt rfl) rfl ?_
        refine h_op (vI (w64 (q_4 + n_2))) (wt rfl) rfl ?_
        refine h_nil ?_
        replace h_7 := some_inj h_7
        subst h_7
        exact cut_mk () trivial rfl (pre_r rfl)
      · refine wH_iff rfl hc_8 ?_
        refine wH_skip ?_
        replace h_7 := some_inj h_7
        subst h_7
        exact cut_mk () trivial rfl (pre_r rfl)
    · rintro ⟨⟩ _ sl_ H_ hp_ hq_
      refine wH_at _ hp_ hq_ ?_
      refine wH_seq ?_
      refine wH_region ?_
      refine h_op (vI v_6) (wt rfl) rfl ?_
      refine h_op (vI v_6) (wt rfl) rfl ?_
      refine h_nil ?_
      replace hF := some_inj hF
      subst hF
      refine wH_ret ?_
      exact fin0 (.inr rfl) [(vI v_6)] ⟨rfl, trivial⟩ rfl rfl rfl
theorem mk_Stream_Next_ok {s_1 : Stream} {n_2 : Int} {r : Int × Stream} (hF : mk_Stream_Next s_1 n_2 = some r) :
    FnM Try.prog 75 [(.ref (extN 0) 0 0), (vI n_2)] [(.cells 2 [(vL eI s_1.L), (vI s_1.f_at)])] (vI r.1) [some (.cells 2 [(vL eI r.2.L), (vI r.2.f_at)])] := by
  refine FnM.of_wH ⟨Try.prog, 64, [], []⟩ rfl Try.func75 rfl rfl (Nat.le_of_ble_eq_true rfl) (by kernel_rfl) ?_
  unfold mk_Stream_Next at hF
  refine wH_seq ?_
  refine wH_region ?_
  refine h_op (vI 0) (wt rfl) rfl ?_
  refine h_nil ?_
  refine wH_seq ?_
  refine wH_region ?_
  refine h_op (.ref (extN 0) 0 0) (wt rfl) rfl ?_
  refine h_op (.ref (extN 0) 0 0) (wt rfl) rfl ?_
  refine h_far pl25_1 rfl 1 rfl (wt rfl) ?_
  refine h_ldr 0 0 (.inl rfl) (fun _ _ _ => trivial) sz3 ag3 rfl rfl (vI s_1.f_at) rfl (wt rfl) ?_
  refine h_op (vI (w64 (s_1.f_at + 1))) (wt rfl) rfl ?_
  refine h_op (.ref (extN 0) 0 0) (wt rfl) rfl ?_
  refine h_far pl25_1 rfl 1 rfl (wt rfl) ?_
  refine h_str 0 (.inl rfl) (fun _ _ _ => trivial) 0 sz3 rfl rfl [(vL eI s_1.L), (vI (w64 (s_1.f_at + 1)))] rfl (wt rfl) ?_
  refine h_nil ?_
  refine wH_seq ?_
  refine wH_seq ?_
  refine wH_region ?_
  refine h_op (.ref (extN 0) 0 0) (wt rfl) rfl ?_
  refine h_op (.ref (extN 0) 0 0) (wt rfl) rfl ?_
  refine h_far pl25_0 rfl 0 rfl (wt rfl) ?_
  refine h_ldr 0 0 (.inl rfl) (fun _ _ _ => trivial) sz22 ag22 rfl rfl (vL eI s_1.L) rfl (wt rfl) ?_
  refine h_len un22 rfl (wt rfl) ?_
  refine h_op (vB ((s_1.L.length : Int) == 0)) (wt rfl) rfl ?_
  refine h_nil ?_
  rcases cond_some hF with ⟨hc_3, hF⟩ | ⟨hc_3, hF⟩
  · refine wH_ift rfl hc_3 ?_
    refine wH_seq ?_
    refine wH_region ?_
    refine h_op (.ref (extN 0) 0 0) (wt rfl) rfl ?_
    refine h_op (.ref (extN 0) 0 0) (wt rfl) rfl ?_
    refine h_far pl25_1 rfl 1 rfl (wt rfl) ?_
    refine h_ldr 0 0 (.inl rfl) (fun _ _ _ => trivial) sz3 ag3 rfl rfl (vI (w64 (s_1.f_at + 1))) rfl (wt rfl) ?_
    refine h_op (vI (w64 ((w64 (s_1.f_at + 1)) * 7919))) (wt rfl) rfl ?_
    refine h_op (vI n_2) (wt rfl) rfl ?_
    obtain ⟨r_4, hr_5, hF⟩ := bind_some hF
    refine h_call0 (mk_Below_ok hr_5) rfl hb147 rfl rfl rfl rfl (wt rfl) ?_
    refine h_op (vI r_4) (wt rfl) rfl ?_
    refine h_nil ?_
    replace hF := some_inj hF
    subst hF
    refine wH_ret ?_
    exact finB (.inr rfl) [(vI r_4)] _ [0] [extN 0] ⟨rfl, trivial⟩ (.cons (co_data rfl rfl) (.nil)) (by kernel_rfl) ⟨(by kernel_rfl), trivial⟩ (by decide) (by kernel_rfl)
  · refine wH_iff rfl hc_3 ?_
    refine wH_skip ?_
    refine wH_seq ?_
    refine wH_draws ?_
    refine h_op (.ref (extN 0) 0 0) (wt rfl) rfl ?_
    refine h_op (.ref (extN 0) 0 0) (wt rfl) rfl ?_
    refine h_far pl25_1 rfl 1 rfl (wt rfl) ?_
    refine h_ldr 3 0 (.inr (by kernel_rfl)) (fun _ _ ag => trivial) sz3 ag3 rfl rfl (vI (w64 (s_1.f_at + 1))) rfl (wt rfl) ?_
    refine h_op (vI (w64 ((w64 (s_1.f_at + 1)) - 1))) (wt rfl) rfl ?_
    refine h_op (.ref (extN 0) 0 0) (wt rfl) rfl ?_
    refine h_op (.ref (extN 0) 0 0) (wt rfl) rfl ?_
    refine h_far pl25_0 rfl 0 rfl (wt rfl) ?_
    refine h_ldr 8 0 (.inr (by kernel_rfl)) (fun _ _ ag => ⟨.inl ⟨rfl, rfl⟩, trivial⟩) sz22 ag22 rfl rfl (vL eI s_1.L) rfl (wt rfl) ?_
    refine h_len un22 rfl (wt rfl) ?_
    obtain ⟨q_6, hz_7, hF⟩ := bind_some hF
    refine h_rem rfl rfl hz_7 (wt rfl) ?_
    refine h_op (vI q_6) (wt rfl) rfl ?_
    refine h_nil ?_
    refine wH_seq ?_
    refine wH_draws ?_
    refine h_op (.ref (extN 0) 0 0) (wt rfl) rfl ?_
    refine h_op (.ref (extN 0) 0 0) (wt rfl) rfl ?_
    refine h_far pl25_1 rfl 1 rfl (wt rfl) ?_
    refine h_ldr 3 0 (.inr (by kernel_rfl)) (fun _ _ ag => trivial) sz3 ag3 rfl rfl (vI (w64 (s_1.f_at + 1))) rfl (wt rfl) ?_
    refine h_op (vI (w64 ((w64 (s_1.f_at + 1)) - 1))) (wt rfl) rfl ?_
    refine h_op (.ref (extN 0) 0 0) (wt rfl) rfl ?_
    refine h_op (.ref (extN 0) 0 0) (wt rfl) rfl ?_
    refine h_far pl25_0 rfl 0 rfl (wt rfl) ?_
    refine h_ldr 8 0 (.inr (by kernel_rfl)) (fun _ _ ag => ⟨.inl ⟨rfl, rfl⟩, trivial⟩) sz22 ag22 rfl rfl (vL eI s_1.L) rfl (wt rfl) ?_
    refine h_len un22 rfl (wt rfl) ?_
    obtain ⟨q_8, hz_9, hF⟩ := bind_some hF
    refine h_quo rfl rfl hz_9 (wt rfl) ?_
    refine h_op (vI q_8) (wt rfl) rfl ?_
    refine h_nil ?_
    refine wH_at (H0 := ([((extN 0), some (.cells 2 [(vL eI s_1.L), (vI (w64 (s_1.f_at + 1)))]))] : Hp)) ([(0, (.ref (extN 0) 0 0)), (1, (vI n_2)), (5, (vI q_6)), (6, (vI q_8))] : List (Nat × V)) (by kernel_rfl) (pre_mk (by kernel_rfl)) ?_
    refine wH_seq ?_
    refine wH_region ?_
    refine h_op (.ref (extN 0) 0 0) (wt rfl) rfl ?_
    refine h_op (.ref (extN 0) 0 0) (wt rfl) rfl ?_
    refine h_far pl25_0 rfl 0 rfl (wt rfl) ?_
    refine h_ldr 0 0 (.inl rfl) (fun _ _ _ => trivial) sz22 ag22 rfl rfl (vL eI s_1.L) rfl (wt rfl) ?_
    refine h_op (vI q_6) (wt rfl) rfl ?_
    obtain ⟨y_10, hy_11, hF⟩ := bind_some hF
    refine h_ia es22 rfl rfl hy_11 rfl (wt rfl) ?_
    refine h_ldc sz3 ag3 rfl (vI y_10) rfl (wt rfl) ?_
    obtain ⟨r_12, hr_13, hF⟩ := bind_some hF
    refine h_call0 (mk_Below_ok hr_13) rfl hb147 rfl rfl rfl rfl (wt rfl) ?_
    refine h_op (vI q_8) (wt rfl) rfl ?_
    refine h_op (vI q_6) (wt rfl) rfl ?_
    refine h_op (vI (w64 (7919 + q_6))) (wt rfl) rfl ?_
    refine h_op (vI (w64 (q_8 * (w64 (7919 + q_6))))) (wt rfl) rfl ?_
    refine h_op (vI (w64 (r_12 + (w64 (q_8 * (w64 (7919 + q_6))))))) (wt rfl) rfl ?_
    refine h_op (vI n_2) (wt rfl) rfl ?_
    obtain ⟨r_14, hr_15, hF⟩ := bind_some hF
    refine h_call0 (mk_Below_ok hr_15) rfl hb147 rfl rfl rfl rfl (wt rfl) ?_
    refine h_op (vI r_14) (wt rfl) rfl ?_
    refine h_nil ?_
    replace hF := some_inj hF
    subst hF
    refine wH_ret ?_
    exact finB (.inr rfl) [(vI r_14)] _ [0] [extN 0] ⟨rfl, trivial⟩ (.cons (co_data rfl rfl) (.nil)) (by kernel_rfl) ⟨(by kernel_rfl), trivial⟩ (by decide) (by kernel_rfl)
theorem mk_Stream_Range_ok {s_1 : Stream} {low_2 : Int} {high_3 : Int} {r : Int × Stream} (hF : mk_Stream_Range s_1 low_2 high_3 = some r) :
    FnM Try.prog 106 [(.ref (extN 0) 0 0), (vI low_2), (vI high_3)] [(.cells 2 [(vL eI s_1.L), (vI s_1.f_at)])] (vI r.1) [some (.cells 2 [(vL eI r.2.L), (vI r.2.f_at)])] := by
  refine FnM.of_wH ⟨Try.prog, 19, [], []⟩ rfl Try.func106 rfl rfl (Nat.le_of_ble_eq_true rfl) (by kernel_rfl) ?_
  unfold mk_Stream_Range at hF
  refine wH_seq ?_
  refine wH_region ?_
  refine h_op (vI 0) (wt rfl) rfl ?_
  refine h_nil ?_
  refine wH_seq ?_
  refine wH_seq ?_
  refine wH_region ?_
  refine h_op (vI high_3) (wt rfl) rfl ?_
  refine h_op (vI low_2) (wt rfl) rfl ?_
  refine h_op (vB (decide (high_3 < low_2))) (wt rfl) rfl ?_
  refine h_nil ?_
  rcases cond_some hF with ⟨hc_4, hF⟩ | ⟨hc_4, hF⟩
  · refine wH_ift rfl hc_4 ?_
    refine wH_seq ?_
    refine wH_region ?_
    refine h_op (vI low_2) (wt rfl) rfl ?_
    refine h_op (vI low_2) (wt rfl) rfl ?_
    refine h_nil ?_
    replace hF := some_inj hF
    subst hF
    refine wH_ret ?_
    exact finB (.inr rfl) [(vI low_2)] _ [0] [extN 0] ⟨rfl, trivial⟩ (.cons (co_data rfl rfl) (.nil)) (by kernel_rfl) ⟨(by kernel_rfl), trivial⟩ (by decide) (by kernel_rfl)
  · refine wH_iff rfl hc_4 ?_
    refine wH_skip ?_
    refine wH_seq ?_
    refine wH_region ?_
    refine h_op (vI low_2) (wt rfl) rfl ?_
    refine h_op (.ref (extN 0) 0 0) (wt rfl) rfl ?_
    refine h_op (vI high_3) (wt rfl) rfl ?_
    refine h_op (vI low_2) (wt rfl) rfl ?_
    refine h_op (vI (w64 (high_3 - low_2))) (wt rfl) rfl ?_
    refine h_op (vI (w64 ((w64 (high_3 - low_2)) + 1))) (wt rfl) rfl ?_
    obtain ⟨r_5, hr_6, hF⟩ := bind_some hF
    refine h_callq 0 [0] (.inl rfl) (fun _ _ _ => trivial) (mk_Stream_Next_ok hr_6) rfl hb75 rfl (by kernel_rfl) (by kernel_rfl) (by kernel_rfl) (by kernel_rfl) (by kernel_rfl) (by kernel_rfl) (by kernel_rfl) (by decide) (by kernel_rfl) (wt rfl) (vI r_5.1) (by kernel_rfl) ([((extN 0), some (.cells 2 [(vL eI r_5.2.L), (vI r_5.2.f_at)]))] : Hp) (by kernel_rfl) ?_
    refine h_op (vI (w64 (low_2 + r_5.1))) (wt rfl) rfl ?_
    refine h_op (vI (w64 (low_2 + r_5.1))) (wt rfl) rfl ?_
    refine h_nil ?_
    replace hF := some_inj hF
    subst hF
    refine wH_ret ?_
    exact finB (.inr rfl) [(vI (w64 (low_2 + r_5.1)))] _ [0] [extN 0] ⟨rfl, trivial⟩ (.cons (co_data rfl rfl) (.nil)) (by kernel_rfl) ⟨(by kernel_rfl), trivial⟩ (by decide) (by kernel_rfl)
theorem mk_Stream_RightRect_ok {s_1 : Stream} {r : Rect × Stream} (hF : mk_Stream_RightRect s_1 = some r) :
    FnM Try.prog 127 [(.ref (extN 0) 0 0)] [(.cells 2 [(vL eI s_1.L), (vI s_1.f_at)])] (.d (.agg (Rect.enc r.1))) [some (.cells 2 [(vL eI r.2.L), (vI r.2.f_at)])] := by
  refine FnM.of_wH ⟨Try.prog, 12, [], []⟩ rfl Try.func127 rfl rfl (Nat.le_of_ble_eq_true rfl) (by kernel_rfl) ?_
  unfold mk_Stream_RightRect at hF
  refine wH_seq ?_
  refine wH_region ?_
  refine h_alloc 0 (.inl rfl) z92 rfl (wt rfl) (fun n_2 => ?_)
  refine h_nil ?_
  refine wH_seq ?_
  refine wH_region ?_
  refine h_op (.ref (extN 0) 0 0) (wt rfl) rfl ?_
  obtain ⟨r_3, hr_4, hF⟩ := bind_some hF
  refine h_callq 0 [0] (.inl rfl) (fun _ _ _ => trivial) (mk_Stream_Range_ok hr_4) rfl hb106 rfl (by kernel_rfl) (by kernel_rfl) (by kernel_rfl) (by kernel_rfl) (by kernel_rfl) (by kernel_rfl) (by kernel_rfl) (by decide) (by kernel_rfl) (wt rfl) (vI r_3.1) (by kernel_rfl) ([((extN 0), some (.cells 2 [(vL eI r_3.2.L), (vI r_3.2.f_at)])), (n_2, some (.cells 4 [(vI 0), (vI 0), (vI 0), (vI 0)]))] : Hp) (by kernel_rfl) ?_
  refine h_op (.ref (extN 0) 0 0) (wt rfl) rfl ?_
  obtain ⟨r_6, hr_7, hF⟩ := bind_some hF
  refine h_callq 0 [0] (.inl rfl) (fun _ _ _ => trivial) (mk_Stream_Range_ok hr_7) rfl hb106 rfl (by kernel_rfl) (by kernel_rfl) (by kernel_rfl) (by kernel_rfl) (by kernel_rfl) (by kernel_rfl) (by kernel_rfl) (by decide) (by kernel_rfl) (wt rfl) (vI r_6.1) (by kernel_rfl) ([((extN 0), some (.cells 2 [(vL eI r_6.2.L), (vI r_6.2.f_at)])), (n_2, some (.cells 4 [(vI 0), (vI 0), (vI 0), (vI 0)]))] : Hp) (by kernel_rfl) ?_
  refine h_op (.ref (extN 0) 0 0) (wt rfl) rfl ?_
  obtain ⟨r_9, hr_10, hF⟩ := bind_some hF
  refine h_callq 0 [0] (.inl rfl) (fun _ _ _ => trivial) (mk_Stream_Range_ok hr_10) rfl hb106 rfl (by kernel_rfl) (by kernel_rfl) (by kernel_rfl) (by kernel_rfl) (by kernel_rfl) (by kernel_rfl) (by kernel_rfl) (by decide) (by kernel_rfl) (wt rfl) (vI r_9.1) (by kernel_rfl) ([((extN 0), some (.cells 2 [(vL eI r_9.2.L), (vI r_9.2.f_at)])), (n_2, some (.cells 4 [(vI 0), (vI 0), (vI 0), (vI 0)]))] : Hp) (by kernel_rfl) ?_
  refine h_op (.ref (extN 0) 0 0) (wt rfl) rfl ?_
  obtain ⟨r_12, hr_13, hF⟩ := bind_some hF
  refine h_callq 0 [0] (.inl rfl) (fun _ _ _ => trivial) (mk_Stream_Range_ok hr_13) rfl hb106 rfl (by kernel_rfl) (by kernel_rfl) (by kernel_rfl) (by kernel_rfl) (by kernel_rfl) (by kernel_rfl) (by kernel_rfl) (by decide) (by kernel_rfl) (wt rfl) (vI r_12.1) (by kernel_rfl) ([((extN 0), some (.cells 2 [(vL eI r_12.2.L), (vI r_12.2.f_at)])), (n_2, some (.cells 4 [(vI 0), (vI 0), (vI 0), (vI 0)]))] : Hp) (by kernel_rfl) ?_
  refine h_op (.d (.agg (Rect.enc (⟨r_3.1, r_6.1, r_9.1, r_12.1⟩ : Rect)))) (wt rfl) (by kernel_rfl) ?_
  refine h_str 0 (.inl rfl) (fun _ _ _ => trivial) 1 sz92 rfl rfl [(vI r_3.1), (vI r_6.1), (vI r_9.1), (vI r_12.1)] rfl (wt rfl) ?_
  refine h_nil ?_
  replace hF := some_inj hF
  subst hF
  refine wH_ret ?_
  exact finB (.inr rfl) [(.d (.agg (Rect.enc (⟨r_3.1, r_6.1, r_9.1, r_12.1⟩ : Rect))))] _ [0] [extN 0] ⟨⟨1, _, _, _, _, _, _, _, rfl, rfl, sz92, ag92, rfl⟩, trivial⟩ (.cons (co_data rfl rfl) (.nil)) (by kernel_rfl) ⟨(by kernel_rfl), trivial⟩ (by decide) (by kernel_rfl)
theorem mk_Stream_Flip_ok {s_1 : Stream} {n_2 : Int} {r : Bool × Stream} (hF : mk_Stream_Flip s_1 n_2 = some r) :
    FnM Try.prog 37 [(.ref (extN 0) 0 0), (vI n_2)] [(.cells 2 [(vL eI s_1.L), (vI s_1.f_at)])] (vB r.1) [some (.cells 2 [(vL eI r.2.L), (vI r.2.f_at)])] := by
  refine FnM.of_wH ⟨Try.prog, 9, [], []⟩ rfl Try.func37 rfl rfl (Nat.le_of_ble_eq_true rfl) (by kernel_rfl) ?_
  unfold mk_Stream_Flip at hF
  refine wH_seq ?_
  refine wH_region ?_
  refine h_op (vB false) (wt rfl) rfl ?_
  refine h_nil ?_
  refine wH_seq ?_
  refine wH_region ?_
  refine h_op (.ref (extN 0) 0 0) (wt rfl) rfl ?_
  refine h_op (vI n_2) (wt rfl) rfl ?_
  obtain ⟨r_3, hr_4, hF⟩ := bind_some hF
  refine h_callq 0 [0] (.inl rfl) (fun _ _ _ => trivial) (mk_Stream_Next_ok hr_4) rfl hb75 rfl (by kernel_rfl) (by kernel_rfl) (by kernel_rfl) (by kernel_rfl) (by kernel_rfl) (by kernel_rfl) (by kernel_rfl) (by decide) (by kernel_rfl) (wt rfl) (vI r_3.1) (by kernel_rfl) ([((extN 0), some (.cells 2 [(vL eI r_3.2.L), (vI r_3.2.f_at)]))] : Hp) (by kernel_rfl) ?_
  refine h_op (vB (r_3.1 == 0)) (wt rfl) rfl ?_
  refine h_op (vB (r_3.1 == 0)) (wt rfl) rfl ?_
  refine h_nil ?_
  replace hF := some_inj hF
  subst hF
  refine wH_ret ?_
  exact finB (.inr rfl) [(vB (r_3.1 == 0))] _ [0] [extN 0] ⟨rfl, trivial⟩ (.cons (co_data rfl rfl) (.nil)) (by kernel_rfl) ⟨(by kernel_rfl), trivial⟩ (by decide) (by kernel_rfl)
theorem mk_Stream_Pick_ok {s_1 : Stream} {l_2 : (List Int)} {r : Int × Stream} (hF : mk_Stream_Pick s_1 l_2 = some r) :
    FnM Try.prog 10 [(.ref (extN 0) 0 0), (vL eI l_2)] [(.cells 2 [(vL eI s_1.L), (vI s_1.f_at)])] (vI r.1) [some (.cells 2 [(vL eI r.2.L), (vI r.2.f_at)])] := by
  refine FnM.of_wH ⟨Try.prog, 12, [], []⟩ rfl Try.func10 rfl rfl (Nat.le_of_ble_eq_true rfl) (by kernel_rfl) ?_
  unfold mk_Stream_Pick at hF
  refine wH_seq ?_
  refine wH_region ?_
  refine h_op (vI 0) (wt rfl) rfl ?_
  refine h_nil ?_
  refine wH_seq ?_
  refine wH_region ?_
  refine h_op (vL eI l_2) (wt rfl) rfl ?_
  refine h_op (.ref (extN 0) 0 0) (wt rfl) rfl ?_
  refine h_op (vL eI l_2) (wt rfl) rfl ?_
  refine h_len un22 rfl (wt rfl) ?_
  obtain ⟨r_3, hr_4, hF⟩ := bind_some hF
  refine h_callq 0 [0] (.inl rfl) (fun _ _ _ => trivial) (mk_Stream_Next_ok hr_4) rfl hb75 rfl (by kernel_rfl) (by kernel_rfl) (by kernel_rfl) (by kernel_rfl) (by kernel_rfl) (by kernel_rfl) (by kernel_rfl) (by decide) (by kernel_rfl) (wt rfl) (vI r_3.1) (by kernel_rfl) ([((extN 0), some (.cells 2 [(vL eI r_3.2.L), (vI r_3.2.f_at)]))] : Hp) (by kernel_rfl) ?_
  obtain ⟨y_6, hy_7, hF⟩ := bind_some hF
  refine h_ia es22 rfl rfl hy_7 rfl (wt rfl) ?_
  refine h_ldc sz3 ag3 rfl (vI y_6) rfl (wt rfl) ?_
  refine h_op (vI y_6) (wt rfl) rfl ?_
  refine h_nil ?_
  replace hF := some_inj hF
  subst hF
  refine wH_ret ?_
  exact finB (.inr rfl) [(vI y_6)] _ [0] [extN 0] ⟨rfl, trivial⟩ (.cons (co_data rfl rfl) (.nil)) (by kernel_rfl) ⟨(by kernel_rfl), trivial⟩ (by decide) (by kernel_rfl)
theorem mk_Stream_Odd_ok {s_1 : Stream} {low_2 : Int} {high_3 : Int} {r : Int × Stream} (hF : mk_Stream_Odd s_1 low_2 high_3 = some r) :
    FnM Try.prog 38 [(.ref (extN 0) 0 0), (vI low_2), (vI high_3)] [(.cells 2 [(vL eI s_1.L), (vI s_1.f_at)])] (vI r.1) [some (.cells 2 [(vL eI r.2.L), (vI r.2.f_at)])] := by
  refine FnM.of_wH ⟨Try.prog, 22, [], []⟩ rfl Try.func38 rfl rfl (Nat.le_of_ble_eq_true rfl) (by kernel_rfl) ?_
  unfold mk_Stream_Odd at hF
  refine wH_seq ?_
  refine wH_region ?_
  refine h_op (vI 0) (wt rfl) rfl ?_
  refine h_nil ?_
  refine wH_seq ?_
  refine wH_seq ?_
  refine wH_region ?_
  refine h_op (.ref (extN 0) 0 0) (wt rfl) rfl ?_
  obtain ⟨r_4, hr_5, hF⟩ := bind_some hF
  refine h_callq 0 [0] (.inl rfl) (fun _ _ _ => trivial) (mk_Stream_Flip_ok hr_5) rfl hb37 rfl (by kernel_rfl) (by kernel_rfl) (by kernel_rfl) (by kernel_rfl) (by kernel_rfl) (by kernel_rfl) (by kernel_rfl) (by decide) (by kernel_rfl) (wt rfl) (vB r_4.1) (by kernel_rfl) ([((extN 0), some (.cells 2 [(vL eI r_4.2.L), (vI r_4.2.f_at)]))] : Hp) (by kernel_rfl) ?_
  refine h_nil ?_
  rcases cond_some hF with ⟨hc_7, hF⟩ | ⟨hc_7, hF⟩
  · refine wH_ift rfl hc_7 ?_
    refine wH_seq ?_
    refine wH_region ?_
    refine h_op (.ref (extN 0) 0 0) (wt rfl) rfl ?_
    refine h_op (vI low_2) (wt rfl) rfl ?_
    refine h_op (vI (w64 (low_2 - 1))) (wt rfl) rfl ?_
    refine h_op (vI high_3) (wt rfl) rfl ?_
    refine h_op (vI (w64 (high_3 + 1))) (wt rfl) rfl ?_
    refine h_op (vI low_2) (wt rfl) rfl ?_
    refine h_op (vI high_3) (wt rfl) rfl ?_
    refine h_lit (([(w64 (low_2 - 1)), (w64 (high_3 + 1)), low_2, high_3, (-1099511627776), 1099511627776] : List Int).map eI) es22 ez22 rfl rfl rfl rfl rfl (wt rfl) ?_
    obtain ⟨r_8, hr_9, hF⟩ := bind_some hF
    refine h_callq 0 [0] (.inl rfl) (fun _ _ _ => trivial) (mk_Stream_Pick_ok hr_9) rfl hb10 rfl (by kernel_rfl) (by kernel_rfl) (by kernel_rfl) (by kernel_rfl) (by kernel_rfl) (by kernel_rfl) (by kernel_rfl) (by decide) (by kernel_rfl) (wt rfl) (vI r_8.1) (by kernel_rfl) ([((extN 0), some (.cells 2 [(vL eI r_8.2.L), (vI r_8.2.f_at)]))] : Hp) (by kernel_rfl) ?_
    refine h_op (vI r_8.1) (wt rfl) rfl ?_
    refine h_nil ?_
    replace hF := some_inj hF
    subst hF
    refine wH_ret ?_
    exact finB (.inr rfl) [(vI r_8.1)] _ [0] [extN 0] ⟨rfl, trivial⟩ (.cons (co_data rfl rfl) (.nil)) (by kernel_rfl) ⟨(by kernel_rfl), trivial⟩ (by decide) (by kernel_rfl)
  · refine wH_iff rfl hc_7 ?_
    refine wH_skip ?_
    refine wH_seq ?_
    refine wH_region ?_
    refine h_op (.ref (extN 0) 0 0) (wt rfl) rfl ?_
    refine h_op (vI low_2) (wt rfl) rfl ?_
    refine h_op (vI high_3) (wt rfl) rfl ?_
    obtain ⟨r_11, hr_12, hF⟩ := bind_some hF
    refine h_callq 0 [0] (.inl rfl) (fun _ _ _ => trivial) (mk_Stream_Range_ok hr_12) rfl hb106 rfl (by kernel_rfl) (by kernel_rfl) (by kernel_rfl) (by kernel_rfl) (by kernel_rfl) (by kernel_rfl) (by kernel_rfl) (by decide) (by kernel_rfl) (wt rfl) (vI r_11.1) (by kernel_rfl) ([((extN 0), some (.cells 2 [(vL eI r_11.2.L), (vI r_11.2.f_at)]))] : Hp) (by kernel_rfl) ?_
    refine h_op (vI r_11.1) (wt rfl) rfl ?_
    refine h_nil ?_
    replace hF := some_inj hF
    subst hF
    refine wH_ret ?_
    exact finB (.inr rfl) [(vI r_11.1)] _ [0] [extN 0] ⟨rfl, trivial⟩ (.cons (co_data rfl rfl) (.nil)) (by kernel_rfl) ⟨(by kernel_rfl), trivial⟩ (by decide) (by kernel_rfl)
theorem mk_Stream_Rect_ok {s_1 : Stream} {r : Rect × Stream} (hF : mk_Stream_Rect s_1 = some r) :
    FnM Try.prog 51 [(.ref (extN 0) 0 0)] [(.cells 2 [(vL eI s_1.L), (vI s_1.f_at)])] (.d (.agg (Rect.enc r.1))) [some (.cells 2 [(vL eI r.2.L), (vI r.2.f_at)])] := by
  refine FnM.of_wH ⟨Try.prog, 32, [], []⟩ rfl Try.func51 rfl rfl (Nat.le_of_ble_eq_true rfl) (by kernel_rfl) ?_
  unfold mk_Stream_Rect at hF
  refine wH_seq ?_
  refine wH_region ?_
  refine h_alloc 0 (.inl rfl) z92 rfl (wt rfl) (fun n_2 => ?_)
  refine h_nil ?_
  refine wH_seq ?_
  refine wH_region ?_
  refine h_op (.ref (extN 0) 0 0) (wt rfl) rfl ?_
  obtain ⟨r_3, hr_4, hF⟩ := bind_some hF
  refine h_callq 0 [0] (.inl rfl) (fun _ _ _ => trivial) (mk_Stream_RightRect_ok hr_4) rfl hb127 rfl (by kernel_rfl) (by kernel_rfl) (by kernel_rfl) (by kernel_rfl) (by kernel_rfl) (by kernel_rfl) (by kernel_rfl) (by decide) (by kernel_rfl) (wt rfl) (.d (.agg (Rect.enc r_3.1))) (by kernel_rfl) ([((extN 0), some (.cells 2 [(vL eI r_3.2.L), (vI r_3.2.f_at)])), (n_2, some (.cells 4 [(vI 0), (vI 0), (vI 0), (vI 0)]))] : Hp) (by kernel_rfl) ?_
  refine h_alloc 0 (.inl rfl) z92 rfl (wt rfl) (fun n_6 => ?_)
  refine h_str 0 (.inl rfl) (fun _ _ _ => trivial) 2 sz92 rfl rfl [(vI r_3.1.X), (vI r_3.1.Y), (vI r_3.1.W), (vI r_3.1.H)] rfl (wt rfl) ?_
  refine h_nil ?_
  refine wH_seq ?_
  refine wH_seq ?_
  refine wH_region ?_
  refine h_op (.ref (extN 0) 0 0) (wt rfl) rfl ?_
  obtain ⟨r_7, hr_8, hF⟩ := bind_some hF
  refine h_callq 0 [0] (.inl rfl) (fun _ _ _ => trivial) (mk_Stream_Flip_ok hr_8) rfl hb37 rfl (by kernel_rfl) (by kernel_rfl) (by kernel_rfl) (by kernel_rfl) (by kernel_rfl) (by kernel_rfl) (by kernel_rfl) (by decide) (by kernel_rfl) (wt rfl) (vB r_7.1) (by kernel_rfl) ([((extN 0), some (.cells 2 [(vL eI r_7.2.L), (vI r_7.2.f_at)])), (n_2, some (.cells 4 [(vI 0), (vI 0), (vI 0), (vI 0)])), (n_6, some (.cells 4 [(vI r_3.1.X), (vI r_3.1.Y), (vI r_3.1.W), (vI r_3.1.H)]))] : Hp) (by kernel_rfl) ?_
  refine h_nil ?_
  obtain ⟨v_10, h_11, hF⟩ := bind_some hF
  refine wH_join (β := Unit) (fun _ => ([(2, (.ref n_2 0 0)), (3, (.ref n_6 0 0))] : List (Nat × V))) (fun _ => ([((extN 0), some (.cells 2 [(vL eI v_10.1), (vI v_10.2.1)])), (n_2, some (.cells 4 [(vI 0), (vI 0), (vI 0), (vI 0)])), (n_6, some (.cells 4 [(vI v_10.2.2.1), (vI v_10.2.2.2.1), (vI v_10.2.2.2.2.1), (vI v_10.2.2.2.2.2)]))] : Hp)) (fun _ => True) ?_ ?_
  · rcases cond_some h_11 with ⟨hc_12, h_11⟩ | ⟨hc_12, h_11⟩
    · refine wH_ift rfl hc_12 ?_
      refine wH_seq ?_
      refine wH_region ?_
      refine h_op (.ref (extN 0) 0 0) (wt rfl) rfl ?_
      obtain ⟨r_13, hr_14, h_11⟩ := bind_some h_11
      refine h_callq 0 [0] (.inl rfl) (fun _ _ _ => trivial) (mk_Stream_Next_ok hr_14) rfl hb75 rfl (by kernel_rfl) (by kernel_rfl) (by kernel_rfl) (by kernel_rfl) (by kernel_rfl) (by kernel_rfl) (by kernel_rfl) (by decide) (by kernel_rfl) (wt rfl) (vI r_13.1) (by kernel_rfl) ([((extN 0), some (.cells 2 [(vL eI r_13.2.L), (vI r_13.2.f_at)])), (n_2, some (.cells 4 [(vI 0), (vI 0), (vI 0), (vI 0)])), (n_6, some (.cells 4 [(vI r_3.1.X), (vI r_3.1.Y), (vI r_3.1.W), (vI r_3.1.H)]))] : Hp) (by kernel_rfl) ?_
      refine h_nil ?_
      refine wH_block ?_
      refine wH_seq ?_
      refine wH_region ?_
      refine h_op (vB (r_13.1 == 0)) (wt rfl) rfl ?_
      refine h_op (vB (r_13.1 == 0)) (wt rfl) rfl ?_
      refine h_nil ?_
      rcases cond_some h_11 with ⟨hc_16, h_11⟩ | ⟨hc_16, h_11⟩
      · refine wH_ift rfl hc_16 ?_
        refine wH_region ?_
        refine h_op (.ref (extN 0) 0 0) (wt rfl) rfl ?_
        obtain ⟨r_17, hr_18, h_11⟩ := bind_some h_11
        refine h_callq 0 [0] (.inl rfl) (fun _ _ _ => trivial) (mk_Stream_Odd_ok hr_18) rfl hb38 rfl (by kernel_rfl) (by kernel_rfl) (by kernel_rfl) (by kernel_rfl) (by kernel_rfl) (by kernel_rfl) (by kernel_rfl) (by decide) (by kernel_rfl) (wt rfl) (vI r_17.1) (by kernel_rfl) ([((extN 0), some (.cells 2 [(vL eI r_17.2.L), (vI r_17.2.f_at)])), (n_2, some (.cells 4 [(vI 0), (vI 0), (vI 0), (vI 0)])), (n_6, some (.cells 4 [(vI r_3.1.X), (vI r_3.1.Y), (vI r_3.1.W), (vI r_3.1.H)]))] : Hp) (by kernel_rfl) ?_
        refine h_far pl92_0 rfl 0 rfl (wt rfl) ?_
        refine h_str 0 (.inl rfl) (fun _ _ _ => trivial) 2 sz3 rfl rfl [(vI r_17.1), (vI r_3.1.Y), (vI r_3.1.W), (vI r_3.1.H)] rfl (wt rfl) ?_
        refine h_nil ?_
        replace h_11 := some_inj h_11
        subst h_11
        exact cut_mk () trivial rfl (pre_r rfl)
      · refine wH_iff rfl hc_16 ?_
        refine wH_seq ?_
        refine wH_region ?_
        refine h_op (vB (r_13.1 == 1)) (wt rfl) rfl ?_
        refine h_op (vB (r_13.1 == 1)) (wt rfl) rfl ?_
        refine h_nil ?_
        rcases cond_some h_11 with ⟨hc_20, h_11⟩ | ⟨hc_20, h_11⟩
        · refine wH_ift rfl hc_20 ?_
          refine wH_region ?_
          refine h_op (.ref (extN 0) 0 0) (wt rfl) rfl ?_
          obtain ⟨r_21, hr_22, h_11⟩ := bind_some h_11
          refine h_callq 0 [0] (.inl rfl) (fun _ _ _ => trivial) (mk_Stream_Odd_ok hr_22) rfl hb38 rfl (by kernel_rfl) (by kernel_rfl) (by kernel_rfl) (by kernel_rfl) (by kernel_rfl) (by kernel_rfl) (by kernel_rfl) (by decide) (by kernel_rfl) (wt rfl) (vI r_21.1) (by kernel_rfl) ([((extN 0), some (.cells 2 [(vL eI r_21.2.L), (vI r_21.2.f_at)])), (n_2, some (.cells 4 [(vI 0), (vI 0), (vI 0), (vI 0)])), (n_6, some (.cells 4 [(vI r_3.1.X), (vI r_3.1.Y), (vI r_3.1.W), (vI r_3.1.H)]))] : Hp) (by kernel_rfl) ?_
          refine h_op (.ref (extN 0) 0 0) (wt rfl) rfl ?_
          obtain ⟨r_24, hr_25, h_11⟩ := bind_some h_11
          refine h_callq 0 [0] (.inl rfl) (fun _ _ _ => trivial) (mk_Stream_Odd_ok hr_25) rfl hb38 rfl (by kernel_rfl) (by kernel_rfl) (by kernel_rfl) (by kernel_rfl) (by kernel_rfl) (by kernel_rfl) (by kernel_rfl) (by decide) (by kernel_rfl) (wt rfl) (vI r_24.1) (by kernel_rfl) ([((extN 0), some (.cells 2 [(vL eI r_24.2.L), (vI r_24.2.f_at)])), (n_2, some (.cells 4 [(vI 0), (vI 0), (vI 0), (vI 0)])), (n_6, some (.cells 4 [(vI r_3.1.X), (vI r_3.1.Y), (vI r_3.1.W), (vI r_3.1.H)]))] : Hp) (by kernel_rfl) ?_
          refine h_far pl92_2 rfl 2 rfl (wt rfl) ?_
          refine h_str 0 (.inl rfl) (fun _ _ _ => trivial) 2 sz3 rfl rfl [(vI r_3.1.X), (vI r_3.1.Y), (vI r_21.1), (vI r_3.1.H)] rfl (wt rfl) ?_
          refine h_far pl92_3 rfl 3 rfl (wt rfl) ?_
          refine h_str 0 (.inl rfl) (fun _ _ _ => trivial) 2 sz3 rfl rfl [(vI r_3.1.X), (vI r_3.1.Y), (vI r_21.1), (vI r_24.1)] rfl (wt rfl) ?_
          refine h_nil ?_
          replace h_11 := some_inj h_11
          subst h_11
          exact cut_mk () trivial rfl (pre_r rfl)
        · refine wH_iff rfl hc_20 ?_
          refine wH_region ?_
          refine h_op (.ref (extN 0) 0 0) (wt rfl) rfl ?_
          refine h_lit (([(-100000), 99999] : List Int).map eI) es22 ez22 rfl rfl rfl rfl rfl (wt rfl) ?_
          obtain ⟨r_27, hr_28, h_11⟩ := bind_some h_11
          refine h_callq 0 [0] (.inl rfl) (fun _ _ _ => trivial) (mk_Stream_Pick_ok hr_28) rfl hb10 rfl (by kernel_rfl) (by kernel_rfl) (by kernel_rfl) (by kernel_rfl) (by kernel_rfl) (by kernel_rfl) (by kernel_rfl) (by decide) (by kernel_rfl) (wt rfl) (vI r_27.1) (by kernel_rfl) ([((extN 0), some (.cells 2 [(vL eI r_27.2.L), (vI r_27.2.f_at)])), (n_2, some (.cells 4 [(vI 0), (vI 0), (vI 0), (vI 0)])), (n_6, some (.cells 4 [(vI r_3.1.X), (vI r_3.1.Y), (vI r_3.1.W), (vI r_3.1.H)]))] : Hp) (by kernel_rfl) ?_
          refine h_op (.ref (extN 0) 0 0) (wt rfl) rfl ?_
          refine h_lit (([1, 2, 200000] : List Int).map eI) es22 ez22 rfl rfl rfl rfl rfl (wt rfl) ?_
          obtain ⟨r_30, hr_31, h_11⟩ := bind_some h_11
          refine h_callq 0 [0] (.inl rfl) (fun _ _ _ => trivial) (mk_Stream_Pick_ok hr_31) rfl hb10 rfl (by kernel_rfl) (by kernel_rfl) (by kernel_rfl) (by kernel_rfl) (by kernel_rfl) (by kernel_rfl) (by kernel_rfl) (by decide) (by kernel_rfl) (wt rfl) (vI r_30.1) (by kernel_rfl) ([((extN 0), some (.cells 2 [(vL eI r_30.2.L), (vI r_30.2.f_at)])), (n_2, some (.cells 4 [(vI 0), (vI 0), (vI 0), (vI 0)])), (n_6, some (.cells 4 [(vI r_3.1.X), (vI r_3.1.Y), (vI r_3.1.W), (vI r_3.1.H)]))] : Hp) (by kernel_rfl) ?_
          refine h_far pl92_1 rfl 1 rfl (wt rfl) ?_
          refine h_str 0 (.inl rfl) (fun _ _ _ => trivial) 2 sz3 rfl rfl [(vI r_3.1.X), (vI r_27.1), (vI r_3.1.W), (vI r_3.1.H)] rfl (wt rfl) ?_
          refine h_far pl92_3 rfl 3 rfl (wt rfl) ?_
          refine h_str 0 (.inl rfl) (fun _ _ _ => trivial) 2 sz3 rfl rfl [(vI r_3.1.X), (vI r_27.1), (vI r_3.1.W), (vI r_30.1)] rfl (wt rfl) ?_
          refine h_nil ?_
          replace h_11 := some_inj h_11
          subst h_11
          exact cut_mk () trivial rfl (pre_r rfl)
    · refine wH_iff rfl hc_12 ?_
      refine wH_skip ?_
      replace h_11 := some_inj h_11
      subst h_11
      exact cut_mk () trivial rfl (pre_r rfl)
  · rintro ⟨⟩ _ sl_ H_ hp_ hq_
    refine wH_at _ hp_ hq_ ?_
    refine wH_seq ?_
    refine wH_region ?_
    refine h_ldr 0 2 (.inl rfl) (fun _ _ _ => trivial) sz92 ag92 rfl rfl (.d (.agg (Rect.enc (⟨v_10.2.2.1, v_10.2.2.2.1, v_10.2.2.2.2.1, v_10.2.2.2.2.2⟩ : Rect)))) rfl (wt rfl) ?_
    refine h_str 0 (.inl rfl) (fun _ _ _ => trivial) 1 sz92 rfl rfl [(vI v_10.2.2.1), (vI v_10.2.2.2.1), (vI v_10.2.2.2.2.1), (vI v_10.2.2.2.2.2)] rfl (wt rfl) ?_
    refine h_nil ?_
    replace hF := some_inj hF
    subst hF
    refine wH_ret ?_
    exact finB (.inr rfl) [(.d (.agg (Rect.enc (⟨v_10.2.2.1, v_10.2.2.2.1, v_10.2.2.2.2.1, v_10.2.2.2.2.2⟩ : Rect))))] _ [0] [extN 0] ⟨⟨1, _, _, _, _, _, _, _, rfl, rfl, sz92, ag92, rfl⟩, trivial⟩ (.cons (co_data rfl rfl) (.nil)) (by kernel_rfl) ⟨(by kernel_rfl), trivial⟩ (by decide) (by kernel_rfl)
theorem mk_Stream_Rects_ok {s_1 : Stream} {most_2 : Int} {r : (List Rect) × Stream} (hF : mk_Stream_Rects s_1 most_2 = some r) :
    FnM Try.prog 52 [(.ref (extN 0) 0 0), (vI most_2)] [(.cells 2 [(vL eI s_1.L), (vI s_1.f_at)])] (vL Rect.enc r.1) [some (.cells 2 [(vL eI r.2.L), (vI r.2.f_at)])] := by
  refine FnM.of_wH ⟨Try.prog, 24, [], []⟩ rfl Try.func52 rfl rfl (Nat.le_of_ble_eq_true rfl) (by kernel_rfl) ?_
  unfold mk_Stream_Rects at hF
  refine wH_seq ?_
  refine wH_region ?_
  refine h_op .nil (wt rfl) rfl ?_
  refine h_nil ?_
  refine wH_seq ?_
  refine wH_region ?_
  refine h_op .nil (wt rfl) rfl ?_
  refine h_nil ?_
  refine wH_seq ?_
  refine wH_seq ?_
  refine wH_region ?_
  refine h_op (.ref (extN 0) 0 0) (wt rfl) rfl ?_
  refine h_op (vI most_2) (wt rfl) rfl ?_
  obtain ⟨r_3, hr_4, hF⟩ := bind_some hF
  refine h_callq 0 [0] (.inl rfl) (fun _ _ _ => trivial) (mk_Stream_Range_ok hr_4) rfl hb106 rfl (by kernel_rfl) (by kernel_rfl) (by kernel_rfl) (by kernel_rfl) (by kernel_rfl) (by kernel_rfl) (by kernel_rfl) (by decide) (by kernel_rfl) (wt rfl) (vI r_3.1) (by kernel_rfl) ([((extN 0), some (.cells 2 [(vL eI r_3.2.L), (vI r_3.2.f_at)]))] : Hp) (by kernel_rfl) ?_
  refine h_op (vI 0) (wt rfl) rfl ?_
  refine h_nil ?_
  refine wH_new (fun n_12 => ?_)
  obtain ⟨o_17, hj_18, hF⟩ := bind_some hF
  obtain ⟨hn_10, hj_18⟩ := forL_some hj_18
  refine wH_join (β := ((List Rect) × (List Int) × Int) × Nm) (fun p => (fun (s_11 : (List Rect) × (List Int) × Int) (n_14 : Nm) => ([(5, (gV n_14 4 s_11.1))] : List (Nat × V))) p.1 p.2) (fun p => (fun (s_11 : (List Rect) × (List Int) × Int) (n_14 : Nm) => ([((extN 0), some (.cells 2 [(vL eI s_11.2.1), (vI s_11.2.2)])), (n_14, gB 4 Rect.enc s_11.1)] : Hp)) p.1 p.2) (fun p => o_17 = .go p.1) ?_ ?_
  · refine wH_block ?_
    refine wH_loop (β := Nat × (List Nat) × ((List Rect) × (List Int) × Int) × Nm) (fun p => (fun (k_6 : Nat) (l_7 : List Nat) (s_11 : (List Rect) × (List Int) × Int) (n_14 : Nm) => ([(0, (.ref (extN 0) 0 0)), (5, (gV n_14 4 s_11.1)), (9, (vI r_3.1)), (10, (vI (k_6 : Int)))] : List (Nat × V))) p.1 p.2.1 p.2.2.1 p.2.2.2) (fun p => (fun (k_6 : Nat) (l_7 : List Nat) (s_11 : (List Rect) × (List Int) × Int) (n_14 : Nm) => ([((extN 0), some (.cells 2 [(vL eI s_11.2.1), (vI s_11.2.2)])), (n_14, gB 4 Rect.enc s_11.1)] : Hp)) p.1 p.2.1 p.2.2.1 p.2.2.2) (fun p => forR (fun k x s => mk_Stream_Rects_L1 k x s) p.2.1 p.1 p.2.2.1 = some o_17 ∧ ((List.range (r_3.1).toNat)).drop p.1 = p.2.1) (fun p => p.2.1.length) (0, (List.range (r_3.1).toNat), (([] : List Rect), r_3.2.L, r_3.2.f_at), n_12) ⟨hj_18, rfl⟩ rfl (pre_r rfl) ?_
    rintro ⟨k_6, l_7, s_11, n_14⟩ ⟨hL_16, hD_9⟩
    dsimp only at hL_16 hD_9
    cases l_7 with
    | nil =>
      replace hL_16 := some_inj hL_16
      subst hL_16
      refine wH_seq (wH_region (h_op (vB (decide ((k_6 : Int) < r_3.1))) (wt rfl) rfl (h_nil ?_)))
      refine wH_seq (wH_iff rfl (range_nil hD_9) (wH_exit ?_))
      exact cut_mk (s_11, n_14) rfl rfl (pre_r rfl)
    | cons x_8 l_7 =>
      obtain ⟨c_, hc_15, hL_16⟩ := bind_some hL_16
      refine wH_seq (wH_region (h_op (vB (decide ((k_6 : Int) < r_3.1))) (wt rfl) rfl (h_nil ?_)))
      refine wH_seq (wH_ift rfl (range_cons hD_9) (wH_skip ?_))
      unfold mk_Stream_Rects_L1 at hc_15
      refine wH_seq ?_
      refine wH_block ?_
      refine wH_seq ?_
      refine wH_region ?_
      refine h_op (.ref (extN 0) 0 0) (wt rfl) rfl ?_
      obtain ⟨r_19, hr_20, hc_15⟩ := bind_some hc_15
      refine h_callq 0 [0] (.inl rfl) (fun _ _ _ => trivial) (mk_Stream_RightRect_ok hr_20) rfl hb127 rfl (by kernel_rfl) (by kernel_rfl) (by kernel_rfl) (by kernel_rfl) (by kernel_rfl) (by kernel_rfl) (by kernel_rfl) (by decide) (by kernel_rfl) (wt rfl) (.d (.agg (Rect.enc r_19.1))) (by kernel_rfl) ([((extN 0), some (.cells 2 [(vL eI r_19.2.L), (vI r_19.2.f_at)])), (n_14, gB 4 Rect.enc s_11.1)] : Hp) (by kernel_rfl) ?_
      refine h_alloc 0 (.inl rfl) z92 rfl (wt rfl) (fun n_22 => ?_)
      refine h_str 0 (.inl rfl) (fun _ _ _ => trivial) 2 sz92 rfl rfl [(vI r_19.1.X), (vI r_19.1.Y), (vI r_19.1.W), (vI r_19.1.H)] rfl (wt rfl) ?_
      refine h_nil ?_
      refine wH_seq ?_
      refine wH_seq ?_
      refine wH_region ?_
      refine h_op (.ref (extN 0) 0 0) (wt rfl) rfl ?_
      obtain ⟨r_23, hr_24, hc_15⟩ := bind_some hc_15
      refine h_callq 0 [0] (.inl rfl) (fun _ _ _ => trivial) (mk_Stream_Flip_ok hr_24) rfl hb37 rfl (by kernel_rfl) (by kernel_rfl) (by kernel_rfl) (by kernel_rfl) (by kernel_rfl) (by kernel_rfl) (by kernel_rfl) (by decide) (by kernel_rfl) (wt rfl) (vB r_23.1) (by kernel_rfl) ([((extN 0), some (.cells 2 [(vL eI r_23.2.L), (vI r_23.2.f_at)])), (n_14, gB 4 Rect.enc s_11.1), (n_22, some (.cells 4 [(vI r_19.1.X), (vI r_19.1.Y), (vI r_19.1.W), (vI r_19.1.H)]))] : Hp) (by kernel_rfl) ?_
      refine h_nil ?_
      obtain ⟨v_26, h_27, hc_15⟩ := bind_some hc_15
      refine wH_join (β := Unit) (fun _ => ([(0, (.ref (extN 0) 0 0)), (5, (gV n_14 4 s_11.1)), (6, (.ref n_22 0 0)), (9, (vI r_3.1)), (10, (vI (k_6 : Int)))] : List (Nat × V))) (fun _ => ([((extN 0), some (.cells 2 [(vL eI v_26.1), (vI v_26.2.1)])), (n_14, gB 4 Rect.enc s_11.1), (n_22, some (.cells 4 [(vI v_26.2.2.1), (vI v_26.2.2.2.1), (vI v_26.2.2.2.2.1), (vI v_26.2.2.2.2.2)]))] : Hp)) (fun _ => True) ?_ ?_
      · rcases cond_some h_27 with ⟨hc_28, h_27⟩ | ⟨hc_28, h_27⟩
        · refine wH_ift rfl hc_28 ?_
          refine wH_region ?_
          refine h_op (.ref (extN 0) 0 0) (wt rfl) rfl ?_
          obtain ⟨r_29, hr_30, h_27⟩ := bind_some h_27
          refine h_callq 0 [0] (.inl rfl) (fun _ _ _ => trivial) (mk_Stream_Rect_ok hr_30) rfl hb51 rfl (by kernel_rfl) (by kernel_rfl) (by kernel_rfl) (by kernel_rfl) (by kernel_rfl) (by kernel_rfl) (by kernel_rfl) (by decide) (by kernel_rfl) (wt rfl) (.d (.agg (Rect.enc r_29.1))) (by kernel_rfl) ([((extN 0), some (.cells 2 [(vL eI r_29.2.L), (vI r_29.2.f_at)])), (n_14, gB 4 Rect.enc s_11.1), (n_22, some (.cells 4 [(vI r_19.1.X), (vI r_19.1.Y), (vI r_19.1.W), (vI r_19.1.H)]))] : Hp) (by kernel_rfl) ?_
          refine h_str 0 (.inl rfl) (fun _ _ _ => trivial) 2 sz92 rfl rfl [(vI r_29.1.X), (vI r_29.1.Y), (vI r_29.1.W), (vI r_29.1.H)] rfl (wt rfl) ?_
          refine h_nil ?_
          replace h_27 := some_inj h_27
          subst h_27
          exact cut_mk () trivial rfl (pre_r rfl)
        · refine wH_iff rfl hc_28 ?_
          refine wH_skip ?_
          replace h_27 := some_inj h_27
          subst h_27
          exact cut_mk () trivial rfl (pre_r rfl)
      · rintro ⟨⟩ _ sl_ H_ hp_ hq_
        refine wH_at _ hp_ hq_ ?_
        refine wH_region ?_
        refine h_op (gV n_14 4 s_11.1) (wt rfl) rfl ?_
        refine h_ldr 0 2 (.inl rfl) (fun _ _ _ => trivial) sz92 ag92 rfl rfl (.d (.agg (Rect.enc (⟨v_26.2.2.1, v_26.2.2.2.1, v_26.2.2.2.2.1, v_26.2.2.2.2.2⟩ : Rect)))) rfl (wt rfl) ?_
        refine h_lit (([(⟨v_26.2.2.1, v_26.2.2.2.1, v_26.2.2.2.2.1, v_26.2.2.2.2.2⟩ : Rect)] : List Rect).map Rect.enc) es94 ez94 rfl rfl rfl rfl rfl (wt rfl) ?_
        obtain ⟨a_32, hz_33, hc_15⟩ := bind_some hc_15
        refine h_appg 0 (.inl rfl) (fun _ _ _ => trivial) (i := 1) el94 el94 sz92 z92 rfl (by decide) by92 (by decide) (fun _ => rfl) rfl rfl rfl hz_33 (wt rfl) (fun n_34 => ?_)
        refine h_op (gV n_34 4 a_32) (wt rfl) rfl ?_
        refine h_nil ?_
        refine wH_region ?_
        refine h_opw (w64_nextr hD_9 hn_10) (wt rfl) rfl ?_
        refine h_op (vI ((k_6 + 1 : Nat) : Int)) (wt rfl) rfl ?_
        refine h_nil ?_
        replace hc_15 := some_inj hc_15
        subst hc_15
        exact loop_mk (k_6 + 1, l_7, (a_32, v_26.1, v_26.2.1), n_34) ⟨hL_16, drop_next hD_9⟩ (Nat.lt_succ_self _) rfl (pre_r rfl)
  · rintro ⟨s_11, n_14⟩ ho_ sl_ H_ hp_ hq_
    subst ho_
    refine wH_at _ hp_ hq_ ?_
    refine wH_seq ?_
    refine wH_region ?_
    refine h_op (gV n_14 4 s_11.1) (wt rfl) rfl ?_
    refine h_op (gV n_14 4 s_11.1) (wt rfl) rfl ?_
    refine h_nil ?_
    refine wH_frozg 1 rfl ?_
    refine wH_cog 4 1 rfl rfl ?_
    refine wH_cog 5 1 rfl rfl ?_
    refine wH_cog 23 1 rfl rfl ?_
    replace hF := some_inj hF
    subst hF
    refine wH_ret ?_
    exact finB (.inr rfl) [(vL Rect.enc s_11.1)] _ [0] [extN 0] ⟨rfl, trivial⟩ (.cons (co_data rfl rfl) (.nil)) (by kernel_rfl) ⟨(by kernel_rfl), trivial⟩ (by decide) (by kernel_rfl)
theorem kit_Outside_ok {n_1 : Int} {low_2 : Int} {high_3 : Int} {r : Bool} (hF : kit_Outside n_1 low_2 high_3 = some r) :
    FnM Try.prog 82 [(vI n_1), (vI low_2), (vI high_3)] [] (vB r) [] := by
  refine FnM.of_wH ⟨Try.prog, 15, [], []⟩ rfl Try.func82 rfl rfl (Nat.le_of_ble_eq_true rfl) (by kernel_rfl) ?_
  unfold kit_Outside at hF
  refine wH_seq ?_
  refine wH_region ?_
  refine h_op (vB false) (wt rfl) rfl ?_
  refine h_nil ?_
  refine wH_seq ?_
  obtain ⟨v_4, h_5, hF⟩ := bind_some hF
  refine wH_join (β := Unit) (fun _ => ([(6, (vB v_4))] : List (Nat × V))) (fun _ => ([] : Hp)) (fun _ => True) ?_ ?_
  · refine wH_region ?_
    refine h_op (vI n_1) (wt rfl) rfl ?_
    refine h_op (vI low_2) (wt rfl) rfl ?_
    refine h_op (vB (decide (n_1 < low_2))) (wt rfl) rfl ?_
    rcases cond_some h_5 with ⟨hc_6, h_5⟩ | ⟨hc_6, h_5⟩
    · refine h_movb rfl hc_6 (wt rfl) ?_
      refine h_skip (wg rfl rfl rfl) ?_
      refine h_skip (wg rfl rfl rfl) ?_
      refine h_skip (wg rfl rfl rfl) ?_
      refine h_op (vB true) (wt rfl) rfl ?_
      refine h_op (vB true) (wt rfl) rfl ?_
      refine h_nil ?_
      replace h_5 := some_inj h_5
      subst h_5
      exact cut_mk () trivial rfl (pre_r rfl)
    · refine h_movb rfl hc_6 (wt rfl) ?_
      refine h_op (vI n_1) (wg rfl rfl rfl) rfl ?_
      refine h_op (vI high_3) (wg rfl rfl rfl) rfl ?_
      refine h_op (vB (decide (n_1 > high_3))) (wg rfl rfl rfl) rfl ?_
      refine h_op (vB (decide (n_1 > high_3))) (wt rfl) rfl ?_
      refine h_op (vB (decide (n_1 > high_3))) (wt rfl) rfl ?_
      refine h_nil ?_
      replace h_5 := some_inj h_5
      subst h_5
      exact cut_mk () trivial rfl (pre_r rfl)
  · rintro ⟨⟩ _ sl_ H_ hp_ hq_
    refine wH_at _ hp_ hq_ ?_
    replace hF := some_inj hF
    subst hF
    refine wH_ret ?_
    exact fin0 (.inr rfl) [(vB v_4)] ⟨rfl, trivial⟩ rfl rfl rfl
theorem screen_CheckRect_ok {r_1 : Rect} {r : Int} (hF : screen_CheckRect r_1 = some r) :
    FnM Try.prog 57 [(.d (.agg (Rect.enc r_1)))] [] (vI r) [] := by
  refine FnM.of_wH ⟨Try.prog, 25, [], []⟩ rfl Try.func57 rfl rfl (Nat.le_of_ble_eq_true rfl) (by kernel_rfl) ?_
  unfold screen_CheckRect at hF
  refine wH_seq ?_
  refine wH_region ?_
  refine h_box 0 (.inl rfl) [(vI r_1.X), (vI r_1.Y), (vI r_1.W), (vI r_1.H)] rfl rfl (wt rfl) (fun n_2 => ?_)
  refine h_op (vI 0) (wt rfl) rfl ?_
  refine h_nil ?_
  refine wH_seq ?_
  refine wH_seq ?_
  obtain ⟨v_3, h_4, hF⟩ := bind_some hF
  refine wH_join (β := Unit) (fun _ => ([(1, (.ref n_2 0 0)), (10, (vB v_3))] : List (Nat × V))) (fun _ => ([(n_2, some (.cells 4 [(vI r_1.X), (vI r_1.Y), (vI r_1.W), (vI r_1.H)]))] : Hp)) (fun _ => True) ?_ ?_
  · refine wH_region ?_
    refine h_far pl92_0 rfl 0 rfl (wt rfl) ?_
    refine h_ldr 0 0 (.inl rfl) (fun _ _ _ => trivial) sz3 ag3 rfl rfl (vI r_1.X) rfl (wt rfl) ?_
    obtain ⟨r_5, hr_6, h_4⟩ := bind_some h_4
    refine h_call0 (kit_Outside_ok hr_6) rfl hb82 rfl rfl rfl rfl (wt rfl) ?_
    rcases cond_some h_4 with ⟨hc_7, h_4⟩ | ⟨hc_7, h_4⟩
    · refine h_movb rfl hc_7 (wt rfl) ?_
      refine h_skip (wg rfl rfl rfl) ?_
      refine h_skip (wg rfl rfl rfl) ?_
      refine h_skip (wg rfl rfl rfl) ?_
      refine h_op (vB true) (wt rfl) rfl ?_
      refine h_nil ?_
      replace h_4 := some_inj h_4
      subst h_4
      exact cut_mk () trivial rfl (pre_r rfl)
    · refine h_movb rfl hc_7 (wt rfl) ?_
      refine h_far pl92_1 rfl 1 rfl (wg rfl rfl rfl) ?_
      refine h_ldr 0 0 (.inl rfl) (fun _ _ _ => trivial) sz3 ag3 rfl rfl (vI r_1.Y) rfl (wg rfl rfl rfl) ?_
      obtain ⟨r_8, hr_9, h_4⟩ := bind_some h_4
      refine h_call0 (kit_Outside_ok hr_9) rfl hb82 rfl rfl rfl rfl (wg rfl rfl rfl) ?_
      refine h_op (vB r_8) (wt rfl) rfl ?_
      refine h_nil ?_
      replace h_4 := some_inj h_4
      subst h_4
      exact cut_mk () trivial rfl (pre_r rfl)
  · rintro ⟨⟩ _ sl_ H_ hp_ hq_
    refine wH_at _ hp_ hq_ ?_
    rcases cond_some hF with ⟨hc_10, hF⟩ | ⟨hc_10, hF⟩
    · refine wH_ift rfl hc_10 ?_
      refine wH_seq ?_
      refine wH_region ?_
      refine h_op (vI 1) (wt rfl) rfl ?_
      refine h_nil ?_
      replace hF := some_inj hF
      subst hF
      refine wH_ret ?_
      exact fin0 (.inr rfl) [(vI 1)] ⟨rfl, trivial⟩ rfl rfl rfl
    · refine wH_iff rfl hc_10 ?_
      refine wH_skip ?_
      refine wH_seq ?_
      refine wH_seq ?_
      obtain ⟨v_11, h_12, hF⟩ := bind_some hF
      refine wH_join (β := Unit) (fun _ => ([(24, (vB v_11))] : List (Nat × V))) (fun _ => ([(n_2, some (.cells 4 [(vI r_1.X), (vI r_1.Y), (vI r_1.W), (vI r_1.H)]))] : Hp)) (fun _ => True) ?_ ?_
      · refine wH_region ?_
        refine h_far pl92_2 rfl 2 rfl (wt rfl) ?_
        refine h_ldr 0 0 (.inl rfl) (fun _ _ _ => trivial) sz3 ag3 rfl rfl (vI r_1.W) rfl (wt rfl) ?_
        refine h_far pl92_0 rfl 0 rfl (wt rfl) ?_
        refine h_ldr 0 0 (.inl rfl) (fun _ _ _ => trivial) sz3 ag3 rfl rfl (vI r_1.X) rfl (wt rfl) ?_
        refine h_op (vI (w64 (100000 - r_1.X))) (wt rfl) rfl ?_
        obtain ⟨r_13, hr_14, h_12⟩ := bind_some h_12
        refine h_call0 (kit_Outside_ok hr_14) rfl hb82 rfl rfl rfl rfl (wt rfl) ?_
        rcases cond_some h_12 with ⟨hc_15, h_12⟩ | ⟨hc_15, h_12⟩
        · refine h_movb rfl hc_15 (wt rfl) ?_
          refine h_skip (wg rfl rfl rfl) ?_
          refine h_skip (wg rfl rfl rfl) ?_
          refine h_skip (wg rfl rfl rfl) ?_
          refine h_skip (wg rfl rfl rfl) ?_
          refine h_skip (wg rfl rfl rfl) ?_
          refine h_skip (wg rfl rfl rfl) ?_
          refine h_op (vB true) (wt rfl) rfl ?_
          refine h_nil ?_
          replace h_12 := some_inj h_12
          subst h_12
          exact cut_mk () trivial rfl (pre_r rfl)
        · refine h_movb rfl hc_15 (wt rfl) ?_
          refine h_far pl92_3 rfl 3 rfl (wg rfl rfl rfl) ?_
          refine h_ldr 0 0 (.inl rfl) (fun _ _ _ => trivial) sz3 ag3 rfl rfl (vI r_1.H) rfl (wg rfl rfl rfl) ?_
          refine h_far pl92_1 rfl 1 rfl (wg rfl rfl rfl) ?_
          refine h_ldr 0 0 (.inl rfl) (fun _ _ _ => trivial) sz3 ag3 rfl rfl (vI r_1.Y) rfl (wg rfl rfl rfl) ?_
          refine h_op (vI (w64 (100000 - r_1.Y))) (wg rfl rfl rfl) rfl ?_
          obtain ⟨r_16, hr_17, h_12⟩ := bind_some h_12
          refine h_call0 (kit_Outside_ok hr_17) rfl hb82 rfl rfl rfl rfl (wg rfl rfl rfl) ?_
          refine h_op (vB r_16) (wt rfl) rfl ?_
          refine h_nil ?_
          replace h_12 := some_inj h_12
          subst h_12
          exact cut_mk () trivial rfl (pre_r rfl)
      · rintro ⟨⟩ _ sl_ H_ hp_ hq_
        refine wH_at _ hp_ hq_ ?_
        rcases cond_some hF with ⟨hc_18, hF⟩ | ⟨hc_18, hF⟩
        · refine wH_ift rfl hc_18 ?_
          refine wH_seq ?_
          refine wH_region ?_
          refine h_op (vI 1) (wt rfl) rfl ?_
          refine h_nil ?_
          replace hF := some_inj hF
          subst hF
          refine wH_ret ?_
          exact fin0 (.inr rfl) [(vI 1)] ⟨rfl, trivial⟩ rfl rfl rfl
        · refine wH_iff rfl hc_18 ?_
          refine wH_skip ?_
          refine wH_seq ?_
          refine wH_region ?_
          refine h_op (vI 0) (wt rfl) rfl ?_
          refine h_nil ?_
          replace hF := some_inj hF
          subst hF
          refine wH_ret ?_
          exact fin0 (.inr rfl) [(vI 0)] ⟨rfl, trivial⟩ rfl rfl rfl
theorem screen_meet_ok {a_1 : Rect} {b_2 : Rect} {r : Rect × Bool} (hF : screen_meet a_1 b_2 = some r) :
    FnM Try.prog 128 [(.d (.agg (Rect.enc a_1))), (.d (.agg (Rect.enc b_2)))] [] (.tup [(.d (.agg (Rect.enc r.1))), (vB r.2)]) [] := by
  refine FnM.of_wH ⟨Try.prog, 58, [], []⟩ rfl Try.func128 rfl rfl (Nat.le_of_ble_eq_true rfl) (by kernel_rfl) ?_
  unfold screen_meet at hF
  refine wH_seq ?_
  refine wH_region ?_
  refine h_box 0 (.inl rfl) [(vI a_1.X), (vI a_1.Y), (vI a_1.W), (vI a_1.H)] rfl rfl (wt rfl) (fun n_3 => ?_)
  refine h_box 0 (.inl rfl) [(vI b_2.X), (vI b_2.Y), (vI b_2.W), (vI b_2.H)] rfl rfl (wt rfl) (fun n_4 => ?_)
  refine h_alloc 0 (.inl rfl) z92 rfl (wt rfl) (fun n_5 => ?_)
  refine h_op (vB false) (wt rfl) rfl ?_
  refine h_nil ?_
  refine wH_seq ?_
  refine wH_draws ?_
  refine h_far pl92_0 rfl 0 rfl (wt rfl) ?_
  refine h_ldr 1 0 (.inr (by kernel_rfl)) (fun _ _ ag => trivial) sz3 ag3 rfl rfl (vI a_1.X) rfl (wt rfl) ?_
  refine h_far pl92_0 rfl 0 rfl (wt rfl) ?_
  refine h_ldr 3 1 (.inr (by kernel_rfl)) (fun _ _ ag => ⟨.inl ⟨rfl, rfl⟩, trivial⟩) sz3 ag3 rfl rfl (vI b_2.X) rfl (wt rfl) ?_
  refine h_minmax (vI (maxI a_1.X b_2.X)) rfl (.inr rfl) (wt rfl) ?_
  refine h_far pl92_1 rfl 1 rfl (wt rfl) ?_
  refine h_ldr 6 0 (.inr (by kernel_rfl)) (fun _ _ ag => ⟨.inl ⟨rfl, rfl⟩, ⟨.inl ⟨rfl, rfl⟩, trivial⟩⟩) sz3 ag3 rfl rfl (vI a_1.Y) rfl (wt rfl) ?_
  refine h_far pl92_1 rfl 1 rfl (wt rfl) ?_
  refine h_ldr 8 1 (.inr (by kernel_rfl)) (fun _ _ ag => ⟨.inl ⟨rfl, rfl⟩, ⟨.inl ⟨rfl, rfl⟩, ⟨.inl ⟨rfl, rfl⟩, trivial⟩⟩⟩) sz3 ag3 rfl rfl (vI b_2.Y) rfl (wt rfl) ?_
  refine h_minmax (vI (maxI a_1.Y b_2.Y)) rfl (.inr rfl) (wt rfl) ?_
  refine h_op (vI (maxI a_1.X b_2.X)) (wt rfl) rfl ?_
  refine h_op (vI (maxI a_1.Y b_2.Y)) (wt rfl) rfl ?_
  refine h_nil ?_
  refine wH_seq ?_
  refine wH_draws ?_
  refine h_far pl92_0 rfl 0 rfl (wt rfl) ?_
  refine h_ldr 1 0 (.inr (by kernel_rfl)) (fun _ _ ag => trivial) sz3 ag3 rfl rfl (vI a_1.X) rfl (wt rfl) ?_
  refine h_far pl92_2 rfl 2 rfl (wt rfl) ?_
  refine h_ldr 3 0 (.inr (by kernel_rfl)) (fun _ _ ag => ⟨.inl ⟨rfl, rfl⟩, trivial⟩) sz3 ag3 rfl rfl (vI a_1.W) rfl (wt rfl) ?_
  refine h_op (vI (w64 (a_1.X + a_1.W))) (wt rfl) rfl ?_
  refine h_far pl92_0 rfl 0 rfl (wt rfl) ?_
  refine h_ldr 6 1 (.inr (by kernel_rfl)) (fun _ _ ag => ⟨.inl ⟨rfl, rfl⟩, ⟨.inl ⟨rfl, rfl⟩, trivial⟩⟩) sz3 ag3 rfl rfl (vI b_2.X) rfl (wt rfl) ?_
  refine h_far pl92_2 rfl 2 rfl (wt rfl) ?_
  refine h_ldr 8 1 (.inr (by kernel_rfl)) (fun _ _ ag => ⟨.inl ⟨rfl, rfl⟩, ⟨.inl ⟨rfl, rfl⟩, ⟨.inl ⟨rfl, rfl⟩, trivial⟩⟩⟩) sz3 ag3 rfl rfl (vI b_2.W) rfl (wt rfl) ?_
  refine h_op (vI (w64 (b_2.X + b_2.W))) (wt rfl) rfl ?_
  refine h_minmax (vI (minI (w64 (a_1.X + a_1.W)) (w64 (b_2.X + b_2.W)))) rfl (.inl rfl) (wt rfl) ?_
  refine h_op (vI (maxI a_1.X b_2.X)) (wt rfl) rfl ?_
  refine h_op (vI (w64 ((minI (w64 (a_1.X + a_1.W)) (w64 (b_2.X + b_2.W))) - (maxI a_1.X b_2.X)))) (wt rfl) rfl ?_
  refine h_far pl92_1 rfl 1 rfl (wt rfl) ?_
  refine h_ldr 14 0 (.inr (by kernel_rfl)) (fun _ _ ag => ⟨.inl ⟨rfl, rfl⟩, ⟨.inl ⟨rfl, rfl⟩, ⟨.inl ⟨rfl, rfl⟩, ⟨.inl ⟨rfl, rfl⟩, trivial⟩⟩⟩⟩) sz3 ag3 rfl rfl (vI a_1.Y) rfl (wt rfl) ?_
  refine h_far pl92_3 rfl 3 rfl (wt rfl) ?_
  refine h_ldr 16 0 (.inr (by kernel_rfl)) (fun _ _ ag => ⟨.inl ⟨rfl, rfl⟩, ⟨.inl ⟨rfl, rfl⟩, ⟨.inl ⟨rfl, rfl⟩, ⟨.inl ⟨rfl, rfl⟩, ⟨.inl ⟨rfl, rfl⟩, trivial⟩⟩⟩⟩⟩) sz3 ag3 rfl rfl (vI a_1.H) rfl (wt rfl) ?_
  refine h_op (vI (w64 (a_1.Y + a_1.H))) (wt rfl) rfl ?_
  refine h_far pl92_1 rfl 1 rfl (wt rfl) ?_
  refine h_ldr 19 1 (.inr (by kernel_rfl)) (fun _ _ ag => ⟨.inl ⟨rfl, rfl⟩, ⟨.inl ⟨rfl, rfl⟩, ⟨.inl ⟨rfl, rfl⟩, ⟨.inl ⟨rfl, rfl⟩, ⟨.inl ⟨rfl, rfl⟩, ⟨.inl ⟨rfl, rfl⟩, trivial⟩⟩⟩⟩⟩⟩) sz3 ag3 rfl rfl (vI b_2.Y) rfl (wt rfl) ?_
  refine h_far pl92_3 rfl 3 rfl (wt rfl) ?_
  refine h_ldr 21 1 (.inr (by kernel_rfl)) (fun _ _ ag => ⟨.inl ⟨rfl, rfl⟩, ⟨.inl ⟨rfl, rfl⟩, ⟨.inl ⟨rfl, rfl⟩, ⟨.inl ⟨rfl, rfl⟩, ⟨.inl ⟨rfl, rfl⟩, ⟨.inl ⟨rfl, rfl⟩, ⟨.inl ⟨rfl, rfl⟩, trivial⟩⟩⟩⟩⟩⟩⟩) sz3 ag3 rfl rfl (vI b_2.H) rfl (wt rfl) ?_
  refine h_op (vI (w64 (b_2.Y + b_2.H))) (wt rfl) rfl ?_
  refine h_minmax (vI (minI (w64 (a_1.Y + a_1.H)) (w64 (b_2.Y + b_2.H)))) rfl (.inl rfl) (wt rfl) ?_
  refine h_op (vI (maxI a_1.Y b_2.Y)) (wt rfl) rfl ?_
  refine h_op (vI (w64 ((minI (w64 (a_1.Y + a_1.H)) (w64 (b_2.Y + b_2.H))) - (maxI a_1.Y b_2.Y)))) (wt rfl) rfl ?_
  refine h_op (vI (w64 ((minI (w64 (a_1.X + a_1.W)) (w64 (b_2.X + b_2.W))) - (maxI a_1.X b_2.X)))) (wt rfl) rfl ?_
  refine h_op (vI (w64 ((minI (w64 (a_1.Y + a_1.H)) (w64 (b_2.Y + b_2.H))) - (maxI a_1.Y b_2.Y)))) (wt rfl) rfl ?_
  refine h_nil ?_
  refine wH_at (H0 := ([(n_3, some (.cells 4 [(vI a_1.X), (vI a_1.Y), (vI a_1.W), (vI a_1.H)])), (n_4, some (.cells 4 [(vI b_2.X), (vI b_2.Y), (vI b_2.W), (vI b_2.H)])), (n_5, some (.cells 4 [(vI 0), (vI 0), (vI 0), (vI 0)]))] : Hp)) ([(4, (.ref n_5 0 0)), (6, (vI (maxI a_1.X b_2.X))), (7, (vI (maxI a_1.Y b_2.Y))), (8, (vI (w64 ((minI (w64 (a_1.X + a_1.W)) (w64 (b_2.X + b_2.W))) - (maxI a_1.X b_2.X))))), (9, (vI (w64 ((minI (w64 (a_1.Y + a_1.H)) (w64 (b_2.Y + b_2.H))) - (maxI a_1.Y b_2.Y)))))] : List (Nat × V)) (by kernel_rfl) (pre_mk (by kernel_rfl)) ?_
  refine wH_seq ?_
  refine wH_seq ?_
  obtain ⟨v_6, h_7, hF⟩ := bind_some hF
  refine wH_join (β := Unit) (fun _ => ([(4, (.ref n_5 0 0)), (6, (vI (maxI a_1.X b_2.X))), (7, (vI (maxI a_1.Y b_2.Y))), (8, (vI (w64 ((minI (w64 (a_1.X + a_1.W)) (w64 (b_2.X + b_2.W))) - (maxI a_1.X b_2.X))))), (9, (vI (w64 ((minI (w64 (a_1.Y + a_1.H)) (w64 (b_2.Y + b_2.H))) - (maxI a_1.Y b_2.Y))))), (51, (vB v_6))] : List (Nat × V))) (fun _ => ([(n_3, some (.cells 4 [(vI a_1.X), (vI a_1.Y), (vI a_1.W), (vI a_1.H)])), (n_4, some (.cells 4 [(vI b_2.X), (vI b_2.Y), (vI b_2.W), (vI b_2.H)])), (n_5, some (.cells 4 [(vI 0), (vI 0), (vI 0), (vI 0)]))] : Hp)) (fun _ => True) ?_ ?_
  · refine wH_region ?_
    refine h_op (vI (w64 ((minI (w64 (a_1.X + a_1.W)) (w64 (b_2.X + b_2.W))) - (maxI a_1.X b_2.X)))) (wt rfl) rfl ?_
    refine h_op (vB (decide ((w64 ((minI (w64 (a_1.X + a_1.W)) (w64 (b_2.X + b_2.W))) - (maxI a_1.X b_2.X))) ≤ 0))) (wt rfl) rfl ?_
    rcases cond_some h_7 with ⟨hc_8, h_7⟩ | ⟨hc_8, h_7⟩
    · refine h_movb rfl hc_8 (wt rfl) ?_
      refine h_skip (wg rfl rfl rfl) ?_
      refine h_skip (wg rfl rfl rfl) ?_
      refine h_op (vB true) (wt rfl) rfl ?_
      refine h_nil ?_
      replace h_7 := some_inj h_7
      subst h_7
      exact cut_mk () trivial rfl (pre_r rfl)
    · refine h_movb rfl hc_8 (wt rfl) ?_
      refine h_op (vI (w64 ((minI (w64 (a_1.Y + a_1.H)) (w64 (b_2.Y + b_2.H))) - (maxI a_1.Y b_2.Y)))) (wg rfl rfl rfl) rfl ?_
      refine h_op (vB (decide ((w64 ((minI (w64 (a_1.Y + a_1.H)) (w64 (b_2.Y + b_2.H))) - (maxI a_1.Y b_2.Y))) ≤ 0))) (wg rfl rfl rfl) rfl ?_
      refine h_op (vB (decide ((w64 ((minI (w64 (a_1.Y + a_1.H)) (w64 (b_2.Y + b_2.H))) - (maxI a_1.Y b_2.Y))) ≤ 0))) (wt rfl) rfl ?_
      refine h_nil ?_
      replace h_7 := some_inj h_7
      subst h_7
      exact cut_mk () trivial rfl (pre_r rfl)
  · rintro ⟨⟩ _ sl_ H_ hp_ hq_
    refine wH_at _ hp_ hq_ ?_
    rcases cond_some hF with ⟨hc_9, hF⟩ | ⟨hc_9, hF⟩
    · refine wH_ift rfl hc_9 ?_
      refine wH_seq ?_
      refine wH_region ?_
      refine h_op (.d (.agg (Rect.enc (⟨0, 0, 0, 0⟩ : Rect)))) (wt rfl) (by kernel_rfl) ?_
      refine h_str 0 (.inl rfl) (fun _ _ _ => trivial) 2 sz92 rfl rfl [(vI 0), (vI 0), (vI 0), (vI 0)] rfl (wt rfl) ?_
      refine h_op (vB false) (wt rfl) rfl ?_
      refine h_nil ?_
      replace hF := some_inj hF
      subst hF
      refine wH_ret ?_
      exact fin0 (.inr rfl) [(.d (.agg (Rect.enc (⟨0, 0, 0, 0⟩ : Rect)))), (vB false)] ⟨⟨2, _, _, _, _, _, _, _, rfl, rfl, sz92, ag92, rfl⟩, ⟨rfl, trivial⟩⟩ rfl rfl rfl
    · refine wH_iff rfl hc_9 ?_
      refine wH_skip ?_
      refine wH_seq ?_
      refine wH_region ?_
      refine h_op (vI (maxI a_1.X b_2.X)) (wt rfl) rfl ?_
      refine h_op (vI (maxI a_1.Y b_2.Y)) (wt rfl) rfl ?_
      refine h_op (vI (w64 ((minI (w64 (a_1.X + a_1.W)) (w64 (b_2.X + b_2.W))) - (maxI a_1.X b_2.X)))) (wt rfl) rfl ?_
      refine h_op (vI (w64 ((minI (w64 (a_1.Y + a_1.H)) (w64 (b_2.Y + b_2.H))) - (maxI a_1.Y b_2.Y)))) (wt rfl) rfl ?_
      refine h_op (.d (.agg (Rect.enc (⟨(maxI a_1.X b_2.X), (maxI a_1.Y b_2.Y), (w64 ((minI (w64 (a_1.X + a_1.W)) (w64 (b_2.X + b_2.W))) - (maxI a_1.X b_2.X))), (w64 ((minI (w64 (a_1.Y + a_1.H)) (w64 (b_2.Y + b_2.H))) - (maxI a_1.Y b_2.Y)))⟩ : Rect)))) (wt rfl) (by kernel_rfl) ?_
      refine h_str 0 (.inl rfl) (fun _ _ _ => trivial) 2 sz92 rfl rfl [(vI (maxI a_1.X b_2.X)), (vI (maxI a_1.Y b_2.Y)), (vI (w64 ((minI (w64 (a_1.X + a_1.W)) (w64 (b_2.X + b_2.W))) - (maxI a_1.X b_2.X)))), (vI (w64 ((minI (w64 (a_1.Y + a_1.H)) (w64 (b_2.Y + b_2.H))) - (maxI a_1.Y b_2.Y))))] rfl (wt rfl) ?_
      refine h_op (vB true) (wt rfl) rfl ?_
      refine h_nil ?_
      replace hF := some_inj hF
      subst hF
      refine wH_ret ?_
      exact fin0 (.inr rfl) [(.d (.agg (Rect.enc (⟨(maxI a_1.X b_2.X), (maxI a_1.Y b_2.Y), (w64 ((minI (w64 (a_1.X + a_1.W)) (w64 (b_2.X + b_2.W))) - (maxI a_1.X b_2.X))), (w64 ((minI (w64 (a_1.Y + a_1.H)) (w64 (b_2.Y + b_2.H))) - (maxI a_1.Y b_2.Y)))⟩ : Rect)))), (vB true)] ⟨⟨2, _, _, _, _, _, _, _, rfl, rfl, sz92, ag92, rfl⟩, ⟨rfl, trivial⟩⟩ rfl rfl rfl
theorem screen_Meet_ok {a_1 : Rect} {b_2 : Rect} {r : Rect × Bool × Int} (hF : screen_Meet a_1 b_2 = some r) :
    FnM Try.prog 53 [(.d (.agg (Rect.enc a_1))), (.d (.agg (Rect.enc b_2)))] [] (.tup [(.d (.agg (Rect.enc r.1))), (vB r.2.1), (vI r.2.2)]) [] := by
  refine FnM.of_wH ⟨Try.prog, 33, [], []⟩ rfl Try.func53 rfl rfl (Nat.le_of_ble_eq_true rfl) (by kernel_rfl) ?_
  unfold screen_Meet at hF
  refine wH_seq ?_
  refine wH_region ?_
  refine h_box 0 (.inl rfl) [(vI a_1.X), (vI a_1.Y), (vI a_1.W), (vI a_1.H)] rfl rfl (wt rfl) (fun n_3 => ?_)
  refine h_box 0 (.inl rfl) [(vI b_2.X), (vI b_2.Y), (vI b_2.W), (vI b_2.H)] rfl rfl (wt rfl) (fun n_4 => ?_)
  refine h_alloc 0 (.inl rfl) z92 rfl (wt rfl) (fun n_5 => ?_)
  refine h_op (vB false) (wt rfl) rfl ?_
  refine h_op (vI 0) (wt rfl) rfl ?_
  refine h_nil ?_
  refine wH_seq ?_
  refine wH_seq ?_
  refine wH_region ?_
  refine h_ldr 0 0 (.inl rfl) (fun _ _ _ => trivial) sz92 ag92 rfl rfl (.d (.agg (Rect.enc a_1))) rfl (wt rfl) ?_
  refine h_ldr 0 1 (.inl rfl) (fun _ _ _ => trivial) sz92 ag92 rfl rfl (.d (.agg (Rect.enc b_2))) rfl (wt rfl) ?_
  refine h_op (.d (.agg [.int .i64 a_1.X, .int .i64 a_1.Y, .int .i64 a_1.W, .int .i64 a_1.H, .int .i64 b_2.X, .int .i64 b_2.Y, .int .i64 b_2.W, .int .i64 b_2.H])) (wt rfl) (by kernel_rfl) ?_
  refine h_op (vI 0) (wt rfl) rfl ?_
  refine h_nil ?_
  obtain ⟨o_14, hj_15, hF⟩ := bind_some hF
  obtain ⟨hn_10, hj_15⟩ := forL_some hj_15
  refine wH_join (β := (Unit)) (fun (s_11 : Unit) => ([(2, (.ref n_3 0 0)), (3, (.ref n_4 0 0)), (4, (.ref n_5 0 0))] : List (Nat × V))) (fun (s_11 : Unit) => ([(n_3, some (.cells 4 [(vI a_1.X), (vI a_1.Y), (vI a_1.W), (vI a_1.H)])), (n_4, some (.cells 4 [(vI b_2.X), (vI b_2.Y), (vI b_2.W), (vI b_2.H)])), (n_5, some (.cells 4 [(vI 0), (vI 0), (vI 0), (vI 0)]))] : Hp)) (fun p => o_14 = .go p) ?_ ?_
  · refine wH_block ?_
    refine wH_loop (β := Nat × (List Nat) × (Unit)) (fun p => (fun (k_6 : Nat) (l_7 : List Nat) (s_11 : Unit) => ([(2, (.ref n_3 0 0)), (3, (.ref n_4 0 0)), (4, (.ref n_5 0 0)), (14, (.d (.agg [.int .i64 a_1.X, .int .i64 a_1.Y, .int .i64 a_1.W, .int .i64 a_1.H, .int .i64 b_2.X, .int .i64 b_2.Y, .int .i64 b_2.W, .int .i64 b_2.H]))), (15, (vI (k_6 : Int)))] : List (Nat × V))) p.1 p.2.1 p.2.2) (fun p => (fun (k_6 : Nat) (l_7 : List Nat) (s_11 : Unit) => ([(n_3, some (.cells 4 [(vI a_1.X), (vI a_1.Y), (vI a_1.W), (vI a_1.H)])), (n_4, some (.cells 4 [(vI b_2.X), (vI b_2.Y), (vI b_2.W), (vI b_2.H)])), (n_5, some (.cells 4 [(vI 0), (vI 0), (vI 0), (vI 0)]))] : Hp)) p.1 p.2.1 p.2.2) (fun p => forR (fun k x s => screen_Meet_L1 a_1 b_2 k x s) p.2.1 p.1 p.2.2 = some o_14 ∧ ((List.range (2 : Int).toNat)).drop p.1 = p.2.1) (fun p => p.2.1.length) (0, (List.range (2 : Int).toNat), ()) ⟨hj_15, rfl⟩ rfl (pre_r rfl) ?_
    rintro ⟨k_6, l_7, s_11⟩ ⟨hL_13, hD_9⟩
    dsimp only at hL_13 hD_9
    cases l_7 with
    | nil =>
      replace hL_13 := some_inj hL_13
      subst hL_13
      refine wH_seq (wH_region (h_op (vB (decide ((k_6 : Int) < 2))) (wt rfl) rfl (h_nil ?_)))
      refine wH_seq (wH_iff rfl (range_nil hD_9) (wH_exit ?_))
      exact cut_mk (s_11) rfl rfl (pre_r rfl)
    | cons x_8 l_7 =>
      obtain ⟨c_, hc_12, hL_13⟩ := bind_some hL_13
      refine wH_seq (wH_region (h_op (vB (decide ((k_6 : Int) < 2))) (wt rfl) rfl (h_nil ?_)))
      refine wH_seq (wH_ift rfl (range_cons hD_9) (wH_skip ?_))
      unfold screen_Meet_L1 at hc_12
      refine wH_seq ?_
      refine wH_block ?_
      refine wH_seq ?_
      refine wH_region ?_
      obtain ⟨y_16, hy_17, hc_12⟩ := bind_some hc_12
      refine h_idxa (enc := Rect.enc) (xs := ([a_1, b_2] : List Rect)) un160 sz92 ag92 rfl rfl rfl rfl hy_17 (fun _ => rfl) (.inl rfl) (.d (.agg (Rect.enc y_16))) rfl (wt rfl) ?_
      refine h_alloc 0 (.inl rfl) z92 rfl (wt rfl) (fun n_18 => ?_)
      refine h_str 0 (.inl rfl) (fun _ _ _ => trivial) 3 sz92 rfl rfl [(vI y_16.X), (vI y_16.Y), (vI y_16.W), (vI y_16.H)] rfl (wt rfl) ?_
      refine h_nil ?_
      refine wH_seq ?_
      refine wH_region ?_
      refine h_ldr 0 3 (.inl rfl) (fun _ _ _ => trivial) sz92 ag92 rfl rfl (.d (.agg (Rect.enc y_16))) rfl (wt rfl) ?_
      obtain ⟨r_19, hr_20, hc_12⟩ := bind_some hc_12
      refine h_call0 (screen_CheckRect_ok hr_20) rfl hb57 rfl rfl rfl rfl (wt rfl) ?_
      refine h_op (vI r_19) (wt rfl) rfl ?_
      refine h_nil ?_
      refine wH_seq ?_
      refine wH_region ?_
      refine h_op (vI r_19) (wt rfl) rfl ?_
      refine h_op (vB (r_19 != 0)) (wt rfl) rfl ?_
      refine h_nil ?_
      rcases cond_some hc_12 with ⟨hc_21, hc_12⟩ | ⟨hc_21, hc_12⟩
      · refine wH_ift rfl hc_21 ?_
        refine wH_seq ?_
        refine wH_region ?_
        refine h_op (.d (.agg (Rect.enc (⟨0, 0, 0, 0⟩ : Rect)))) (wt rfl) (by kernel_rfl) ?_
        refine h_op (vI r_19) (wt rfl) rfl ?_
        refine h_str 0 (.inl rfl) (fun _ _ _ => trivial) 2 sz92 rfl rfl [(vI 0), (vI 0), (vI 0), (vI 0)] rfl (wt rfl) ?_
        refine h_op (vB false) (wt rfl) rfl ?_
        refine h_op (vI r_19) (wt rfl) rfl ?_
        refine h_nil ?_
        replace hc_12 := some_inj hc_12
        subst hc_12
        replace hL_13 := some_inj hL_13
        subst hL_13
        replace hF := some_inj hF
        subst hF
        refine wH_ret ?_
        exact fin0 (.inr rfl) [(.d (.agg (Rect.enc (⟨0, 0, 0, 0⟩ : Rect)))), (vB false), (vI r_19)] ⟨⟨2, _, _, _, _, _, _, _, rfl, rfl, sz92, ag92, rfl⟩, ⟨rfl, ⟨rfl, trivial⟩⟩⟩ rfl rfl rfl
      · refine wH_iff rfl hc_21 ?_
        refine wH_skip ?_
        refine wH_region ?_
        refine h_opw (w64_nextr hD_9 hn_10) (wt rfl) rfl ?_
        refine h_op (vI ((k_6 + 1 : Nat) : Int)) (wt rfl) rfl ?_
        refine h_nil ?_
        replace hc_12 := some_inj hc_12
        subst hc_12
        exact loop_mk (k_6 + 1, l_7, ()) ⟨hL_13, drop_next hD_9⟩ (Nat.lt_succ_self _) rfl (pre_r rfl)
  · rintro s_11 ho_ sl_ H_ hp_ hq_
    subst ho_
    refine wH_at _ hp_ hq_ ?_
    refine wH_seq ?_
    refine wH_region ?_
    refine h_ldr 0 0 (.inl rfl) (fun _ _ _ => trivial) sz92 ag92 rfl rfl (.d (.agg (Rect.enc a_1))) rfl (wt rfl) ?_
    refine h_ldr 0 1 (.inl rfl) (fun _ _ _ => trivial) sz92 ag92 rfl rfl (.d (.agg (Rect.enc b_2))) rfl (wt rfl) ?_
    obtain ⟨r_22, hr_23, hF⟩ := bind_some hF
    refine h_call0 (screen_meet_ok hr_23) rfl hb128 rfl rfl rfl rfl (wt rfl) ?_
    refine h_op (.tup [(.d (.agg (Rect.enc r_22.1))), (vB r_22.2)]) (wt rfl) rfl ?_
    refine h_op (.d (.agg (Rect.enc r_22.1))) (wt rfl) rfl ?_
    refine h_op (vB r_22.2) (wt rfl) rfl ?_
    refine h_alloc 0 (.inl rfl) z92 rfl (wt rfl) (fun n_24 => ?_)
    refine h_str 0 (.inl rfl) (fun _ _ _ => trivial) 3 sz92 rfl rfl [(vI r_22.1.X), (vI r_22.1.Y), (vI r_22.1.W), (vI r_22.1.H)] rfl (wt rfl) ?_
    refine h_op (vB r_22.2) (wt rfl) rfl ?_
    refine h_nil ?_
    refine wH_seq ?_
    refine wH_region ?_
    refine h_ldr 0 3 (.inl rfl) (fun _ _ _ => trivial) sz92 ag92 rfl rfl (.d (.agg (Rect.enc r_22.1))) rfl (wt rfl) ?_
    refine h_op (vB r_22.2) (wt rfl) rfl ?_
    refine h_str 0 (.inl rfl) (fun _ _ _ => trivial) 2 sz92 rfl rfl [(vI r_22.1.X), (vI r_22.1.Y), (vI r_22.1.W), (vI r_22.1.H)] rfl (wt rfl) ?_
    refine h_op (vB r_22.2) (wt rfl) rfl ?_
    refine h_op (vI 0) (wt rfl) rfl ?_
    refine h_nil ?_
    replace hF := some_inj hF
    subst hF
    refine wH_ret ?_
    exact fin0 (.inr rfl) [(.d (.agg (Rect.enc r_22.1))), (vB r_22.2), (vI 0)] ⟨⟨2, _, _, _, _, _, _, _, rfl, rfl, sz92, ag92, rfl⟩, ⟨rfl, ⟨rfl, trivial⟩⟩⟩ rfl rfl rfl
theorem screen_rectsFault_ok {l_1 : (List Rect)} {r : Int} (hF : screen_rectsFault l_1 = some r) :
    FnM Try.prog 129 [(vL Rect.enc l_1)] [] (vI r) [] := by
  refine FnM.of_wH ⟨Try.prog, 21, [], []⟩ rfl Try.func129 rfl rfl (Nat.le_of_ble_eq_true rfl) (by kernel_rfl) ?_
  unfold screen_rectsFault at hF
  refine wH_seq ?_
  refine wH_region ?_
  refine h_op (vI 0) (wt rfl) rfl ?_
  refine h_nil ?_
  refine wH_seq ?_
  refine wH_seq ?_
  refine wH_region ?_
  refine h_op (vL Rect.enc l_1) (wt rfl) rfl ?_
  refine h_len un94 rfl (wt rfl) ?_
  refine h_op (vB (decide ((l_1.length : Int) > 2000))) (wt rfl) rfl ?_
  refine h_nil ?_
  rcases cond_some hF with ⟨hc_2, hF⟩ | ⟨hc_2, hF⟩
  · refine wH_ift rfl hc_2 ?_
    refine wH_seq ?_
    refine wH_region ?_
    refine h_op (vI 2) (wt rfl) rfl ?_
    refine h_nil ?_
    replace hF := some_inj hF
    subst hF
    refine wH_ret ?_
    exact fin0 (.inr rfl) [(vI 2)] ⟨rfl, trivial⟩ rfl rfl rfl
  · refine wH_iff rfl hc_2 ?_
    refine wH_skip ?_
    refine wH_seq ?_
    refine wH_seq ?_
    refine wH_region ?_
    refine h_op (vL Rect.enc l_1) (wt rfl) rfl ?_
    refine h_len un94 rfl (wt rfl) ?_
    refine h_op (vI 0) (wt rfl) rfl ?_
    refine h_nil ?_
    obtain ⟨o_11, hj_12, hF⟩ := bind_some hF
    obtain ⟨hn_7, hj_12⟩ := forL_some hj_12
    refine wH_join (β := (Unit)) (fun (s_8 : Unit) => ([] : List (Nat × V))) (fun (s_8 : Unit) => ([] : Hp)) (fun p => o_11 = .go p) ?_ ?_
    · refine wH_block ?_
      refine wH_loop (β := Nat × (List Rect) × (Unit)) (fun p => (fun (k_3 : Nat) (l_4 : List Rect) (s_8 : Unit) => ([(9, (vL Rect.enc l_1)), (10, (vI (l_1.length : Int))), (11, (vI (k_3 : Int)))] : List (Nat × V))) p.1 p.2.1 p.2.2) (fun p => (fun (k_3 : Nat) (l_4 : List Rect) (s_8 : Unit) => ([] : Hp)) p.1 p.2.1 p.2.2) (fun p => forR (fun k x s => screen_rectsFault_L1 k x s) p.2.1 p.1 p.2.2 = some o_11 ∧ (l_1).drop p.1 = p.2.1) (fun p => p.2.1.length) (0, l_1, ()) ⟨hj_12, rfl⟩ rfl (pre_r rfl) ?_
      rintro ⟨k_3, l_4, s_8⟩ ⟨hL_10, hD_6⟩
      dsimp only at hL_10 hD_6
      cases l_4 with
      | nil =>
        replace hL_10 := some_inj hL_10
        subst hL_10
        refine wH_seq (wH_region (h_op (vB (decide ((k_3 : Int) < (l_1.length : Int)))) (wt rfl) rfl (h_nil ?_)))
        refine wH_seq (wH_iff rfl (drop_nil hD_6) (wH_exit ?_))
        exact cut_mk (s_8) rfl rfl (pre_r rfl)
      | cons x_5 l_4 =>
        obtain ⟨c_, hc_9, hL_10⟩ := bind_some hL_10
        refine wH_seq (wH_region (h_op (vB (decide ((k_3 : Int) < (l_1.length : Int)))) (wt rfl) rfl (h_nil ?_)))
        refine wH_seq (wH_ift rfl (drop_cons hD_6) (wH_skip ?_))
        unfold screen_rectsFault_L1 at hc_9
        refine wH_seq ?_
        refine wH_block ?_
        refine wH_seq ?_
        refine wH_region ?_
        refine h_ia es94 rfl rfl (drop_idx hD_6) rfl (wt rfl) ?_
        refine h_ldc sz92 ag92 rfl (.d (.agg (Rect.enc x_5))) rfl (wt rfl) ?_
        refine h_alloc 0 (.inl rfl) z92 rfl (wt rfl) (fun n_13 => ?_)
        refine h_str 0 (.inl rfl) (fun _ _ _ => trivial) 0 sz92 rfl rfl [(vI x_5.X), (vI x_5.Y), (vI x_5.W), (vI x_5.H)] rfl (wt rfl) ?_
        refine h_nil ?_
        refine wH_seq ?_
        refine wH_region ?_
        refine h_ldr 0 0 (.inl rfl) (fun _ _ _ => trivial) sz92 ag92 rfl rfl (.d (.agg (Rect.enc x_5))) rfl (wt rfl) ?_
        obtain ⟨r_14, hr_15, hc_9⟩ := bind_some hc_9
        refine h_call0 (screen_CheckRect_ok hr_15) rfl hb57 rfl rfl rfl rfl (wt rfl) ?_
        refine h_op (vI r_14) (wt rfl) rfl ?_
        refine h_nil ?_
        refine wH_seq ?_
        refine wH_region ?_
        refine h_op (vI r_14) (wt rfl) rfl ?_
        refine h_op (vB (r_14 != 0)) (wt rfl) rfl ?_
        refine h_nil ?_
        rcases cond_some hc_9 with ⟨hc_16, hc_9⟩ | ⟨hc_16, hc_9⟩
        · refine wH_ift rfl hc_16 ?_
          refine wH_seq ?_
          refine wH_region ?_
          refine h_op (vI r_14) (wt rfl) rfl ?_
          refine h_op (vI r_14) (wt rfl) rfl ?_
          refine h_nil ?_
          replace hc_9 := some_inj hc_9
          subst hc_9
          replace hL_10 := some_inj hL_10
          subst hL_10
          replace hF := some_inj hF
          subst hF
          refine wH_ret ?_
          exact fin0 (.inr rfl) [(vI r_14)] ⟨rfl, trivial⟩ rfl rfl rfl
        · refine wH_iff rfl hc_16 ?_
          refine wH_skip ?_
          refine wH_region ?_
          refine h_opw (w64_next hD_6 hn_7) (wt rfl) rfl ?_
          refine h_op (vI ((k_3 + 1 : Nat) : Int)) (wt rfl) rfl ?_
          refine h_nil ?_
          replace hc_9 := some_inj hc_9
          subst hc_9
          exact loop_mk (k_3 + 1, l_4, ()) ⟨hL_10, drop_next hD_6⟩ (Nat.lt_succ_self _) rfl (pre_r rfl)
    · rintro s_8 ho_ sl_ H_ hp_ hq_
      subst ho_
      refine wH_at _ hp_ hq_ ?_
      refine wH_seq ?_
      refine wH_region ?_
      refine h_op (vI 0) (wt rfl) rfl ?_
      refine h_nil ?_
      replace hF := some_inj hF
      subst hF
      refine wH_ret ?_
      exact fin0 (.inr rfl) [(vI 0)] ⟨rfl, trivial⟩ rfl rfl rfl
theorem slices_Grow_api_Rect_api_Rect_k_ok {n_1 : Int} {r : Bool} (hF : slices_Grow_api_Rect_api_Rect_k n_1 = some r) :
    FnM Try.prog 182 [.nil, (vI n_1)] [] (kV r (extN 0) 4 ([] : List Rect)) (kO r 4) := by
  refine FnM.of_wH ⟨Try.prog, 27, [], []⟩ rfl Try.func182 rfl rfl (Nat.le_of_ble_eq_true rfl) (by kernel_rfl) ?_
  unfold slices_Grow_api_Rect_api_Rect_k at hF
  refine wH_seq ?_
  refine wH_region ?_
  refine h_op .nil (wt rfl) rfl ?_
  refine h_nil ?_
  refine wH_seq ?_
  refine wH_seq ?_
  refine wH_region ?_
  refine h_op (vI n_1) (wt rfl) rfl ?_
  refine h_op (vB (decide (n_1 < 0))) (wt rfl) rfl ?_
  refine h_nil ?_
  rcases cond_some hF with ⟨hc_2, hF⟩ | ⟨hc_2, hF⟩
  · refine wH_ift rfl hc_2 ?_
    refine wH_region ?_
    cases hF
  · refine wH_iff rfl hc_2 ?_
    refine wH_skip ?_
    refine wH_seq ?_
    refine wH_seq ?_
    refine wH_region ?_
    refine h_op (vI n_1) (wt rfl) rfl ?_
    refine h_op .nil (wt rfl) rfl ?_
    refine h_capn el94 rfl (wt rfl) ?_
    refine h_op .nil (wt rfl) rfl ?_
    refine h_lenn un94 rfl (wt rfl) ?_
    refine h_op (vI (w64 (0 - 0))) (wt rfl) rfl ?_
    refine h_op (vI (w64 (n_1 - (w64 (0 - 0))))) (wt rfl) rfl ?_
    refine h_op (vI (w64 (n_1 - (w64 (0 - 0))))) (wt rfl) rfl ?_
    refine h_nil ?_
    refine wH_seq ?_
    refine wH_region ?_
    refine h_op (vI (w64 (n_1 - (w64 (0 - 0))))) (wt rfl) rfl ?_
    refine h_op (vB (decide ((w64 (n_1 - (w64 (0 - 0)))) > 0))) (wt rfl) rfl ?_
    refine h_nil ?_
    rcases cond_some hF with ⟨hc_3, hF⟩ | ⟨hc_3, hF⟩
    · refine wH_ift rfl hc_3 ?_
      refine wH_region ?_
      refine h_op .nil (wt rfl) rfl ?_
      refine h_op .nil (wt rfl) rfl ?_
      refine h_capn el94 rfl (wt rfl) ?_
      refine h_op .nil (wt rfl) (by kernel_rfl) ?_
      refine h_op (vI (w64 (n_1 - (w64 (0 - 0))))) (wt rfl) rfl ?_
      obtain ⟨_, hz_5, hF⟩ := bind_some hF
      refine h_appz (enc := Rect.enc) 0 (.inl rfl) el94 (by kernel_rfl) sz92 z92 rfl (by decide) by92 rfl rfl hz_5 (wt rfl) (fun n_4 => ?_)
      refine h_op .nil (wt rfl) rfl ?_
      refine h_lenn un94 rfl (wt rfl) ?_
      refine h_cutm (m := 0) un94 sz92 rfl rfl rfl (Nat.zero_le _) (wt rfl) ?_
      refine h_op (.vs n_4 4 0 0) (wt rfl) rfl ?_
      refine h_nil ?_
      refine wH_seq ?_
      refine wH_region ?_
      refine h_op (.vs n_4 4 0 0) (wt rfl) rfl ?_
      refine h_op (.vs n_4 4 0 0) (wt rfl) rfl ?_
      refine h_nil ?_
      replace hF := some_inj hF
      subst hF
      refine wH_ret ?_
      exact finK (.inr rfl) 0 rfl rfl
    · refine wH_iff rfl hc_3 ?_
      refine wH_skip ?_
      refine wH_seq ?_
      refine wH_region ?_
      refine h_op .nil (wt rfl) rfl ?_
      refine h_op .nil (wt rfl) rfl ?_
      refine h_nil ?_
      replace hF := some_inj hF
      subst hF
      refine wH_ret ?_
      exact finK0 (.inr rfl) rfl
theorem slices_Concat_api_Rect_api_Rect_ok {slices_1 : (List (List Rect))} {r : (List Rect)} (hF : slices_Concat_api_Rect_api_Rect slices_1 = some r) :
    FnM Try.prog 136 [(vL (eL Rect.enc) slices_1)] [] (vL Rect.enc r) [] := by
  refine FnM.of_wH ⟨Try.prog, 36, [], []⟩ rfl Try.func136 rfl rfl (Nat.le_of_ble_eq_true rfl) (by kernel_rfl) ?_
  unfold slices_Concat_api_Rect_api_Rect at hF
  refine wH_seq ?_
  refine wH_region ?_
  refine h_op .nil (wt rfl) rfl ?_
  refine h_nil ?_
  refine wH_seq ?_
  refine wH_region ?_
  refine h_op (vI 0) (wt rfl) rfl ?_
  refine h_nil ?_
  refine wH_seq ?_
  refine wH_seq ?_
  refine wH_region ?_
  refine h_op (vL (eL Rect.enc) slices_1) (wt rfl) rfl ?_
  refine h_len un196 rfl (wt rfl) ?_
  refine h_op (vI 0) (wt rfl) rfl ?_
  refine h_nil ?_
  obtain ⟨o_10, hj_11, hF⟩ := bind_some hF
  obtain ⟨hn_6, hj_11⟩ := forL_some hj_11
  refine wH_join (β := (Int)) (fun (s_7 : Int) => ([(0, (vL (eL Rect.enc) slices_1)), (3, (vI s_7))] : List (Nat × V))) (fun (s_7 : Int) => ([] : Hp)) (fun p => o_10 = .go p) ?_ ?_
  · refine wH_block ?_
    refine wH_loop (β := Nat × (List (List Rect)) × (Int)) (fun p => (fun (k_2 : Nat) (l_3 : List (List Rect)) (s_7 : Int) => ([(0, (vL (eL Rect.enc) slices_1)), (3, (vI s_7)), (9, (vL (eL Rect.enc) slices_1)), (10, (vI (slices_1.length : Int))), (11, (vI (k_2 : Int)))] : List (Nat × V))) p.1 p.2.1 p.2.2) (fun p => (fun (k_2 : Nat) (l_3 : List (List Rect)) (s_7 : Int) => ([] : Hp)) p.1 p.2.1 p.2.2) (fun p => forR (fun k x s => slices_Concat_api_Rect_api_Rect_L1 k x s) p.2.1 p.1 p.2.2 = some o_10 ∧ (slices_1).drop p.1 = p.2.1) (fun p => p.2.1.length) (0, slices_1, 0) ⟨hj_11, rfl⟩ rfl (pre_r rfl) ?_
    rintro ⟨k_2, l_3, s_7⟩ ⟨hL_9, hD_5⟩
    dsimp only at hL_9 hD_5
    cases l_3 with
    | nil =>
      replace hL_9 := some_inj hL_9
      subst hL_9
      refine wH_seq (wH_region (h_op (vB (decide ((k_2 : Int) < (slices_1.length : Int)))) (wt rfl) rfl (h_nil ?_)))
      refine wH_seq (wH_iff rfl (drop_nil hD_5) (wH_exit ?_))
      exact cut_mk (s_7) rfl rfl (pre_r rfl)
    | cons x_4 l_3 =>
      obtain ⟨c_, hc_8, hL_9⟩ := bind_some hL_9
      refine wH_seq (wH_region (h_op (vB (decide ((k_2 : Int) < (slices_1.length : Int)))) (wt rfl) rfl (h_nil ?_)))
      refine wH_seq (wH_ift rfl (drop_cons hD_5) (wH_skip ?_))
      unfold slices_Concat_api_Rect_api_Rect_L1 at hc_8
      refine wH_seq ?_
      refine wH_block ?_
      refine wH_seq ?_
      refine wH_region ?_
      refine h_ia es196 rfl rfl (drop_idx hD_5) rfl (wt rfl) ?_
      refine h_ldc sz94 ag94 rfl (vL Rect.enc x_4) rfl (wt rfl) ?_
      refine h_op (vL Rect.enc x_4) (wt rfl) rfl ?_
      refine h_nil ?_
      refine wH_seq ?_
      refine wH_region ?_
      refine h_op (vI s_7) (wt rfl) rfl ?_
      refine h_op (vL Rect.enc x_4) (wt rfl) rfl ?_
      refine h_len un94 rfl (wt rfl) ?_
      refine h_op (vI (w64 (s_7 + (x_4.length : Int)))) (wt rfl) rfl ?_
      refine h_op (vI (w64 (s_7 + (x_4.length : Int)))) (wt rfl) rfl ?_
      refine h_nil ?_
      refine wH_seq ?_
      refine wH_region ?_
      refine h_op (vI (w64 (s_7 + (x_4.length : Int)))) (wt rfl) rfl ?_
      refine h_op (vB (decide ((w64 (s_7 + (x_4.length : Int))) < 0))) (wt rfl) rfl ?_
      refine h_nil ?_
      obtain ⟨v_12, h_13, hc_8⟩ := bind_some hc_8
      refine wH_join (β := Unit) (fun _ => ([(0, (vL (eL Rect.enc) slices_1)), (3, (vI (w64 (s_7 + (x_4.length : Int))))), (9, (vL (eL Rect.enc) slices_1)), (10, (vI (slices_1.length : Int))), (11, (vI (k_2 : Int)))] : List (Nat × V))) (fun _ => ([] : Hp)) (fun _ => True) ?_ ?_
      · rcases cond_some h_13 with ⟨hc_14, h_13⟩ | ⟨hc_14, h_13⟩
        · refine wH_ift rfl hc_14 ?_
          refine wH_region ?_
          cases h_13
        · refine wH_iff rfl hc_14 ?_
          refine wH_skip ?_
          replace h_13 := some_inj h_13
          subst h_13
          exact cut_mk () trivial rfl (pre_r rfl)
      · rintro ⟨⟩ _ sl_ H_ hp_ hq_
        refine wH_at _ hp_ hq_ ?_
        refine wH_region ?_
        refine h_opw (w64_next hD_5 hn_6) (wt rfl) rfl ?_
        refine h_op (vI ((k_2 + 1 : Nat) : Int)) (wt rfl) rfl ?_
        refine h_nil ?_
        replace hc_8 := some_inj hc_8
        subst hc_8
        exact loop_mk (k_2 + 1, l_3, (w64 (s_7 + (x_4.length : Int)))) ⟨hL_9, drop_next hD_5⟩ (Nat.lt_succ_self _) rfl (pre_r rfl)
  · rintro s_7 ho_ sl_ H_ hp_ hq_
    subst ho_
    refine wH_at _ hp_ hq_ ?_
    refine wH_seq ?_
    refine wH_region ?_
    refine h_op (vI s_7) (wt rfl) rfl ?_
    obtain ⟨b_15, hr_16, hF⟩ := bind_some hF
    refine h_callk (enc := Rect.enc) (slices_Grow_api_Rect_api_Rect_k_ok hr_16) rfl hb182 (by kernel_rfl) rfl (by kernel_rfl) (wt rfl) (fun n_17 => ?_)
    refine h_op (kV b_15 n_17 4 ([] : List Rect)) (wt rfl) rfl ?_
    refine h_nil ?_
    refine wH_seq ?_
    refine wH_seq ?_
    refine wH_region ?_
    refine h_op (vL (eL Rect.enc) slices_1) (wt rfl) rfl ?_
    refine h_len un196 rfl (wt rfl) ?_
    refine h_op (vI 0) (wt rfl) rfl ?_
    refine h_nil ?_
    obtain ⟨o_28, hj_29, hF⟩ := bind_some hF
    obtain ⟨hn_22, hj_29⟩ := forL_some hj_29
    refine wH_join (β := ((List Rect)) × Nm) (fun p => (fun (s_23 : (List Rect)) (n_25 : Nm) => ([(6, (kV b_15 n_25 4 s_23))] : List (Nat × V))) p.1 p.2) (fun p => (fun (s_23 : (List Rect)) (n_25 : Nm) => ([(n_25, kB b_15 4 Rect.enc s_23)] : Hp)) p.1 p.2) (fun p => o_28 = .go p.1) ?_ ?_
    · refine wH_block ?_
      refine wH_loop (β := Nat × (List (List Rect)) × ((List Rect)) × Nm) (fun p => (fun (k_18 : Nat) (l_19 : List (List Rect)) (s_23 : (List Rect)) (n_25 : Nm) => ([(6, (kV b_15 n_25 4 s_23)), (25, (vL (eL Rect.enc) slices_1)), (26, (vI (slices_1.length : Int))), (27, (vI (k_18 : Int)))] : List (Nat × V))) p.1 p.2.1 p.2.2.1 p.2.2.2) (fun p => (fun (k_18 : Nat) (l_19 : List (List Rect)) (s_23 : (List Rect)) (n_25 : Nm) => ([(n_25, kB b_15 4 Rect.enc s_23)] : Hp)) p.1 p.2.1 p.2.2.1 p.2.2.2) (fun p => forR (fun k x s => slices_Concat_api_Rect_api_Rect_L2 k x s) p.2.1 p.1 p.2.2.1 = some o_28 ∧ (slices_1).drop p.1 = p.2.1) (fun p => p.2.1.length) (0, slices_1, ([] : List Rect), n_17) ⟨hj_29, rfl⟩ rfl (pre_r rfl) ?_
      rintro ⟨k_18, l_19, s_23, n_25⟩ ⟨hL_27, hD_21⟩
      dsimp only at hL_27 hD_21
      cases l_19 with
      | nil =>
        replace hL_27 := some_inj hL_27
        subst hL_27
        refine wH_seq (wH_region (h_op (vB (decide ((k_18 : Int) < (slices_1.length : Int)))) (wt rfl) rfl (h_nil ?_)))
        refine wH_seq (wH_iff rfl (drop_nil hD_21) (wH_exit ?_))
        exact cut_mk (s_23, n_25) rfl rfl (pre_r rfl)
      | cons x_20 l_19 =>
        obtain ⟨c_, hc_26, hL_27⟩ := bind_some hL_27
        refine wH_seq (wH_region (h_op (vB (decide ((k_18 : Int) < (slices_1.length : Int)))) (wt rfl) rfl (h_nil ?_)))
        refine wH_seq (wH_ift rfl (drop_cons hD_21) (wH_skip ?_))
        unfold slices_Concat_api_Rect_api_Rect_L2 at hc_26
        refine wH_seq ?_
        refine wH_block ?_
        refine wH_seq ?_
        refine wH_region ?_
        refine h_ia es196 rfl rfl (drop_idx hD_21) rfl (wt rfl) ?_
        refine h_ldc sz94 ag94 rfl (vL Rect.enc x_20) rfl (wt rfl) ?_
        refine h_op (vL Rect.enc x_20) (wt rfl) rfl ?_
        refine h_nil ?_
        refine wH_region ?_
        refine h_op (kV b_15 n_25 4 s_23) (wt rfl) rfl ?_
        refine h_op (vL Rect.enc x_20) (wt rfl) rfl ?_
        obtain ⟨a_30, hz_31, hc_26⟩ := bind_some hc_26
        refine h_appk 0 (.inl rfl) (fun _ _ _ => trivial) (i := 0) el94 el94 sz92 z92 rfl (by decide) by92 (by decide) (fun _ => rfl) rfl rfl rfl hz_31 (wt rfl) (fun n_32 => ?_)
        refine h_op (kV b_15 n_32 4 a_30) (wt rfl) rfl ?_
        refine h_nil ?_
        refine wH_region ?_
        refine h_opw (w64_next hD_21 hn_22) (wt rfl) rfl ?_
        refine h_op (vI ((k_18 + 1 : Nat) : Int)) (wt rfl) rfl ?_
        refine h_nil ?_
        replace hc_26 := some_inj hc_26
        subst hc_26
        exact loop_mk (k_18 + 1, l_19, a_30, n_32) ⟨hL_27, drop_next hD_21⟩ (Nat.lt_succ_self _) rfl (pre_r rfl)
    · rintro ⟨s_23, n_25⟩ ho_ sl_ H_ hp_ hq_
      subst ho_
      refine wH_at _ hp_ hq_ ?_
      refine wH_seq ?_
      refine wH_region ?_
      refine h_op (kV b_15 n_25 4 s_23) (wt rfl) rfl ?_
      refine h_op (kV b_15 n_25 4 s_23) (wt rfl) rfl ?_
      refine h_nil ?_
      refine wH_frozk 0 rfl ?_
      refine wH_cok 2 0 rfl rfl ?_
      refine wH_cok 6 0 rfl rfl ?_
      refine wH_cok 35 0 rfl rfl ?_
      replace hF := some_inj hF
      subst hF
      refine wH_ret ?_
      exact fin0 (.inr rfl) [(vL Rect.enc s_23)] ⟨rfl, trivial⟩ rfl rfl rfl
theorem slices_Sort_int_int_v1_ok {x r : (List Int)} (hF : slices_Sort_int_int_v1 x = some r) :
    FnM Try.prog 169 [(dV (extN 0) 1 x)] (([] : List Box) ++ gI 1 eI x) (.tup []) (([] : List Box).map some ++ gT x (gB 1 eI r)) :=
  sortI_ok Try.slices_Sort_int Try.slices_Sort_int_none hF
theorem slices_Compact_int_int_v1_ok {s_1 : (List Int)} {r : (List Int)} (hF : slices_Compact_int_int_v1 s_1 = some r) :
    FnM Try.prog 170 [(dV (extN 0) 1 s_1)] (([] : List Box) ++ gI 1 eI s_1) (vL eI r) (([] : List Box).map some ++ gT s_1 none) := by
  refine FnM.of_wHv ⟨Try.prog, 61, [], []⟩ rfl Try.func170 rfl rfl (Nat.le_of_ble_eq_true rfl) (by kernel_rfl) ?_
  unfold slices_Compact_int_int_v1 at hF
  refine wH_seq ?_
  refine wH_region ?_
  refine h_op .nil (wt rfl) rfl ?_
  refine h_nil ?_
  refine wH_seq ?_
  refine wH_seq ?_
  refine wH_region ?_
  refine h_op (dV (extN 0) 1 s_1) (wt rfl) rfl ?_
  refine h_lend un22 rfl (wt rfl) ?_
  refine h_op (vB (decide ((s_1.length : Int) < 2))) (wt rfl) rfl ?_
  refine h_nil ?_
  rcases cond_some hF with ⟨hc_2, hF⟩ | ⟨hc_2, hF⟩
  · refine wH_ift rfl hc_2 ?_
    refine wH_seq ?_
    refine wH_region ?_
    refine h_op (dV (extN 0) 1 s_1) (wt rfl) rfl ?_
    refine h_op (dV (extN 0) 1 s_1) (wt rfl) rfl ?_
    refine h_nil ?_
    refine wH_frozg 0 rfl ?_
    refine wH_cod 0 0 rfl rfl ?_
    refine wH_cod 2 0 rfl rfl ?_
    refine wH_cod 6 0 rfl rfl ?_
    refine wH_cod 9 0 rfl rfl ?_
    refine wH_drop (i := 0) rfl ?_
    replace hF := some_inj hF
    subst hF
    refine wH_ret ?_
    exact finV (bs := ([] : List Box)) (os := ([] : List Box)) (xs := s_1) (o := none) (.inr rfl) [(vL eI s_1)] ⟨rfl, trivial⟩ rfl rfl rfl rfl rfl (by kernel_rfl) none_ok rfl
  · refine wH_iff rfl hc_2 ?_
    refine wH_skip ?_
    refine wH_seq ?_
    refine wH_seq ?_
    refine wH_region ?_
    refine h_op (vI 1) (wt rfl) rfl ?_
    refine h_nil ?_
    obtain ⟨o_11, hj_12, hF⟩ := bind_some hF
    obtain ⟨nq_52, hj_12⟩ := loopO_iter hj_12
    refine wH_join (β := (Int)) (fun (s_8 : Int) => ([(0, (dV (extN 0) 1 s_1))] : List (Nat × V))) (fun (s_8 : Int) => ([((extN 0), gB 1 eI s_1)] : Hp)) (fun p => o_11 = .go p) ?_ ?_
    · refine wH_block ?_
      refine wH_loop (β := Nat × (Int)) (fun p => (fun (k_3 : Nat) (s_8 : Int) => ([(0, (dV (extN 0) 1 s_1)), (3, (vI s_8))] : List (Nat × V))) p.1 p.2) (fun p => (fun (k_3 : Nat) (s_8 : Int) => ([((extN 0), gB 1 eI s_1)] : Hp)) p.1 p.2) (fun p => iterN (fun s => slices_Compact_int_int_v1_L2 s_1 s) p.1 p.2 = some o_11) (fun p => p.1) (nq_52, 1) hj_12 rfl (pre_r rfl) ?_
      rintro ⟨k_3, s_8⟩ hL_10
      dsimp only at hL_10
      cases k_3 with
      | zero => cases hL_10
      | succ k_3 =>
        obtain ⟨c_, hc_9, hL_10⟩ := bind_some hL_10
        unfold slices_Compact_int_int_v1_L2 at hc_9
        refine wH_seq ?_
        refine wH_seq ?_
        refine wH_region ?_
        refine h_op (vI s_8) (wt rfl) rfl ?_
        refine h_op (dV (extN 0) 1 s_1) (wt rfl) rfl ?_
        refine h_lend un22 rfl (wt rfl) ?_
        refine h_op (vB (decide (s_8 < (s_1.length : Int)))) (wt rfl) rfl ?_
        refine h_nil ?_
        rcases cond_some hc_9 with ⟨hc_13, hc_9⟩ | ⟨hc_13, hc_9⟩
        · refine wH_ift rfl hc_13 ?_
          refine wH_skip ?_
          refine wH_seq ?_
          refine wH_block ?_
          refine wH_seq ?_
          refine wH_draws ?_
          refine h_op (dV (extN 0) 1 s_1) (wt rfl) rfl ?_
          refine h_op (vI s_8) (wt rfl) rfl ?_
          obtain ⟨_, hi_14, hc_9⟩ := bind_some hc_9
          refine h_iavd es22 rfl rfl (inR_0 hi_14) (inR_lt hi_14) (wt rfl) ?_
          obtain ⟨e_15, hy_16, hc_9⟩ := bind_some hc_9
          refine h_ldvg 3 0 (.inr (by kernel_rfl)) (fun _ _ ag => trivial) sz3 ag3 rfl rfl hy_16 (vI e_15) rfl (wt rfl) ?_
          refine h_op (dV (extN 0) 1 s_1) (wt rfl) rfl ?_
          refine h_op (vI s_8) (wt rfl) rfl ?_
          refine h_op (vI (w64 (s_8 - 1))) (wt rfl) rfl ?_
          obtain ⟨_, hi_17, hc_9⟩ := bind_some hc_9
          refine h_iavd es22 rfl rfl (inR_0 hi_17) (inR_lt hi_17) (wt rfl) ?_
          obtain ⟨e_18, hy_19, hc_9⟩ := bind_some hc_9
          refine h_ldvg 8 0 (.inr (by kernel_rfl)) (fun _ _ ag => ⟨.inl ⟨rfl, rfl⟩, trivial⟩) sz3 ag3 rfl rfl hy_19 (vI e_18) rfl (wt rfl) ?_
          refine h_op (vB (e_15 == e_18)) (wt rfl) rfl ?_
          refine h_nil ?_
          rcases cond_some hc_9 with ⟨hc_20, hc_9⟩ | ⟨hc_20, hc_9⟩
          · refine wH_ift rfl hc_20 ?_
            refine wH_seq ?_
            refine wH_region ?_
            refine h_op (dV (extN 0) 1 s_1) (wt rfl) rfl ?_
            refine h_op (vI s_8) (wt rfl) rfl ?_
            obtain ⟨_, hn_21, hc_9⟩ := bind_some hc_9
            replace hn_21 := neL_ne hn_21
            refine h_re (v' := (vV (extN 0) 1 s_1)) 0 rfl (dV_cons hn_21) ?_
            refine h_re (v' := (vV (extN 0) 1 s_1)) 11 rfl (dV_cons hn_21) ?_
            refine h_re (v' := (vV (extN 0) 1 s_1)) 16 rfl (dV_cons hn_21) ?_
            refine h_re (v' := (vV (extN 0) 1 s_1)) 20 rfl (dV_cons hn_21) ?_
            refine h_re (v' := (vV (extN 0) 1 s_1)) 26 rfl (dV_cons hn_21) ?_
            refine h_reH 0 rfl (gB_cons hn_21) ?_
            obtain ⟨_, hr_22, hc_9⟩ := bind_some hc_9
            refine h_partTF un22 sz3 rfl rfl hr_22 (wt rfl) ?_
            refine h_op (.vs (extN 0) 1 ((s_8).toNat) (((s_1.length : Int)).toNat - (s_8).toNat)) (wt rfl) rfl ?_
            refine h_nil ?_
            refine wH_seq ?_
            refine wH_seq ?_
            refine wH_region ?_
            refine h_op (vI 1) (wt rfl) rfl ?_
            refine h_nil ?_
            obtain ⟨o_31, hj_32, hc_9⟩ := bind_some hc_9
            obtain ⟨nq_51, hj_32⟩ := loopO_iter hj_32
            refine wH_join (β := ((List Int) × Int × Int)) (fun (s_28 : (List Int) × Int × Int) => ([(0, (vV (extN 0) 1 s_28.1)), (3, (vI s_28.2.1))] : List (Nat × V))) (fun (s_28 : (List Int) × Int × Int) => ([((extN 0), some (bV 1 eI s_28.1))] : Hp)) (fun p => o_31 = .go p) ?_ ?_
            · refine wH_block ?_
              refine wH_loop (β := Nat × ((List Int) × Int × Int)) (fun p => (fun (k_23 : Nat) (s_28 : (List Int) × Int × Int) => ([(0, (vV (extN 0) 1 s_28.1)), (3, (vI s_28.2.1)), (4, (.vs (extN 0) 1 ((s_8).toNat) (((s_1.length : Int)).toNat - (s_8).toNat))), (5, (vI s_28.2.2))] : List (Nat × V))) p.1 p.2) (fun p => (fun (k_23 : Nat) (s_28 : (List Int) × Int × Int) => ([((extN 0), some (bV 1 eI s_28.1))] : Hp)) p.1 p.2) (fun p => iterN (fun s => slices_Compact_int_int_v1_L1 s_1 s_8 s) p.1 p.2 = some o_31) (fun p => p.1) (nq_51, (s_1, s_8, 1)) hj_32 rfl (pre_r rfl) ?_
              rintro ⟨k_23, s_28⟩ hL_30
              dsimp only at hL_30
              cases k_23 with
              | zero => cases hL_30
              | succ k_23 =>
                obtain ⟨c_, hc_29, hL_30⟩ := bind_some hL_30
                unfold slices_Compact_int_int_v1_L1 at hc_29
                refine wH_seq ?_
                refine wH_seq ?_
                refine wH_region ?_
                refine h_op (vI s_28.2.2) (wt rfl) rfl ?_
                refine h_op (.vs (extN 0) 1 ((s_8).toNat) (((s_1.length : Int)).toNat - (s_8).toNat)) (wt rfl) rfl ?_
                refine h_lenp un22 rfl (wt rfl) ?_
                refine h_op (vB (decide (s_28.2.2 < (((((s_1.length : Int)).toNat - (s_8).toNat) : Nat) : Int)))) (wt rfl) rfl ?_
                refine h_nil ?_
                rcases cond_some hc_29 with ⟨hc_33, hc_29⟩ | ⟨hc_33, hc_29⟩
                · refine wH_ift rfl hc_33 ?_
                  refine wH_skip ?_
                  refine wH_seq ?_
                  refine wH_block ?_
                  refine wH_seq ?_
                  refine wH_draws ?_
                  refine h_op (.vs (extN 0) 1 ((s_8).toNat) (((s_1.length : Int)).toNat - (s_8).toNat)) (wt rfl) rfl ?_
                  refine h_op (vI s_28.2.2) (wt rfl) rfl ?_
                  obtain ⟨_, hi_34, hc_29⟩ := bind_some hc_29
                  refine h_iav es22 rfl rfl (inN_0 hi_34) (inN_lt hi_34) (wt rfl) ?_
                  obtain ⟨e_35, hy_36, hc_29⟩ := bind_some hc_29
                  refine h_ldv 3 0 (.inr (by kernel_rfl)) (fun _ _ ag => trivial) sz3 ag3 rfl rfl hy_36 (vI e_35) rfl (wt rfl) ?_
                  refine h_op (.vs (extN 0) 1 ((s_8).toNat) (((s_1.length : Int)).toNat - (s_8).toNat)) (wt rfl) rfl ?_
                  refine h_op (vI s_28.2.2) (wt rfl) rfl ?_
                  refine h_op (vI (w64 (s_28.2.2 - 1))) (wt rfl) rfl ?_
                  obtain ⟨_, hi_37, hc_29⟩ := bind_some hc_29
                  refine h_iav es22 rfl rfl (inN_0 hi_37) (inN_lt hi_37) (wt rfl) ?_
                  obtain ⟨e_38, hy_39, hc_29⟩ := bind_some hc_29
                  refine h_ldv 8 0 (.inr (by kernel_rfl)) (fun _ _ ag => ⟨.inl ⟨rfl, rfl⟩, trivial⟩) sz3 ag3 rfl rfl hy_39 (vI e_38) rfl (wt rfl) ?_
                  refine h_op (vB (e_35 != e_38)) (wt rfl) rfl ?_
                  refine h_nil ?_
                  obtain ⟨v_40, h_41, hc_29⟩ := bind_some hc_29
                  refine wH_join (β := Unit) (fun _ => ([(0, (vV (extN 0) 1 v_40.1)), (3, (vI v_40.2)), (4, (.vs (extN 0) 1 ((s_8).toNat) (((s_1.length : Int)).toNat - (s_8).toNat))), (5, (vI s_28.2.2))] : List (Nat × V))) (fun _ => ([((extN 0), some (bV 1 eI v_40.1))] : Hp)) (fun _ => True) ?_ ?_
                  · rcases cond_some h_41 with ⟨hc_42, h_41⟩ | ⟨hc_42, h_41⟩
                    · refine wH_ift rfl hc_42 ?_
                      refine wH_seq ?_
                      refine wH_region ?_
                      refine h_op (vV (extN 0) 1 s_28.1) (wt rfl) rfl ?_
                      refine h_op (vI s_28.2.1) (wt rfl) rfl ?_
                      refine h_op (.vs (extN 0) 1 ((s_8).toNat) (((s_1.length : Int)).toNat - (s_8).toNat)) (wt rfl) rfl ?_
                      refine h_op (vI s_28.2.2) (wt rfl) rfl ?_
                      obtain ⟨_, hi_43, h_41⟩ := bind_some h_41
                      refine h_iav es22 rfl rfl (inN_0 hi_43) (inN_lt hi_43) (wt rfl) ?_
                      obtain ⟨e_44, hy_45, h_41⟩ := bind_some h_41
                      refine h_ldv 0 0 (.inl rfl) (fun _ _ _ => trivial) sz3 ag3 rfl rfl hy_45 (vI e_44) rfl (wt rfl) ?_
                      obtain ⟨_, hi_46, h_41⟩ := bind_some h_41
                      refine h_iav es22 rfl rfl (inR_0 hi_46) (inR_lt hi_46) (wt rfl) ?_
                      obtain ⟨e_47, hy_48, h_41⟩ := bind_some h_41
                      refine h_stv 0 (.inl rfl) (fun _ _ _ => trivial) 0 sz3 rfl rfl hy_48 e_44 rfl (wt rfl) ?_
                      refine h_re (v' := (vV (extN 0) 1 (s_28.1.set (0 + (s_28.2.1).toNat) e_44))) 0 rfl (vV_len (by simp)) ?_
                      refine h_re (v' := (vV (extN 0) 1 (s_28.1.set (0 + (s_28.2.1).toNat) e_44))) 45 rfl (vV_len (by simp)) ?_
                      refine h_nil ?_
                      refine wH_region ?_
                      refine h_op (vI s_28.2.1) (wt rfl) rfl ?_
                      refine h_op (vI (w64 (s_28.2.1 + 1))) (wt rfl) rfl ?_
                      refine h_op (vI (w64 (s_28.2.1 + 1))) (wt rfl) rfl ?_
                      refine h_nil ?_
                      replace h_41 := some_inj h_41
                      subst h_41
                      exact cut_mk () trivial rfl (pre_r rfl)
                    · refine wH_iff rfl hc_42 ?_
                      refine wH_skip ?_
                      replace h_41 := some_inj h_41
                      subst h_41
                      exact cut_mk () trivial rfl (pre_r rfl)
                  · rintro ⟨⟩ _ sl_ H_ hp_ hq_
                    refine wH_at _ hp_ hq_ ?_
                    refine wH_region ?_
                    refine h_op (vI s_28.2.2) (wt rfl) rfl ?_
                    refine h_op (vI (w64 (s_28.2.2 + 1))) (wt rfl) rfl ?_
                    refine h_op (vI (w64 (s_28.2.2 + 1))) (wt rfl) rfl ?_
                    refine h_nil ?_
                    replace hc_29 := some_inj hc_29
                    subst hc_29
                    exact loop_mk (k_23, (v_40.1, v_40.2, (w64 (s_28.2.2 + 1)))) hL_30 (Nat.lt_succ_self _) rfl (pre_r rfl)
                · refine wH_iff rfl hc_33 ?_
                  refine wH_exit ?_
                  replace hc_29 := some_inj hc_29
                  subst hc_29
                  replace hL_30 := some_inj hL_30
                  subst hL_30
                  exact cut_mk ((s_28.1, s_28.2.1, s_28.2.2)) rfl rfl (pre_r rfl)
            · rintro s_28 ho_ sl_ H_ hp_ hq_
              subst ho_
              refine wH_at _ hp_ hq_ ?_
              refine wH_seq ?_
              refine wH_region ?_
              refine h_op (vV (extN 0) 1 s_28.1) (wt rfl) rfl ?_
              refine h_op (vI s_28.2.1) (wt rfl) rfl ?_
              obtain ⟨_, hr_49, hc_9⟩ := bind_some hc_9
              refine h_partTF un22 sz3 rfl rfl hr_49 (wt rfl) ?_
              refine h_clear (i := 0) 0 (.inl rfl) (fun _ _ _ => trivial) 0 el22 sz3 z3 rfl rfl rfl (by decide) rfl (subR_le hr_49) rfl (wt rfl) ?_
              refine h_re (v' := (vV (extN 0) 1 (s_28.1.take ((s_28.2.1).toNat) ++ List.replicate (((s_28.1.length : Int)).toNat - (s_28.2.1).toNat) 0 ++ s_28.1.drop (((s_28.2.1).toNat) + (((s_28.1.length : Int)).toNat - (s_28.2.1).toNat))))) 0 rfl (vV_len (clear_len (subR_le hr_49))) ?_
              refine h_re (v' := (vV (extN 0) 1 (s_28.1.take ((s_28.2.1).toNat) ++ List.replicate (((s_28.1.length : Int)).toNat - (s_28.2.1).toNat) 0 ++ s_28.1.drop (((s_28.2.1).toNat) + (((s_28.1.length : Int)).toNat - (s_28.2.1).toNat))))) 54 rfl (vV_len (clear_len (subR_le hr_49))) ?_
              refine h_nil ?_
              refine wH_seq ?_
              refine wH_region ?_
              refine h_op (vV (extN 0) 1 (s_28.1.take ((s_28.2.1).toNat) ++ List.replicate (((s_28.1.length : Int)).toNat - (s_28.2.1).toNat) 0 ++ s_28.1.drop (((s_28.2.1).toNat) + (((s_28.1.length : Int)).toNat - (s_28.2.1).toNat)))) (wt rfl) rfl ?_
              refine h_op (vI s_28.2.1) (wt rfl) rfl ?_
              obtain ⟨_, hr_50, hc_9⟩ := bind_some hc_9
              refine h_partFT un22 sz3 rfl rfl hr_50 (wt rfl) ?_
              refine h_op (.vs (extN 0) 1 0 ((s_28.2.1).toNat)) (wt rfl) rfl ?_
              refine h_nil ?_
              refine wH_froz 0 rfl ?_
              refine wH_co 0 0 rfl rfl ?_
              refine wH_cop 2 0 rfl rfl (subR_le hr_50) ?_
              refine wH_co 54 0 rfl rfl ?_
              refine wH_co 57 0 rfl rfl ?_
              refine wH_cop 59 0 rfl rfl (subR_le hr_50) ?_
              refine wH_drop (i := 0) rfl ?_
              replace hc_9 := some_inj hc_9
              subst hc_9
              replace hL_10 := some_inj hL_10
              subst hL_10
              replace hF := some_inj hF
              subst hF
              refine wH_ret ?_
              exact finV (bs := ([] : List Box)) (os := ([] : List Box)) (xs := s_1) (o := none) (.inr rfl) [(vL eI (cutL (s_28.1.take ((s_28.2.1).toNat) ++ List.replicate (((s_28.1.length : Int)).toNat - (s_28.2.1).toNat) 0 ++ s_28.1.drop (((s_28.2.1).toNat) + (((s_28.1.length : Int)).toNat - (s_28.2.1).toNat))) 0 ((s_28.2.1).toNat)))] ⟨rfl, trivial⟩ rfl rfl rfl rfl rfl (by kernel_rfl) none_ok rfl
          · refine wH_iff rfl hc_20 ?_
            refine wH_skip ?_
            refine wH_region ?_
            refine h_op (vI s_8) (wt rfl) rfl ?_
            refine h_op (vI (w64 (s_8 + 1))) (wt rfl) rfl ?_
            refine h_op (vI (w64 (s_8 + 1))) (wt rfl) rfl ?_
            refine h_nil ?_
            replace hc_9 := some_inj hc_9
            subst hc_9
            exact loop_mk (k_3, (w64 (s_8 + 1))) hL_10 (Nat.lt_succ_self _) rfl (pre_r rfl)
        · refine wH_iff rfl hc_13 ?_
          refine wH_exit ?_
          replace hc_9 := some_inj hc_9
          subst hc_9
          replace hL_10 := some_inj hL_10
          subst hL_10
          exact cut_mk (s_8) rfl rfl (pre_r rfl)
    · rintro s_8 ho_ sl_ H_ hp_ hq_
      subst ho_
      refine wH_at _ hp_ hq_ ?_
      refine wH_seq ?_
      refine wH_region ?_
      refine h_op (dV (extN 0) 1 s_1) (wt rfl) rfl ?_
      refine h_op (dV (extN 0) 1 s_1) (wt rfl) rfl ?_
      refine h_nil ?_
      refine wH_frozg 0 rfl ?_
      refine wH_cod 0 0 rfl rfl ?_
      refine wH_cod 2 0 rfl rfl ?_
      refine wH_cod 60 0 rfl rfl ?_
      refine wH_drop (i := 0) rfl ?_
      replace hF := some_inj hF
      subst hF
      refine wH_ret ?_
      exact finV (bs := ([] : List Box)) (os := ([] : List Box)) (xs := s_1) (o := none) (.inr rfl) [(vL eI s_1)] ⟨rfl, trivial⟩ rfl rfl rfl rfl rfl (by kernel_rfl) none_ok rfl
theorem screen_runs_1_ok {a_1 : Run} {b_2 : Run} {r : Int} (hF : screen_runs_1 a_1 b_2 = some r) :
    FnM Try.prog 204 [(.d (.agg (Run.enc a_1))), (.d (.agg (Run.enc b_2)))] [] (vI r) [] := by
  refine FnM.of_wH ⟨Try.prog, 10, [], []⟩ rfl Try.func204 rfl rfl (Nat.le_of_ble_eq_true rfl) (by kernel_rfl) ?_
  unfold screen_runs_1 at hF
  refine wH_seq ?_
  refine wH_region ?_
  refine h_box 0 (.inl rfl) [(vI a_1.f_from), (vI a_1.f_to)] rfl rfl (wt rfl) (fun n_3 => ?_)
  refine h_box 0 (.inl rfl) [(vI b_2.f_from), (vI b_2.f_to)] rfl rfl (wt rfl) (fun n_4 => ?_)
  refine h_op (vI 0) (wt rfl) rfl ?_
  refine h_nil ?_
  refine wH_seq ?_
  refine wH_region ?_
  refine h_far pl189_0 rfl 0 rfl (wt rfl) ?_
  refine h_ldr 0 0 (.inl rfl) (fun _ _ _ => trivial) sz3 ag3 rfl rfl (vI a_1.f_from) rfl (wt rfl) ?_
  refine h_far pl189_0 rfl 0 rfl (wt rfl) ?_
  refine h_ldr 0 1 (.inl rfl) (fun _ _ _ => trivial) sz3 ag3 rfl rfl (vI b_2.f_from) rfl (wt rfl) ?_
  refine h_op (vI (w64 (a_1.f_from - b_2.f_from))) (wt rfl) rfl ?_
  refine h_op (vI (w64 (a_1.f_from - b_2.f_from))) (wt rfl) rfl ?_
  refine h_nil ?_
  replace hF := some_inj hF
  subst hF
  refine wH_ret ?_
  exact fin0 (.inr rfl) [(vI (w64 (a_1.f_from - b_2.f_from)))] ⟨rfl, trivial⟩ rfl rfl rfl
theorem math_bits_Len64_ok {x_1 : Int} {r : Int} (hF : math_bits_Len64 x_1 = some r) :
    FnM Try.prog 199 [(.d (.int .u64 x_1))] [] (vI r) [] := by
  refine FnM.of_wH ⟨Try.prog, 25, [], []⟩ rfl Try.func199 rfl rfl (Nat.le_of_ble_eq_true rfl) (by kernel_rfl) ?_
  unfold math_bits_Len64 at hF
  refine wH_seq ?_
  refine wH_region ?_
  refine h_op (vI 0) (wt rfl) rfl ?_
  refine h_nil ?_
  refine wH_seq ?_
  refine wH_seq ?_
  refine wH_region ?_
  refine h_op (.d (.int .u64 x_1)) (wt rfl) rfl ?_
  refine h_op (vB (decide (x_1 ≥ 4294967296))) (wt rfl) rfl ?_
  refine h_nil ?_
  obtain ⟨v_2, h_3, hF⟩ := bind_some hF
  refine wH_join (β := Unit) (fun _ => ([(0, (.d (.int .u64 v_2.1))), (2, (vI v_2.2))] : List (Nat × V))) (fun _ => ([] : Hp)) (fun _ => True) ?_ ?_
  · rcases cond_some h_3 with ⟨hc_4, h_3⟩ | ⟨hc_4, h_3⟩
    · refine wH_ift rfl hc_4 ?_
      refine wH_seq ?_
      refine wH_region ?_
      refine h_op (.d (.int .u64 x_1)) (wt rfl) rfl ?_
      obtain ⟨q_5, hz_6, h_3⟩ := bind_some h_3
      refine h_shr rfl rfl hz_6 (wt rfl) ?_
      refine h_op (.d (.int .u64 q_5)) (wt rfl) rfl ?_
      refine h_nil ?_
      refine wH_region ?_
      refine h_op (vI 32) (wt rfl) rfl ?_
      refine h_nil ?_
      replace h_3 := some_inj h_3
      subst h_3
      exact cut_mk () trivial rfl (pre_r rfl)
    · refine wH_iff rfl hc_4 ?_
      refine wH_skip ?_
      replace h_3 := some_inj h_3
      subst h_3
      exact cut_mk () trivial rfl (pre_r rfl)
  · rintro ⟨⟩ _ sl_ H_ hp_ hq_
    refine wH_at _ hp_ hq_ ?_
    refine wH_seq ?_
    refine wH_seq ?_
    refine wH_region ?_
    refine h_op (.d (.int .u64 v_2.1)) (wt rfl) rfl ?_
    refine h_op (vB (decide (v_2.1 ≥ 65536))) (wt rfl) rfl ?_
    refine h_nil ?_
    obtain ⟨v_7, h_8, hF⟩ := bind_some hF
    refine wH_join (β := Unit) (fun _ => ([(0, (.d (.int .u64 v_7.1))), (2, (vI v_7.2))] : List (Nat × V))) (fun _ => ([] : Hp)) (fun _ => True) ?_ ?_
    · rcases cond_some h_8 with ⟨hc_9, h_8⟩ | ⟨hc_9, h_8⟩
      · refine wH_ift rfl hc_9 ?_
        refine wH_seq ?_
        refine wH_region ?_
        refine h_op (.d (.int .u64 v_2.1)) (wt rfl) rfl ?_
        obtain ⟨q_10, hz_11, h_8⟩ := bind_some h_8
        refine h_shr rfl rfl hz_11 (wt rfl) ?_
        refine h_op (.d (.int .u64 q_10)) (wt rfl) rfl ?_
        refine h_nil ?_
        refine wH_region ?_
        refine h_op (vI v_2.2) (wt rfl) rfl ?_
        refine h_op (vI (w64 (v_2.2 + 16))) (wt rfl) rfl ?_
        refine h_op (vI (w64 (v_2.2 + 16))) (wt rfl) rfl ?_
        refine h_nil ?_
        replace h_8 := some_inj h_8
        subst h_8
        exact cut_mk () trivial rfl (pre_r rfl)
      · refine wH_iff rfl hc_9 ?_
        refine wH_skip ?_
        replace h_8 := some_inj h_8
        subst h_8
        exact cut_mk () trivial rfl (pre_r rfl)
    · rintro ⟨⟩ _ sl_ H_ hp_ hq_
      refine wH_at _ hp_ hq_ ?_
      refine wH_seq ?_
      refine wH_seq ?_
      refine wH_region ?_
      refine h_op (.d (.int .u64 v_7.1)) (wt rfl) rfl ?_
      refine h_op (vB (decide (v_7.1 ≥ 256))) (wt rfl) rfl ?_
      refine h_nil ?_
      obtain ⟨v_12, h_13, hF⟩ := bind_some hF
      refine wH_join (β := Unit) (fun _ => ([(0, (.d (.int .u64 v_12.1))), (2, (vI v_12.2))] : List (Nat × V))) (fun _ => ([] : Hp)) (fun _ => True) ?_ ?_
      · rcases cond_some h_13 with ⟨hc_14, h_13⟩ | ⟨hc_14, h_13⟩
        · refine wH_ift rfl hc_14 ?_
          refine wH_seq ?_
          refine wH_region ?_
          refine h_op (.d (.int .u64 v_7.1)) (wt rfl) rfl ?_
          obtain ⟨q_15, hz_16, h_13⟩ := bind_some h_13
          refine h_shr rfl rfl hz_16 (wt rfl) ?_
          refine h_op (.d (.int .u64 q_15)) (wt rfl) rfl ?_
          refine h_nil ?_
          refine wH_region ?_
          refine h_op (vI v_7.2) (wt rfl) rfl ?_
          refine h_op (vI (w64 (v_7.2 + 8))) (wt rfl) rfl ?_
          refine h_op (vI (w64 (v_7.2 + 8))) (wt rfl) rfl ?_
          refine h_nil ?_
          replace h_13 := some_inj h_13
          subst h_13
          exact cut_mk () trivial rfl (pre_r rfl)
        · refine wH_iff rfl hc_14 ?_
          refine wH_skip ?_
          replace h_13 := some_inj h_13
          subst h_13
          exact cut_mk () trivial rfl (pre_r rfl)
      · rintro ⟨⟩ _ sl_ H_ hp_ hq_
        refine wH_at _ hp_ hq_ ?_
        refine wH_seq ?_
        refine wH_region ?_
        refine h_op (vI v_12.2) (wt rfl) rfl ?_
        refine h_op (.d (.int .u64 v_12.1)) (wt rfl) rfl ?_
        refine h_conv un211 un5 rfl (wt rfl) ?_
        obtain ⟨b_17, hy_18, hF⟩ := bind_some hF
        refine h_idxs un9 rfl rfl hy_18 (wt rfl) ?_
        refine h_conv un5 un3 rfl (wt rfl) ?_
        refine h_op (vI (w64 (v_12.2 + (w64 (b_17.toNat : Int))))) (wt rfl) rfl ?_
        refine h_op (vI (w64 (v_12.2 + (w64 (b_17.toNat : Int))))) (wt rfl) rfl ?_
        refine h_nil ?_
        replace hF := some_inj hF
        subst hF
        refine wH_ret ?_
        exact fin0 (.inr rfl) [(vI (w64 (v_12.2 + (w64 (b_17.toNat : Int)))))] ⟨rfl, trivial⟩ rfl rfl rfl
theorem math_bits_Len_ok {x_1 : Int} {r : Int} (hF : math_bits_Len x_1 = some r) :
    FnM Try.prog 163 [(.d (.int .u64 x_1))] [] (vI r) [] := by
  refine FnM.of_wH ⟨Try.prog, 8, [], []⟩ rfl Try.func163 rfl rfl (Nat.le_of_ble_eq_true rfl) (by kernel_rfl) ?_
  unfold math_bits_Len at hF
  refine wH_seq ?_
  refine wH_region ?_
  refine h_op (vI 0) (wt rfl) rfl ?_
  refine h_nil ?_
  refine wH_seq ?_
  refine wH_iff rfl rfl ?_
  refine wH_skip ?_
  refine wH_seq ?_
  refine wH_region ?_
  refine h_op (.d (.int .u64 x_1)) (wt rfl) rfl ?_
  obtain ⟨r_2, hr_3, hF⟩ := bind_some hF
  refine h_call0 (math_bits_Len64_ok hr_3) rfl hb199 rfl rfl rfl rfl (wt rfl) ?_
  refine h_op (vI r_2) (wt rfl) rfl ?_
  refine h_nil ?_
  replace hF := some_inj hF
  subst hF
  refine wH_ret ?_
  exact fin0 (.inr rfl) [(vI r_2)] ⟨rfl, trivial⟩ rfl rfl rfl
theorem slices_insertionSortCmpFunc_screen_run_v1_ok {data_1 : (List Run)} {a_2 : Int} {b_3 : Int} {r : (List Run)} (hF : slices_insertionSortCmpFunc_screen_run_v1 data_1 a_2 b_3 = some r) :
    FnM Try.prog 228 [(dV (extN 0) 2 data_1), (vI a_2), (vI b_3), (.fn 204 [])] (([] : List Box) ++ gI 2 Run.enc data_1) (.tup []) (([] : List Box).map some ++ gT data_1 (gB 2 Run.enc r)) := by
  refine FnM.of_wHv ⟨Try.prog, 53, [], []⟩ rfl Try.func228 rfl rfl (Nat.le_of_ble_eq_true rfl) (by kernel_rfl) ?_
  unfold slices_insertionSortCmpFunc_screen_run_v1 at hF
  refine wH_seq ?_
  refine wH_region ?_
  refine h_op (vI a_2) (wt rfl) rfl ?_
  refine h_op (vI (w64 (a_2 + 1))) (wt rfl) rfl ?_
  refine h_op (vI (w64 (a_2 + 1))) (wt rfl) rfl ?_
  refine h_nil ?_
  obtain ⟨o_13, hj_14, hF⟩ := bind_some hF
  obtain ⟨nq_51, hj_14⟩ := loopO_iter hj_14
  refine wH_join (β := ((List Run) × Int)) (fun (s_10 : (List Run) × Int) => ([] : List (Nat × V))) (fun (s_10 : (List Run) × Int) => ([((extN 0), gB 2 Run.enc s_10.1)] : Hp)) (fun p => o_13 = .go p) ?_ ?_
  · refine wH_block ?_
    refine wH_loop (β := Nat × ((List Run) × Int)) (fun p => (fun (k_5 : Nat) (s_10 : (List Run) × Int) => ([(0, (dV (extN 0) 2 s_10.1)), (1, (vI a_2)), (2, (vI b_3)), (3, (.fn 204 [])), (8, (vI s_10.2))] : List (Nat × V))) p.1 p.2) (fun p => (fun (k_5 : Nat) (s_10 : (List Run) × Int) => ([((extN 0), gB 2 Run.enc s_10.1)] : Hp)) p.1 p.2) (fun p => iterN (fun s => slices_insertionSortCmpFunc_screen_run_v1_L2 b_3 a_2 s) p.1 p.2 = some o_13) (fun p => p.1) (nq_51, (data_1, (w64 (a_2 + 1)))) hj_14 rfl (pre_r rfl) ?_
    rintro ⟨k_5, s_10⟩ hL_12
    dsimp only at hL_12
    cases k_5 with
    | zero => cases hL_12
    | succ k_5 =>
      obtain ⟨c_, hc_11, hL_12⟩ := bind_some hL_12
      unfold slices_insertionSortCmpFunc_screen_run_v1_L2 at hc_11
      refine wH_seq ?_
      refine wH_seq ?_
      refine wH_region ?_
      refine h_op (vI s_10.2) (wt rfl) rfl ?_
      refine h_op (vI b_3) (wt rfl) rfl ?_
      refine h_op (vB (decide (s_10.2 < b_3))) (wt rfl) rfl ?_
      refine h_nil ?_
      rcases cond_some hc_11 with ⟨hc_15, hc_11⟩ | ⟨hc_15, hc_11⟩
      · refine wH_ift rfl hc_15 ?_
        refine wH_skip ?_
        refine wH_seq ?_
        refine wH_block ?_
        refine wH_seq ?_
        refine wH_region ?_
        refine h_op (vI s_10.2) (wt rfl) rfl ?_
        refine h_op (vI s_10.2) (wt rfl) rfl ?_
        refine h_nil ?_
        obtain ⟨o_24, hj_25, hc_11⟩ := bind_some hc_11
        obtain ⟨nq_50, hj_25⟩ := loopO_iter hj_25
        refine wH_join (β := ((List Run) × Int)) (fun (s_21 : (List Run) × Int) => ([(0, (dV (extN 0) 2 s_21.1)), (1, (vI a_2)), (2, (vI b_3)), (3, (.fn 204 [])), (8, (vI s_10.2))] : List (Nat × V))) (fun (s_21 : (List Run) × Int) => ([((extN 0), gB 2 Run.enc s_21.1)] : Hp)) (fun p => o_24 = .go p) ?_ ?_
        · refine wH_block ?_
          refine wH_loop (β := Nat × ((List Run) × Int)) (fun p => (fun (k_16 : Nat) (s_21 : (List Run) × Int) => ([(0, (dV (extN 0) 2 s_21.1)), (1, (vI a_2)), (2, (vI b_3)), (3, (.fn 204 [])), (8, (vI s_10.2)), (9, (vI s_21.2))] : List (Nat × V))) p.1 p.2) (fun p => (fun (k_16 : Nat) (s_21 : (List Run) × Int) => ([((extN 0), gB 2 Run.enc s_21.1)] : Hp)) p.1 p.2) (fun p => iterN (fun s => slices_insertionSortCmpFunc_screen_run_v1_L1 a_2 s) p.1 p.2 = some o_24) (fun p => p.1) (nq_50, (s_10.1, s_10.2)) hj_25 rfl (pre_r rfl) ?_
          rintro ⟨k_16, s_21⟩ hL_23
          dsimp only at hL_23
          cases k_16 with
          | zero => cases hL_23
          | succ k_16 =>
            obtain ⟨c_, hc_22, hL_23⟩ := bind_some hL_23
            unfold slices_insertionSortCmpFunc_screen_run_v1_L1 at hc_22
            refine wH_seq ?_
            refine wH_seq ?_
            obtain ⟨v_26, h_27, hc_22⟩ := bind_some hc_22
            refine wH_join (β := Unit) (fun _ => ([(0, (dV (extN 0) 2 s_21.1)), (1, (vI a_2)), (2, (vI b_3)), (3, (.fn 204 [])), (8, (vI s_10.2)), (9, (vI s_21.2)), (34, (vB v_26))] : List (Nat × V))) (fun _ => ([((extN 0), gB 2 Run.enc s_21.1)] : Hp)) (fun _ => True) ?_ ?_
            · refine wH_draws ?_
              refine h_op (vI s_21.2) (wt rfl) rfl ?_
              refine h_op (vI a_2) (wt rfl) rfl ?_
              refine h_op (vB (decide (s_21.2 > a_2))) (wt rfl) rfl ?_
              rcases cond_some h_27 with ⟨hc_28, h_27⟩ | ⟨hc_28, h_27⟩
              · refine h_movb rfl hc_28 (wt rfl) ?_
                refine h_op (.fn 204 []) (wg rfl rfl rfl) rfl ?_
                refine h_op (dV (extN 0) 2 s_21.1) (wg rfl rfl rfl) rfl ?_
                refine h_op (vI s_21.2) (wg rfl rfl rfl) rfl ?_
                obtain ⟨_, hi_29, h_27⟩ := bind_some h_27
                refine h_iavd es184 rfl rfl (inR_0 hi_29) (inR_lt hi_29) (wg rfl rfl rfl) ?_
                obtain ⟨e_30, hy_31, h_27⟩ := bind_some h_27
                refine h_ldvg 8 0 (.inr (by kernel_rfl)) (fun _ _ ag => trivial) sz189 ag189 rfl rfl hy_31 (.d (.agg (Run.enc e_30))) rfl (wg rfl rfl rfl) ?_
                refine h_op (dV (extN 0) 2 s_21.1) (wg rfl rfl rfl) rfl ?_
                refine h_op (vI s_21.2) (wg rfl rfl rfl) rfl ?_
                refine h_op (vI (w64 (s_21.2 - 1))) (wg rfl rfl rfl) rfl ?_
                obtain ⟨_, hi_32, h_27⟩ := bind_some h_27
                refine h_iavd es184 rfl rfl (inR_0 hi_32) (inR_lt hi_32) (wg rfl rfl rfl) ?_
                obtain ⟨e_33, hy_34, h_27⟩ := bind_some h_27
                refine h_ldvg 13 0 (.inr (by kernel_rfl)) (fun _ _ ag => ⟨.inl ⟨rfl, rfl⟩, trivial⟩) sz189 ag189 rfl rfl hy_34 (.d (.agg (Run.enc e_33))) rfl (wg rfl rfl rfl) ?_
                obtain ⟨r_35, hr_36, h_27⟩ := bind_some h_27
                refine h_call0 (screen_runs_1_ok hr_36) rfl hb204 rfl rfl rfl rfl (wg rfl rfl rfl) ?_
                refine h_op (vB (decide (r_35 < 0))) (wg rfl rfl rfl) rfl ?_
                refine h_op (vB (decide (r_35 < 0))) (wt rfl) rfl ?_
                refine h_nil ?_
                replace h_27 := some_inj h_27
                subst h_27
                exact cut_mk () trivial rfl (pre_r rfl)
              · refine h_movb rfl hc_28 (wt rfl) ?_
                refine h_skip (wg rfl rfl rfl) ?_
                refine h_skip (wg rfl rfl rfl) ?_
                refine h_skip (wg rfl rfl rfl) ?_
                refine h_skip (wg rfl rfl rfl) ?_
                refine h_skip (wg rfl rfl rfl) ?_
                refine h_skip (wg rfl rfl rfl) ?_
                refine h_skip (wg rfl rfl rfl) ?_
                refine h_skip (wg rfl rfl rfl) ?_
                refine h_skip (wg rfl rfl rfl) ?_
                refine h_skip (wg rfl rfl rfl) ?_
                refine h_skip (wg rfl rfl rfl) ?_
                refine h_skip (wg rfl rfl rfl) ?_
                refine h_op (vB false) (wt rfl) rfl ?_
                refine h_nil ?_
                replace h_27 := some_inj h_27
                subst h_27
                exact cut_mk () trivial rfl (pre_r rfl)
            · rintro ⟨⟩ _ sl_ H_ hp_ hq_
              refine wH_at _ hp_ hq_ ?_
              rcases cond_some hc_22 with ⟨hc_37, hc_22⟩ | ⟨hc_37, hc_22⟩
              · refine wH_ift rfl hc_37 ?_
                refine wH_skip ?_
                refine wH_seq ?_
                refine wH_block ?_
                refine wH_draws ?_
                refine h_op (dV (extN 0) 2 s_21.1) (wt rfl) rfl ?_
                refine h_op (vI s_21.2) (wt rfl) rfl ?_
                refine h_op (dV (extN 0) 2 s_21.1) (wt rfl) rfl ?_
                refine h_op (vI s_21.2) (wt rfl) rfl ?_
                refine h_op (vI (w64 (s_21.2 - 1))) (wt rfl) rfl ?_
                refine h_op (dV (extN 0) 2 s_21.1) (wt rfl) rfl ?_
                refine h_op (vI s_21.2) (wt rfl) rfl ?_
                refine h_op (vI (w64 (s_21.2 - 1))) (wt rfl) rfl ?_
                obtain ⟨_, hi_38, hc_22⟩ := bind_some hc_22
                refine h_iavd es184 rfl rfl (inR_0 hi_38) (inR_lt hi_38) (wt rfl) ?_
                obtain ⟨e_39, hy_40, hc_22⟩ := bind_some hc_22
                refine h_ldvg 9 0 (.inr (by kernel_rfl)) (fun _ _ ag => trivial) sz189 ag189 rfl rfl hy_40 (.d (.agg (Run.enc e_39))) rfl (wt rfl) ?_
                refine h_op (dV (extN 0) 2 s_21.1) (wt rfl) rfl ?_
                refine h_op (vI s_21.2) (wt rfl) rfl ?_
                obtain ⟨_, hi_41, hc_22⟩ := bind_some hc_22
                refine h_iavd es184 rfl rfl (inR_0 hi_41) (inR_lt hi_41) (wt rfl) ?_
                obtain ⟨e_42, hy_43, hc_22⟩ := bind_some hc_22
                refine h_ldvg 13 0 (.inr (by kernel_rfl)) (fun _ _ ag => ⟨.inl ⟨rfl, rfl⟩, trivial⟩) sz189 ag189 rfl rfl hy_43 (.d (.agg (Run.enc e_42))) rfl (wt rfl) ?_
                obtain ⟨_, hi_44, hc_22⟩ := bind_some hc_22
                refine h_iavd es184 rfl rfl (inR_0 hi_44) (inR_lt hi_44) (wt rfl) ?_
                obtain ⟨e_45, hy_46, hc_22⟩ := bind_some hc_22
                refine h_stvg 15 (.inr (by kernel_rfl)) (fun _ _ ag => ⟨.inr (.inr (by kernel_rfl)), ⟨.inr (.inr (by kernel_rfl)), trivial⟩⟩) 0 sz189 rfl rfl hy_46 e_39 rfl (wt rfl) ?_
                refine h_re (v' := (dV (extN 0) 2 (s_21.1.set (0 + (s_21.2).toNat) e_39))) 0 rfl (dV_len (by simp)) ?_
                refine h_re (v' := (dV (extN 0) 2 (s_21.1.set (0 + (s_21.2).toNat) e_39))) 37 rfl (dV_len (by simp)) ?_
                refine h_re (v' := (dV (extN 0) 2 (s_21.1.set (0 + (s_21.2).toNat) e_39))) 39 rfl (dV_len (by simp)) ?_
                refine h_re (v' := (dV (extN 0) 2 (s_21.1.set (0 + (s_21.2).toNat) e_39))) 42 rfl (dV_len (by simp)) ?_
                refine h_re (v' := (dV (extN 0) 2 (s_21.1.set (0 + (s_21.2).toNat) e_39))) 47 rfl (dV_len (by simp)) ?_
                obtain ⟨_, hi_47, hc_22⟩ := bind_some hc_22
                refine h_iavd es184 rfl rfl (inR_0 hi_47) (inR_lt hi_47) (wt rfl) ?_
                obtain ⟨e_48, hy_49, hc_22⟩ := bind_some hc_22
                refine h_stvg 17 (.inr (by kernel_rfl)) (fun _ _ ag => ⟨.inr (.inr (by kernel_rfl)), ⟨.inr (.inr (by kernel_rfl)), ⟨.inr (.inr (by kernel_rfl)), trivial⟩⟩⟩) 0 sz189 rfl rfl hy_49 e_42 rfl (wt rfl) ?_
                refine h_re (v' := (dV (extN 0) 2 ((s_21.1.set (0 + (s_21.2).toNat) e_39).set (0 + ((w64 (s_21.2 - 1))).toNat) e_42))) 0 rfl (dV_len (by simp)) ?_
                refine h_re (v' := (dV (extN 0) 2 ((s_21.1.set (0 + (s_21.2).toNat) e_39).set (0 + ((w64 (s_21.2 - 1))).toNat) e_42))) 37 rfl (dV_len (by simp)) ?_
                refine h_re (v' := (dV (extN 0) 2 ((s_21.1.set (0 + (s_21.2).toNat) e_39).set (0 + ((w64 (s_21.2 - 1))).toNat) e_42))) 39 rfl (dV_len (by simp)) ?_
                refine h_re (v' := (dV (extN 0) 2 ((s_21.1.set (0 + (s_21.2).toNat) e_39).set (0 + ((w64 (s_21.2 - 1))).toNat) e_42))) 42 rfl (dV_len (by simp)) ?_
                refine h_re (v' := (dV (extN 0) 2 ((s_21.1.set (0 + (s_21.2).toNat) e_39).set (0 + ((w64 (s_21.2 - 1))).toNat) e_42))) 47 rfl (dV_len (by simp)) ?_
                refine h_nil ?_
                refine wH_region ?_
                refine h_op (vI s_21.2) (wt rfl) rfl ?_
                refine h_op (vI (w64 (s_21.2 - 1))) (wt rfl) rfl ?_
                refine h_op (vI (w64 (s_21.2 - 1))) (wt rfl) rfl ?_
                refine h_nil ?_
                replace hc_22 := some_inj hc_22
                subst hc_22
                exact loop_mk (k_16, (((s_21.1.set (0 + (s_21.2).toNat) e_39).set (0 + ((w64 (s_21.2 - 1))).toNat) e_42), (w64 (s_21.2 - 1)))) hL_23 (Nat.lt_succ_self _) rfl (pre_r rfl)
              · refine wH_iff rfl hc_37 ?_
                refine wH_exit ?_
                replace hc_22 := some_inj hc_22
                subst hc_22
                replace hL_23 := some_inj hL_23
                subst hL_23
                exact cut_mk ((s_21.1, s_21.2)) rfl rfl (pre_r rfl)
        · rintro s_21 ho_ sl_ H_ hp_ hq_
          subst ho_
          refine wH_at _ hp_ hq_ ?_
          refine wH_region ?_
          refine h_op (vI s_10.2) (wt rfl) rfl ?_
          refine h_op (vI (w64 (s_10.2 + 1))) (wt rfl) rfl ?_
          refine h_op (vI (w64 (s_10.2 + 1))) (wt rfl) rfl ?_
          refine h_nil ?_
          replace hc_11 := some_inj hc_11
          subst hc_11
          exact loop_mk (k_5, (s_21.1, (w64 (s_10.2 + 1)))) hL_12 (Nat.lt_succ_self _) rfl (pre_r rfl)
      · refine wH_iff rfl hc_15 ?_
        refine wH_exit ?_
        replace hc_11 := some_inj hc_11
        subst hc_11
        replace hL_12 := some_inj hL_12
        subst hL_12
        exact cut_mk ((s_10.1, s_10.2)) rfl rfl (pre_r rfl)
  · rintro s_10 ho_ sl_ H_ hp_ hq_
    subst ho_
    show finH _ _ _ _ _ _ _ _
    replace hF := some_inj hF
    subst hF
    refine finH_at (H0 := ([((extN 0), gB 2 Run.enc s_10.1)] : Hp)) (sl' := envS []) hq_ ?_
    exact finV (bs := ([] : List Box)) (os := ([] : List Box)) (xs := data_1) (o := gB 2 Run.enc s_10.1) (.inl rfl) [] trivial rfl rfl rfl rfl rfl (by kernel_rfl) gB_ok rfl
theorem slices_pdqsortCmpFunc_screen_run_v1_ok {data_1 : (List Run)} {a_2 : Int} {b_3 : Int} {limit_4 : Int} {r : (List Run)} (hF : slices_pdqsortCmpFunc_screen_run_v1 data_1 a_2 b_3 limit_4 = some r) :
    FnM Try.prog 223 [(dV (extN 0) 2 data_1), (vI a_2), (vI b_3), (vI limit_4), (.fn 204 [])] (([] : List Box) ++ gI 2 Run.enc data_1) (.tup []) (([] : List Box).map some ++ gT data_1 (gB 2 Run.enc r)) := by
  refine FnM.of_wHv ⟨Try.prog, 148, [], []⟩ rfl Try.func223 rfl rfl (Nat.le_of_ble_eq_true rfl) (by kernel_rfl) ?_
  unfold slices_pdqsortCmpFunc_screen_run_v1 at hF
  refine wH_seq ?_
  refine wH_region ?_
  refine h_op (vB true) (wt rfl) rfl ?_
  refine h_nil ?_
  refine wH_seq ?_
  refine wH_region ?_
  refine h_op (vB true) (wt rfl) rfl ?_
  refine h_nil ?_
  obtain ⟨o_14, hj_15, hF⟩ := bind_some hF
  obtain ⟨nq_21, hj_15⟩ := loopO_iter hj_15
  refine wH_join (β := (Unit)) (fun (s_11 : Unit) => ([] : List (Nat × V))) (fun (s_11 : Unit) => ([((extN 0), gB 2 Run.enc data_1)] : Hp)) (fun p => o_14 = .go p) ?_ ?_
  · refine wH_block ?_
    refine wH_loop (β := Nat × (Unit)) (fun p => (fun (k_6 : Nat) (s_11 : Unit) => ([(0, (dV (extN 0) 2 data_1)), (1, (vI a_2)), (2, (vI b_3)), (3, (vI limit_4)), (4, (.fn 204 [])), (10, (vB true)), (11, (vB true))] : List (Nat × V))) p.1 p.2) (fun p => (fun (k_6 : Nat) (s_11 : Unit) => ([((extN 0), gB 2 Run.enc data_1)] : Hp)) p.1 p.2) (fun p => iterN (fun s => slices_pdqsortCmpFunc_screen_run_v1_L1 b_3 a_2 data_1 limit_4 s) p.1 p.2 = some o_14) (fun p => p.1) (nq_21, ()) hj_15 rfl (pre_r rfl) ?_
    rintro ⟨k_6, s_11⟩ hL_13
    dsimp only at hL_13
    cases k_6 with
    | zero => cases hL_13
    | succ k_6 =>
      obtain ⟨c_, hc_12, hL_13⟩ := bind_some hL_13
      unfold slices_pdqsortCmpFunc_screen_run_v1_L1 at hc_12
      refine wH_block ?_
      refine wH_seq ?_
      refine wH_region ?_
      refine h_op (vI b_3) (wt rfl) rfl ?_
      refine h_op (vI a_2) (wt rfl) rfl ?_
      refine h_op (vI (w64 (b_3 - a_2))) (wt rfl) rfl ?_
      refine h_op (vI (w64 (b_3 - a_2))) (wt rfl) rfl ?_
      refine h_nil ?_
      refine wH_seq ?_
      refine wH_seq ?_
      refine wH_region ?_
      refine h_op (vI (w64 (b_3 - a_2))) (wt rfl) rfl ?_
      refine h_op (vB (decide ((w64 (b_3 - a_2)) ≤ 12))) (wt rfl) rfl ?_
      refine h_nil ?_
      rcases cond_some hc_12 with ⟨hc_16, hc_12⟩ | ⟨hc_16, hc_12⟩
      · refine wH_ift rfl hc_16 ?_
        refine wH_seq ?_
        refine wH_region ?_
        refine h_op (dV (extN 0) 2 data_1) (wt rfl) rfl ?_
        refine h_op (vI a_2) (wt rfl) rfl ?_
        refine h_op (vI b_3) (wt rfl) rfl ?_
        refine h_op (.fn 204 []) (wt rfl) rfl ?_
        obtain ⟨r_17, hr_18, hc_12⟩ := bind_some hc_12
        obtain ⟨_, hs_19, hc_12⟩ := bind_some hc_12
        replace hs_19 := sameL_eq hs_19
        refine h_callv 0 [] 0 0 (.inl rfl) (fun _ _ _ => trivial) (slices_insertionSortCmpFunc_screen_run_v1_ok hr_18) rfl hb228 rfl rfl rfl (by kernel_rfl) rfl (.inr (.inl rfl)) rfl (by kernel_rfl) (by kernel_rfl) (by kernel_rfl) (by kernel_rfl) rfl (by decide) (by kernel_rfl) gB_ok (gB_ho hs_19) (wt rfl) ([((extN 0), gB 2 Run.enc r_17)] : Hp) (by kernel_rfl) ?_
        refine h_re (v' := (dV (extN 0) 2 r_17)) 0 rfl (dV_len hs_19.symm) ?_
        refine h_re (v' := (dV (extN 0) 2 r_17)) 26 rfl (dV_len hs_19.symm) ?_
        refine h_nil ?_
        replace hc_12 := some_inj hc_12
        subst hc_12
        replace hL_13 := some_inj hL_13
        subst hL_13
        replace hF := some_inj hF
        subst hF
        refine wH_ret ?_
        exact finV (bs := ([] : List Box)) (os := ([] : List Box)) (xs := data_1) (o := gB 2 Run.enc r_17) (.inr rfl) [] trivial rfl rfl rfl rfl rfl (by kernel_rfl) gB_ok rfl
      · refine wH_iff rfl hc_16 ?_
        refine wH_skip ?_
        refine wH_seq ?_
        refine wH_seq ?_
        refine wH_region ?_
        refine h_op (vI limit_4) (wt rfl) rfl ?_
        refine h_op (vB (limit_4 == 0)) (wt rfl) rfl ?_
        refine h_nil ?_
        rcases cond_some hc_12 with ⟨hc_20, hc_12⟩ | ⟨hc_20, hc_12⟩
        · refine wH_ift rfl hc_20 ?_
          refine wH_seq ?_
          refine wH_region ?_
          refine h_op (dV (extN 0) 2 data_1) (wt rfl) rfl ?_
          refine h_op (vI a_2) (wt rfl) rfl ?_
          refine h_op (vI b_3) (wt rfl) rfl ?_
          refine h_op (.fn 204 []) (wt rfl) rfl ?_
          cases hc_12
        · refine wH_iff rfl hc_20 ?_
          refine wH_skip ?_
          refine wH_seq ?_
          refine wH_seq ?_
          refine wH_region ?_
          refine h_op (vB true) (wt rfl) rfl ?_
          refine h_op (vB false) (wt rfl) rfl ?_
          refine h_nil ?_
          refine wH_iff rfl rfl ?_
          refine wH_skip ?_
          refine wH_seq ?_
          refine wH_region ?_
          refine h_op (dV (extN 0) 2 data_1) (wt rfl) rfl ?_
          refine h_op (vI a_2) (wt rfl) rfl ?_
          refine h_op (vI b_3) (wt rfl) rfl ?_
          refine h_op (.fn 204 []) (wt rfl) rfl ?_
          cases hc_12
  · rintro s_11 ho_ sl_ H_ hp_ hq_
    subst ho_
    show finH _ _ _ _ _ _ _ _
    replace hF := some_inj hF
    subst hF
    refine finH_at (H0 := ([((extN 0), gB 2 Run.enc data_1)] : Hp)) (sl' := envS []) hq_ ?_
    exact finV (bs := ([] : List Box)) (os := ([] : List Box)) (xs := data_1) (o := gB 2 Run.enc data_1) (.inl rfl) [] trivial rfl rfl rfl rfl rfl (by kernel_rfl) gB_ok rfl
theorem slices_SortFunc_screen_run_screen_run_v1_ok {x_1 : (List Run)} {r : (List Run)} (hF : slices_SortFunc_screen_run_screen_run_v1 x_1 = some r) :
    FnM Try.prog 203 [(dV (extN 0) 2 x_1), (.fn 204 [])] (([] : List Box) ++ gI 2 Run.enc x_1) (.tup []) (([] : List Box).map some ++ gT x_1 (gB 2 Run.enc r)) := by
  refine FnM.of_wHv ⟨Try.prog, 14, [], []⟩ rfl Try.func203 rfl rfl (Nat.le_of_ble_eq_true rfl) (by kernel_rfl) ?_
  unfold slices_SortFunc_screen_run_screen_run_v1 at hF
  refine wH_seq ?_
  refine wH_region ?_
  refine h_op (dV (extN 0) 2 x_1) (wt rfl) rfl ?_
  refine h_lend un184 rfl (wt rfl) ?_
  refine h_op (vI (x_1.length : Int)) (wt rfl) rfl ?_
  refine h_nil ?_
  refine wH_region ?_
  refine h_op (dV (extN 0) 2 x_1) (wt rfl) rfl ?_
  refine h_op (vI (x_1.length : Int)) (wt rfl) rfl ?_
  refine h_op (vI (x_1.length : Int)) (wt rfl) rfl ?_
  refine h_conv un3 un180 rfl (wt rfl) ?_
  obtain ⟨r_3, hr_4, hF⟩ := bind_some hF
  refine h_call0 (math_bits_Len_ok hr_4) rfl hb163 rfl rfl rfl rfl (wt rfl) ?_
  refine h_op (.fn 204 []) (wt rfl) rfl ?_
  obtain ⟨r_5, hr_6, hF⟩ := bind_some hF
  obtain ⟨_, hs_7, hF⟩ := bind_some hF
  replace hs_7 := sameL_eq hs_7
  refine h_callv 0 [] 0 0 (.inl rfl) (fun _ _ _ => trivial) (slices_pdqsortCmpFunc_screen_run_v1_ok hr_6) rfl hb223 rfl rfl rfl (by kernel_rfl) rfl (.inr (.inl rfl)) rfl (by kernel_rfl) (by kernel_rfl) (by kernel_rfl) (by kernel_rfl) rfl (by decide) (by kernel_rfl) gB_ok (gB_ho hs_7) (wt rfl) ([((extN 0), gB 2 Run.enc r_5)] : Hp) (by kernel_rfl) ?_
  refine h_re (v' := (dV (extN 0) 2 r_5)) 0 rfl (dV_len hs_7.symm) ?_
  refine h_re (v' := (dV (extN 0) 2 r_5)) 5 rfl (dV_len hs_7.symm) ?_
  refine h_re (v' := (dV (extN 0) 2 r_5)) 7 rfl (dV_len hs_7.symm) ?_
  refine h_nil ?_
  show finH _ _ _ _ _ _ _ _
  replace hF := some_inj hF
  subst hF
  exact finV (bs := ([] : List Box)) (os := ([] : List Box)) (xs := x_1) (o := gB 2 Run.enc r_5) (.inl rfl) [] trivial rfl rfl rfl rfl rfl (by kernel_rfl) gB_ok rfl
end Go.Proofs.Ytodfcleaapnklaa.Law
