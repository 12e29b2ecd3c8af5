/-
  The machine computes these plain functions (written by a program of ours).
-/
import Derived.Test.YtodfcleaapnklaaFacts
import Derived.Test.YtodfcleaapnklaaDefs
open Go Go.Eng Go.Proofs
namespace Go.Proofs.Ytodfcleaapnklaa.Law
set_option maxRecDepth 100000
set_option linter.unusedVariables false
set_option maxHeartbeats 1000000
theorem mk_Below_ok {x_1 : Int} {n_2 : Int} {r : Int} (hF : mk_Below x_1 n_2 = some r) :
    FnM Try.prog 147 [(vI x_1), (vI n_2)] [] (vI r) [] := by
  refine FnM.of_wH ⟨Try.prog, 16, [], []⟩ rfl Try.func147 rfl rfl (Nat.le_of_ble_eq_true rfl) (by kernel_rfl) ?_
  unfold mk_Below at hF
  refine wH_seq ?_
  refine wH_region ?_
  refine h_op (vI 0) (wt rfl) rfl ?_
  refine h_nil ?_
  refine wH_seq ?_
  refine wH_seq ?_
  refine wH_region ?_
  refine h_op (vI n_2) (wt rfl) rfl ?_
  refine h_op (vB (decide (n_2 < 1))) (wt rfl) rfl ?_
  refine h_nil ?_
  rcases cond_some hF with ⟨hc_3, hF⟩ | ⟨hc_3, hF⟩
  · refine wH_ift rfl hc_3 ?_
    refine wH_seq ?_
    refine wH_region ?_
    refine h_op (vI 0) (wt rfl) rfl ?_
    refine h_nil ?_
    replace hF := some_inj hF
    subst hF
    refine wH_ret ?_
    exact fin0 (.inr rfl) [(vI 0)] ⟨rfl, trivial⟩ rfl rfl rfl
  · refine wH_iff rfl hc_3 ?_
    refine wH_skip ?_
    refine wH_seq ?_
    refine wH_region ?_
    refine h_op (vI x_1) (wt rfl) rfl ?_
    refine h_op (vI n_2) (wt rfl) rfl ?_
    obtain ⟨q_4, hz_5, hF⟩ := bind_some hF
    refine h_rem rfl rfl hz_5 (wt rfl) ?_
    refine h_op (vI q_4) (wt rfl) rfl ?_
    refine h_nil ?_
    refine wH_seq ?_
    refine wH_seq ?_
    refine wH_region ?_
    refine h_op (vI q_4) (wt rfl) rfl ?_
    refine h_op (vB (decide (q_4 < 0))) (wt rfl) rfl ?_
    refine h_nil ?_
    obtain ⟨v_6, h_7, hF⟩ := bind_some hF
    refine wH_join (β := Unit) (fun _ => ([(0, (vI v_6))] : List (Nat × V))) (fun _ => ([] : Hp)) (fun _ => True) ?_ ?_
    · rcases cond_some h_7 with ⟨hc_8, h_7⟩ | ⟨hc_8, h_7⟩
      · refine wH_ift rfl hc_8 ?_
        refine wH_region ?_
        refine h_op (vI q_4) (wt rfl) rfl ?_
        refine h_op (vI n_2) (wt rfl) rfl ?_
        refine h_op (vI (w64 (q_4 + n_2))) (wt rfl) rfl ?_
        refine h_op (vI (w64 (q_4 + n_2))) (wt rfl) rfl ?_
        refine h_nil ?_
        replace h_7 := some_inj h_7
        subst h_7
        exact cut_mk () trivial rfl rfl
      · refine wH_iff rfl hc_8 ?_
        refine wH_skip ?_
        replace h_7 := some_inj h_7
        subst h_7
        exact cut_mk () trivial rfl rfl
    · rintro ⟨⟩ _ sl_ H_ hp_ hq_
      refine wH_at _ hp_ hq_ ?_
      refine wH_seq ?_
      refine wH_region ?_
      refine h_op (vI v_6) (wt rfl) rfl ?_
      refine h_op (vI v_6) (wt rfl) rfl ?_
      refine h_nil ?_
      replace hF := some_inj hF
      subst hF
      refine wH_ret ?_
      exact fin0 (.inr rfl) [(vI v_6)] ⟨rfl, trivial⟩ rfl rfl rfl
theorem mk_Stream_Next_ok {s_1 : Stream} {n_2 : Int} {r : Int × Stream} (hF : mk_Stream_Next s_1 n_2 = some r) :
    FnM Try.prog 75 [(.ref (extN 0) 0 0), (vI n_2)] [(.cells 2 [(vL eI s_1.L), (vI s_1.f_at)])] (vI r.1) [some (.cells 2 [(vL eI r.2.L), (vI r.2.f_at)])] := by
  refine FnM.of_wH ⟨Try.prog, 64, [], []⟩ rfl Try.func75 rfl rfl (Nat.le_of_ble_eq_true rfl) (by kernel_rfl) ?_
  unfold mk_Stream_Next at hF
  refine wH_seq ?_
  refine wH_region ?_
  refine h_op (vI 0) (wt rfl) rfl ?_
  refine h_nil ?_
  refine wH_seq ?_
  refine wH_region ?_
  refine h_op (.ref (extN 0) 0 0) (wt rfl) rfl ?_
  refine h_op (.ref (extN 0) 0 0) (wt rfl) rfl ?_
  refine h_far pl25_1 rfl 1 rfl (wt rfl) ?_
  refine h_ldr 0 0 (.inl rfl) (fun _ _ _ => trivial) sz3 ag3 rfl rfl (vI s_1.f_at) rfl (wt rfl) ?_
  refine h_op (vI (w64 (s_1.f_at + 1))) (wt rfl) rfl ?_
  refine h_op (.ref (extN 0) 0 0) (wt rfl) rfl ?_
  refine h_far pl25_1 rfl 1 rfl (wt rfl) ?_
  refine h_str 0 (.inl rfl) (fun _ _ _ => trivial) 0 sz3 rfl rfl [(vL eI s_1.L), (vI (w64 (s_1.f_at + 1)))] rfl (wt rfl) ?_
  refine h_nil ?_
  refine wH_seq ?_
  refine wH_seq ?_
  refine wH_region ?_
  refine h_op (.ref (extN 0) 0 0) (wt rfl) rfl ?_
  refine h_op (.ref (extN 0) 0 0) (wt rfl) rfl ?_
  refine h_far pl25_0 rfl 0 rfl (wt rfl) ?_
  refine h_ldr 0 0 (.inl rfl) (fun _ _ _ => trivial) sz22 ag22 rfl rfl (vL eI s_1.L) rfl (wt rfl) ?_
  refine h_len un22 rfl (wt rfl) ?_
  refine h_op (vB ((s_1.L.length : Int) == 0)) (wt rfl) rfl ?_
  refine h_nil ?_
  rcases cond_some hF with ⟨hc_3, hF⟩ | ⟨hc_3, hF⟩
  · refine wH_ift rfl hc_3 ?_
    refine wH_seq ?_
    refine wH_region ?_
    refine h_op (.ref (extN 0) 0 0) (wt rfl) rfl ?_
    refine h_op (.ref (extN 0) 0 0) (wt rfl) rfl ?_
    refine h_far pl25_1 rfl 1 rfl (wt rfl) ?_
    refine h_ldr 0 0 (.inl rfl) (fun _ _ _ => trivial) sz3 ag3 rfl rfl (vI (w64 (s_1.f_at + 1))) rfl (wt rfl) ?_
    refine h_op (vI (w64 ((w64 (s_1.f_at + 1)) * 7919))) (wt rfl) rfl ?_
    refine h_op (vI n_2) (wt rfl) rfl ?_
    obtain ⟨r_4, hr_5, hF⟩ := bind_some hF
    refine h_call0 (mk_Below_ok hr_5) rfl hb147 rfl rfl rfl rfl (wt rfl) ?_
    refine h_op (vI r_4) (wt rfl) rfl ?_
    refine h_nil ?_
    replace hF := some_inj hF
    subst hF
    refine wH_ret ?_
    exact finB (.inr rfl) [(vI r_4)] _ [0] [extN 0] ⟨rfl, trivial⟩ (.cons (co_data rfl rfl) (.nil)) (by kernel_rfl) ⟨(by kernel_rfl), trivial⟩ (by decide) (by kernel_rfl)
  · refine wH_iff rfl hc_3 ?_
    refine wH_skip ?_
    refine wH_seq ?_
    refine wH_draws ?_
    refine h_op (.ref (extN 0) 0 0) (wt rfl) rfl ?_
    refine h_op (.ref (extN 0) 0 0) (wt rfl) rfl ?_
    refine h_far pl25_1 rfl 1 rfl (wt rfl) ?_
    refine h_ldr 3 0 (.inr (by kernel_rfl)) (fun _ _ ag => trivial) sz3 ag3 rfl rfl (vI (w64 (s_1.f_at + 1))) rfl (wt rfl) ?_
    refine h_op (vI (w64 ((w64 (s_1.f_at + 1)) - 1))) (wt rfl) rfl ?_
    refine h_op (.ref (extN 0) 0 0) (wt rfl) rfl ?_
    refine h_op (.ref (extN 0) 0 0) (wt rfl) rfl ?_
    refine h_far pl25_0 rfl 0 rfl (wt rfl) ?_
    refine h_ldr 8 0 (.inr (by kernel_rfl)) (fun _ _ ag => ⟨.inl ⟨rfl, rfl⟩, trivial⟩) sz22 ag22 rfl rfl (vL eI s_1.L) rfl (wt rfl) ?_
    refine h_len un22 rfl (wt rfl) ?_
    obtain ⟨q_6, hz_7, hF⟩ := bind_some hF
    refine h_rem rfl rfl hz_7 (wt rfl) ?_
    refine h_op (vI q_6) (wt rfl) rfl ?_
    refine h_nil ?_
    refine wH_seq ?_
    refine wH_draws ?_
    refine h_op (.ref (extN 0) 0 0) (wt rfl) rfl ?_
    refine h_op (.ref (extN 0) 0 0) (wt rfl) rfl ?_
    refine h_far pl25_1 rfl 1 rfl (wt rfl) ?_
    refine h_ldr 3 0 (.inr (by kernel_rfl)) (fun _ _ ag => trivial) sz3 ag3 rfl rfl (vI (w64 (s_1.f_at + 1))) rfl (wt rfl) ?_
    refine h_op (vI (w64 ((w64 (s_1.f_at + 1)) - 1))) (wt rfl) rfl ?_
    refine h_op (.ref (extN 0) 0 0) (wt rfl) rfl ?_
    refine h_op (.ref (extN 0) 0 0) (wt rfl) rfl ?_
    refine h_far pl25_0 rfl 0 rfl (wt rfl) ?_
    refine h_ldr 8 0 (.inr (by kernel_rfl)) (fun _ _ ag => ⟨.inl ⟨rfl, rfl⟩, trivial⟩) sz22 ag22 rfl rfl (vL eI s_1.L) rfl (wt rfl) ?_
    refine h_len un22 rfl (wt rfl) ?_
    obtain ⟨q_8, hz_9, hF⟩ := bind_some hF
    refine h_quo rfl rfl hz_9 (wt rfl) ?_
    refine h_op (vI q_8) (wt rfl) rfl ?_
    refine h_nil ?_
    refine wH_at (H0 := ([((extN 0), some (.cells 2 [(vL eI s_1.L), (vI (w64 (s_1.f_at + 1)))]))] : Hp)) ([(0, (.ref (extN 0) 0 0)), (1, (vI n_2)), (5, (vI q_6)), (6, (vI q_8))] : List (Nat × V)) (by kernel_rfl) (pre_mk (by kernel_rfl)) ?_
    refine wH_seq ?_
    refine wH_region ?_
    refine h_op (.ref (extN 0) 0 0) (wt rfl) rfl ?_
    refine h_op (.ref (extN 0) 0 0) (wt rfl) rfl ?_
    refine h_far pl25_0 rfl 0 rfl (wt rfl) ?_
    refine h_ldr 0 0 (.inl rfl) (fun _ _ _ => trivial) sz22 ag22 rfl rfl (vL eI s_1.L) rfl (wt rfl) ?_
    refine h_op (vI q_6) (wt rfl) rfl ?_
    obtain ⟨y_10, hy_11, hF⟩ := bind_some hF
    refine h_ia es22 rfl rfl hy_11 rfl (wt rfl) ?_
    refine h_ldc sz3 ag3 rfl (vI y_10) rfl (wt rfl) ?_
    obtain ⟨r_12, hr_13, hF⟩ := bind_some hF
    refine h_call0 (mk_Below_ok hr_13) rfl hb147 rfl rfl rfl rfl (wt rfl) ?_
    refine h_op (vI q_8) (wt rfl) rfl ?_
    refine h_op (vI q_6) (wt rfl) rfl ?_
    refine h_op (vI (w64 (7919 + q_6))) (wt rfl) rfl ?_
    refine h_op (vI (w64 (q_8 * (w64 (7919 + q_6))))) (wt rfl) rfl ?_
    refine h_op (vI (w64 (r_12 + (w64 (q_8 * (w64 (7919 + q_6))))))) (wt rfl) rfl ?_
    refine h_op (vI n_2) (wt rfl) rfl ?_
    obtain ⟨r_14, hr_15, hF⟩ := bind_some hF
    refine h_call0 (mk_Below_ok hr_15) rfl hb147 rfl rfl rfl rfl (wt rfl) ?_
    refine h_op (vI r_14) (wt rfl) rfl ?_
    refine h_nil ?_
    replace hF := some_inj hF
    subst hF
    refine wH_ret ?_
    exact finB (.inr rfl) [(vI r_14)] _ [0] [extN 0] ⟨rfl, trivial⟩ (.cons (co_data rfl rfl) (.nil)) (by kernel_rfl) ⟨(by kernel_rfl), trivial⟩ (by decide) (by kernel_rfl)
theorem mk_Stream_Flip_ok {s_1 : Stream} {n_2 : Int} {r : Bool × Stream} (hF : mk_Stream_Flip s_1 n_2 = some r) :
    FnM Try.prog 37 [(.ref (extN 0) 0 0), (vI n_2)] [(.cells 2 [(vL eI s_1.L), (vI s_1.f_at)])] (vB r.1) [some (.cells 2 [(vL eI r.2.L), (vI r.2.f_at)])] := by
  refine FnM.of_wH ⟨Try.prog, 9, [], []⟩ rfl Try.func37 rfl rfl (Nat.le_of_ble_eq_true rfl) (by kernel_rfl) ?_
  unfold mk_Stream_Flip at hF
  refine wH_seq ?_
  refine wH_region ?_
  refine h_op (vB false) (wt rfl) rfl ?_
  refine h_nil ?_
  refine wH_seq ?_
  refine wH_region ?_
  refine h_op (.ref (extN 0) 0 0) (wt rfl) rfl ?_
  refine h_op (vI n_2) (wt rfl) rfl ?_
  obtain ⟨r_3, hr_4, hF⟩ := bind_some hF
  refine h_callq 0 [0] (.inl rfl) (fun _ _ _ => trivial) (mk_Stream_Next_ok hr_4) rfl hb75 rfl (by kernel_rfl) (by kernel_rfl) (by kernel_rfl) (by kernel_rfl) (by kernel_rfl) (by kernel_rfl) (by kernel_rfl) (by decide) (by kernel_rfl) (wt rfl) (vI r_3.1) (by kernel_rfl) ([((extN 0), some (.cells 2 [(vL eI r_3.2.L), (vI r_3.2.f_at)]))] : Hp) (by kernel_rfl) ?_
  refine h_op (vB (r_3.1 == 0)) (wt rfl) rfl ?_
  refine h_op (vB (r_3.1 == 0)) (wt rfl) rfl ?_
  refine h_nil ?_
  replace hF := some_inj hF
  subst hF
  refine wH_ret ?_
  exact finB (.inr rfl) [(vB (r_3.1 == 0))] _ [0] [extN 0] ⟨rfl, trivial⟩ (.cons (co_data rfl rfl) (.nil)) (by kernel_rfl) ⟨(by kernel_rfl), trivial⟩ (by decide) (by kernel_rfl)
theorem mk_Stream_Pick_ok {s_1 : Stream} {l_2 : (List Int)} {r : Int × Stream} (hF : mk_Stream_Pick s_1 l_2 = some r) :
    FnM Try.prog 10 [(.ref (extN 0) 0 0), (vL eI l_2)] [(.cells 2 [(vL eI s_1.L), (vI s_1.f_at)])] (vI r.1) [some (.cells 2 [(vL eI r.2.L), (vI r.2.f_at)])] := by
  refine FnM.of_wH ⟨Try.prog, 12, [], []⟩ rfl Try.func10 rfl rfl (Nat.le_of_ble_eq_true rfl) (by kernel_rfl) ?_
  unfold mk_Stream_Pick at hF
  refine wH_seq ?_
  refine wH_region ?_
  refine h_op (vI 0) (wt rfl) rfl ?_
  refine h_nil ?_
  refine wH_seq ?_
  refine wH_region ?_
  refine h_op (vL eI l_2) (wt rfl) rfl ?_
  refine h_op (.ref (extN 0) 0 0) (wt rfl) rfl ?_
  refine h_op (vL eI l_2) (wt rfl) rfl ?_
  refine h_len un22 rfl (wt rfl) ?_
  obtain ⟨r_3, hr_4, hF⟩ := bind_some hF
  refine h_callq 0 [0] (.inl rfl) (fun _ _ _ => trivial) (mk_Stream_Next_ok hr_4) rfl hb75 rfl (by kernel_rfl) (by kernel_rfl) (by kernel_rfl) (by kernel_rfl) (by kernel_rfl) (by kernel_rfl) (by kernel_rfl) (by decide) (by kernel_rfl) (wt rfl) (vI r_3.1) (by kernel_rfl) ([((extN 0), some (.cells 2 [(vL eI r_3.2.L), (vI r_3.2.f_at)]))] : Hp) (by kernel_rfl) ?_
  obtain ⟨y_6, hy_7, hF⟩ := bind_some hF
  refine h_ia es22 rfl rfl hy_7 rfl (wt rfl) ?_
  refine h_ldc sz3 ag3 rfl (vI y_6) rfl (wt rfl) ?_
  refine h_op (vI y_6) (wt rfl) rfl ?_
  refine h_nil ?_
  replace hF := some_inj hF
  subst hF
  refine wH_ret ?_
  exact finB (.inr rfl) [(vI y_6)] _ [0] [extN 0] ⟨rfl, trivial⟩ (.cons (co_data rfl rfl) (.nil)) (by kernel_rfl) ⟨(by kernel_rfl), trivial⟩ (by decide) (by kernel_rfl)
theorem mk_Stream_Side_ok {s_1 : Stream} {r : Int × Stream} (hF : mk_Stream_Side s_1 = some r) :
    FnM Try.prog 66 [(.ref (extN 0) 0 0)] [(.cells 2 [(vL eI s_1.L), (vI s_1.f_at)])] (vI r.1) [some (.cells 2 [(vL eI r.2.L), (vI r.2.f_at)])] := by
  refine FnM.of_wH ⟨Try.prog, 11, [], []⟩ rfl Try.func66 rfl rfl (Nat.le_of_ble_eq_true rfl) (by kernel_rfl) ?_
  unfold mk_Stream_Side at hF
  refine wH_seq ?_
  refine wH_region ?_
  refine h_op (vI 0) (wt rfl) rfl ?_
  refine h_nil ?_
  refine wH_seq ?_
  refine wH_seq ?_
  refine wH_region ?_
  refine h_op (.ref (extN 0) 0 0) (wt rfl) rfl ?_
  obtain ⟨r_2, hr_3, hF⟩ := bind_some hF
  refine h_callq 0 [0] (.inl rfl) (fun _ _ _ => trivial) (mk_Stream_Flip_ok hr_3) rfl hb37 rfl (by kernel_rfl) (by kernel_rfl) (by kernel_rfl) (by kernel_rfl) (by kernel_rfl) (by kernel_rfl) (by kernel_rfl) (by decide) (by kernel_rfl) (wt rfl) (vB r_2.1) (by kernel_rfl) ([((extN 0), some (.cells 2 [(vL eI r_2.2.L), (vI r_2.2.f_at)]))] : Hp) (by kernel_rfl) ?_
  refine h_nil ?_
  rcases cond_some hF with ⟨hc_5, hF⟩ | ⟨hc_5, hF⟩
  · refine wH_ift rfl hc_5 ?_
    refine wH_seq ?_
    refine wH_region ?_
    refine h_op (.ref (extN 0) 0 0) (wt rfl) rfl ?_
    refine h_lit (([0, (-1), 20000, 20001] : List Int).map eI) es22 ez22 rfl rfl rfl rfl rfl (wt rfl) ?_
    obtain ⟨r_6, hr_7, hF⟩ := bind_some hF
    refine h_callq 0 [0] (.inl rfl) (fun _ _ _ => trivial) (mk_Stream_Pick_ok hr_7) rfl hb10 rfl (by kernel_rfl) (by kernel_rfl) (by kernel_rfl) (by kernel_rfl) (by kernel_rfl) (by kernel_rfl) (by kernel_rfl) (by decide) (by kernel_rfl) (wt rfl) (vI r_6.1) (by kernel_rfl) ([((extN 0), some (.cells 2 [(vL eI r_6.2.L), (vI r_6.2.f_at)]))] : Hp) (by kernel_rfl) ?_
    refine h_op (vI r_6.1) (wt rfl) rfl ?_
    refine h_nil ?_
    replace hF := some_inj hF
    subst hF
    refine wH_ret ?_
    exact finB (.inr rfl) [(vI r_6.1)] _ [0] [extN 0] ⟨rfl, trivial⟩ (.cons (co_data rfl rfl) (.nil)) (by kernel_rfl) ⟨(by kernel_rfl), trivial⟩ (by decide) (by kernel_rfl)
  · refine wH_iff rfl hc_5 ?_
    refine wH_skip ?_
    refine wH_seq ?_
    refine wH_region ?_
    refine h_op (.ref (extN 0) 0 0) (wt rfl) rfl ?_
    refine h_lit (([1, 2, 3, 5, 7, 10, 12, 16, 100, 1000] : List Int).map eI) es22 ez22 rfl rfl rfl rfl rfl (wt rfl) ?_
    obtain ⟨r_9, hr_10, hF⟩ := bind_some hF
    refine h_callq 0 [0] (.inl rfl) (fun _ _ _ => trivial) (mk_Stream_Pick_ok hr_10) rfl hb10 rfl (by kernel_rfl) (by kernel_rfl) (by kernel_rfl) (by kernel_rfl) (by kernel_rfl) (by kernel_rfl) (by kernel_rfl) (by decide) (by kernel_rfl) (wt rfl) (vI r_9.1) (by kernel_rfl) ([((extN 0), some (.cells 2 [(vL eI r_9.2.L), (vI r_9.2.f_at)]))] : Hp) (by kernel_rfl) ?_
    refine h_op (vI r_9.1) (wt rfl) rfl ?_
    refine h_nil ?_
    replace hF := some_inj hF
    subst hF
    refine wH_ret ?_
    exact finB (.inr rfl) [(vI r_9.1)] _ [0] [extN 0] ⟨rfl, trivial⟩ (.cons (co_data rfl rfl) (.nil)) (by kernel_rfl) ⟨(by kernel_rfl), trivial⟩ (by decide) (by kernel_rfl)
theorem mk_Stream_Range_ok {s_1 : Stream} {low_2 : Int} {high_3 : Int} {r : Int × Stream} (hF : mk_Stream_Range s_1 low_2 high_3 = some r) :
    FnM Try.prog 106 [(.ref (extN 0) 0 0), (vI low_2), (vI high_3)] [(.cells 2 [(vL eI s_1.L), (vI s_1.f_at)])] (vI r.1) [some (.cells 2 [(vL eI r.2.L), (vI r.2.f_at)])] := by
  refine FnM.of_wH ⟨Try.prog, 19, [], []⟩ rfl Try.func106 rfl rfl (Nat.le_of_ble_eq_true rfl) (by kernel_rfl) ?_
  unfold mk_Stream_Range at hF
  refine wH_seq ?_
  refine wH_region ?_
  refine h_op (vI 0) (wt rfl) rfl ?_
  refine h_nil ?_
  refine wH_seq ?_
  refine wH_seq ?_
  refine wH_region ?_
  refine h_op (vI high_3) (wt rfl) rfl ?_
  refine h_op (vI low_2) (wt rfl) rfl ?_
  refine h_op (vB (decide (high_3 < low_2))) (wt rfl) rfl ?_
  refine h_nil ?_
  rcases cond_some hF with ⟨hc_4, hF⟩ | ⟨hc_4, hF⟩
  · refine wH_ift rfl hc_4 ?_
    refine wH_seq ?_
    refine wH_region ?_
    refine h_op (vI low_2) (wt rfl) rfl ?_
    refine h_op (vI low_2) (wt rfl) rfl ?_
    refine h_nil ?_
    replace hF := some_inj hF
    subst hF
    refine wH_ret ?_
    exact finB (.inr rfl) [(vI low_2)] _ [0] [extN 0] ⟨rfl, trivial⟩ (.cons (co_data rfl rfl) (.nil)) (by kernel_rfl) ⟨(by kernel_rfl), trivial⟩ (by decide) (by kernel_rfl)
  · refine wH_iff rfl hc_4 ?_
    refine wH_skip ?_
    refine wH_seq ?_
    refine wH_region ?_
    refine h_op (vI low_2) (wt rfl) rfl ?_
    refine h_op (.ref (extN 0) 0 0) (wt rfl) rfl ?_
    refine h_op (vI high_3) (wt rfl) rfl ?_
    refine h_op (vI low_2) (wt rfl) rfl ?_
    refine h_op (vI (w64 (high_3 - low_2))) (wt rfl) rfl ?_
    refine h_op (vI (w64 ((w64 (high_3 - low_2)) + 1))) (wt rfl) rfl ?_
    obtain ⟨r_5, hr_6, hF⟩ := bind_some hF
    refine h_callq 0 [0] (.inl rfl) (fun _ _ _ => trivial) (mk_Stream_Next_ok hr_6) rfl hb75 rfl (by kernel_rfl) (by kernel_rfl) (by kernel_rfl) (by kernel_rfl) (by kernel_rfl) (by kernel_rfl) (by kernel_rfl) (by decide) (by kernel_rfl) (wt rfl) (vI r_5.1) (by kernel_rfl) ([((extN 0), some (.cells 2 [(vL eI r_5.2.L), (vI r_5.2.f_at)]))] : Hp) (by kernel_rfl) ?_
    refine h_op (vI (w64 (low_2 + r_5.1))) (wt rfl) rfl ?_
    refine h_op (vI (w64 (low_2 + r_5.1))) (wt rfl) rfl ?_
    refine h_nil ?_
    replace hF := some_inj hF
    subst hF
    refine wH_ret ?_
    exact finB (.inr rfl) [(vI (w64 (low_2 + r_5.1)))] _ [0] [extN 0] ⟨rfl, trivial⟩ (.cons (co_data rfl rfl) (.nil)) (by kernel_rfl) ⟨(by kernel_rfl), trivial⟩ (by decide) (by kernel_rfl)
theorem mk_Stream_Inner_ok {s_1 : Stream} {wv_2 : Int} {h_3 : Int} {r : Rect × Stream} (hF : mk_Stream_Inner s_1 wv_2 h_3 = some r) :
    FnM Try.prog 67 [(.ref (extN 0) 0 0), (vI wv_2), (vI h_3)] [(.cells 2 [(vL eI s_1.L), (vI s_1.f_at)])] (.d (.agg (Rect.enc r.1))) [some (.cells 2 [(vL eI r.2.L), (vI r.2.f_at)])] := by
  refine FnM.of_wH ⟨Try.prog, 59, [], []⟩ rfl Try.func67 rfl rfl (Nat.le_of_ble_eq_true rfl) (by kernel_rfl) ?_
  unfold mk_Stream_Inner at hF
  refine wH_seq ?_
  refine wH_region ?_
  refine h_alloc 0 (.inl rfl) z92 rfl (wt rfl) (fun n_4 => ?_)
  refine h_nil ?_
  refine wH_seq ?_
  refine wH_region ?_
  refine h_op (vI wv_2) (wt rfl) rfl ?_
  refine h_minmax (vI (maxI wv_2 1)) rfl (.inr rfl) (wt rfl) ?_
  refine h_minmax (vI (minI (maxI wv_2 1) 20000)) rfl (.inl rfl) (wt rfl) ?_
  refine h_op (vI h_3) (wt rfl) rfl ?_
  refine h_minmax (vI (maxI h_3 1)) rfl (.inr rfl) (wt rfl) ?_
  refine h_minmax (vI (minI (maxI h_3 1) 20000)) rfl (.inl rfl) (wt rfl) ?_
  refine h_op (vI (minI (maxI wv_2 1) 20000)) (wt rfl) rfl ?_
  refine h_op (vI (minI (maxI h_3 1) 20000)) (wt rfl) rfl ?_
  refine h_nil ?_
  refine wH_seq ?_
  refine wH_region ?_
  refine h_op (.ref (extN 0) 0 0) (wt rfl) rfl ?_
  refine h_op (vI (minI (maxI wv_2 1) 20000)) (wt rfl) rfl ?_
  refine h_op (vI (w64 ((minI (maxI wv_2 1) 20000) - 1))) (wt rfl) rfl ?_
  obtain ⟨r_5, hr_6, hF⟩ := bind_some hF
  refine h_callq 0 [0] (.inl rfl) (fun _ _ _ => trivial) (mk_Stream_Range_ok hr_6) rfl hb106 rfl (by kernel_rfl) (by kernel_rfl) (by kernel_rfl) (by kernel_rfl) (by kernel_rfl) (by kernel_rfl) (by kernel_rfl) (by decide) (by kernel_rfl) (wt rfl) (vI r_5.1) (by kernel_rfl) ([((extN 0), some (.cells 2 [(vL eI r_5.2.L), (vI r_5.2.f_at)])), (n_4, some (.cells 4 [(vI 0), (vI 0), (vI 0), (vI 0)]))] : Hp) (by kernel_rfl) ?_
  refine h_op (.ref (extN 0) 0 0) (wt rfl) rfl ?_
  refine h_op (vI (minI (maxI h_3 1) 20000)) (wt rfl) rfl ?_
  refine h_op (vI (w64 ((minI (maxI h_3 1) 20000) - 1))) (wt rfl) rfl ?_
  obtain ⟨r_8, hr_9, hF⟩ := bind_some hF
  refine h_callq 0 [0] (.inl rfl) (fun _ _ _ => trivial) (mk_Stream_Range_ok hr_9) rfl hb106 rfl (by kernel_rfl) (by kernel_rfl) (by kernel_rfl) (by kernel_rfl) (by kernel_rfl) (by kernel_rfl) (by kernel_rfl) (by decide) (by kernel_rfl) (wt rfl) (vI r_8.1) (by kernel_rfl) ([((extN 0), some (.cells 2 [(vL eI r_8.2.L), (vI r_8.2.f_at)])), (n_4, some (.cells 4 [(vI 0), (vI 0), (vI 0), (vI 0)]))] : Hp) (by kernel_rfl) ?_
  refine h_op (.d (.agg (Rect.enc (⟨r_5.1, r_8.1, 0, 0⟩ : Rect)))) (wt rfl) (by kernel_rfl) ?_
  refine h_alloc 0 (.inl rfl) z92 rfl (wt rfl) (fun n_11 => ?_)
  refine h_str 0 (.inl rfl) (fun _ _ _ => trivial) 2 sz92 rfl rfl [(vI r_5.1), (vI r_8.1), (vI 0), (vI 0)] rfl (wt rfl) ?_
  refine h_nil ?_
  refine wH_seq ?_
  refine wH_draws ?_
  refine h_op (.ref (extN 0) 0 0) (wt rfl) rfl ?_
  refine h_op (vI (minI (maxI wv_2 1) 20000)) (wt rfl) rfl ?_
  refine h_far pl92_0 rfl 0 rfl (wt rfl) ?_
  refine h_ldr 3 2 (.inr (by kernel_rfl)) (fun _ _ ag => trivial) sz3 ag3 rfl rfl (vI r_5.1) rfl (wt rfl) ?_
  refine h_op (vI (w64 ((minI (maxI wv_2 1) 20000) - r_5.1))) (wt rfl) rfl ?_
  obtain ⟨r_12, hr_13, hF⟩ := bind_some hF
  refine h_callq 5 [0] (.inr (by kernel_rfl)) (fun _ _ ag => by exact ⟨.inr (.inr (by kernel_rfl)), trivial⟩) (mk_Stream_Range_ok hr_13) rfl hb106 rfl (by kernel_rfl) (by kernel_rfl) (by kernel_rfl) (by kernel_rfl) (by kernel_rfl) (by kernel_rfl) (by kernel_rfl) (by decide) (by kernel_rfl) (wt rfl) (vI r_12.1) (by kernel_rfl) ([((extN 0), some (.cells 2 [(vL eI r_12.2.L), (vI r_12.2.f_at)])), (n_4, some (.cells 4 [(vI 0), (vI 0), (vI 0), (vI 0)])), (n_11, some (.cells 4 [(vI r_5.1), (vI r_8.1), (vI 0), (vI 0)]))] : Hp) (by kernel_rfl) ?_
  refine h_op (.ref (extN 0) 0 0) (wt rfl) rfl ?_
  refine h_op (vI (minI (maxI h_3 1) 20000)) (wt rfl) rfl ?_
  refine h_far pl92_1 rfl 1 rfl (wt rfl) ?_
  refine h_ldr 9 2 (.inr (by kernel_rfl)) (fun _ _ ag => ⟨.inl ⟨rfl, rfl⟩, ⟨.inr (.inl (dis1 (ag_ne ag (i := 2) (j := 0) rfl rfl (by decide)))), trivial⟩⟩) sz3 ag3 rfl rfl (vI r_8.1) rfl (wt rfl) ?_
  refine h_op (vI (w64 ((minI (maxI h_3 1) 20000) - r_8.1))) (wt rfl) rfl ?_
  obtain ⟨r_15, hr_16, hF⟩ := bind_some hF
  refine h_callq 11 [0] (.inr (by kernel_rfl)) (fun _ _ ag => by exact ⟨.inr (.inr (by kernel_rfl)), ⟨.inr (.inr (by kernel_rfl)), ⟨.inr (.inr (by kernel_rfl)), trivial⟩⟩⟩) (mk_Stream_Range_ok hr_16) rfl hb106 rfl (by kernel_rfl) (by kernel_rfl) (by kernel_rfl) (by kernel_rfl) (by kernel_rfl) (by kernel_rfl) (by kernel_rfl) (by decide) (by kernel_rfl) (wt rfl) (vI r_15.1) (by kernel_rfl) ([((extN 0), some (.cells 2 [(vL eI r_15.2.L), (vI r_15.2.f_at)])), (n_4, some (.cells 4 [(vI 0), (vI 0), (vI 0), (vI 0)])), (n_11, some (.cells 4 [(vI r_5.1), (vI r_8.1), (vI 0), (vI 0)]))] : Hp) (by kernel_rfl) ?_
  refine h_far pl92_2 rfl 2 rfl (wt rfl) ?_
  refine h_str 13 (.inr (by kernel_rfl)) (fun _ _ ag => ⟨.inr (.inr (by kernel_rfl)), ⟨.inr (.inr (by kernel_rfl)), ⟨.inr (.inr (by kernel_rfl)), ⟨.inr (.inr (by kernel_rfl)), trivial⟩⟩⟩⟩) 2 sz3 rfl rfl [(vI r_5.1), (vI r_8.1), (vI r_12.1), (vI 0)] rfl (wt rfl) ?_
  refine h_far pl92_3 rfl 3 rfl (wt rfl) ?_
  refine h_str 15 (.inr (by kernel_rfl)) (fun _ _ ag => ⟨.inr (.inr (by kernel_rfl)), ⟨.inr (.inr (by kernel_rfl)), ⟨.inr (.inr (by kernel_rfl)), ⟨.inr (.inr (by kernel_rfl)), ⟨.inr (.inr (by kernel_rfl)), trivial⟩⟩⟩⟩⟩) 2 sz3 rfl rfl [(vI r_5.1), (vI r_8.1), (vI r_12.1), (vI r_15.1)] rfl (wt rfl) ?_
  refine h_nil ?_
  refine wH_at (H0 := ([((extN 0), some (.cells 2 [(vL eI r_15.2.L), (vI r_15.2.f_at)])), (n_4, some (.cells 4 [(vI 0), (vI 0), (vI 0), (vI 0)])), (n_11, some (.cells 4 [(vI r_5.1), (vI r_8.1), (vI r_12.1), (vI r_15.1)]))] : Hp)) ([(0, (.ref (extN 0) 0 0)), (1, (vI (minI (maxI wv_2 1) 20000))), (6, (.ref n_4 0 0)), (7, (.ref n_11 0 0))] : List (Nat × V)) (by kernel_rfl) (pre_mk (by kernel_rfl)) ?_
  refine wH_seq ?_
  refine wH_seq ?_
  refine wH_region ?_
  refine h_op (.ref (extN 0) 0 0) (wt rfl) rfl ?_
  obtain ⟨r_18, hr_19, hF⟩ := bind_some hF
  refine h_callq 0 [0] (.inl rfl) (fun _ _ _ => trivial) (mk_Stream_Flip_ok hr_19) rfl hb37 rfl (by kernel_rfl) (by kernel_rfl) (by kernel_rfl) (by kernel_rfl) (by kernel_rfl) (by kernel_rfl) (by kernel_rfl) (by decide) (by kernel_rfl) (wt rfl) (vB r_18.1) (by kernel_rfl) ([((extN 0), some (.cells 2 [(vL eI r_18.2.L), (vI r_18.2.f_at)])), (n_4, some (.cells 4 [(vI 0), (vI 0), (vI 0), (vI 0)])), (n_11, some (.cells 4 [(vI r_5.1), (vI r_8.1), (vI r_12.1), (vI r_15.1)]))] : Hp) (by kernel_rfl) ?_
  refine h_nil ?_
  obtain ⟨v_21, h_22, hF⟩ := bind_some hF
  refine wH_join (β := Unit) (fun _ => ([(0, (.ref (extN 0) 0 0)), (6, (.ref n_4 0 0)), (7, (.ref n_11 0 0))] : List (Nat × V))) (fun _ => ([((extN 0), some (.cells 2 [(vL eI r_18.2.L), (vI r_18.2.f_at)])), (n_4, some (.cells 4 [(vI 0), (vI 0), (vI 0), (vI 0)])), (n_11, some (.cells 4 [(vI v_21.1), (vI r_8.1), (vI v_21.2), (vI r_15.1)]))] : Hp)) (fun _ => True) ?_ ?_
  · rcases cond_some h_22 with ⟨hc_23, h_22⟩ | ⟨hc_23, h_22⟩
    · refine wH_ift rfl hc_23 ?_
      refine wH_region ?_
      refine h_op (vI (minI (maxI wv_2 1) 20000)) (wt rfl) rfl ?_
      refine h_far pl92_0 rfl 0 rfl (wt rfl) ?_
      refine h_str 0 (.inl rfl) (fun _ _ _ => trivial) 2 sz3 rfl rfl [(vI 0), (vI r_8.1), (vI r_12.1), (vI r_15.1)] rfl (wt rfl) ?_
      refine h_far pl92_2 rfl 2 rfl (wt rfl) ?_
      refine h_str 0 (.inl rfl) (fun _ _ _ => trivial) 2 sz3 rfl rfl [(vI 0), (vI r_8.1), (vI (minI (maxI wv_2 1) 20000)), (vI r_15.1)] rfl (wt rfl) ?_
      refine h_nil ?_
      replace h_22 := some_inj h_22
      subst h_22
      exact cut_mk () trivial rfl rfl
    · refine wH_iff rfl hc_23 ?_
      refine wH_skip ?_
      replace h_22 := some_inj h_22
      subst h_22
      exact cut_mk () trivial rfl rfl
  · rintro ⟨⟩ _ sl_ H_ hp_ hq_
    refine wH_at _ hp_ hq_ ?_
    refine wH_seq ?_
    refine wH_seq ?_
    refine wH_region ?_
    refine h_op (.ref (extN 0) 0 0) (wt rfl) rfl ?_
    obtain ⟨r_24, hr_25, hF⟩ := bind_some hF
    refine h_callq 0 [0] (.inl rfl) (fun _ _ _ => trivial) (mk_Stream_Flip_ok hr_25) rfl hb37 rfl (by kernel_rfl) (by kernel_rfl) (by kernel_rfl) (by kernel_rfl) (by kernel_rfl) (by kernel_rfl) (by kernel_rfl) (by decide) (by kernel_rfl) (wt rfl) (vB r_24.1) (by kernel_rfl) ([((extN 0), some (.cells 2 [(vL eI r_24.2.L), (vI r_24.2.f_at)])), (n_4, some (.cells 4 [(vI 0), (vI 0), (vI 0), (vI 0)])), (n_11, some (.cells 4 [(vI v_21.1), (vI r_8.1), (vI v_21.2), (vI r_15.1)]))] : Hp) (by kernel_rfl) ?_
    refine h_nil ?_
    obtain ⟨v_27, h_28, hF⟩ := bind_some hF
    refine wH_join (β := Unit) (fun _ => ([(6, (.ref n_4 0 0)), (7, (.ref n_11 0 0))] : List (Nat × V))) (fun _ => ([((extN 0), some (.cells 2 [(vL eI v_27.1), (vI v_27.2.1)])), (n_4, some (.cells 4 [(vI 0), (vI 0), (vI 0), (vI 0)])), (n_11, some (.cells 4 [(vI v_27.2.2.1), (vI r_8.1), (vI v_27.2.2.2), (vI r_15.1)]))] : Hp)) (fun _ => True) ?_ ?_
    · rcases cond_some h_28 with ⟨hc_29, h_28⟩ | ⟨hc_29, h_28⟩
      · refine wH_ift rfl hc_29 ?_
        refine wH_seq ?_
        refine wH_draws ?_
        refine h_far pl92_2 rfl 2 rfl (wt rfl) ?_
        refine h_ldr 1 2 (.inr (by kernel_rfl)) (fun _ _ ag => trivial) sz3 ag3 rfl rfl (vI v_21.2) rfl (wt rfl) ?_
        refine h_op (.ref (extN 0) 0 0) (wt rfl) rfl ?_
        refine h_lit (([1, 2] : List Int).map eI) es22 ez22 rfl rfl rfl rfl rfl (wt rfl) ?_
        obtain ⟨r_30, hr_31, h_28⟩ := bind_some h_28
        refine h_callq 4 [0] (.inr (by kernel_rfl)) (fun _ _ ag => by exact ⟨.inr (.inl (dis1 (ag_ne ag (i := 0) (j := 2) rfl rfl (by decide)))), trivial⟩) (mk_Stream_Pick_ok hr_31) rfl hb10 rfl (by kernel_rfl) (by kernel_rfl) (by kernel_rfl) (by kernel_rfl) (by kernel_rfl) (by kernel_rfl) (by kernel_rfl) (by decide) (by kernel_rfl) (wt rfl) (vI r_30.1) (by kernel_rfl) ([((extN 0), some (.cells 2 [(vL eI r_30.2.L), (vI r_30.2.f_at)])), (n_4, some (.cells 4 [(vI 0), (vI 0), (vI 0), (vI 0)])), (n_11, some (.cells 4 [(vI v_21.1), (vI r_8.1), (vI v_21.2), (vI r_15.1)]))] : Hp) (by kernel_rfl) ?_
        refine h_op (vI (w64 (v_21.2 + r_30.1))) (wt rfl) rfl ?_
        refine h_far pl92_2 rfl 2 rfl (wt rfl) ?_
        refine h_str 7 (.inr (by kernel_rfl)) (fun _ _ ag => ⟨.inr (.inr (by kernel_rfl)), ⟨.inr (.inr (by kernel_rfl)), trivial⟩⟩) 2 sz3 rfl rfl [(vI v_21.1), (vI r_8.1), (vI (w64 (v_21.2 + r_30.1))), (vI r_15.1)] rfl (wt rfl) ?_
        refine h_nil ?_
        refine wH_draws ?_
        refine h_far pl92_0 rfl 0 rfl (wt rfl) ?_
        refine h_ldr 1 2 (.inr (by kernel_rfl)) (fun _ _ ag => trivial) sz3 ag3 rfl rfl (vI v_21.1) rfl (wt rfl) ?_
        refine h_op (.ref (extN 0) 0 0) (wt rfl) rfl ?_
        refine h_lit (([0, 1] : List Int).map eI) es22 ez22 rfl rfl rfl rfl rfl (wt rfl) ?_
        obtain ⟨r_33, hr_34, h_28⟩ := bind_some h_28
        refine h_callq 4 [0] (.inr (by kernel_rfl)) (fun _ _ ag => by exact ⟨.inr (.inl (dis1 (ag_ne ag (i := 0) (j := 2) rfl rfl (by decide)))), trivial⟩) (mk_Stream_Pick_ok hr_34) rfl hb10 rfl (by kernel_rfl) (by kernel_rfl) (by kernel_rfl) (by kernel_rfl) (by kernel_rfl) (by kernel_rfl) (by kernel_rfl) (by decide) (by kernel_rfl) (wt rfl) (vI r_33.1) (by kernel_rfl) ([((extN 0), some (.cells 2 [(vL eI r_33.2.L), (vI r_33.2.f_at)])), (n_4, some (.cells 4 [(vI 0), (vI 0), (vI 0), (vI 0)])), (n_11, some (.cells 4 [(vI v_21.1), (vI r_8.1), (vI (w64 (v_21.2 + r_30.1))), (vI r_15.1)]))] : Hp) (by kernel_rfl) ?_
        refine h_op (vI (w64 (v_21.1 - r_33.1))) (wt rfl) rfl ?_
        refine h_far pl92_0 rfl 0 rfl (wt rfl) ?_
        refine h_str 7 (.inr (by kernel_rfl)) (fun _ _ ag => ⟨.inr (.inr (by kernel_rfl)), ⟨.inr (.inr (by kernel_rfl)), trivial⟩⟩) 2 sz3 rfl rfl [(vI (w64 (v_21.1 - r_33.1))), (vI r_8.1), (vI (w64 (v_21.2 + r_30.1))), (vI r_15.1)] rfl (wt rfl) ?_
        refine h_nil ?_
        replace h_28 := some_inj h_28
        subst h_28
        exact cut_mk () trivial rfl rfl
      · refine wH_iff rfl hc_29 ?_
        refine wH_skip ?_
        replace h_28 := some_inj h_28
        subst h_28
        exact cut_mk () trivial rfl rfl
    · rintro ⟨⟩ _ sl_ H_ hp_ hq_
      refine wH_at _ hp_ hq_ ?_
      refine wH_seq ?_
      refine wH_region ?_
      refine h_ldr 0 2 (.inl rfl) (fun _ _ _ => trivial) sz92 ag92 rfl rfl (.d (.agg (Rect.enc (⟨v_27.2.2.1, r_8.1, v_27.2.2.2, r_15.1⟩ : Rect)))) rfl (wt rfl) ?_
      refine h_str 0 (.inl rfl) (fun _ _ _ => trivial) 1 sz92 rfl rfl [(vI v_27.2.2.1), (vI r_8.1), (vI v_27.2.2.2), (vI r_15.1)] rfl (wt rfl) ?_
      refine h_nil ?_
      replace hF := some_inj hF
      subst hF
      refine wH_ret ?_
      exact finB (.inr rfl) [(.d (.agg (Rect.enc (⟨v_27.2.2.1, r_8.1, v_27.2.2.2, r_15.1⟩ : Rect))))] _ [0] [extN 0] ⟨⟨1, _, _, _, _, _, _, _, rfl, rfl, sz92, ag92, rfl⟩, trivial⟩ (.cons (co_data rfl rfl) (.nil)) (by kernel_rfl) ⟨(by kernel_rfl), trivial⟩ (by decide) (by kernel_rfl)
theorem kit_Outside_ok {n_1 : Int} {low_2 : Int} {high_3 : Int} {r : Bool} (hF : kit_Outside n_1 low_2 high_3 = some r) :
    FnM Try.prog 82 [(vI n_1), (vI low_2), (vI high_3)] [] (vB r) [] := by
  refine FnM.of_wH ⟨Try.prog, 15, [], []⟩ rfl Try.func82 rfl rfl (Nat.le_of_ble_eq_true rfl) (by kernel_rfl) ?_
  unfold kit_Outside at hF
  refine wH_seq ?_
  refine wH_region ?_
  refine h_op (vB false) (wt rfl) rfl ?_
  refine h_nil ?_
  refine wH_seq ?_
  obtain ⟨v_4, h_5, hF⟩ := bind_some hF
  refine wH_join (β := Unit) (fun _ => ([(6, (vB v_4))] : List (Nat × V))) (fun _ => ([] : Hp)) (fun _ => True) ?_ ?_
  · refine wH_region ?_
    refine h_op (vI n_1) (wt rfl) rfl ?_
    refine h_op (vI low_2) (wt rfl) rfl ?_
    refine h_op (vB (decide (n_1 < low_2))) (wt rfl) rfl ?_
    rcases cond_some h_5 with ⟨hc_6, h_5⟩ | ⟨hc_6, h_5⟩
    · refine h_movb rfl hc_6 (wt rfl) ?_
      refine h_skip (wg rfl rfl rfl) ?_
      refine h_skip (wg rfl rfl rfl) ?_
      refine h_skip (wg rfl rfl rfl) ?_
      refine h_op (vB true) (wt rfl) rfl ?_
      refine h_op (vB true) (wt rfl) rfl ?_
      refine h_nil ?_
      replace h_5 := some_inj h_5
      subst h_5
      exact cut_mk () trivial rfl rfl
    · refine h_movb rfl hc_6 (wt rfl) ?_
      refine h_op (vI n_1) (wg rfl rfl rfl) rfl ?_
      refine h_op (vI high_3) (wg rfl rfl rfl) rfl ?_
      refine h_op (vB (decide (n_1 > high_3))) (wg rfl rfl rfl) rfl ?_
      refine h_op (vB (decide (n_1 > high_3))) (wt rfl) rfl ?_
      refine h_op (vB (decide (n_1 > high_3))) (wt rfl) rfl ?_
      refine h_nil ?_
      replace h_5 := some_inj h_5
      subst h_5
      exact cut_mk () trivial rfl rfl
  · rintro ⟨⟩ _ sl_ H_ hp_ hq_
    refine wH_at _ hp_ hq_ ?_
    replace hF := some_inj hF
    subst hF
    refine wH_ret ?_
    exact fin0 (.inr rfl) [(vB v_4)] ⟨rfl, trivial⟩ rfl rfl rfl
theorem screen_CheckRect_ok {r_1 : Rect} {r : Int} (hF : screen_CheckRect r_1 = some r) :
    FnM Try.prog 57 [(.d (.agg (Rect.enc r_1)))] [] (vI r) [] := by
  refine FnM.of_wH ⟨Try.prog, 25, [], []⟩ rfl Try.func57 rfl rfl (Nat.le_of_ble_eq_true rfl) (by kernel_rfl) ?_
  unfold screen_CheckRect at hF
  refine wH_seq ?_
  refine wH_region ?_
  refine h_box 0 (.inl rfl) [(vI r_1.X), (vI r_1.Y), (vI r_1.W), (vI r_1.H)] rfl rfl (wt rfl) (fun n_2 => ?_)
  refine h_op (vI 0) (wt rfl) rfl ?_
  refine h_nil ?_
  refine wH_seq ?_
  refine wH_seq ?_
  obtain ⟨v_3, h_4, hF⟩ := bind_some hF
  refine wH_join (β := Unit) (fun _ => ([(1, (.ref n_2 0 0)), (10, (vB v_3))] : List (Nat × V))) (fun _ => ([(n_2, some (.cells 4 [(vI r_1.X), (vI r_1.Y), (vI r_1.W), (vI r_1.H)]))] : Hp)) (fun _ => True) ?_ ?_
  · refine wH_region ?_
    refine h_far pl92_0 rfl 0 rfl (wt rfl) ?_
    refine h_ldr 0 0 (.inl rfl) (fun _ _ _ => trivial) sz3 ag3 rfl rfl (vI r_1.X) rfl (wt rfl) ?_
    obtain ⟨r_5, hr_6, h_4⟩ := bind_some h_4
    refine h_call0 (kit_Outside_ok hr_6) rfl hb82 rfl rfl rfl rfl (wt rfl) ?_
    rcases cond_some h_4 with ⟨hc_7, h_4⟩ | ⟨hc_7, h_4⟩
    · refine h_movb rfl hc_7 (wt rfl) ?_
      refine h_skip (wg rfl rfl rfl) ?_
      refine h_skip (wg rfl rfl rfl) ?_
      refine h_skip (wg rfl rfl rfl) ?_
      refine h_op (vB true) (wt rfl) rfl ?_
      refine h_nil ?_
      replace h_4 := some_inj h_4
      subst h_4
      exact cut_mk () trivial rfl rfl
    · refine h_movb rfl hc_7 (wt rfl) ?_
      refine h_far pl92_1 rfl 1 rfl (wg rfl rfl rfl) ?_
      refine h_ldr 0 0 (.inl rfl) (fun _ _ _ => trivial) sz3 ag3 rfl rfl (vI r_1.Y) rfl (wg rfl rfl rfl) ?_
      obtain ⟨r_8, hr_9, h_4⟩ := bind_some h_4
      refine h_call0 (kit_Outside_ok hr_9) rfl hb82 rfl rfl rfl rfl (wg rfl rfl rfl) ?_
      refine h_op (vB r_8) (wt rfl) rfl ?_
      refine h_nil ?_
      replace h_4 := some_inj h_4
      subst h_4
      exact cut_mk () trivial rfl rfl
  · rintro ⟨⟩ _ sl_ H_ hp_ hq_
    refine wH_at _ hp_ hq_ ?_
    rcases cond_some hF with ⟨hc_10, hF⟩ | ⟨hc_10, hF⟩
    · refine wH_ift rfl hc_10 ?_
      refine wH_seq ?_
      refine wH_region ?_
      refine h_op (vI 1) (wt rfl) rfl ?_
      refine h_nil ?_
      replace hF := some_inj hF
      subst hF
      refine wH_ret ?_
      exact fin0 (.inr rfl) [(vI 1)] ⟨rfl, trivial⟩ rfl rfl rfl
    · refine wH_iff rfl hc_10 ?_
      refine wH_skip ?_
      refine wH_seq ?_
      refine wH_seq ?_
      obtain ⟨v_11, h_12, hF⟩ := bind_some hF
      refine wH_join (β := Unit) (fun _ => ([(24, (vB v_11))] : List (Nat × V))) (fun _ => ([(n_2, some (.cells 4 [(vI r_1.X), (vI r_1.Y), (vI r_1.W), (vI r_1.H)]))] : Hp)) (fun _ => True) ?_ ?_
      · refine wH_region ?_
        refine h_far pl92_2 rfl 2 rfl (wt rfl) ?_
        refine h_ldr 0 0 (.inl rfl) (fun _ _ _ => trivial) sz3 ag3 rfl rfl (vI r_1.W) rfl (wt rfl) ?_
        refine h_far pl92_0 rfl 0 rfl (wt rfl) ?_
        refine h_ldr 0 0 (.inl rfl) (fun _ _ _ => trivial) sz3 ag3 rfl rfl (vI r_1.X) rfl (wt rfl) ?_
        refine h_op (vI (w64 (100000 - r_1.X))) (wt rfl) rfl ?_
        obtain ⟨r_13, hr_14, h_12⟩ := bind_some h_12
        refine h_call0 (kit_Outside_ok hr_14) rfl hb82 rfl rfl rfl rfl (wt rfl) ?_
        rcases cond_some h_12 with ⟨hc_15, h_12⟩ | ⟨hc_15, h_12⟩
        · refine h_movb rfl hc_15 (wt rfl) ?_
          refine h_skip (wg rfl rfl rfl) ?_
          refine h_skip (wg rfl rfl rfl) ?_
          refine h_skip (wg rfl rfl rfl) ?_
          refine h_skip (wg rfl rfl rfl) ?_
          refine h_skip (wg rfl rfl rfl) ?_
          refine h_skip (wg rfl rfl rfl) ?_
          refine h_op (vB true) (wt rfl) rfl ?_
          refine h_nil ?_
          replace h_12 := some_inj h_12
          subst h_12
          exact cut_mk () trivial rfl rfl
        · refine h_movb rfl hc_15 (wt rfl) ?_
          refine h_far pl92_3 rfl 3 rfl (wg rfl rfl rfl) ?_
          refine h_ldr 0 0 (.inl rfl) (fun _ _ _ => trivial) sz3 ag3 rfl rfl (vI r_1.H) rfl (wg rfl rfl rfl) ?_
          refine h_far pl92_1 rfl 1 rfl (wg rfl rfl rfl) ?_
          refine h_ldr 0 0 (.inl rfl) (fun _ _ _ => trivial) sz3 ag3 rfl rfl (vI r_1.Y) rfl (wg rfl rfl rfl) ?_
          refine h_op (vI (w64 (100000 - r_1.Y))) (wg rfl rfl rfl) rfl ?_
          obtain ⟨r_16, hr_17, h_12⟩ := bind_some h_12
          refine h_call0 (kit_Outside_ok hr_17) rfl hb82 rfl rfl rfl rfl (wg rfl rfl rfl) ?_
          refine h_op (vB r_16) (wt rfl) rfl ?_
          refine h_nil ?_
          replace h_12 := some_inj h_12
          subst h_12
          exact cut_mk () trivial rfl rfl
      · rintro ⟨⟩ _ sl_ H_ hp_ hq_
        refine wH_at _ hp_ hq_ ?_
        rcases cond_some hF with ⟨hc_18, hF⟩ | ⟨hc_18, hF⟩
        · refine wH_ift rfl hc_18 ?_
          refine wH_seq ?_
          refine wH_region ?_
          refine h_op (vI 1) (wt rfl) rfl ?_
          refine h_nil ?_
          replace hF := some_inj hF
          subst hF
          refine wH_ret ?_
          exact fin0 (.inr rfl) [(vI 1)] ⟨rfl, trivial⟩ rfl rfl rfl
        · refine wH_iff rfl hc_18 ?_
          refine wH_skip ?_
          refine wH_seq ?_
          refine wH_region ?_
          refine h_op (vI 0) (wt rfl) rfl ?_
          refine h_nil ?_
          replace hF := some_inj hF
          subst hF
          refine wH_ret ?_
          exact fin0 (.inr rfl) [(vI 0)] ⟨rfl, trivial⟩ rfl rfl rfl
theorem screen_isSide_ok {n_1 : Int} {r : Bool} (hF : screen_isSide n_1 = some r) :
    FnM Try.prog 138 [(vI n_1)] [] (vB r) [] := by
  refine FnM.of_wH ⟨Try.prog, 6, [], []⟩ rfl Try.func138 rfl rfl (Nat.le_of_ble_eq_true rfl) (by kernel_rfl) ?_
  unfold screen_isSide at hF
  refine wH_seq ?_
  refine wH_region ?_
  refine h_op (vB false) (wt rfl) rfl ?_
  refine h_nil ?_
  refine wH_seq ?_
  refine wH_region ?_
  refine h_op (vI n_1) (wt rfl) rfl ?_
  obtain ⟨r_2, hr_3, hF⟩ := bind_some hF
  refine h_call0 (kit_Outside_ok hr_3) rfl hb82 rfl rfl rfl rfl (wt rfl) ?_
  refine h_op (vB (!r_2)) (wt rfl) rfl ?_
  refine h_op (vB (!r_2)) (wt rfl) rfl ?_
  refine h_nil ?_
  replace hF := some_inj hF
  subst hF
  refine wH_ret ?_
  exact fin0 (.inr rfl) [(vB (!r_2))] ⟨rfl, trivial⟩ rfl rfl rfl
theorem screen_inside_ok {r_1 : Rect} {wv_2 : Int} {h_3 : Int} {r : Bool} (hF : screen_inside r_1 wv_2 h_3 = some r) :
    FnM Try.prog 139 [(.d (.agg (Rect.enc r_1))), (vI wv_2), (vI h_3)] [] (vB r) [] := by
  refine FnM.of_wH ⟨Try.prog, 33, [], []⟩ rfl Try.func139 rfl rfl (Nat.le_of_ble_eq_true rfl) (by kernel_rfl) ?_
  unfold screen_inside at hF
  refine wH_seq ?_
  refine wH_region ?_
  refine h_box 0 (.inl rfl) [(vI r_1.X), (vI r_1.Y), (vI r_1.W), (vI r_1.H)] rfl rfl (wt rfl) (fun n_4 => ?_)
  refine h_op (vB false) (wt rfl) rfl ?_
  refine h_nil ?_
  refine wH_seq ?_
  obtain ⟨v_5, h_6, hF⟩ := bind_some hF
  refine wH_join (β := Unit) (fun _ => ([(6, (vB v_5))] : List (Nat × V))) (fun _ => ([(n_4, some (.cells 4 [(vI r_1.X), (vI r_1.Y), (vI r_1.W), (vI r_1.H)]))] : Hp)) (fun _ => True) ?_ ?_
  · refine wH_region ?_
    refine h_far pl92_0 rfl 0 rfl (wt rfl) ?_
    refine h_ldr 0 0 (.inl rfl) (fun _ _ _ => trivial) sz3 ag3 rfl rfl (vI r_1.X) rfl (wt rfl) ?_
    refine h_op (vB (decide (r_1.X ≥ 0))) (wt rfl) rfl ?_
    rcases cond_some h_6 with ⟨hc_7, h_6⟩ | ⟨hc_7, h_6⟩
    · refine h_movb rfl hc_7 (wt rfl) ?_
      refine h_far pl92_1 rfl 1 rfl (wg rfl rfl rfl) ?_
      refine h_ldr 0 0 (.inl rfl) (fun _ _ _ => trivial) sz3 ag3 rfl rfl (vI r_1.Y) rfl (wg rfl rfl rfl) ?_
      refine h_op (vB (decide (r_1.Y ≥ 0))) (wg rfl rfl rfl) rfl ?_
      refine h_op (vB (decide (r_1.Y ≥ 0))) (wt rfl) rfl ?_
      rcases cond_some h_6 with ⟨hc_8, h_6⟩ | ⟨hc_8, h_6⟩
      · refine h_movb rfl hc_8 (wt rfl) ?_
        refine h_far pl92_0 rfl 0 rfl (wg rfl rfl rfl) ?_
        refine h_ldr 0 0 (.inl rfl) (fun _ _ _ => trivial) sz3 ag3 rfl rfl (vI r_1.X) rfl (wg rfl rfl rfl) ?_
        refine h_far pl92_2 rfl 2 rfl (wg rfl rfl rfl) ?_
        refine h_ldr 0 0 (.inl rfl) (fun _ _ _ => trivial) sz3 ag3 rfl rfl (vI r_1.W) rfl (wg rfl rfl rfl) ?_
        refine h_op (vI (w64 (r_1.X + r_1.W))) (wg rfl rfl rfl) rfl ?_
        refine h_op (vI wv_2) (wg rfl rfl rfl) rfl ?_
        refine h_op (vB (decide ((w64 (r_1.X + r_1.W)) ≤ wv_2))) (wg rfl rfl rfl) rfl ?_
        refine h_op (vB (decide ((w64 (r_1.X + r_1.W)) ≤ wv_2))) (wt rfl) rfl ?_
        rcases cond_some h_6 with ⟨hc_9, h_6⟩ | ⟨hc_9, h_6⟩
        · refine h_movb rfl hc_9 (wt rfl) ?_
          refine h_far pl92_1 rfl 1 rfl (wg rfl rfl rfl) ?_
          refine h_ldr 0 0 (.inl rfl) (fun _ _ _ => trivial) sz3 ag3 rfl rfl (vI r_1.Y) rfl (wg rfl rfl rfl) ?_
          refine h_far pl92_3 rfl 3 rfl (wg rfl rfl rfl) ?_
          refine h_ldr 0 0 (.inl rfl) (fun _ _ _ => trivial) sz3 ag3 rfl rfl (vI r_1.H) rfl (wg rfl rfl rfl) ?_
          refine h_op (vI (w64 (r_1.Y + r_1.H))) (wg rfl rfl rfl) rfl ?_
          refine h_op (vI h_3) (wg rfl rfl rfl) rfl ?_
          refine h_op (vB (decide ((w64 (r_1.Y + r_1.H)) ≤ h_3))) (wg rfl rfl rfl) rfl ?_
          refine h_op (vB (decide ((w64 (r_1.Y + r_1.H)) ≤ h_3))) (wt rfl) rfl ?_
          refine h_op (vB (decide ((w64 (r_1.Y + r_1.H)) ≤ h_3))) (wt rfl) rfl ?_
          refine h_nil ?_
          replace h_6 := some_inj h_6
          subst h_6
          exact cut_mk () trivial rfl rfl
        · refine h_movb rfl hc_9 (wt rfl) ?_
          refine h_skip (wg rfl rfl rfl) ?_
          refine h_skip (wg rfl rfl rfl) ?_
          refine h_skip (wg rfl rfl rfl) ?_
          refine h_skip (wg rfl rfl rfl) ?_
          refine h_skip (wg rfl rfl rfl) ?_
          refine h_skip (wg rfl rfl rfl) ?_
          refine h_skip (wg rfl rfl rfl) ?_
          refine h_op (vB false) (wt rfl) rfl ?_
          refine h_op (vB false) (wt rfl) rfl ?_
          refine h_nil ?_
          replace h_6 := some_inj h_6
          subst h_6
          exact cut_mk () trivial rfl rfl
      · refine h_movb rfl hc_8 (wt rfl) ?_
        refine h_skip (wg rfl rfl rfl) ?_
        refine h_skip (wg rfl rfl rfl) ?_
        refine h_skip (wg rfl rfl rfl) ?_
        refine h_skip (wg rfl rfl rfl) ?_
        refine h_skip (wg rfl rfl rfl) ?_
        refine h_skip (wg rfl rfl rfl) ?_
        refine h_skip (wg rfl rfl rfl) ?_
        refine h_op (vB false) (wt rfl) rfl ?_
        refine h_op (vB false) (wt rfl) rfl ?_
        refine h_skip (wg rfl rfl rfl) ?_
        refine h_skip (wg rfl rfl rfl) ?_
        refine h_skip (wg rfl rfl rfl) ?_
        refine h_skip (wg rfl rfl rfl) ?_
        refine h_skip (wg rfl rfl rfl) ?_
        refine h_skip (wg rfl rfl rfl) ?_
        refine h_skip (wg rfl rfl rfl) ?_
        refine h_op (vB false) (wt rfl) rfl ?_
        refine h_op (vB false) (wt rfl) rfl ?_
        refine h_nil ?_
        replace h_6 := some_inj h_6
        subst h_6
        exact cut_mk () trivial rfl rfl
    · refine h_movb rfl hc_7 (wt rfl) ?_
      refine h_skip (wg rfl rfl rfl) ?_
      refine h_skip (wg rfl rfl rfl) ?_
      refine h_skip (wg rfl rfl rfl) ?_
      refine h_op (vB false) (wt rfl) rfl ?_
      refine h_op (vB false) (wt rfl) rfl ?_
      refine h_skip (wg rfl rfl rfl) ?_
      refine h_skip (wg rfl rfl rfl) ?_
      refine h_skip (wg rfl rfl rfl) ?_
      refine h_skip (wg rfl rfl rfl) ?_
      refine h_skip (wg rfl rfl rfl) ?_
      refine h_skip (wg rfl rfl rfl) ?_
      refine h_skip (wg rfl rfl rfl) ?_
      refine h_op (vB false) (wt rfl) rfl ?_
      refine h_op (vB false) (wt rfl) rfl ?_
      refine h_skip (wg rfl rfl rfl) ?_
      refine h_skip (wg rfl rfl rfl) ?_
      refine h_skip (wg rfl rfl rfl) ?_
      refine h_skip (wg rfl rfl rfl) ?_
      refine h_skip (wg rfl rfl rfl) ?_
      refine h_skip (wg rfl rfl rfl) ?_
      refine h_skip (wg rfl rfl rfl) ?_
      refine h_op (vB false) (wt rfl) rfl ?_
      refine h_op (vB false) (wt rfl) rfl ?_
      refine h_nil ?_
      replace h_6 := some_inj h_6
      subst h_6
      exact cut_mk () trivial rfl rfl
  · rintro ⟨⟩ _ sl_ H_ hp_ hq_
    refine wH_at _ hp_ hq_ ?_
    replace hF := some_inj hF
    subst hF
    refine wH_ret ?_
    exact fin0 (.inr rfl) [(vB v_5)] ⟨rfl, trivial⟩ rfl rfl rfl
theorem screen_Turned_ok {r_1 : Rect} {wv_2 : Int} {h_3 : Int} {quarters_4 : Int} {r : Rect × Int} (hF : screen_Turned r_1 wv_2 h_3 quarters_4 = some r) :
    FnM Try.prog 68 [(.d (.agg (Rect.enc r_1))), (vI wv_2), (vI h_3), (vI quarters_4)] [] (.tup [(.d (.agg (Rect.enc r.1))), (vI r.2)]) [] := by
  refine FnM.of_wH ⟨Try.prog, 57, [], []⟩ rfl Try.func68 rfl rfl (Nat.le_of_ble_eq_true rfl) (by kernel_rfl) ?_
  unfold screen_Turned at hF
  refine wH_seq ?_
  refine wH_region ?_
  refine h_box 0 (.inl rfl) [(vI r_1.X), (vI r_1.Y), (vI r_1.W), (vI r_1.H)] rfl rfl (wt rfl) (fun n_5 => ?_)
  refine h_alloc 0 (.inl rfl) z92 rfl (wt rfl) (fun n_6 => ?_)
  refine h_op (vI 0) (wt rfl) rfl ?_
  refine h_nil ?_
  refine wH_seq ?_
  refine wH_seq ?_
  refine wH_region ?_
  refine h_ldr 0 0 (.inl rfl) (fun _ _ _ => trivial) sz92 ag92 rfl rfl (.d (.agg (Rect.enc r_1))) rfl (wt rfl) ?_
  obtain ⟨r_7, hr_8, hF⟩ := bind_some hF
  refine h_call0 (screen_CheckRect_ok hr_8) rfl hb57 rfl rfl rfl rfl (wt rfl) ?_
  refine h_op (vI r_7) (wt rfl) rfl ?_
  refine h_nil ?_
  refine wH_seq ?_
  refine wH_region ?_
  refine h_op (vI r_7) (wt rfl) rfl ?_
  refine h_op (vB (r_7 != 0)) (wt rfl) rfl ?_
  refine h_nil ?_
  rcases cond_some hF with ⟨hc_9, hF⟩ | ⟨hc_9, hF⟩
  · refine wH_ift rfl hc_9 ?_
    refine wH_seq ?_
    refine wH_region ?_
    refine h_op (.d (.agg (Rect.enc (⟨0, 0, 0, 0⟩ : Rect)))) (wt rfl) (by kernel_rfl) ?_
    refine h_op (vI r_7) (wt rfl) rfl ?_
    refine h_str 0 (.inl rfl) (fun _ _ _ => trivial) 1 sz92 rfl rfl [(vI 0), (vI 0), (vI 0), (vI 0)] rfl (wt rfl) ?_
    refine h_op (vI r_7) (wt rfl) rfl ?_
    refine h_nil ?_
    replace hF := some_inj hF
    subst hF
    refine wH_ret ?_
    exact fin0 (.inr rfl) [(.d (.agg (Rect.enc (⟨0, 0, 0, 0⟩ : Rect)))), (vI r_7)] ⟨⟨1, _, _, _, _, _, _, _, rfl, rfl, sz92, ag92, rfl⟩, ⟨rfl, trivial⟩⟩ rfl rfl rfl
  · refine wH_iff rfl hc_9 ?_
    refine wH_skip ?_
    refine wH_seq ?_
    refine wH_seq ?_
    obtain ⟨v_10, h_11, hF⟩ := bind_some hF
    refine wH_join (β := Unit) (fun _ => ([(1, (vI wv_2)), (2, (vI h_3)), (3, (vI quarters_4)), (4, (.ref n_5 0 0)), (8, (.ref n_6 0 0)), (28, (vB v_10))] : List (Nat × V))) (fun _ => ([(n_5, some (.cells 4 [(vI r_1.X), (vI r_1.Y), (vI r_1.W), (vI r_1.H)])), (n_6, some (.cells 4 [(vI 0), (vI 0), (vI 0), (vI 0)]))] : Hp)) (fun _ => True) ?_ ?_
    · refine wH_region ?_
      refine h_op (vI wv_2) (wt rfl) rfl ?_
      obtain ⟨r_12, hr_13, h_11⟩ := bind_some h_11
      refine h_call0 (screen_isSide_ok hr_13) rfl hb138 rfl rfl rfl rfl (wt rfl) ?_
      refine h_op (vB (!r_12)) (wt rfl) rfl ?_
      rcases cond_some h_11 with ⟨hc_14, h_11⟩ | ⟨hc_14, h_11⟩
      · refine h_movb rfl hc_14 (wt rfl) ?_
        refine h_skip (wg rfl rfl rfl) ?_
        refine h_skip (wg rfl rfl rfl) ?_
        refine h_skip (wg rfl rfl rfl) ?_
        refine h_op (vB true) (wt rfl) rfl ?_
        refine h_op (vB true) (wt rfl) rfl ?_
        refine h_skip (wg rfl rfl rfl) ?_
        refine h_skip (wg rfl rfl rfl) ?_
        refine h_op (vB true) (wt rfl) rfl ?_
        refine h_nil ?_
        replace h_11 := some_inj h_11
        subst h_11
        exact cut_mk () trivial rfl rfl
      · refine h_movb rfl hc_14 (wt rfl) ?_
        refine h_op (vI h_3) (wg rfl rfl rfl) rfl ?_
        obtain ⟨r_15, hr_16, h_11⟩ := bind_some h_11
        refine h_call0 (screen_isSide_ok hr_16) rfl hb138 rfl rfl rfl rfl (wg rfl rfl rfl) ?_
        refine h_op (vB (!r_15)) (wg rfl rfl rfl) rfl ?_
        refine h_op (vB (!r_15)) (wt rfl) rfl ?_
        rcases cond_some h_11 with ⟨hc_17, h_11⟩ | ⟨hc_17, h_11⟩
        · refine h_movb rfl hc_17 (wt rfl) ?_
          refine h_skip (wg rfl rfl rfl) ?_
          refine h_skip (wg rfl rfl rfl) ?_
          refine h_op (vB true) (wt rfl) rfl ?_
          refine h_nil ?_
          replace h_11 := some_inj h_11
          subst h_11
          exact cut_mk () trivial rfl rfl
        · refine h_movb rfl hc_17 (wt rfl) ?_
          refine h_op (vI quarters_4) (wg rfl rfl rfl) rfl ?_
          obtain ⟨r_18, hr_19, h_11⟩ := bind_some h_11
          refine h_call0 (kit_Outside_ok hr_19) rfl hb82 rfl rfl rfl rfl (wg rfl rfl rfl) ?_
          refine h_op (vB r_18) (wt rfl) rfl ?_
          refine h_nil ?_
          replace h_11 := some_inj h_11
          subst h_11
          exact cut_mk () trivial rfl rfl
    · rintro ⟨⟩ _ sl_ H_ hp_ hq_
      refine wH_at _ hp_ hq_ ?_
      rcases cond_some hF with ⟨hc_20, hF⟩ | ⟨hc_20, hF⟩
      · refine wH_ift rfl hc_20 ?_
        refine wH_seq ?_
        refine wH_region ?_
        refine h_op (.d (.agg (Rect.enc (⟨0, 0, 0, 0⟩ : Rect)))) (wt rfl) (by kernel_rfl) ?_
        refine h_str 0 (.inl rfl) (fun _ _ _ => trivial) 1 sz92 rfl rfl [(vI 0), (vI 0), (vI 0), (vI 0)] rfl (wt rfl) ?_
        refine h_op (vI 1) (wt rfl) rfl ?_
        refine h_nil ?_
        replace hF := some_inj hF
        subst hF
        refine wH_ret ?_
        exact fin0 (.inr rfl) [(.d (.agg (Rect.enc (⟨0, 0, 0, 0⟩ : Rect)))), (vI 1)] ⟨⟨1, _, _, _, _, _, _, _, rfl, rfl, sz92, ag92, rfl⟩, ⟨rfl, trivial⟩⟩ rfl rfl rfl
      · refine wH_iff rfl hc_20 ?_
        refine wH_skip ?_
        refine wH_seq ?_
        refine wH_seq ?_
        refine wH_region ?_
        refine h_ldr 0 0 (.inl rfl) (fun _ _ _ => trivial) sz92 ag92 rfl rfl (.d (.agg (Rect.enc r_1))) rfl (wt rfl) ?_
        refine h_op (vI wv_2) (wt rfl) rfl ?_
        refine h_op (vI h_3) (wt rfl) rfl ?_
        obtain ⟨r_21, hr_22, hF⟩ := bind_some hF
        refine h_call0 (screen_inside_ok hr_22) rfl hb139 rfl rfl rfl rfl (wt rfl) ?_
        refine h_op (vB (!r_21)) (wt rfl) rfl ?_
        refine h_nil ?_
        rcases cond_some hF with ⟨hc_23, hF⟩ | ⟨hc_23, hF⟩
        · refine wH_ift rfl hc_23 ?_
          refine wH_seq ?_
          refine wH_region ?_
          refine h_op (.d (.agg (Rect.enc (⟨0, 0, 0, 0⟩ : Rect)))) (wt rfl) (by kernel_rfl) ?_
          refine h_str 0 (.inl rfl) (fun _ _ _ => trivial) 1 sz92 rfl rfl [(vI 0), (vI 0), (vI 0), (vI 0)] rfl (wt rfl) ?_
          refine h_op (vI 3) (wt rfl) rfl ?_
          refine h_nil ?_
          replace hF := some_inj hF
          subst hF
          refine wH_ret ?_
          exact fin0 (.inr rfl) [(.d (.agg (Rect.enc (⟨0, 0, 0, 0⟩ : Rect)))), (vI 3)] ⟨⟨1, _, _, _, _, _, _, _, rfl, rfl, sz92, ag92, rfl⟩, ⟨rfl, trivial⟩⟩ rfl rfl rfl
        · refine wH_iff rfl hc_23 ?_
          refine wH_skip ?_
          refine wH_seq ?_
          refine wH_seq ?_
          refine wH_region ?_
          refine h_op (vI quarters_4) (wt rfl) rfl ?_
          refine h_op (vI 0) (wt rfl) rfl ?_
          refine h_nil ?_
          obtain ⟨o_32, hj_33, hF⟩ := bind_some hF
          obtain ⟨hn_28, hj_33⟩ := forL_some hj_33
          refine wH_join (β := (Int × Int × Int × Int × Int × Int)) (fun (s_29 : Int × Int × Int × Int × Int × Int) => ([(4, (.ref n_5 0 0)), (8, (.ref n_6 0 0))] : List (Nat × V))) (fun (s_29 : Int × Int × Int × Int × Int × Int) => ([(n_5, some (.cells 4 [(vI s_29.2.2.1), (vI s_29.2.2.2.1), (vI s_29.2.2.2.2.1), (vI s_29.2.2.2.2.2)])), (n_6, some (.cells 4 [(vI 0), (vI 0), (vI 0), (vI 0)]))] : Hp)) (fun p => o_32 = .go p) ?_ ?_
          · refine wH_block ?_
            refine wH_loop (β := Nat × (List Nat) × (Int × Int × Int × Int × Int × Int)) (fun p => (fun (k_24 : Nat) (l_25 : List Nat) (s_29 : Int × Int × Int × Int × Int × Int) => ([(1, (vI s_29.1)), (2, (vI s_29.2.1)), (4, (.ref n_5 0 0)), (8, (.ref n_6 0 0)), (36, (vI quarters_4)), (37, (vI (k_24 : Int)))] : List (Nat × V))) p.1 p.2.1 p.2.2) (fun p => (fun (k_24 : Nat) (l_25 : List Nat) (s_29 : Int × Int × Int × Int × Int × Int) => ([(n_5, some (.cells 4 [(vI s_29.2.2.1), (vI s_29.2.2.2.1), (vI s_29.2.2.2.2.1), (vI s_29.2.2.2.2.2)])), (n_6, some (.cells 4 [(vI 0), (vI 0), (vI 0), (vI 0)]))] : Hp)) p.1 p.2.1 p.2.2) (fun p => forR (fun k x s => screen_Turned_L1 k x s) p.2.1 p.1 p.2.2 = some o_32 ∧ ((List.range (quarters_4).toNat)).drop p.1 = p.2.1) (fun p => p.2.1.length) (0, (List.range (quarters_4).toNat), (wv_2, h_3, r_1.X, r_1.Y, r_1.W, r_1.H)) ⟨hj_33, rfl⟩ rfl rfl ?_
            rintro ⟨k_24, l_25, s_29⟩ ⟨hL_31, hD_27⟩
            dsimp only at hL_31 hD_27
            cases l_25 with
            | nil =>
              replace hL_31 := some_inj hL_31
              subst hL_31
              refine wH_seq (wH_region (h_op (vB (decide ((k_24 : Int) < quarters_4))) (wt rfl) rfl (h_nil ?_)))
              refine wH_seq (wH_iff rfl (range_nil hD_27) (wH_exit ?_))
              exact cut_mk (s_29) rfl rfl rfl
            | cons x_26 l_25 =>
              obtain ⟨c_, hc_30, hL_31⟩ := bind_some hL_31
              refine wH_seq (wH_region (h_op (vB (decide ((k_24 : Int) < quarters_4))) (wt rfl) rfl (h_nil ?_)))
              refine wH_seq (wH_ift rfl (range_cons hD_27) (wH_skip ?_))
              unfold screen_Turned_L1 at hc_30
              refine wH_seq ?_
              refine wH_block ?_
              refine wH_seq ?_
              refine wH_region ?_
              refine h_op (vI s_29.2.1) (wt rfl) rfl ?_
              refine h_far pl92_1 rfl 1 rfl (wt rfl) ?_
              refine h_ldr 0 0 (.inl rfl) (fun _ _ _ => trivial) sz3 ag3 rfl rfl (vI s_29.2.2.2.1) rfl (wt rfl) ?_
              refine h_op (vI (w64 (s_29.2.1 - s_29.2.2.2.1))) (wt rfl) rfl ?_
              refine h_far pl92_3 rfl 3 rfl (wt rfl) ?_
              refine h_ldr 0 0 (.inl rfl) (fun _ _ _ => trivial) sz3 ag3 rfl rfl (vI s_29.2.2.2.2.2) rfl (wt rfl) ?_
              refine h_op (vI (w64 ((w64 (s_29.2.1 - s_29.2.2.2.1)) - s_29.2.2.2.2.2))) (wt rfl) rfl ?_
              refine h_far pl92_0 rfl 0 rfl (wt rfl) ?_
              refine h_ldr 0 0 (.inl rfl) (fun _ _ _ => trivial) sz3 ag3 rfl rfl (vI s_29.2.2.1) rfl (wt rfl) ?_
              refine h_far pl92_3 rfl 3 rfl (wt rfl) ?_
              refine h_ldr 0 0 (.inl rfl) (fun _ _ _ => trivial) sz3 ag3 rfl rfl (vI s_29.2.2.2.2.2) rfl (wt rfl) ?_
              refine h_far pl92_2 rfl 2 rfl (wt rfl) ?_
              refine h_ldr 0 0 (.inl rfl) (fun _ _ _ => trivial) sz3 ag3 rfl rfl (vI s_29.2.2.2.2.1) rfl (wt rfl) ?_
              refine h_op (.d (.agg (Rect.enc (⟨(w64 ((w64 (s_29.2.1 - s_29.2.2.2.1)) - s_29.2.2.2.2.2)), s_29.2.2.1, s_29.2.2.2.2.2, s_29.2.2.2.2.1⟩ : Rect)))) (wt rfl) (by kernel_rfl) ?_
              refine h_str 0 (.inl rfl) (fun _ _ _ => trivial) 0 sz92 rfl rfl [(vI (w64 ((w64 (s_29.2.1 - s_29.2.2.2.1)) - s_29.2.2.2.2.2))), (vI s_29.2.2.1), (vI s_29.2.2.2.2.2), (vI s_29.2.2.2.2.1)] rfl (wt rfl) ?_
              refine h_nil ?_
              refine wH_region ?_
              refine h_op (vI s_29.2.1) (wt rfl) rfl ?_
              refine h_op (vI s_29.1) (wt rfl) rfl ?_
              refine h_op (vI s_29.2.1) (wt rfl) rfl ?_
              refine h_op (vI s_29.1) (wt rfl) rfl ?_
              refine h_nil ?_
              refine wH_region ?_
              refine h_opw (w64_nextr hD_27 hn_28) (wt rfl) rfl ?_
              refine h_op (vI ((k_24 + 1 : Nat) : Int)) (wt rfl) rfl ?_
              refine h_nil ?_
              replace hc_30 := some_inj hc_30
              subst hc_30
              exact loop_mk (k_24 + 1, l_25, (s_29.2.1, s_29.1, (w64 ((w64 (s_29.2.1 - s_29.2.2.2.1)) - s_29.2.2.2.2.2)), s_29.2.2.1, s_29.2.2.2.2.2, s_29.2.2.2.2.1)) ⟨hL_31, drop_next hD_27⟩ (Nat.lt_succ_self _) rfl rfl
          · rintro s_29 ho_ sl_ H_ hp_ hq_
            subst ho_
            refine wH_at _ hp_ hq_ ?_
            refine wH_seq ?_
            refine wH_region ?_
            refine h_ldr 0 0 (.inl rfl) (fun _ _ _ => trivial) sz92 ag92 rfl rfl (.d (.agg (Rect.enc (⟨s_29.2.2.1, s_29.2.2.2.1, s_29.2.2.2.2.1, s_29.2.2.2.2.2⟩ : Rect)))) rfl (wt rfl) ?_
            refine h_str 0 (.inl rfl) (fun _ _ _ => trivial) 1 sz92 rfl rfl [(vI s_29.2.2.1), (vI s_29.2.2.2.1), (vI s_29.2.2.2.2.1), (vI s_29.2.2.2.2.2)] rfl (wt rfl) ?_
            refine h_op (vI 0) (wt rfl) rfl ?_
            refine h_nil ?_
            replace hF := some_inj hF
            subst hF
            refine wH_ret ?_
            exact fin0 (.inr rfl) [(.d (.agg (Rect.enc (⟨s_29.2.2.1, s_29.2.2.2.1, s_29.2.2.2.2.1, s_29.2.2.2.2.2⟩ : Rect)))), (vI 0)] ⟨⟨1, _, _, _, _, _, _, _, rfl, rfl, sz92, ag92, rfl⟩, ⟨rfl, trivial⟩⟩ rfl rfl rfl
theorem screen_sidesFault_ok {l_1 : (List Int)} {r : Int} (hF : screen_sidesFault l_1 = some r) :
    FnM Try.prog 140 [(vL eI l_1)] [] (vI r) [] := by
  refine FnM.of_wH ⟨Try.prog, 15, [], []⟩ rfl Try.func140 rfl rfl (Nat.le_of_ble_eq_true rfl) (by kernel_rfl) ?_
  unfold screen_sidesFault at hF
  refine wH_seq ?_
  refine wH_region ?_
  refine h_op (vI 0) (wt rfl) rfl ?_
  refine h_nil ?_
  refine wH_seq ?_
  refine wH_seq ?_
  refine wH_region ?_
  refine h_op (vL eI l_1) (wt rfl) rfl ?_
  refine h_len un22 rfl (wt rfl) ?_
  refine h_op (vI 0) (wt rfl) rfl ?_
  refine h_nil ?_
  obtain ⟨o_10, hj_11, hF⟩ := bind_some hF
  obtain ⟨hn_6, hj_11⟩ := forL_some hj_11
  refine wH_join (β := (Unit)) (fun (s_7 : Unit) => ([] : List (Nat × V))) (fun (s_7 : Unit) => ([] : Hp)) (fun p => o_10 = .go p) ?_ ?_
  · refine wH_block ?_
    refine wH_loop (β := Nat × (List Int) × (Unit)) (fun p => (fun (k_2 : Nat) (l_3 : List Int) (s_7 : Unit) => ([(5, (vL eI l_1)), (6, (vI (l_1.length : Int))), (7, (vI (k_2 : Int)))] : List (Nat × V))) p.1 p.2.1 p.2.2) (fun p => (fun (k_2 : Nat) (l_3 : List Int) (s_7 : Unit) => ([] : Hp)) p.1 p.2.1 p.2.2) (fun p => forR (fun k x s => screen_sidesFault_L1 k x s) p.2.1 p.1 p.2.2 = some o_10 ∧ (l_1).drop p.1 = p.2.1) (fun p => p.2.1.length) (0, l_1, ()) ⟨hj_11, rfl⟩ rfl rfl ?_
    rintro ⟨k_2, l_3, s_7⟩ ⟨hL_9, hD_5⟩
    dsimp only at hL_9 hD_5
    cases l_3 with
    | nil =>
      replace hL_9 := some_inj hL_9
      subst hL_9
      refine wH_seq (wH_region (h_op (vB (decide ((k_2 : Int) < (l_1.length : Int)))) (wt rfl) rfl (h_nil ?_)))
      refine wH_seq (wH_iff rfl (drop_nil hD_5) (wH_exit ?_))
      exact cut_mk (s_7) rfl rfl rfl
    | cons x_4 l_3 =>
      obtain ⟨c_, hc_8, hL_9⟩ := bind_some hL_9
      refine wH_seq (wH_region (h_op (vB (decide ((k_2 : Int) < (l_1.length : Int)))) (wt rfl) rfl (h_nil ?_)))
      refine wH_seq (wH_ift rfl (drop_cons hD_5) (wH_skip ?_))
      unfold screen_sidesFault_L1 at hc_8
      refine wH_seq ?_
      refine wH_block ?_
      refine wH_seq ?_
      refine wH_region ?_
      refine h_ia es22 rfl rfl (drop_idx hD_5) rfl (wt rfl) ?_
      refine h_ldc sz3 ag3 rfl (vI x_4) rfl (wt rfl) ?_
      refine h_op (vI x_4) (wt rfl) rfl ?_
      refine h_nil ?_
      refine wH_seq ?_
      refine wH_region ?_
      refine h_op (vI x_4) (wt rfl) rfl ?_
      obtain ⟨r_12, hr_13, hc_8⟩ := bind_some hc_8
      refine h_call0 (screen_isSide_ok hr_13) rfl hb138 rfl rfl rfl rfl (wt rfl) ?_
      refine h_op (vB (!r_12)) (wt rfl) rfl ?_
      refine h_nil ?_
      rcases cond_some hc_8 with ⟨hc_14, hc_8⟩ | ⟨hc_14, hc_8⟩
      · refine wH_ift rfl hc_14 ?_
        refine wH_seq ?_
        refine wH_region ?_
        refine h_op (vI 1) (wt rfl) rfl ?_
        refine h_nil ?_
        replace hc_8 := some_inj hc_8
        subst hc_8
        replace hL_9 := some_inj hL_9
        subst hL_9
        replace hF := some_inj hF
        subst hF
        refine wH_ret ?_
        exact fin0 (.inr rfl) [(vI 1)] ⟨rfl, trivial⟩ rfl rfl rfl
      · refine wH_iff rfl hc_14 ?_
        refine wH_skip ?_
        refine wH_region ?_
        refine h_opw (w64_next hD_5 hn_6) (wt rfl) rfl ?_
        refine h_op (vI ((k_2 + 1 : Nat) : Int)) (wt rfl) rfl ?_
        refine h_nil ?_
        replace hc_8 := some_inj hc_8
        subst hc_8
        exact loop_mk (k_2 + 1, l_3, ()) ⟨hL_9, drop_next hD_5⟩ (Nat.lt_succ_self _) rfl rfl
  · rintro s_7 ho_ sl_ H_ hp_ hq_
    subst ho_
    refine wH_at _ hp_ hq_ ?_
    refine wH_seq ?_
    refine wH_region ?_
    refine h_op (vI 0) (wt rfl) rfl ?_
    refine h_nil ?_
    replace hF := some_inj hF
    subst hF
    refine wH_ret ?_
    exact fin0 (.inr rfl) [(vI 0)] ⟨rfl, trivial⟩ rfl rfl rfl
theorem screen_scale_ok {r_1 : Rect} {wv_2 : Int} {h_3 : Int} {toW_4 : Int} {toH_5 : Int} {r : Rect} (hF : screen_scale r_1 wv_2 h_3 toW_4 toH_5 = some r) :
    FnM Try.prog 141 [(.d (.agg (Rect.enc r_1))), (vI wv_2), (vI h_3), (vI toW_4), (vI toH_5)] [] (.d (.agg (Rect.enc r))) [] := by
  refine FnM.of_wH ⟨Try.prog, 61, [], []⟩ rfl Try.func141 rfl rfl (Nat.le_of_ble_eq_true rfl) (by kernel_rfl) ?_
  unfold screen_scale at hF
  refine wH_seq ?_
  refine wH_region ?_
  refine h_box 0 (.inl rfl) [(vI r_1.X), (vI r_1.Y), (vI r_1.W), (vI r_1.H)] rfl rfl (wt rfl) (fun n_6 => ?_)
  refine h_alloc 0 (.inl rfl) z92 rfl (wt rfl) (fun n_7 => ?_)
  refine h_nil ?_
  refine wH_seq ?_
  refine wH_draws ?_
  refine h_far pl92_0 rfl 0 rfl (wt rfl) ?_
  refine h_ldr 1 0 (.inr (by kernel_rfl)) (fun _ _ ag => trivial) sz3 ag3 rfl rfl (vI r_1.X) rfl (wt rfl) ?_
  refine h_op (vI toW_4) (wt rfl) rfl ?_
  refine h_op (vI (w64 (r_1.X * toW_4))) (wt rfl) rfl ?_
  refine h_op (vI wv_2) (wt rfl) rfl ?_
  obtain ⟨q_8, hz_9, hF⟩ := bind_some hF
  refine h_quo rfl rfl hz_9 (wt rfl) ?_
  refine h_far pl92_1 rfl 1 rfl (wt rfl) ?_
  refine h_ldr 7 0 (.inr (by kernel_rfl)) (fun _ _ ag => ⟨.inl ⟨rfl, rfl⟩, trivial⟩) sz3 ag3 rfl rfl (vI r_1.Y) rfl (wt rfl) ?_
  refine h_op (vI toH_5) (wt rfl) rfl ?_
  refine h_op (vI (w64 (r_1.Y * toH_5))) (wt rfl) rfl ?_
  refine h_op (vI h_3) (wt rfl) rfl ?_
  obtain ⟨q_10, hz_11, hF⟩ := bind_some hF
  refine h_quo rfl rfl hz_11 (wt rfl) ?_
  refine h_op (vI q_8) (wt rfl) rfl ?_
  refine h_op (vI q_10) (wt rfl) rfl ?_
  refine h_nil ?_
  refine wH_seq ?_
  refine wH_draws ?_
  refine h_op (vI q_8) (wt rfl) rfl ?_
  refine h_op (vI q_10) (wt rfl) rfl ?_
  refine h_far pl92_0 rfl 0 rfl (wt rfl) ?_
  refine h_ldr 3 0 (.inr (by kernel_rfl)) (fun _ _ ag => trivial) sz3 ag3 rfl rfl (vI r_1.X) rfl (wt rfl) ?_
  refine h_far pl92_2 rfl 2 rfl (wt rfl) ?_
  refine h_ldr 5 0 (.inr (by kernel_rfl)) (fun _ _ ag => ⟨.inl ⟨rfl, rfl⟩, trivial⟩) sz3 ag3 rfl rfl (vI r_1.W) rfl (wt rfl) ?_
  refine h_op (vI (w64 (r_1.X + r_1.W))) (wt rfl) rfl ?_
  refine h_op (vI toW_4) (wt rfl) rfl ?_
  refine h_op (vI (w64 ((w64 (r_1.X + r_1.W)) * toW_4))) (wt rfl) rfl ?_
  refine h_op (vI wv_2) (wt rfl) rfl ?_
  obtain ⟨q_12, hz_13, hF⟩ := bind_some hF
  refine h_quo rfl rfl hz_13 (wt rfl) ?_
  refine h_op (vI q_8) (wt rfl) rfl ?_
  refine h_op (vI (w64 (q_12 - q_8))) (wt rfl) rfl ?_
  refine h_far pl92_1 rfl 1 rfl (wt rfl) ?_
  refine h_ldr 14 0 (.inr (by kernel_rfl)) (fun _ _ ag => ⟨.inl ⟨rfl, rfl⟩, ⟨.inl ⟨rfl, rfl⟩, trivial⟩⟩) sz3 ag3 rfl rfl (vI r_1.Y) rfl (wt rfl) ?_
  refine h_far pl92_3 rfl 3 rfl (wt rfl) ?_
  refine h_ldr 16 0 (.inr (by kernel_rfl)) (fun _ _ ag => ⟨.inl ⟨rfl, rfl⟩, ⟨.inl ⟨rfl, rfl⟩, ⟨.inl ⟨rfl, rfl⟩, trivial⟩⟩⟩) sz3 ag3 rfl rfl (vI r_1.H) rfl (wt rfl) ?_
  refine h_op (vI (w64 (r_1.Y + r_1.H))) (wt rfl) rfl ?_
  refine h_op (vI toH_5) (wt rfl) rfl ?_
  refine h_op (vI (w64 ((w64 (r_1.Y + r_1.H)) * toH_5))) (wt rfl) rfl ?_
  refine h_op (vI h_3) (wt rfl) rfl ?_
  obtain ⟨q_14, hz_15, hF⟩ := bind_some hF
  refine h_quo rfl rfl hz_15 (wt rfl) ?_
  refine h_op (vI q_10) (wt rfl) rfl ?_
  refine h_op (vI (w64 (q_14 - q_10))) (wt rfl) rfl ?_
  refine h_op (.d (.agg (Rect.enc (⟨q_8, q_10, (w64 (q_12 - q_8)), (w64 (q_14 - q_10))⟩ : Rect)))) (wt rfl) (by kernel_rfl) ?_
  refine h_alloc 25 (.inr (by kernel_rfl)) z92 rfl (wt rfl) (fun n_16 => ?_)
  refine h_str 26 (.inr (by kernel_rfl)) (fun _ _ ag => ⟨.inr (.inr (by kernel_rfl)), ⟨.inr (.inr (by kernel_rfl)), ⟨.inr (.inr (by kernel_rfl)), ⟨.inr (.inr (by kernel_rfl)), ⟨.inr (.inr (by kernel_rfl)), trivial⟩⟩⟩⟩⟩) 2 sz92 rfl rfl [(vI q_8), (vI q_10), (vI (w64 (q_12 - q_8))), (vI (w64 (q_14 - q_10)))] rfl (wt rfl) ?_
  refine h_nil ?_
  refine wH_at (H0 := ([(n_6, some (.cells 4 [(vI r_1.X), (vI r_1.Y), (vI r_1.W), (vI r_1.H)])), (n_7, some (.cells 4 [(vI 0), (vI 0), (vI 0), (vI 0)])), (n_16, some (.cells 4 [(vI q_8), (vI q_10), (vI (w64 (q_12 - q_8))), (vI (w64 (q_14 - q_10)))]))] : Hp)) ([(10, (.ref n_7 0 0)), (13, (.ref n_16 0 0))] : List (Nat × V)) (by kernel_rfl) (pre_mk (by kernel_rfl)) ?_
  refine wH_seq ?_
  refine wH_seq ?_
  obtain ⟨v_17, h_18, hF⟩ := bind_some hF
  refine wH_join (β := Unit) (fun _ => ([(10, (.ref n_7 0 0)), (13, (.ref n_16 0 0)), (58, (vB v_17))] : List (Nat × V))) (fun _ => ([(n_6, some (.cells 4 [(vI r_1.X), (vI r_1.Y), (vI r_1.W), (vI r_1.H)])), (n_7, some (.cells 4 [(vI 0), (vI 0), (vI 0), (vI 0)])), (n_16, some (.cells 4 [(vI q_8), (vI q_10), (vI (w64 (q_12 - q_8))), (vI (w64 (q_14 - q_10)))]))] : Hp)) (fun _ => True) ?_ ?_
  · refine wH_region ?_
    refine h_far pl92_2 rfl 2 rfl (wt rfl) ?_
    refine h_ldr 0 2 (.inl rfl) (fun _ _ _ => trivial) sz3 ag3 rfl rfl (vI (w64 (q_12 - q_8))) rfl (wt rfl) ?_
    refine h_op (vB ((w64 (q_12 - q_8)) == 0)) (wt rfl) rfl ?_
    rcases cond_some h_18 with ⟨hc_19, h_18⟩ | ⟨hc_19, h_18⟩
    · refine h_movb rfl hc_19 (wt rfl) ?_
      refine h_skip (wg rfl rfl rfl) ?_
      refine h_skip (wg rfl rfl rfl) ?_
      refine h_skip (wg rfl rfl rfl) ?_
      refine h_op (vB true) (wt rfl) rfl ?_
      refine h_nil ?_
      replace h_18 := some_inj h_18
      subst h_18
      exact cut_mk () trivial rfl rfl
    · refine h_movb rfl hc_19 (wt rfl) ?_
      refine h_far pl92_3 rfl 3 rfl (wg rfl rfl rfl) ?_
      refine h_ldr 0 2 (.inl rfl) (fun _ _ _ => trivial) sz3 ag3 rfl rfl (vI (w64 (q_14 - q_10))) rfl (wg rfl rfl rfl) ?_
      refine h_op (vB ((w64 (q_14 - q_10)) == 0)) (wg rfl rfl rfl) rfl ?_
      refine h_op (vB ((w64 (q_14 - q_10)) == 0)) (wt rfl) rfl ?_
      refine h_nil ?_
      replace h_18 := some_inj h_18
      subst h_18
      exact cut_mk () trivial rfl rfl
  · rintro ⟨⟩ _ sl_ H_ hp_ hq_
    refine wH_at _ hp_ hq_ ?_
    rcases cond_some hF with ⟨hc_20, hF⟩ | ⟨hc_20, hF⟩
    · refine wH_ift rfl hc_20 ?_
      refine wH_seq ?_
      refine wH_region ?_
      refine h_op (.d (.agg (Rect.enc (⟨0, 0, 0, 0⟩ : Rect)))) (wt rfl) (by kernel_rfl) ?_
      refine h_str 0 (.inl rfl) (fun _ _ _ => trivial) 1 sz92 rfl rfl [(vI 0), (vI 0), (vI 0), (vI 0)] rfl (wt rfl) ?_
      refine h_nil ?_
      replace hF := some_inj hF
      subst hF
      refine wH_ret ?_
      exact fin0 (.inr rfl) [(.d (.agg (Rect.enc (⟨0, 0, 0, 0⟩ : Rect))))] ⟨⟨1, _, _, _, _, _, _, _, rfl, rfl, sz92, ag92, rfl⟩, trivial⟩ rfl rfl rfl
    · refine wH_iff rfl hc_20 ?_
      refine wH_skip ?_
      refine wH_seq ?_
      refine wH_region ?_
      refine h_ldr 0 2 (.inl rfl) (fun _ _ _ => trivial) sz92 ag92 rfl rfl (.d (.agg (Rect.enc (⟨q_8, q_10, (w64 (q_12 - q_8)), (w64 (q_14 - q_10))⟩ : Rect)))) rfl (wt rfl) ?_
      refine h_str 0 (.inl rfl) (fun _ _ _ => trivial) 1 sz92 rfl rfl [(vI q_8), (vI q_10), (vI (w64 (q_12 - q_8))), (vI (w64 (q_14 - q_10)))] rfl (wt rfl) ?_
      refine h_nil ?_
      replace hF := some_inj hF
      subst hF
      refine wH_ret ?_
      exact fin0 (.inr rfl) [(.d (.agg (Rect.enc (⟨q_8, q_10, (w64 (q_12 - q_8)), (w64 (q_14 - q_10))⟩ : Rect))))] ⟨⟨1, _, _, _, _, _, _, _, rfl, rfl, sz92, ag92, rfl⟩, trivial⟩ rfl rfl rfl
theorem screen_Scale_ok {r_1 : Rect} {wv_2 : Int} {h_3 : Int} {toW_4 : Int} {toH_5 : Int} {r : Rect × Int} (hF : screen_Scale r_1 wv_2 h_3 toW_4 toH_5 = some r) :
    FnM Try.prog 69 [(.d (.agg (Rect.enc r_1))), (vI wv_2), (vI h_3), (vI toW_4), (vI toH_5)] [] (.tup [(.d (.agg (Rect.enc r.1))), (vI r.2)]) [] := by
  refine FnM.of_wH ⟨Try.prog, 42, [], []⟩ rfl Try.func69 rfl rfl (Nat.le_of_ble_eq_true rfl) (by kernel_rfl) ?_
  unfold screen_Scale at hF
  refine wH_seq ?_
  refine wH_region ?_
  refine h_box 0 (.inl rfl) [(vI r_1.X), (vI r_1.Y), (vI r_1.W), (vI r_1.H)] rfl rfl (wt rfl) (fun n_6 => ?_)
  refine h_alloc 0 (.inl rfl) z92 rfl (wt rfl) (fun n_7 => ?_)
  refine h_op (vI 0) (wt rfl) rfl ?_
  refine h_nil ?_
  refine wH_seq ?_
  refine wH_seq ?_
  refine wH_region ?_
  refine h_ldr 0 0 (.inl rfl) (fun _ _ _ => trivial) sz92 ag92 rfl rfl (.d (.agg (Rect.enc r_1))) rfl (wt rfl) ?_
  obtain ⟨r_8, hr_9, hF⟩ := bind_some hF
  refine h_call0 (screen_CheckRect_ok hr_9) rfl hb57 rfl rfl rfl rfl (wt rfl) ?_
  refine h_op (vI r_8) (wt rfl) rfl ?_
  refine h_nil ?_
  refine wH_seq ?_
  refine wH_region ?_
  refine h_op (vI r_8) (wt rfl) rfl ?_
  refine h_op (vB (r_8 != 0)) (wt rfl) rfl ?_
  refine h_nil ?_
  rcases cond_some hF with ⟨hc_10, hF⟩ | ⟨hc_10, hF⟩
  · refine wH_ift rfl hc_10 ?_
    refine wH_seq ?_
    refine wH_region ?_
    refine h_op (.d (.agg (Rect.enc (⟨0, 0, 0, 0⟩ : Rect)))) (wt rfl) (by kernel_rfl) ?_
    refine h_op (vI r_8) (wt rfl) rfl ?_
    refine h_str 0 (.inl rfl) (fun _ _ _ => trivial) 1 sz92 rfl rfl [(vI 0), (vI 0), (vI 0), (vI 0)] rfl (wt rfl) ?_
    refine h_op (vI r_8) (wt rfl) rfl ?_
    refine h_nil ?_
    replace hF := some_inj hF
    subst hF
    refine wH_ret ?_
    exact fin0 (.inr rfl) [(.d (.agg (Rect.enc (⟨0, 0, 0, 0⟩ : Rect)))), (vI r_8)] ⟨⟨1, _, _, _, _, _, _, _, rfl, rfl, sz92, ag92, rfl⟩, ⟨rfl, trivial⟩⟩ rfl rfl rfl
  · refine wH_iff rfl hc_10 ?_
    refine wH_skip ?_
    refine wH_seq ?_
    refine wH_seq ?_
    refine wH_region ?_
    refine h_op (vI wv_2) (wt rfl) rfl ?_
    refine h_op (vI h_3) (wt rfl) rfl ?_
    refine h_op (vI toW_4) (wt rfl) rfl ?_
    refine h_op (vI toH_5) (wt rfl) rfl ?_
    refine h_lit (([wv_2, h_3, toW_4, toH_5] : List Int).map eI) es22 ez22 rfl rfl rfl rfl rfl (wt rfl) ?_
    obtain ⟨r_11, hr_12, hF⟩ := bind_some hF
    refine h_call0 (screen_sidesFault_ok hr_12) rfl hb140 rfl rfl rfl rfl (wt rfl) ?_
    refine h_op (vI r_11) (wt rfl) rfl ?_
    refine h_nil ?_
    refine wH_seq ?_
    refine wH_region ?_
    refine h_op (vI r_11) (wt rfl) rfl ?_
    refine h_op (vB (r_11 != 0)) (wt rfl) rfl ?_
    refine h_nil ?_
    rcases cond_some hF with ⟨hc_13, hF⟩ | ⟨hc_13, hF⟩
    · refine wH_ift rfl hc_13 ?_
      refine wH_seq ?_
      refine wH_region ?_
      refine h_op (.d (.agg (Rect.enc (⟨0, 0, 0, 0⟩ : Rect)))) (wt rfl) (by kernel_rfl) ?_
      refine h_op (vI r_11) (wt rfl) rfl ?_
      refine h_str 0 (.inl rfl) (fun _ _ _ => trivial) 1 sz92 rfl rfl [(vI 0), (vI 0), (vI 0), (vI 0)] rfl (wt rfl) ?_
      refine h_op (vI r_11) (wt rfl) rfl ?_
      refine h_nil ?_
      replace hF := some_inj hF
      subst hF
      refine wH_ret ?_
      exact fin0 (.inr rfl) [(.d (.agg (Rect.enc (⟨0, 0, 0, 0⟩ : Rect)))), (vI r_11)] ⟨⟨1, _, _, _, _, _, _, _, rfl, rfl, sz92, ag92, rfl⟩, ⟨rfl, trivial⟩⟩ rfl rfl rfl
    · refine wH_iff rfl hc_13 ?_
      refine wH_skip ?_
      refine wH_seq ?_
      refine wH_seq ?_
      refine wH_region ?_
      refine h_ldr 0 0 (.inl rfl) (fun _ _ _ => trivial) sz92 ag92 rfl rfl (.d (.agg (Rect.enc r_1))) rfl (wt rfl) ?_
      refine h_op (vI wv_2) (wt rfl) rfl ?_
      refine h_op (vI h_3) (wt rfl) rfl ?_
      obtain ⟨r_14, hr_15, hF⟩ := bind_some hF
      refine h_call0 (screen_inside_ok hr_15) rfl hb139 rfl rfl rfl rfl (wt rfl) ?_
      refine h_op (vB (!r_14)) (wt rfl) rfl ?_
      refine h_nil ?_
      rcases cond_some hF with ⟨hc_16, hF⟩ | ⟨hc_16, hF⟩
      · refine wH_ift rfl hc_16 ?_
        refine wH_seq ?_
        refine wH_region ?_
        refine h_op (.d (.agg (Rect.enc (⟨0, 0, 0, 0⟩ : Rect)))) (wt rfl) (by kernel_rfl) ?_
        refine h_str 0 (.inl rfl) (fun _ _ _ => trivial) 1 sz92 rfl rfl [(vI 0), (vI 0), (vI 0), (vI 0)] rfl (wt rfl) ?_
        refine h_op (vI 3) (wt rfl) rfl ?_
        refine h_nil ?_
        replace hF := some_inj hF
        subst hF
        refine wH_ret ?_
        exact fin0 (.inr rfl) [(.d (.agg (Rect.enc (⟨0, 0, 0, 0⟩ : Rect)))), (vI 3)] ⟨⟨1, _, _, _, _, _, _, _, rfl, rfl, sz92, ag92, rfl⟩, ⟨rfl, trivial⟩⟩ rfl rfl rfl
      · refine wH_iff rfl hc_16 ?_
        refine wH_skip ?_
        refine wH_seq ?_
        refine wH_region ?_
        refine h_ldr 0 0 (.inl rfl) (fun _ _ _ => trivial) sz92 ag92 rfl rfl (.d (.agg (Rect.enc r_1))) rfl (wt rfl) ?_
        refine h_op (vI wv_2) (wt rfl) rfl ?_
        refine h_op (vI h_3) (wt rfl) rfl ?_
        refine h_op (vI toW_4) (wt rfl) rfl ?_
        refine h_op (vI toH_5) (wt rfl) rfl ?_
        obtain ⟨r_17, hr_18, hF⟩ := bind_some hF
        refine h_call0 (screen_scale_ok hr_18) rfl hb141 rfl rfl rfl rfl (wt rfl) ?_
        refine h_str 0 (.inl rfl) (fun _ _ _ => trivial) 1 sz92 rfl rfl [(vI r_17.X), (vI r_17.Y), (vI r_17.W), (vI r_17.H)] rfl (wt rfl) ?_
        refine h_op (vI 0) (wt rfl) rfl ?_
        refine h_nil ?_
        refine wH_at (H0 := ([(n_6, some (.cells 4 [(vI r_1.X), (vI r_1.Y), (vI r_1.W), (vI r_1.H)])), (n_7, some (.cells 4 [(vI r_17.X), (vI r_17.Y), (vI r_17.W), (vI r_17.H)]))] : Hp)) ([(10, (.ref n_7 0 0)), (11, (vI 0))] : List (Nat × V)) (by kernel_rfl) (pre_mk (by kernel_rfl)) ?_
        replace hF := some_inj hF
        subst hF
        refine wH_ret ?_
        exact fin0 (.inr rfl) [(.d (.agg (Rect.enc r_17))), (vI 0)] ⟨⟨1, _, _, _, _, _, _, _, rfl, rfl, sz92, ag92, rfl⟩, ⟨rfl, trivial⟩⟩ rfl rfl rfl
theorem screen_middle_ok {wv_1 : Int} {h_2 : Int} {inW_3 : Int} {inH_4 : Int} {r : Rect} (hF : screen_middle wv_1 h_2 inW_3 inH_4 = some r) :
    FnM Try.prog 142 [(vI wv_1), (vI h_2), (vI inW_3), (vI inH_4)] [] (.d (.agg (Rect.enc r))) [] := by
  refine FnM.of_wH ⟨Try.prog, 20, [], []⟩ rfl Try.func142 rfl rfl (Nat.le_of_ble_eq_true rfl) (by kernel_rfl) ?_
  unfold screen_middle at hF
  refine wH_seq ?_
  refine wH_region ?_
  refine h_alloc 0 (.inl rfl) z92 rfl (wt rfl) (fun n_5 => ?_)
  refine h_nil ?_
  refine wH_seq ?_
  refine wH_region ?_
  refine h_op (vI inW_3) (wt rfl) rfl ?_
  refine h_op (vI wv_1) (wt rfl) rfl ?_
  refine h_op (vI (w64 (inW_3 - wv_1))) (wt rfl) rfl ?_
  refine h_op (vI (w64 ((w64 (inW_3 - wv_1)).tdiv 2))) (wt rfl) rfl ?_
  refine h_op (vI inH_4) (wt rfl) rfl ?_
  refine h_op (vI h_2) (wt rfl) rfl ?_
  refine h_op (vI (w64 (inH_4 - h_2))) (wt rfl) rfl ?_
  refine h_op (vI (w64 ((w64 (inH_4 - h_2)).tdiv 2))) (wt rfl) rfl ?_
  refine h_op (vI wv_1) (wt rfl) rfl ?_
  refine h_op (vI h_2) (wt rfl) rfl ?_
  refine h_op (.d (.agg (Rect.enc (⟨(w64 ((w64 (inW_3 - wv_1)).tdiv 2)), (w64 ((w64 (inH_4 - h_2)).tdiv 2)), wv_1, h_2⟩ : Rect)))) (wt rfl) (by kernel_rfl) ?_
  refine h_str 0 (.inl rfl) (fun _ _ _ => trivial) 0 sz92 rfl rfl [(vI (w64 ((w64 (inW_3 - wv_1)).tdiv 2))), (vI (w64 ((w64 (inH_4 - h_2)).tdiv 2))), (vI wv_1), (vI h_2)] rfl (wt rfl) ?_
  refine h_nil ?_
  replace hF := some_inj hF
  subst hF
  refine wH_ret ?_
  exact fin0 (.inr rfl) [(.d (.agg (Rect.enc (⟨(w64 ((w64 (inW_3 - wv_1)).tdiv 2)), (w64 ((w64 (inH_4 - h_2)).tdiv 2)), wv_1, h_2⟩ : Rect))))] ⟨⟨0, _, _, _, _, _, _, _, rfl, rfl, sz92, ag92, rfl⟩, trivial⟩ rfl rfl rfl
theorem screen_Fit_ok {wv_1 : Int} {h_2 : Int} {toW_3 : Int} {toH_4 : Int} {how_5 : Int} {r : Rect × Rect × Int} (hF : screen_Fit wv_1 h_2 toW_3 toH_4 how_5 = some r) :
    FnM Try.prog 70 [(vI wv_1), (vI h_2), (vI toW_3), (vI toH_4), (vI how_5)] [] (.tup [(.d (.agg (Rect.enc r.1))), (.d (.agg (Rect.enc r.2.1))), (vI r.2.2)]) [] := by
  refine FnM.of_wH ⟨Try.prog, 104, [], []⟩ rfl Try.func70 rfl rfl (Nat.le_of_ble_eq_true rfl) (by kernel_rfl) ?_
  unfold screen_Fit at hF
  refine wH_seq ?_
  refine wH_region ?_
  refine h_alloc 0 (.inl rfl) z92 rfl (wt rfl) (fun n_6 => ?_)
  refine h_alloc 0 (.inl rfl) z92 rfl (wt rfl) (fun n_7 => ?_)
  refine h_op (vI 0) (wt rfl) rfl ?_
  refine h_nil ?_
  refine wH_seq ?_
  refine wH_seq ?_
  refine wH_region ?_
  refine h_op (vI wv_1) (wt rfl) rfl ?_
  refine h_op (vI h_2) (wt rfl) rfl ?_
  refine h_op (vI toW_3) (wt rfl) rfl ?_
  refine h_op (vI toH_4) (wt rfl) rfl ?_
  refine h_lit (([wv_1, h_2, toW_3, toH_4] : List Int).map eI) es22 ez22 rfl rfl rfl rfl rfl (wt rfl) ?_
  obtain ⟨r_8, hr_9, hF⟩ := bind_some hF
  refine h_call0 (screen_sidesFault_ok hr_9) rfl hb140 rfl rfl rfl rfl (wt rfl) ?_
  refine h_op (vI r_8) (wt rfl) rfl ?_
  refine h_nil ?_
  refine wH_seq ?_
  refine wH_region ?_
  refine h_op (vI r_8) (wt rfl) rfl ?_
  refine h_op (vB (r_8 != 0)) (wt rfl) rfl ?_
  refine h_nil ?_
  rcases cond_some hF with ⟨hc_10, hF⟩ | ⟨hc_10, hF⟩
  · refine wH_ift rfl hc_10 ?_
    refine wH_seq ?_
    refine wH_region ?_
    refine h_op (.d (.agg (Rect.enc (⟨0, 0, 0, 0⟩ : Rect)))) (wt rfl) (by kernel_rfl) ?_
    refine h_op (.d (.agg (Rect.enc (⟨0, 0, 0, 0⟩ : Rect)))) (wt rfl) (by kernel_rfl) ?_
    refine h_op (vI r_8) (wt rfl) rfl ?_
    refine h_str 0 (.inl rfl) (fun _ _ _ => trivial) 0 sz92 rfl rfl [(vI 0), (vI 0), (vI 0), (vI 0)] rfl (wt rfl) ?_
    refine h_str 0 (.inl rfl) (fun _ _ _ => trivial) 1 sz92 rfl rfl [(vI 0), (vI 0), (vI 0), (vI 0)] rfl (wt rfl) ?_
    refine h_op (vI r_8) (wt rfl) rfl ?_
    refine h_nil ?_
    replace hF := some_inj hF
    subst hF
    refine wH_ret ?_
    exact fin0 (.inr rfl) [(.d (.agg (Rect.enc (⟨0, 0, 0, 0⟩ : Rect)))), (.d (.agg (Rect.enc (⟨0, 0, 0, 0⟩ : Rect)))), (vI r_8)] ⟨⟨0, _, _, _, _, _, _, _, rfl, rfl, sz92, ag92, rfl⟩, ⟨⟨1, _, _, _, _, _, _, _, rfl, rfl, sz92, ag92, rfl⟩, ⟨rfl, trivial⟩⟩⟩ rfl rfl rfl
  · refine wH_iff rfl hc_10 ?_
    refine wH_skip ?_
    refine wH_seq ?_
    refine wH_region ?_
    refine h_op (vI wv_1) (wt rfl) rfl ?_
    refine h_op (vI h_2) (wt rfl) rfl ?_
    refine h_op (.d (.agg (Rect.enc (⟨0, 0, wv_1, h_2⟩ : Rect)))) (wt rfl) (by kernel_rfl) ?_
    refine h_op (vI toW_3) (wt rfl) rfl ?_
    refine h_op (vI toH_4) (wt rfl) rfl ?_
    refine h_op (.d (.agg (Rect.enc (⟨0, 0, toW_3, toH_4⟩ : Rect)))) (wt rfl) (by kernel_rfl) ?_
    refine h_str 0 (.inl rfl) (fun _ _ _ => trivial) 0 sz92 rfl rfl [(vI 0), (vI 0), (vI wv_1), (vI h_2)] rfl (wt rfl) ?_
    refine h_str 0 (.inl rfl) (fun _ _ _ => trivial) 1 sz92 rfl rfl [(vI 0), (vI 0), (vI toW_3), (vI toH_4)] rfl (wt rfl) ?_
    refine h_nil ?_
    refine wH_seq ?_
    refine wH_region ?_
    refine h_op (vI wv_1) (wt rfl) rfl ?_
    refine h_op (vI toH_4) (wt rfl) rfl ?_
    refine h_op (vI (w64 (wv_1 * toH_4))) (wt rfl) rfl ?_
    refine h_op (vI h_2) (wt rfl) rfl ?_
    refine h_op (vI toW_3) (wt rfl) rfl ?_
    refine h_op (vI (w64 (h_2 * toW_3))) (wt rfl) rfl ?_
    refine h_op (vB (decide ((w64 (wv_1 * toH_4)) ≥ (w64 (h_2 * toW_3))))) (wt rfl) rfl ?_
    refine h_op (vB (decide ((w64 (wv_1 * toH_4)) ≥ (w64 (h_2 * toW_3))))) (wt rfl) rfl ?_
    refine h_nil ?_
    refine wH_seq ?_
    refine wH_block ?_
    refine wH_seq ?_
    refine wH_region ?_
    refine h_op (vI how_5) (wt rfl) rfl ?_
    refine h_op (vB (how_5 == 1)) (wt rfl) rfl ?_
    refine h_op (vB (how_5 == 1)) (wt rfl) rfl ?_
    refine h_nil ?_
    refine wH_at (H0 := ([(n_6, some (.cells 4 [(vI 0), (vI 0), (vI wv_1), (vI h_2)])), (n_7, some (.cells 4 [(vI 0), (vI 0), (vI toW_3), (vI toH_4)]))] : Hp)) ([(0, (vI wv_1)), (1, (vI h_2)), (2, (vI toW_3)), (3, (vI toH_4)), (4, (vI how_5)), (10, (.ref n_6 0 0)), (11, (.ref n_7 0 0)), (14, (vB (decide ((w64 (wv_1 * toH_4)) ≥ (w64 (h_2 * toW_3)))))), (41, (vB (how_5 == 1)))] : List (Nat × V)) (by kernel_rfl) (pre_mk (by kernel_rfl)) ?_
    rcases cond_some hF with ⟨hc_11, hF⟩ | ⟨hc_11, hF⟩
    · refine wH_ift rfl hc_11 ?_
      refine wH_skip ?_
      refine wH_seq ?_
      refine wH_draws ?_
      refine h_ldr 0 0 (.inr (by kernel_rfl)) (fun _ _ ag => trivial) sz92 ag92 rfl rfl (.d (.agg (Rect.enc (⟨0, 0, wv_1, h_2⟩ : Rect)))) rfl (wt rfl) ?_
      refine h_ldr 1 1 (.inr (by kernel_rfl)) (fun _ _ ag => ⟨.inl ⟨rfl, rfl⟩, trivial⟩) sz92 ag92 rfl rfl (.d (.agg (Rect.enc (⟨0, 0, toW_3, toH_4⟩ : Rect)))) rfl (wt rfl) ?_
      refine h_str 2 (.inr (by kernel_rfl)) (fun _ _ ag => ⟨.inr (.inr (by kernel_rfl)), ⟨.inr (.inl (dis1 (ag_ne ag (i := 0) (j := 1) rfl rfl (by decide)))), trivial⟩⟩) 0 sz92 rfl rfl [(vI 0), (vI 0), (vI wv_1), (vI h_2)] rfl (wt rfl) ?_
      refine h_str 3 (.inr (by kernel_rfl)) (fun _ _ ag => ⟨.inr (.inr (by kernel_rfl)), ⟨.inr (.inr (by kernel_rfl)), ⟨.inr (.inr (by kernel_rfl)), trivial⟩⟩⟩) 1 sz92 rfl rfl [(vI 0), (vI 0), (vI toW_3), (vI toH_4)] rfl (wt rfl) ?_
      refine h_op (vI 0) (wt rfl) rfl ?_
      refine h_nil ?_
      replace hF := some_inj hF
      subst hF
      refine wH_ret ?_
      exact fin0 (.inr rfl) [(.d (.agg (Rect.enc (⟨0, 0, wv_1, h_2⟩ : Rect)))), (.d (.agg (Rect.enc (⟨0, 0, toW_3, toH_4⟩ : Rect)))), (vI 0)] ⟨⟨0, _, _, _, _, _, _, _, rfl, rfl, sz92, ag92, rfl⟩, ⟨⟨1, _, _, _, _, _, _, _, rfl, rfl, sz92, ag92, rfl⟩, ⟨rfl, trivial⟩⟩⟩ rfl rfl rfl
    · refine wH_iff rfl hc_11 ?_
      refine wH_seq ?_
      obtain ⟨v_12, h_13, hF⟩ := bind_some hF
      refine wH_join (β := Unit) (fun _ => ([(0, (vI wv_1)), (1, (vI h_2)), (2, (vI toW_3)), (3, (vI toH_4)), (4, (vI how_5)), (10, (.ref n_6 0 0)), (11, (.ref n_7 0 0)), (14, (vB (decide ((w64 (wv_1 * toH_4)) ≥ (w64 (h_2 * toW_3)))))), (44, (vB v_12))] : List (Nat × V))) (fun _ => ([(n_6, some (.cells 4 [(vI 0), (vI 0), (vI wv_1), (vI h_2)])), (n_7, some (.cells 4 [(vI 0), (vI 0), (vI toW_3), (vI toH_4)]))] : Hp)) (fun _ => True) ?_ ?_
      · refine wH_region ?_
        refine h_op (vI how_5) (wt rfl) rfl ?_
        refine h_op (vB (how_5 == 2)) (wt rfl) rfl ?_
        rcases cond_some h_13 with ⟨hc_14, h_13⟩ | ⟨hc_14, h_13⟩
        · refine h_movb rfl hc_14 (wt rfl) ?_
          refine h_op (vB (decide ((w64 (wv_1 * toH_4)) ≥ (w64 (h_2 * toW_3))))) (wg rfl rfl rfl) rfl ?_
          refine h_op (vB (decide ((w64 (wv_1 * toH_4)) ≥ (w64 (h_2 * toW_3))))) (wt rfl) rfl ?_
          refine h_op (vB (decide ((w64 (wv_1 * toH_4)) ≥ (w64 (h_2 * toW_3))))) (wt rfl) rfl ?_
          refine h_nil ?_
          replace h_13 := some_inj h_13
          subst h_13
          exact cut_mk () trivial rfl rfl
        · refine h_movb rfl hc_14 (wt rfl) ?_
          refine h_skip (wg rfl rfl rfl) ?_
          refine h_op (vB false) (wt rfl) rfl ?_
          refine h_op (vB false) (wt rfl) rfl ?_
          refine h_nil ?_
          replace h_13 := some_inj h_13
          subst h_13
          exact cut_mk () trivial rfl rfl
      · rintro ⟨⟩ _ sl_ H_ hp_ hq_
        refine wH_at _ hp_ hq_ ?_
        rcases cond_some hF with ⟨hc_15, hF⟩ | ⟨hc_15, hF⟩
        · refine wH_ift rfl hc_15 ?_
          refine wH_region ?_
          refine h_op (vI toW_3) (wt rfl) rfl ?_
          refine h_op (vI h_2) (wt rfl) rfl ?_
          refine h_op (vI toW_3) (wt rfl) rfl ?_
          refine h_op (vI (w64 (h_2 * toW_3))) (wt rfl) rfl ?_
          refine h_op (vI wv_1) (wt rfl) rfl ?_
          obtain ⟨q_16, hz_17, hF⟩ := bind_some hF
          refine h_quo rfl rfl hz_17 (wt rfl) ?_
          refine h_minmax (vI (maxI 1 q_16)) rfl (.inr rfl) (wt rfl) ?_
          refine h_op (vI toW_3) (wt rfl) rfl ?_
          refine h_op (vI toH_4) (wt rfl) rfl ?_
          obtain ⟨r_18, hr_19, hF⟩ := bind_some hF
          refine h_call0 (screen_middle_ok hr_19) rfl hb142 rfl rfl rfl rfl (wt rfl) ?_
          refine h_str 0 (.inl rfl) (fun _ _ _ => trivial) 1 sz92 rfl rfl [(vI r_18.X), (vI r_18.Y), (vI r_18.W), (vI r_18.H)] rfl (wt rfl) ?_
          refine h_nil ?_
          refine wH_seq ?_
          refine wH_draws ?_
          refine h_ldr 0 0 (.inr (by kernel_rfl)) (fun _ _ ag => trivial) sz92 ag92 rfl rfl (.d (.agg (Rect.enc (⟨0, 0, wv_1, h_2⟩ : Rect)))) rfl (wt rfl) ?_
          refine h_ldr 1 1 (.inr (by kernel_rfl)) (fun _ _ ag => ⟨.inl ⟨rfl, rfl⟩, trivial⟩) sz92 ag92 rfl rfl (.d (.agg (Rect.enc r_18))) rfl (wt rfl) ?_
          refine h_str 2 (.inr (by kernel_rfl)) (fun _ _ ag => ⟨.inr (.inr (by kernel_rfl)), ⟨.inr (.inl (dis1 (ag_ne ag (i := 0) (j := 1) rfl rfl (by decide)))), trivial⟩⟩) 0 sz92 rfl rfl [(vI 0), (vI 0), (vI wv_1), (vI h_2)] rfl (wt rfl) ?_
          refine h_str 3 (.inr (by kernel_rfl)) (fun _ _ ag => ⟨.inr (.inr (by kernel_rfl)), ⟨.inr (.inr (by kernel_rfl)), ⟨.inr (.inr (by kernel_rfl)), trivial⟩⟩⟩) 1 sz92 rfl rfl [(vI r_18.X), (vI r_18.Y), (vI r_18.W), (vI r_18.H)] rfl (wt rfl) ?_
          refine h_op (vI 0) (wt rfl) rfl ?_
          refine h_nil ?_
          replace hF := some_inj hF
          subst hF
          refine wH_ret ?_
          exact fin0 (.inr rfl) [(.d (.agg (Rect.enc (⟨0, 0, wv_1, h_2⟩ : Rect)))), (.d (.agg (Rect.enc r_18))), (vI 0)] ⟨⟨0, _, _, _, _, _, _, _, rfl, rfl, sz92, ag92, rfl⟩, ⟨⟨1, _, _, _, _, _, _, _, rfl, rfl, sz92, ag92, rfl⟩, ⟨rfl, trivial⟩⟩⟩ rfl rfl rfl
        · refine wH_iff rfl hc_15 ?_
          refine wH_seq ?_
          refine wH_region ?_
          refine h_op (vI how_5) (wt rfl) rfl ?_
          refine h_op (vB (how_5 == 2)) (wt rfl) rfl ?_
          refine h_op (vB (how_5 == 2)) (wt rfl) rfl ?_
          refine h_nil ?_
          rcases cond_some hF with ⟨hc_20, hF⟩ | ⟨hc_20, hF⟩
          · refine wH_ift rfl hc_20 ?_
            refine wH_region ?_
            refine h_op (vI wv_1) (wt rfl) rfl ?_
            refine h_op (vI toH_4) (wt rfl) rfl ?_
            refine h_op (vI (w64 (wv_1 * toH_4))) (wt rfl) rfl ?_
            refine h_op (vI h_2) (wt rfl) rfl ?_
            obtain ⟨q_21, hz_22, hF⟩ := bind_some hF
            refine h_quo rfl rfl hz_22 (wt rfl) ?_
            refine h_minmax (vI (maxI 1 q_21)) rfl (.inr rfl) (wt rfl) ?_
            refine h_op (vI toH_4) (wt rfl) rfl ?_
            refine h_op (vI toW_3) (wt rfl) rfl ?_
            refine h_op (vI toH_4) (wt rfl) rfl ?_
            obtain ⟨r_23, hr_24, hF⟩ := bind_some hF
            refine h_call0 (screen_middle_ok hr_24) rfl hb142 rfl rfl rfl rfl (wt rfl) ?_
            refine h_str 0 (.inl rfl) (fun _ _ _ => trivial) 1 sz92 rfl rfl [(vI r_23.X), (vI r_23.Y), (vI r_23.W), (vI r_23.H)] rfl (wt rfl) ?_
            refine h_nil ?_
            refine wH_seq ?_
            refine wH_draws ?_
            refine h_ldr 0 0 (.inr (by kernel_rfl)) (fun _ _ ag => trivial) sz92 ag92 rfl rfl (.d (.agg (Rect.enc (⟨0, 0, wv_1, h_2⟩ : Rect)))) rfl (wt rfl) ?_
            refine h_ldr 1 1 (.inr (by kernel_rfl)) (fun _ _ ag => ⟨.inl ⟨rfl, rfl⟩, trivial⟩) sz92 ag92 rfl rfl (.d (.agg (Rect.enc r_23))) rfl (wt rfl) ?_
            refine h_str 2 (.inr (by kernel_rfl)) (fun _ _ ag => ⟨.inr (.inr (by kernel_rfl)), ⟨.inr (.inl (dis1 (ag_ne ag (i := 0) (j := 1) rfl rfl (by decide)))), trivial⟩⟩) 0 sz92 rfl rfl [(vI 0), (vI 0), (vI wv_1), (vI h_2)] rfl (wt rfl) ?_
            refine h_str 3 (.inr (by kernel_rfl)) (fun _ _ ag => ⟨.inr (.inr (by kernel_rfl)), ⟨.inr (.inr (by kernel_rfl)), ⟨.inr (.inr (by kernel_rfl)), trivial⟩⟩⟩) 1 sz92 rfl rfl [(vI r_23.X), (vI r_23.Y), (vI r_23.W), (vI r_23.H)] rfl (wt rfl) ?_
            refine h_op (vI 0) (wt rfl) rfl ?_
            refine h_nil ?_
            replace hF := some_inj hF
            subst hF
            refine wH_ret ?_
            exact fin0 (.inr rfl) [(.d (.agg (Rect.enc (⟨0, 0, wv_1, h_2⟩ : Rect)))), (.d (.agg (Rect.enc r_23))), (vI 0)] ⟨⟨0, _, _, _, _, _, _, _, rfl, rfl, sz92, ag92, rfl⟩, ⟨⟨1, _, _, _, _, _, _, _, rfl, rfl, sz92, ag92, rfl⟩, ⟨rfl, trivial⟩⟩⟩ rfl rfl rfl
          · refine wH_iff rfl hc_20 ?_
            refine wH_seq ?_
            obtain ⟨v_25, h_26, hF⟩ := bind_some hF
            refine wH_join (β := Unit) (fun _ => ([(0, (vI wv_1)), (1, (vI h_2)), (2, (vI toW_3)), (3, (vI toH_4)), (4, (vI how_5)), (10, (.ref n_6 0 0)), (11, (.ref n_7 0 0)), (73, (vB v_25))] : List (Nat × V))) (fun _ => ([(n_6, some (.cells 4 [(vI 0), (vI 0), (vI wv_1), (vI h_2)])), (n_7, some (.cells 4 [(vI 0), (vI 0), (vI toW_3), (vI toH_4)]))] : Hp)) (fun _ => True) ?_ ?_
            · refine wH_region ?_
              refine h_op (vI how_5) (wt rfl) rfl ?_
              refine h_op (vB (how_5 == 3)) (wt rfl) rfl ?_
              rcases cond_some h_26 with ⟨hc_27, h_26⟩ | ⟨hc_27, h_26⟩
              · refine h_movb rfl hc_27 (wt rfl) ?_
                refine h_op (vB (decide ((w64 (wv_1 * toH_4)) ≥ (w64 (h_2 * toW_3))))) (wg rfl rfl rfl) rfl ?_
                refine h_op (vB (decide ((w64 (wv_1 * toH_4)) ≥ (w64 (h_2 * toW_3))))) (wt rfl) rfl ?_
                refine h_op (vB (decide ((w64 (wv_1 * toH_4)) ≥ (w64 (h_2 * toW_3))))) (wt rfl) rfl ?_
                refine h_nil ?_
                replace h_26 := some_inj h_26
                subst h_26
                exact cut_mk () trivial rfl rfl
              · refine h_movb rfl hc_27 (wt rfl) ?_
                refine h_skip (wg rfl rfl rfl) ?_
                refine h_op (vB false) (wt rfl) rfl ?_
                refine h_op (vB false) (wt rfl) rfl ?_
                refine h_nil ?_
                replace h_26 := some_inj h_26
                subst h_26
                exact cut_mk () trivial rfl rfl
            · rintro ⟨⟩ _ sl_ H_ hp_ hq_
              refine wH_at _ hp_ hq_ ?_
              rcases cond_some hF with ⟨hc_28, hF⟩ | ⟨hc_28, hF⟩
              · refine wH_ift rfl hc_28 ?_
                refine wH_region ?_
                refine h_op (vI h_2) (wt rfl) rfl ?_
                refine h_op (vI toW_3) (wt rfl) rfl ?_
                refine h_op (vI (w64 (h_2 * toW_3))) (wt rfl) rfl ?_
                refine h_op (vI toH_4) (wt rfl) rfl ?_
                obtain ⟨q_29, hz_30, hF⟩ := bind_some hF
                refine h_quo rfl rfl hz_30 (wt rfl) ?_
                refine h_minmax (vI (maxI 1 q_29)) rfl (.inr rfl) (wt rfl) ?_
                refine h_op (vI h_2) (wt rfl) rfl ?_
                refine h_op (vI wv_1) (wt rfl) rfl ?_
                refine h_op (vI h_2) (wt rfl) rfl ?_
                obtain ⟨r_31, hr_32, hF⟩ := bind_some hF
                refine h_call0 (screen_middle_ok hr_32) rfl hb142 rfl rfl rfl rfl (wt rfl) ?_
                refine h_str 0 (.inl rfl) (fun _ _ _ => trivial) 0 sz92 rfl rfl [(vI r_31.X), (vI r_31.Y), (vI r_31.W), (vI r_31.H)] rfl (wt rfl) ?_
                refine h_nil ?_
                refine wH_seq ?_
                refine wH_draws ?_
                refine h_ldr 0 0 (.inr (by kernel_rfl)) (fun _ _ ag => trivial) sz92 ag92 rfl rfl (.d (.agg (Rect.enc r_31))) rfl (wt rfl) ?_
                refine h_ldr 1 1 (.inr (by kernel_rfl)) (fun _ _ ag => ⟨.inl ⟨rfl, rfl⟩, trivial⟩) sz92 ag92 rfl rfl (.d (.agg (Rect.enc (⟨0, 0, toW_3, toH_4⟩ : Rect)))) rfl (wt rfl) ?_
                refine h_str 2 (.inr (by kernel_rfl)) (fun _ _ ag => ⟨.inr (.inr (by kernel_rfl)), ⟨.inr (.inl (dis1 (ag_ne ag (i := 0) (j := 1) rfl rfl (by decide)))), trivial⟩⟩) 0 sz92 rfl rfl [(vI r_31.X), (vI r_31.Y), (vI r_31.W), (vI r_31.H)] rfl (wt rfl) ?_
                refine h_str 3 (.inr (by kernel_rfl)) (fun _ _ ag => ⟨.inr (.inr (by kernel_rfl)), ⟨.inr (.inr (by kernel_rfl)), ⟨.inr (.inr (by kernel_rfl)), trivial⟩⟩⟩) 1 sz92 rfl rfl [(vI 0), (vI 0), (vI toW_3), (vI toH_4)] rfl (wt rfl) ?_
                refine h_op (vI 0) (wt rfl) rfl ?_
                refine h_nil ?_
                replace hF := some_inj hF
                subst hF
                refine wH_ret ?_
                exact fin0 (.inr rfl) [(.d (.agg (Rect.enc r_31))), (.d (.agg (Rect.enc (⟨0, 0, toW_3, toH_4⟩ : Rect)))), (vI 0)] ⟨⟨0, _, _, _, _, _, _, _, rfl, rfl, sz92, ag92, rfl⟩, ⟨⟨1, _, _, _, _, _, _, _, rfl, rfl, sz92, ag92, rfl⟩, ⟨rfl, trivial⟩⟩⟩ rfl rfl rfl
              · refine wH_iff rfl hc_28 ?_
                refine wH_seq ?_
                refine wH_region ?_
                refine h_op (vI how_5) (wt rfl) rfl ?_
                refine h_op (vB (how_5 == 3)) (wt rfl) rfl ?_
                refine h_op (vB (how_5 == 3)) (wt rfl) rfl ?_
                refine h_nil ?_
                rcases cond_some hF with ⟨hc_33, hF⟩ | ⟨hc_33, hF⟩
                · refine wH_ift rfl hc_33 ?_
                  refine wH_region ?_
                  refine h_op (vI wv_1) (wt rfl) rfl ?_
                  refine h_op (vI wv_1) (wt rfl) rfl ?_
                  refine h_op (vI toH_4) (wt rfl) rfl ?_
                  refine h_op (vI (w64 (wv_1 * toH_4))) (wt rfl) rfl ?_
                  refine h_op (vI toW_3) (wt rfl) rfl ?_
                  obtain ⟨q_34, hz_35, hF⟩ := bind_some hF
                  refine h_quo rfl rfl hz_35 (wt rfl) ?_
                  refine h_minmax (vI (maxI 1 q_34)) rfl (.inr rfl) (wt rfl) ?_
                  refine h_op (vI wv_1) (wt rfl) rfl ?_
                  refine h_op (vI h_2) (wt rfl) rfl ?_
                  obtain ⟨r_36, hr_37, hF⟩ := bind_some hF
                  refine h_call0 (screen_middle_ok hr_37) rfl hb142 rfl rfl rfl rfl (wt rfl) ?_
                  refine h_str 0 (.inl rfl) (fun _ _ _ => trivial) 0 sz92 rfl rfl [(vI r_36.X), (vI r_36.Y), (vI r_36.W), (vI r_36.H)] rfl (wt rfl) ?_
                  refine h_nil ?_
                  refine wH_seq ?_
                  refine wH_draws ?_
                  refine h_ldr 0 0 (.inr (by kernel_rfl)) (fun _ _ ag => trivial) sz92 ag92 rfl rfl (.d (.agg (Rect.enc r_36))) rfl (wt rfl) ?_
                  refine h_ldr 1 1 (.inr (by kernel_rfl)) (fun _ _ ag => ⟨.inl ⟨rfl, rfl⟩, trivial⟩) sz92 ag92 rfl rfl (.d (.agg (Rect.enc (⟨0, 0, toW_3, toH_4⟩ : Rect)))) rfl (wt rfl) ?_
                  refine h_str 2 (.inr (by kernel_rfl)) (fun _ _ ag => ⟨.inr (.inr (by kernel_rfl)), ⟨.inr (.inl (dis1 (ag_ne ag (i := 0) (j := 1) rfl rfl (by decide)))), trivial⟩⟩) 0 sz92 rfl rfl [(vI r_36.X), (vI r_36.Y), (vI r_36.W), (vI r_36.H)] rfl (wt rfl) ?_
                  refine h_str 3 (.inr (by kernel_rfl)) (fun _ _ ag => ⟨.inr (.inr (by kernel_rfl)), ⟨.inr (.inr (by kernel_rfl)), ⟨.inr (.inr (by kernel_rfl)), trivial⟩⟩⟩) 1 sz92 rfl rfl [(vI 0), (vI 0), (vI toW_3), (vI toH_4)] rfl (wt rfl) ?_
                  refine h_op (vI 0) (wt rfl) rfl ?_
                  refine h_nil ?_
                  replace hF := some_inj hF
                  subst hF
                  refine wH_ret ?_
                  exact fin0 (.inr rfl) [(.d (.agg (Rect.enc r_36))), (.d (.agg (Rect.enc (⟨0, 0, toW_3, toH_4⟩ : Rect)))), (vI 0)] ⟨⟨0, _, _, _, _, _, _, _, rfl, rfl, sz92, ag92, rfl⟩, ⟨⟨1, _, _, _, _, _, _, _, rfl, rfl, sz92, ag92, rfl⟩, ⟨rfl, trivial⟩⟩⟩ rfl rfl rfl
                · refine wH_iff rfl hc_33 ?_
                  refine wH_seq ?_
                  refine wH_region ?_
                  refine h_op (.d (.agg (Rect.enc (⟨0, 0, 0, 0⟩ : Rect)))) (wt rfl) (by kernel_rfl) ?_
                  refine h_op (.d (.agg (Rect.enc (⟨0, 0, 0, 0⟩ : Rect)))) (wt rfl) (by kernel_rfl) ?_
                  refine h_str 0 (.inl rfl) (fun _ _ _ => trivial) 0 sz92 rfl rfl [(vI 0), (vI 0), (vI 0), (vI 0)] rfl (wt rfl) ?_
                  refine h_str 0 (.inl rfl) (fun _ _ _ => trivial) 1 sz92 rfl rfl [(vI 0), (vI 0), (vI 0), (vI 0)] rfl (wt rfl) ?_
                  refine h_op (vI 4) (wt rfl) rfl ?_
                  refine h_nil ?_
                  replace hF := some_inj hF
                  subst hF
                  refine wH_ret ?_
                  exact fin0 (.inr rfl) [(.d (.agg (Rect.enc (⟨0, 0, 0, 0⟩ : Rect)))), (.d (.agg (Rect.enc (⟨0, 0, 0, 0⟩ : Rect)))), (vI 4)] ⟨⟨0, _, _, _, _, _, _, _, rfl, rfl, sz92, ag92, rfl⟩, ⟨⟨1, _, _, _, _, _, _, _, rfl, rfl, sz92, ag92, rfl⟩, ⟨rfl, trivial⟩⟩⟩ rfl rfl rfl
theorem ref_in_ok {n_1 : Int} {low_2 : Int} {high_3 : Int} {r : Bool} (hF : ref_in n_1 low_2 high_3 = some r) :
    FnM Try.prog 84 [(vI n_1), (vI low_2), (vI high_3)] [] (vB r) [] := by
  refine FnM.of_wH ⟨Try.prog, 15, [], []⟩ rfl Try.func84 rfl rfl (Nat.le_of_ble_eq_true rfl) (by kernel_rfl) ?_
  unfold ref_in at hF
  refine wH_seq ?_
  refine wH_region ?_
  refine h_op (vB false) (wt rfl) rfl ?_
  refine h_nil ?_
  refine wH_seq ?_
  obtain ⟨v_4, h_5, hF⟩ := bind_some hF
  refine wH_join (β := Unit) (fun _ => ([(6, (vB v_4))] : List (Nat × V))) (fun _ => ([] : Hp)) (fun _ => True) ?_ ?_
  · refine wH_region ?_
    refine h_op (vI low_2) (wt rfl) rfl ?_
    refine h_op (vI n_1) (wt rfl) rfl ?_
    refine h_op (vB (decide (low_2 ≤ n_1))) (wt rfl) rfl ?_
    rcases cond_some h_5 with ⟨hc_6, h_5⟩ | ⟨hc_6, h_5⟩
    · refine h_movb rfl hc_6 (wt rfl) ?_
      refine h_op (vI n_1) (wg rfl rfl rfl) rfl ?_
      refine h_op (vI high_3) (wg rfl rfl rfl) rfl ?_
      refine h_op (vB (decide (n_1 ≤ high_3))) (wg rfl rfl rfl) rfl ?_
      refine h_op (vB (decide (n_1 ≤ high_3))) (wt rfl) rfl ?_
      refine h_op (vB (decide (n_1 ≤ high_3))) (wt rfl) rfl ?_
      refine h_nil ?_
      replace h_5 := some_inj h_5
      subst h_5
      exact cut_mk () trivial rfl rfl
    · refine h_movb rfl hc_6 (wt rfl) ?_
      refine h_skip (wg rfl rfl rfl) ?_
      refine h_skip (wg rfl rfl rfl) ?_
      refine h_skip (wg rfl rfl rfl) ?_
      refine h_op (vB false) (wt rfl) rfl ?_
      refine h_op (vB false) (wt rfl) rfl ?_
      refine h_nil ?_
      replace h_5 := some_inj h_5
      subst h_5
      exact cut_mk () trivial rfl rfl
  · rintro ⟨⟩ _ sl_ H_ hp_ hq_
    refine wH_at _ hp_ hq_ ?_
    replace hF := some_inj hF
    subst hF
    refine wH_ret ?_
    exact fin0 (.inr rfl) [(vB v_4)] ⟨rfl, trivial⟩ rfl rfl rfl
theorem ref_RectFault_ok {r_1 : Rect} {r : Int} (hF : ref_RectFault r_1 = some r) :
    FnM Try.prog 58 [(.d (.agg (Rect.enc r_1)))] [] (vI r) [] := by
  refine FnM.of_wH ⟨Try.prog, 31, [], []⟩ rfl Try.func58 rfl rfl (Nat.le_of_ble_eq_true rfl) (by kernel_rfl) ?_
  unfold ref_RectFault at hF
  refine wH_seq ?_
  refine wH_region ?_
  refine h_box 0 (.inl rfl) [(vI r_1.X), (vI r_1.Y), (vI r_1.W), (vI r_1.H)] rfl rfl (wt rfl) (fun n_2 => ?_)
  refine h_op (vI 0) (wt rfl) rfl ?_
  refine h_nil ?_
  refine wH_seq ?_
  refine wH_seq ?_
  obtain ⟨v_3, h_4, hF⟩ := bind_some hF
  refine wH_join (β := Unit) (fun _ => ([(30, (vB v_3))] : List (Nat × V))) (fun _ => ([(n_2, some (.cells 4 [(vI r_1.X), (vI r_1.Y), (vI r_1.W), (vI r_1.H)]))] : Hp)) (fun _ => True) ?_ ?_
  · refine wH_region ?_
    refine h_far pl92_0 rfl 0 rfl (wt rfl) ?_
    refine h_ldr 0 0 (.inl rfl) (fun _ _ _ => trivial) sz3 ag3 rfl rfl (vI r_1.X) rfl (wt rfl) ?_
    obtain ⟨r_5, hr_6, h_4⟩ := bind_some h_4
    refine h_call0 (ref_in_ok hr_6) rfl hb84 rfl rfl rfl rfl (wt rfl) ?_
    refine h_op (vB (!r_5)) (wt rfl) rfl ?_
    rcases cond_some h_4 with ⟨hc_7, h_4⟩ | ⟨hc_7, h_4⟩
    · refine h_movb rfl hc_7 (wt rfl) ?_
      refine h_skip (wg rfl rfl rfl) ?_
      refine h_skip (wg rfl rfl rfl) ?_
      refine h_skip (wg rfl rfl rfl) ?_
      refine h_skip (wg rfl rfl rfl) ?_
      refine h_op (vB true) (wt rfl) rfl ?_
      refine h_op (vB true) (wt rfl) rfl ?_
      refine h_skip (wg rfl rfl rfl) ?_
      refine h_skip (wg rfl rfl rfl) ?_
      refine h_skip (wg rfl rfl rfl) ?_
      refine h_skip (wg rfl rfl rfl) ?_
      refine h_skip (wg rfl rfl rfl) ?_
      refine h_skip (wg rfl rfl rfl) ?_
      refine h_skip (wg rfl rfl rfl) ?_
      refine h_op (vB true) (wt rfl) rfl ?_
      refine h_op (vB true) (wt rfl) rfl ?_
      refine h_skip (wg rfl rfl rfl) ?_
      refine h_skip (wg rfl rfl rfl) ?_
      refine h_skip (wg rfl rfl rfl) ?_
      refine h_skip (wg rfl rfl rfl) ?_
      refine h_skip (wg rfl rfl rfl) ?_
      refine h_skip (wg rfl rfl rfl) ?_
      refine h_skip (wg rfl rfl rfl) ?_
      refine h_op (vB true) (wt rfl) rfl ?_
      refine h_nil ?_
      replace h_4 := some_inj h_4
      subst h_4
      exact cut_mk () trivial rfl rfl
    · refine h_movb rfl hc_7 (wt rfl) ?_
      refine h_far pl92_1 rfl 1 rfl (wg rfl rfl rfl) ?_
      refine h_ldr 0 0 (.inl rfl) (fun _ _ _ => trivial) sz3 ag3 rfl rfl (vI r_1.Y) rfl (wg rfl rfl rfl) ?_
      obtain ⟨r_8, hr_9, h_4⟩ := bind_some h_4
      refine h_call0 (ref_in_ok hr_9) rfl hb84 rfl rfl rfl rfl (wg rfl rfl rfl) ?_
      refine h_op (vB (!r_8)) (wg rfl rfl rfl) rfl ?_
      refine h_op (vB (!r_8)) (wt rfl) rfl ?_
      rcases cond_some h_4 with ⟨hc_10, h_4⟩ | ⟨hc_10, h_4⟩
      · refine h_movb rfl hc_10 (wt rfl) ?_
        refine h_skip (wg rfl rfl rfl) ?_
        refine h_skip (wg rfl rfl rfl) ?_
        refine h_skip (wg rfl rfl rfl) ?_
        refine h_skip (wg rfl rfl rfl) ?_
        refine h_skip (wg rfl rfl rfl) ?_
        refine h_skip (wg rfl rfl rfl) ?_
        refine h_skip (wg rfl rfl rfl) ?_
        refine h_op (vB true) (wt rfl) rfl ?_
        refine h_op (vB true) (wt rfl) rfl ?_
        refine h_skip (wg rfl rfl rfl) ?_
        refine h_skip (wg rfl rfl rfl) ?_
        refine h_skip (wg rfl rfl rfl) ?_
        refine h_skip (wg rfl rfl rfl) ?_
        refine h_skip (wg rfl rfl rfl) ?_
        refine h_skip (wg rfl rfl rfl) ?_
        refine h_skip (wg rfl rfl rfl) ?_
        refine h_op (vB true) (wt rfl) rfl ?_
        refine h_nil ?_
        replace h_4 := some_inj h_4
        subst h_4
        exact cut_mk () trivial rfl rfl
      · refine h_movb rfl hc_10 (wt rfl) ?_
        refine h_far pl92_2 rfl 2 rfl (wg rfl rfl rfl) ?_
        refine h_ldr 0 0 (.inl rfl) (fun _ _ _ => trivial) sz3 ag3 rfl rfl (vI r_1.W) rfl (wg rfl rfl rfl) ?_
        refine h_far pl92_0 rfl 0 rfl (wg rfl rfl rfl) ?_
        refine h_ldr 0 0 (.inl rfl) (fun _ _ _ => trivial) sz3 ag3 rfl rfl (vI r_1.X) rfl (wg rfl rfl rfl) ?_
        refine h_op (vI (w64 (100000 - r_1.X))) (wg rfl rfl rfl) rfl ?_
        obtain ⟨r_11, hr_12, h_4⟩ := bind_some h_4
        refine h_call0 (ref_in_ok hr_12) rfl hb84 rfl rfl rfl rfl (wg rfl rfl rfl) ?_
        refine h_op (vB (!r_11)) (wg rfl rfl rfl) rfl ?_
        refine h_op (vB (!r_11)) (wt rfl) rfl ?_
        rcases cond_some h_4 with ⟨hc_13, h_4⟩ | ⟨hc_13, h_4⟩
        · refine h_movb rfl hc_13 (wt rfl) ?_
          refine h_skip (wg rfl rfl rfl) ?_
          refine h_skip (wg rfl rfl rfl) ?_
          refine h_skip (wg rfl rfl rfl) ?_
          refine h_skip (wg rfl rfl rfl) ?_
          refine h_skip (wg rfl rfl rfl) ?_
          refine h_skip (wg rfl rfl rfl) ?_
          refine h_skip (wg rfl rfl rfl) ?_
          refine h_op (vB true) (wt rfl) rfl ?_
          refine h_nil ?_
          replace h_4 := some_inj h_4
          subst h_4
          exact cut_mk () trivial rfl rfl
        · refine h_movb rfl hc_13 (wt rfl) ?_
          refine h_far pl92_3 rfl 3 rfl (wg rfl rfl rfl) ?_
          refine h_ldr 0 0 (.inl rfl) (fun _ _ _ => trivial) sz3 ag3 rfl rfl (vI r_1.H) rfl (wg rfl rfl rfl) ?_
          refine h_far pl92_1 rfl 1 rfl (wg rfl rfl rfl) ?_
          refine h_ldr 0 0 (.inl rfl) (fun _ _ _ => trivial) sz3 ag3 rfl rfl (vI r_1.Y) rfl (wg rfl rfl rfl) ?_
          refine h_op (vI (w64 (100000 - r_1.Y))) (wg rfl rfl rfl) rfl ?_
          obtain ⟨r_14, hr_15, h_4⟩ := bind_some h_4
          refine h_call0 (ref_in_ok hr_15) rfl hb84 rfl rfl rfl rfl (wg rfl rfl rfl) ?_
          refine h_op (vB (!r_14)) (wg rfl rfl rfl) rfl ?_
          refine h_op (vB (!r_14)) (wt rfl) rfl ?_
          refine h_nil ?_
          replace h_4 := some_inj h_4
          subst h_4
          exact cut_mk () trivial rfl rfl
  · rintro ⟨⟩ _ sl_ H_ hp_ hq_
    refine wH_at _ hp_ hq_ ?_
    rcases cond_some hF with ⟨hc_16, hF⟩ | ⟨hc_16, hF⟩
    · refine wH_ift rfl hc_16 ?_
      refine wH_seq ?_
      refine wH_region ?_
      refine h_op (vI 1) (wt rfl) rfl ?_
      refine h_nil ?_
      replace hF := some_inj hF
      subst hF
      refine wH_ret ?_
      exact fin0 (.inr rfl) [(vI 1)] ⟨rfl, trivial⟩ rfl rfl rfl
    · refine wH_iff rfl hc_16 ?_
      refine wH_skip ?_
      refine wH_seq ?_
      refine wH_region ?_
      refine h_op (vI 0) (wt rfl) rfl ?_
      refine h_nil ?_
      replace hF := some_inj hF
      subst hF
      refine wH_ret ?_
      exact fin0 (.inr rfl) [(vI 0)] ⟨rfl, trivial⟩ rfl rfl rfl
theorem ref_side_ok {n_1 : Int} {r : Bool} (hF : ref_side n_1 = some r) :
    FnM Try.prog 143 [(vI n_1)] [] (vB r) [] := by
  refine FnM.of_wH ⟨Try.prog, 5, [], []⟩ rfl Try.func143 rfl rfl (Nat.le_of_ble_eq_true rfl) (by kernel_rfl) ?_
  unfold ref_side at hF
  refine wH_seq ?_
  refine wH_region ?_
  refine h_op (vB false) (wt rfl) rfl ?_
  refine h_nil ?_
  refine wH_seq ?_
  refine wH_region ?_
  refine h_op (vI n_1) (wt rfl) rfl ?_
  obtain ⟨r_2, hr_3, hF⟩ := bind_some hF
  refine h_call0 (ref_in_ok hr_3) rfl hb84 rfl rfl rfl rfl (wt rfl) ?_
  refine h_op (vB r_2) (wt rfl) rfl ?_
  refine h_nil ?_
  replace hF := some_inj hF
  subst hF
  refine wH_ret ?_
  exact fin0 (.inr rfl) [(vB r_2)] ⟨rfl, trivial⟩ rfl rfl rfl
theorem ref_within_ok {r_1 : Rect} {wv_2 : Int} {h_3 : Int} {r : Bool} (hF : ref_within r_1 wv_2 h_3 = some r) :
    FnM Try.prog 144 [(.d (.agg (Rect.enc r_1))), (vI wv_2), (vI h_3)] [] (vB r) [] := by
  refine FnM.of_wH ⟨Try.prog, 33, [], []⟩ rfl Try.func144 rfl rfl (Nat.le_of_ble_eq_true rfl) (by kernel_rfl) ?_
  unfold ref_within at hF
  refine wH_seq ?_
  refine wH_region ?_
  refine h_box 0 (.inl rfl) [(vI r_1.X), (vI r_1.Y), (vI r_1.W), (vI r_1.H)] rfl rfl (wt rfl) (fun n_4 => ?_)
  refine h_op (vB false) (wt rfl) rfl ?_
  refine h_nil ?_
  refine wH_seq ?_
  obtain ⟨v_5, h_6, hF⟩ := bind_some hF
  refine wH_join (β := Unit) (fun _ => ([(6, (vB v_5))] : List (Nat × V))) (fun _ => ([(n_4, some (.cells 4 [(vI r_1.X), (vI r_1.Y), (vI r_1.W), (vI r_1.H)]))] : Hp)) (fun _ => True) ?_ ?_
  · refine wH_region ?_
    refine h_far pl92_0 rfl 0 rfl (wt rfl) ?_
    refine h_ldr 0 0 (.inl rfl) (fun _ _ _ => trivial) sz3 ag3 rfl rfl (vI r_1.X) rfl (wt rfl) ?_
    refine h_op (vB (decide (r_1.X ≥ 0))) (wt rfl) rfl ?_
    rcases cond_some h_6 with ⟨hc_7, h_6⟩ | ⟨hc_7, h_6⟩
    · refine h_movb rfl hc_7 (wt rfl) ?_
      refine h_far pl92_1 rfl 1 rfl (wg rfl rfl rfl) ?_
      refine h_ldr 0 0 (.inl rfl) (fun _ _ _ => trivial) sz3 ag3 rfl rfl (vI r_1.Y) rfl (wg rfl rfl rfl) ?_
      refine h_op (vB (decide (r_1.Y ≥ 0))) (wg rfl rfl rfl) rfl ?_
      refine h_op (vB (decide (r_1.Y ≥ 0))) (wt rfl) rfl ?_
      rcases cond_some h_6 with ⟨hc_8, h_6⟩ | ⟨hc_8, h_6⟩
      · refine h_movb rfl hc_8 (wt rfl) ?_
        refine h_far pl92_0 rfl 0 rfl (wg rfl rfl rfl) ?_
        refine h_ldr 0 0 (.inl rfl) (fun _ _ _ => trivial) sz3 ag3 rfl rfl (vI r_1.X) rfl (wg rfl rfl rfl) ?_
        refine h_far pl92_2 rfl 2 rfl (wg rfl rfl rfl) ?_
        refine h_ldr 0 0 (.inl rfl) (fun _ _ _ => trivial) sz3 ag3 rfl rfl (vI r_1.W) rfl (wg rfl rfl rfl) ?_
        refine h_op (vI (w64 (r_1.X + r_1.W))) (wg rfl rfl rfl) rfl ?_
        refine h_op (vI wv_2) (wg rfl rfl rfl) rfl ?_
        refine h_op (vB (decide ((w64 (r_1.X + r_1.W)) ≤ wv_2))) (wg rfl rfl rfl) rfl ?_
        refine h_op (vB (decide ((w64 (r_1.X + r_1.W)) ≤ wv_2))) (wt rfl) rfl ?_
        rcases cond_some h_6 with ⟨hc_9, h_6⟩ | ⟨hc_9, h_6⟩
        · refine h_movb rfl hc_9 (wt rfl) ?_
          refine h_far pl92_1 rfl 1 rfl (wg rfl rfl rfl) ?_
          refine h_ldr 0 0 (.inl rfl) (fun _ _ _ => trivial) sz3 ag3 rfl rfl (vI r_1.Y) rfl (wg rfl rfl rfl) ?_
          refine h_far pl92_3 rfl 3 rfl (wg rfl rfl rfl) ?_
          refine h_ldr 0 0 (.inl rfl) (fun _ _ _ => trivial) sz3 ag3 rfl rfl (vI r_1.H) rfl (wg rfl rfl rfl) ?_
          refine h_op (vI (w64 (r_1.Y + r_1.H))) (wg rfl rfl rfl) rfl ?_
          refine h_op (vI h_3) (wg rfl rfl rfl) rfl ?_
          refine h_op (vB (decide ((w64 (r_1.Y + r_1.H)) ≤ h_3))) (wg rfl rfl rfl) rfl ?_
          refine h_op (vB (decide ((w64 (r_1.Y + r_1.H)) ≤ h_3))) (wt rfl) rfl ?_
          refine h_op (vB (decide ((w64 (r_1.Y + r_1.H)) ≤ h_3))) (wt rfl) rfl ?_
          refine h_nil ?_
          replace h_6 := some_inj h_6
          subst h_6
          exact cut_mk () trivial rfl rfl
        · refine h_movb rfl hc_9 (wt rfl) ?_
          refine h_skip (wg rfl rfl rfl) ?_
          refine h_skip (wg rfl rfl rfl) ?_
          refine h_skip (wg rfl rfl rfl) ?_
          refine h_skip (wg rfl rfl rfl) ?_
          refine h_skip (wg rfl rfl rfl) ?_
          refine h_skip (wg rfl rfl rfl) ?_
          refine h_skip (wg rfl rfl rfl) ?_
          refine h_op (vB false) (wt rfl) rfl ?_
          refine h_op (vB false) (wt rfl) rfl ?_
          refine h_nil ?_
          replace h_6 := some_inj h_6
          subst h_6
          exact cut_mk () trivial rfl rfl
      · refine h_movb rfl hc_8 (wt rfl) ?_
        refine h_skip (wg rfl rfl rfl) ?_
        refine h_skip (wg rfl rfl rfl) ?_
        refine h_skip (wg rfl rfl rfl) ?_
        refine h_skip (wg rfl rfl rfl) ?_
        refine h_skip (wg rfl rfl rfl) ?_
        refine h_skip (wg rfl rfl rfl) ?_
        refine h_skip (wg rfl rfl rfl) ?_
        refine h_op (vB false) (wt rfl) rfl ?_
        refine h_op (vB false) (wt rfl) rfl ?_
        refine h_skip (wg rfl rfl rfl) ?_
        refine h_skip (wg rfl rfl rfl) ?_
        refine h_skip (wg rfl rfl rfl) ?_
        refine h_skip (wg rfl rfl rfl) ?_
        refine h_skip (wg rfl rfl rfl) ?_
        refine h_skip (wg rfl rfl rfl) ?_
        refine h_skip (wg rfl rfl rfl) ?_
        refine h_op (vB false) (wt rfl) rfl ?_
        refine h_op (vB false) (wt rfl) rfl ?_
        refine h_nil ?_
        replace h_6 := some_inj h_6
        subst h_6
        exact cut_mk () trivial rfl rfl
    · refine h_movb rfl hc_7 (wt rfl) ?_
      refine h_skip (wg rfl rfl rfl) ?_
      refine h_skip (wg rfl rfl rfl) ?_
      refine h_skip (wg rfl rfl rfl) ?_
      refine h_op (vB false) (wt rfl) rfl ?_
      refine h_op (vB false) (wt rfl) rfl ?_
      refine h_skip (wg rfl rfl rfl) ?_
      refine h_skip (wg rfl rfl rfl) ?_
      refine h_skip (wg rfl rfl rfl) ?_
      refine h_skip (wg rfl rfl rfl) ?_
      refine h_skip (wg rfl rfl rfl) ?_
      refine h_skip (wg rfl rfl rfl) ?_
      refine h_skip (wg rfl rfl rfl) ?_
      refine h_op (vB false) (wt rfl) rfl ?_
      refine h_op (vB false) (wt rfl) rfl ?_
      refine h_skip (wg rfl rfl rfl) ?_
      refine h_skip (wg rfl rfl rfl) ?_
      refine h_skip (wg rfl rfl rfl) ?_
      refine h_skip (wg rfl rfl rfl) ?_
      refine h_skip (wg rfl rfl rfl) ?_
      refine h_skip (wg rfl rfl rfl) ?_
      refine h_skip (wg rfl rfl rfl) ?_
      refine h_op (vB false) (wt rfl) rfl ?_
      refine h_op (vB false) (wt rfl) rfl ?_
      refine h_nil ?_
      replace h_6 := some_inj h_6
      subst h_6
      exact cut_mk () trivial rfl rfl
  · rintro ⟨⟩ _ sl_ H_ hp_ hq_
    refine wH_at _ hp_ hq_ ?_
    replace hF := some_inj hF
    subst hF
    refine wH_ret ?_
    exact fin0 (.inr rfl) [(vB v_5)] ⟨rfl, trivial⟩ rfl rfl rfl
theorem ref_TurnedOf_ok {r_1 : Rect} {wv_2 : Int} {h_3 : Int} {quarters_4 : Int} {r : Rect × Int} (hF : ref_TurnedOf r_1 wv_2 h_3 quarters_4 = some r) :
    FnM Try.prog 71 [(.d (.agg (Rect.enc r_1))), (vI wv_2), (vI h_3), (vI quarters_4)] [] (.tup [(.d (.agg (Rect.enc r.1))), (vI r.2)]) [] := by
  refine FnM.of_wH ⟨Try.prog, 64, [], []⟩ rfl Try.func71 rfl rfl (Nat.le_of_ble_eq_true rfl) (by kernel_rfl) ?_
  unfold ref_TurnedOf at hF
  refine wH_seq ?_
  refine wH_region ?_
  refine h_box 0 (.inl rfl) [(vI r_1.X), (vI r_1.Y), (vI r_1.W), (vI r_1.H)] rfl rfl (wt rfl) (fun n_5 => ?_)
  refine h_alloc 0 (.inl rfl) z92 rfl (wt rfl) (fun n_6 => ?_)
  refine h_op (vI 0) (wt rfl) rfl ?_
  refine h_nil ?_
  refine wH_seq ?_
  refine wH_block ?_
  refine wH_seq ?_
  obtain ⟨v_7, h_8, hF⟩ := bind_some hF
  refine wH_join (β := Unit) (fun _ => ([(1, (vI wv_2)), (2, (vI h_3)), (3, (vI quarters_4)), (4, (.ref n_5 0 0)), (8, (.ref n_6 0 0)), (12, (vB v_7))] : List (Nat × V))) (fun _ => ([(n_5, some (.cells 4 [(vI r_1.X), (vI r_1.Y), (vI r_1.W), (vI r_1.H)])), (n_6, some (.cells 4 [(vI 0), (vI 0), (vI 0), (vI 0)]))] : Hp)) (fun _ => True) ?_ ?_
  · refine wH_region ?_
    refine h_ldr 0 0 (.inl rfl) (fun _ _ _ => trivial) sz92 ag92 rfl rfl (.d (.agg (Rect.enc r_1))) rfl (wt rfl) ?_
    obtain ⟨r_9, hr_10, h_8⟩ := bind_some h_8
    refine h_call0 (ref_RectFault_ok hr_10) rfl hb58 rfl rfl rfl rfl (wt rfl) ?_
    refine h_op (vB (r_9 != 0)) (wt rfl) rfl ?_
    rcases cond_some h_8 with ⟨hc_11, h_8⟩ | ⟨hc_11, h_8⟩
    · refine h_movb rfl hc_11 (wt rfl) ?_
      refine h_skip (wg rfl rfl rfl) ?_
      refine h_skip (wg rfl rfl rfl) ?_
      refine h_skip (wg rfl rfl rfl) ?_
      refine h_op (vB true) (wt rfl) rfl ?_
      refine h_op (vB true) (wt rfl) rfl ?_
      refine h_skip (wg rfl rfl rfl) ?_
      refine h_skip (wg rfl rfl rfl) ?_
      refine h_skip (wg rfl rfl rfl) ?_
      refine h_op (vB true) (wt rfl) rfl ?_
      refine h_op (vB true) (wt rfl) rfl ?_
      refine h_skip (wg rfl rfl rfl) ?_
      refine h_skip (wg rfl rfl rfl) ?_
      refine h_skip (wg rfl rfl rfl) ?_
      refine h_op (vB true) (wt rfl) rfl ?_
      refine h_op (vB true) (wt rfl) rfl ?_
      refine h_nil ?_
      replace h_8 := some_inj h_8
      subst h_8
      exact cut_mk () trivial rfl rfl
    · refine h_movb rfl hc_11 (wt rfl) ?_
      refine h_op (vI wv_2) (wg rfl rfl rfl) rfl ?_
      obtain ⟨r_12, hr_13, h_8⟩ := bind_some h_8
      refine h_call0 (ref_side_ok hr_13) rfl hb143 rfl rfl rfl rfl (wg rfl rfl rfl) ?_
      refine h_op (vB (!r_12)) (wg rfl rfl rfl) rfl ?_
      refine h_op (vB (!r_12)) (wt rfl) rfl ?_
      rcases cond_some h_8 with ⟨hc_14, h_8⟩ | ⟨hc_14, h_8⟩
      · refine h_movb rfl hc_14 (wt rfl) ?_
        refine h_skip (wg rfl rfl rfl) ?_
        refine h_skip (wg rfl rfl rfl) ?_
        refine h_skip (wg rfl rfl rfl) ?_
        refine h_op (vB true) (wt rfl) rfl ?_
        refine h_op (vB true) (wt rfl) rfl ?_
        refine h_skip (wg rfl rfl rfl) ?_
        refine h_skip (wg rfl rfl rfl) ?_
        refine h_skip (wg rfl rfl rfl) ?_
        refine h_op (vB true) (wt rfl) rfl ?_
        refine h_op (vB true) (wt rfl) rfl ?_
        refine h_nil ?_
        replace h_8 := some_inj h_8
        subst h_8
        exact cut_mk () trivial rfl rfl
      · refine h_movb rfl hc_14 (wt rfl) ?_
        refine h_op (vI h_3) (wg rfl rfl rfl) rfl ?_
        obtain ⟨r_15, hr_16, h_8⟩ := bind_some h_8
        refine h_call0 (ref_side_ok hr_16) rfl hb143 rfl rfl rfl rfl (wg rfl rfl rfl) ?_
        refine h_op (vB (!r_15)) (wg rfl rfl rfl) rfl ?_
        refine h_op (vB (!r_15)) (wt rfl) rfl ?_
        rcases cond_some h_8 with ⟨hc_17, h_8⟩ | ⟨hc_17, h_8⟩
        · refine h_movb rfl hc_17 (wt rfl) ?_
          refine h_skip (wg rfl rfl rfl) ?_
          refine h_skip (wg rfl rfl rfl) ?_
          refine h_skip (wg rfl rfl rfl) ?_
          refine h_op (vB true) (wt rfl) rfl ?_
          refine h_op (vB true) (wt rfl) rfl ?_
          refine h_nil ?_
          replace h_8 := some_inj h_8
          subst h_8
          exact cut_mk () trivial rfl rfl
        · refine h_movb rfl hc_17 (wt rfl) ?_
          refine h_op (vI quarters_4) (wg rfl rfl rfl) rfl ?_
          obtain ⟨r_18, hr_19, h_8⟩ := bind_some h_8
          refine h_call0 (ref_in_ok hr_19) rfl hb84 rfl rfl rfl rfl (wg rfl rfl rfl) ?_
          refine h_op (vB (!r_18)) (wg rfl rfl rfl) rfl ?_
          refine h_op (vB (!r_18)) (wt rfl) rfl ?_
          refine h_op (vB (!r_18)) (wt rfl) rfl ?_
          refine h_nil ?_
          replace h_8 := some_inj h_8
          subst h_8
          exact cut_mk () trivial rfl rfl
  · rintro ⟨⟩ _ sl_ H_ hp_ hq_
    refine wH_at _ hp_ hq_ ?_
    rcases cond_some hF with ⟨hc_20, hF⟩ | ⟨hc_20, hF⟩
    · refine wH_ift rfl hc_20 ?_
      refine wH_seq ?_
      refine wH_region ?_
      refine h_op (.d (.agg (Rect.enc (⟨0, 0, 0, 0⟩ : Rect)))) (wt rfl) (by kernel_rfl) ?_
      refine h_str 0 (.inl rfl) (fun _ _ _ => trivial) 1 sz92 rfl rfl [(vI 0), (vI 0), (vI 0), (vI 0)] rfl (wt rfl) ?_
      refine h_op (vI 1) (wt rfl) rfl ?_
      refine h_nil ?_
      replace hF := some_inj hF
      subst hF
      refine wH_ret ?_
      exact fin0 (.inr rfl) [(.d (.agg (Rect.enc (⟨0, 0, 0, 0⟩ : Rect)))), (vI 1)] ⟨⟨1, _, _, _, _, _, _, _, rfl, rfl, sz92, ag92, rfl⟩, ⟨rfl, trivial⟩⟩ rfl rfl rfl
    · refine wH_iff rfl hc_20 ?_
      refine wH_seq ?_
      refine wH_region ?_
      refine h_ldr 0 0 (.inl rfl) (fun _ _ _ => trivial) sz92 ag92 rfl rfl (.d (.agg (Rect.enc r_1))) rfl (wt rfl) ?_
      refine h_op (vI wv_2) (wt rfl) rfl ?_
      refine h_op (vI h_3) (wt rfl) rfl ?_
      obtain ⟨r_21, hr_22, hF⟩ := bind_some hF
      refine h_call0 (ref_within_ok hr_22) rfl hb144 rfl rfl rfl rfl (wt rfl) ?_
      refine h_op (vB (!r_21)) (wt rfl) rfl ?_
      refine h_op (vB (!r_21)) (wt rfl) rfl ?_
      refine h_nil ?_
      rcases cond_some hF with ⟨hc_23, hF⟩ | ⟨hc_23, hF⟩
      · refine wH_ift rfl hc_23 ?_
        refine wH_seq ?_
        refine wH_region ?_
        refine h_op (.d (.agg (Rect.enc (⟨0, 0, 0, 0⟩ : Rect)))) (wt rfl) (by kernel_rfl) ?_
        refine h_str 0 (.inl rfl) (fun _ _ _ => trivial) 1 sz92 rfl rfl [(vI 0), (vI 0), (vI 0), (vI 0)] rfl (wt rfl) ?_
        refine h_op (vI 3) (wt rfl) rfl ?_
        refine h_nil ?_
        replace hF := some_inj hF
        subst hF
        refine wH_ret ?_
        exact fin0 (.inr rfl) [(.d (.agg (Rect.enc (⟨0, 0, 0, 0⟩ : Rect)))), (vI 3)] ⟨⟨1, _, _, _, _, _, _, _, rfl, rfl, sz92, ag92, rfl⟩, ⟨rfl, trivial⟩⟩ rfl rfl rfl
      · refine wH_iff rfl hc_23 ?_
        refine wH_skip ?_
        refine wH_seq ?_
        refine wH_seq ?_
        refine wH_region ?_
        refine h_op (vI quarters_4) (wt rfl) rfl ?_
        refine h_op (vI 0) (wt rfl) rfl ?_
        refine h_nil ?_
        obtain ⟨o_32, hj_33, hF⟩ := bind_some hF
        obtain ⟨hn_28, hj_33⟩ := forL_some hj_33
        refine wH_join (β := (Int × Int × Int × Int × Int × Int)) (fun (s_29 : Int × Int × Int × Int × Int × Int) => ([(4, (.ref n_5 0 0)), (8, (.ref n_6 0 0))] : List (Nat × V))) (fun (s_29 : Int × Int × Int × Int × Int × Int) => ([(n_5, some (.cells 4 [(vI s_29.2.2.1), (vI s_29.2.2.2.1), (vI s_29.2.2.2.2.1), (vI s_29.2.2.2.2.2)])), (n_6, some (.cells 4 [(vI 0), (vI 0), (vI 0), (vI 0)]))] : Hp)) (fun p => o_32 = .go p) ?_ ?_
        · refine wH_block ?_
          refine wH_loop (β := Nat × (List Nat) × (Int × Int × Int × Int × Int × Int)) (fun p => (fun (k_24 : Nat) (l_25 : List Nat) (s_29 : Int × Int × Int × Int × Int × Int) => ([(1, (vI s_29.1)), (2, (vI s_29.2.1)), (4, (.ref n_5 0 0)), (8, (.ref n_6 0 0)), (39, (vI quarters_4)), (40, (vI (k_24 : Int)))] : List (Nat × V))) p.1 p.2.1 p.2.2) (fun p => (fun (k_24 : Nat) (l_25 : List Nat) (s_29 : Int × Int × Int × Int × Int × Int) => ([(n_5, some (.cells 4 [(vI s_29.2.2.1), (vI s_29.2.2.2.1), (vI s_29.2.2.2.2.1), (vI s_29.2.2.2.2.2)])), (n_6, some (.cells 4 [(vI 0), (vI 0), (vI 0), (vI 0)]))] : Hp)) p.1 p.2.1 p.2.2) (fun p => forR (fun k x s => ref_TurnedOf_L1 k x s) p.2.1 p.1 p.2.2 = some o_32 ∧ ((List.range (quarters_4).toNat)).drop p.1 = p.2.1) (fun p => p.2.1.length) (0, (List.range (quarters_4).toNat), (wv_2, h_3, r_1.X, r_1.Y, r_1.W, r_1.H)) ⟨hj_33, rfl⟩ rfl rfl ?_
          rintro ⟨k_24, l_25, s_29⟩ ⟨hL_31, hD_27⟩
          dsimp only at hL_31 hD_27
          cases l_25 with
          | nil =>
            replace hL_31 := some_inj hL_31
            subst hL_31
            refine wH_seq (wH_region (h_op (vB (decide ((k_24 : Int) < quarters_4))) (wt rfl) rfl (h_nil ?_)))
            refine wH_seq (wH_iff rfl (range_nil hD_27) (wH_exit ?_))
            exact cut_mk (s_29) rfl rfl rfl
          | cons x_26 l_25 =>
            obtain ⟨c_, hc_30, hL_31⟩ := bind_some hL_31
            refine wH_seq (wH_region (h_op (vB (decide ((k_24 : Int) < quarters_4))) (wt rfl) rfl (h_nil ?_)))
            refine wH_seq (wH_ift rfl (range_cons hD_27) (wH_skip ?_))
            unfold ref_TurnedOf_L1 at hc_30
            refine wH_seq ?_
            refine wH_block ?_
            refine wH_seq ?_
            refine wH_draws ?_
            refine h_op (vI s_29.2.1) (wt rfl) rfl ?_
            refine h_op (vI (w64 (s_29.2.1 - 1))) (wt rfl) rfl ?_
            refine h_far pl92_1 rfl 1 rfl (wt rfl) ?_
            refine h_ldr 3 0 (.inr (by kernel_rfl)) (fun _ _ ag => trivial) sz3 ag3 rfl rfl (vI s_29.2.2.2.1) rfl (wt rfl) ?_
            refine h_far pl92_3 rfl 3 rfl (wt rfl) ?_
            refine h_ldr 5 0 (.inr (by kernel_rfl)) (fun _ _ ag => ⟨.inl ⟨rfl, rfl⟩, trivial⟩) sz3 ag3 rfl rfl (vI s_29.2.2.2.2.2) rfl (wt rfl) ?_
            refine h_op (vI (w64 (s_29.2.2.2.1 + s_29.2.2.2.2.2))) (wt rfl) rfl ?_
            refine h_op (vI (w64 ((w64 (s_29.2.2.2.1 + s_29.2.2.2.2.2)) - 1))) (wt rfl) rfl ?_
            refine h_op (vI (w64 ((w64 (s_29.2.1 - 1)) - (w64 ((w64 (s_29.2.2.2.1 + s_29.2.2.2.2.2)) - 1))))) (wt rfl) rfl ?_
            refine h_far pl92_0 rfl 0 rfl (wt rfl) ?_
            refine h_ldr 10 0 (.inr (by kernel_rfl)) (fun _ _ ag => ⟨.inl ⟨rfl, rfl⟩, ⟨.inl ⟨rfl, rfl⟩, trivial⟩⟩) sz3 ag3 rfl rfl (vI s_29.2.2.1) rfl (wt rfl) ?_
            refine h_op (vI (w64 ((w64 (s_29.2.1 - 1)) - (w64 ((w64 (s_29.2.2.2.1 + s_29.2.2.2.2.2)) - 1))))) (wt rfl) rfl ?_
            refine h_op (vI s_29.2.2.1) (wt rfl) rfl ?_
            refine h_nil ?_
            refine wH_seq ?_
            refine wH_region ?_
            refine h_op (vI (w64 ((w64 (s_29.2.1 - 1)) - (w64 ((w64 (s_29.2.2.2.1 + s_29.2.2.2.2.2)) - 1))))) (wt rfl) rfl ?_
            refine h_op (vI s_29.2.2.1) (wt rfl) rfl ?_
            refine h_far pl92_3 rfl 3 rfl (wt rfl) ?_
            refine h_ldr 0 0 (.inl rfl) (fun _ _ _ => trivial) sz3 ag3 rfl rfl (vI s_29.2.2.2.2.2) rfl (wt rfl) ?_
            refine h_far pl92_2 rfl 2 rfl (wt rfl) ?_
            refine h_ldr 0 0 (.inl rfl) (fun _ _ _ => trivial) sz3 ag3 rfl rfl (vI s_29.2.2.2.2.1) rfl (wt rfl) ?_
            refine h_op (.d (.agg (Rect.enc (⟨(w64 ((w64 (s_29.2.1 - 1)) - (w64 ((w64 (s_29.2.2.2.1 + s_29.2.2.2.2.2)) - 1)))), s_29.2.2.1, s_29.2.2.2.2.2, s_29.2.2.2.2.1⟩ : Rect)))) (wt rfl) (by kernel_rfl) ?_
            refine h_str 0 (.inl rfl) (fun _ _ _ => trivial) 0 sz92 rfl rfl [(vI (w64 ((w64 (s_29.2.1 - 1)) - (w64 ((w64 (s_29.2.2.2.1 + s_29.2.2.2.2.2)) - 1))))), (vI s_29.2.2.1), (vI s_29.2.2.2.2.2), (vI s_29.2.2.2.2.1)] rfl (wt rfl) ?_
            refine h_nil ?_
            refine wH_region ?_
            refine h_op (vI s_29.2.1) (wt rfl) rfl ?_
            refine h_op (vI s_29.1) (wt rfl) rfl ?_
            refine h_op (vI s_29.2.1) (wt rfl) rfl ?_
            refine h_op (vI s_29.1) (wt rfl) rfl ?_
            refine h_nil ?_
            refine wH_region ?_
            refine h_opw (w64_nextr hD_27 hn_28) (wt rfl) rfl ?_
            refine h_op (vI ((k_24 + 1 : Nat) : Int)) (wt rfl) rfl ?_
            refine h_nil ?_
            replace hc_30 := some_inj hc_30
            subst hc_30
            exact loop_mk (k_24 + 1, l_25, (s_29.2.1, s_29.1, (w64 ((w64 (s_29.2.1 - 1)) - (w64 ((w64 (s_29.2.2.2.1 + s_29.2.2.2.2.2)) - 1)))), s_29.2.2.1, s_29.2.2.2.2.2, s_29.2.2.2.2.1)) ⟨hL_31, drop_next hD_27⟩ (Nat.lt_succ_self _) rfl rfl
        · rintro s_29 ho_ sl_ H_ hp_ hq_
          subst ho_
          refine wH_at _ hp_ hq_ ?_
          refine wH_seq ?_
          refine wH_region ?_
          refine h_ldr 0 0 (.inl rfl) (fun _ _ _ => trivial) sz92 ag92 rfl rfl (.d (.agg (Rect.enc (⟨s_29.2.2.1, s_29.2.2.2.1, s_29.2.2.2.2.1, s_29.2.2.2.2.2⟩ : Rect)))) rfl (wt rfl) ?_
          refine h_str 0 (.inl rfl) (fun _ _ _ => trivial) 1 sz92 rfl rfl [(vI s_29.2.2.1), (vI s_29.2.2.2.1), (vI s_29.2.2.2.2.1), (vI s_29.2.2.2.2.2)] rfl (wt rfl) ?_
          refine h_op (vI 0) (wt rfl) rfl ?_
          refine h_nil ?_
          replace hF := some_inj hF
          subst hF
          refine wH_ret ?_
          exact fin0 (.inr rfl) [(.d (.agg (Rect.enc (⟨s_29.2.2.1, s_29.2.2.2.1, s_29.2.2.2.2.1, s_29.2.2.2.2.2⟩ : Rect)))), (vI 0)] ⟨⟨1, _, _, _, _, _, _, _, rfl, rfl, sz92, ag92, rfl⟩, ⟨rfl, trivial⟩⟩ rfl rfl rfl
theorem ref_scaled_ok {r_1 : Rect} {wv_2 : Int} {h_3 : Int} {toW_4 : Int} {toH_5 : Int} {r : Rect} (hF : ref_scaled r_1 wv_2 h_3 toW_4 toH_5 = some r) :
    FnM Try.prog 145 [(.d (.agg (Rect.enc r_1))), (vI wv_2), (vI h_3), (vI toW_4), (vI toH_5)] [] (.d (.agg (Rect.enc r))) [] := by
  refine FnM.of_wH ⟨Try.prog, 61, [], []⟩ rfl Try.func145 rfl rfl (Nat.le_of_ble_eq_true rfl) (by kernel_rfl) ?_
  unfold ref_scaled at hF
  refine wH_seq ?_
  refine wH_region ?_
  refine h_box 0 (.inl rfl) [(vI r_1.X), (vI r_1.Y), (vI r_1.W), (vI r_1.H)] rfl rfl (wt rfl) (fun n_6 => ?_)
  refine h_alloc 0 (.inl rfl) z92 rfl (wt rfl) (fun n_7 => ?_)
  refine h_nil ?_
  refine wH_seq ?_
  refine wH_draws ?_
  refine h_far pl92_0 rfl 0 rfl (wt rfl) ?_
  refine h_ldr 1 0 (.inr (by kernel_rfl)) (fun _ _ ag => trivial) sz3 ag3 rfl rfl (vI r_1.X) rfl (wt rfl) ?_
  refine h_op (vI toW_4) (wt rfl) rfl ?_
  refine h_op (vI (w64 (r_1.X * toW_4))) (wt rfl) rfl ?_
  refine h_op (vI wv_2) (wt rfl) rfl ?_
  obtain ⟨q_8, hz_9, hF⟩ := bind_some hF
  refine h_quo rfl rfl hz_9 (wt rfl) ?_
  refine h_far pl92_1 rfl 1 rfl (wt rfl) ?_
  refine h_ldr 7 0 (.inr (by kernel_rfl)) (fun _ _ ag => ⟨.inl ⟨rfl, rfl⟩, trivial⟩) sz3 ag3 rfl rfl (vI r_1.Y) rfl (wt rfl) ?_
  refine h_op (vI toH_5) (wt rfl) rfl ?_
  refine h_op (vI (w64 (r_1.Y * toH_5))) (wt rfl) rfl ?_
  refine h_op (vI h_3) (wt rfl) rfl ?_
  obtain ⟨q_10, hz_11, hF⟩ := bind_some hF
  refine h_quo rfl rfl hz_11 (wt rfl) ?_
  refine h_op (vI q_8) (wt rfl) rfl ?_
  refine h_op (vI q_10) (wt rfl) rfl ?_
  refine h_nil ?_
  refine wH_seq ?_
  refine wH_draws ?_
  refine h_op (vI q_8) (wt rfl) rfl ?_
  refine h_op (vI q_10) (wt rfl) rfl ?_
  refine h_far pl92_0 rfl 0 rfl (wt rfl) ?_
  refine h_ldr 3 0 (.inr (by kernel_rfl)) (fun _ _ ag => trivial) sz3 ag3 rfl rfl (vI r_1.X) rfl (wt rfl) ?_
  refine h_far pl92_2 rfl 2 rfl (wt rfl) ?_
  refine h_ldr 5 0 (.inr (by kernel_rfl)) (fun _ _ ag => ⟨.inl ⟨rfl, rfl⟩, trivial⟩) sz3 ag3 rfl rfl (vI r_1.W) rfl (wt rfl) ?_
  refine h_op (vI (w64 (r_1.X + r_1.W))) (wt rfl) rfl ?_
  refine h_op (vI toW_4) (wt rfl) rfl ?_
  refine h_op (vI (w64 ((w64 (r_1.X + r_1.W)) * toW_4))) (wt rfl) rfl ?_
  refine h_op (vI wv_2) (wt rfl) rfl ?_
  obtain ⟨q_12, hz_13, hF⟩ := bind_some hF
  refine h_quo rfl rfl hz_13 (wt rfl) ?_
  refine h_op (vI q_8) (wt rfl) rfl ?_
  refine h_op (vI (w64 (q_12 - q_8))) (wt rfl) rfl ?_
  refine h_far pl92_1 rfl 1 rfl (wt rfl) ?_
  refine h_ldr 14 0 (.inr (by kernel_rfl)) (fun _ _ ag => ⟨.inl ⟨rfl, rfl⟩, ⟨.inl ⟨rfl, rfl⟩, trivial⟩⟩) sz3 ag3 rfl rfl (vI r_1.Y) rfl (wt rfl) ?_
  refine h_far pl92_3 rfl 3 rfl (wt rfl) ?_
  refine h_ldr 16 0 (.inr (by kernel_rfl)) (fun _ _ ag => ⟨.inl ⟨rfl, rfl⟩, ⟨.inl ⟨rfl, rfl⟩, ⟨.inl ⟨rfl, rfl⟩, trivial⟩⟩⟩) sz3 ag3 rfl rfl (vI r_1.H) rfl (wt rfl) ?_
  refine h_op (vI (w64 (r_1.Y + r_1.H))) (wt rfl) rfl ?_
  refine h_op (vI toH_5) (wt rfl) rfl ?_
  refine h_op (vI (w64 ((w64 (r_1.Y + r_1.H)) * toH_5))) (wt rfl) rfl ?_
  refine h_op (vI h_3) (wt rfl) rfl ?_
  obtain ⟨q_14, hz_15, hF⟩ := bind_some hF
  refine h_quo rfl rfl hz_15 (wt rfl) ?_
  refine h_op (vI q_10) (wt rfl) rfl ?_
  refine h_op (vI (w64 (q_14 - q_10))) (wt rfl) rfl ?_
  refine h_op (.d (.agg (Rect.enc (⟨q_8, q_10, (w64 (q_12 - q_8)), (w64 (q_14 - q_10))⟩ : Rect)))) (wt rfl) (by kernel_rfl) ?_
  refine h_alloc 25 (.inr (by kernel_rfl)) z92 rfl (wt rfl) (fun n_16 => ?_)
  refine h_str 26 (.inr (by kernel_rfl)) (fun _ _ ag => ⟨.inr (.inr (by kernel_rfl)), ⟨.inr (.inr (by kernel_rfl)), ⟨.inr (.inr (by kernel_rfl)), ⟨.inr (.inr (by kernel_rfl)), ⟨.inr (.inr (by kernel_rfl)), trivial⟩⟩⟩⟩⟩) 2 sz92 rfl rfl [(vI q_8), (vI q_10), (vI (w64 (q_12 - q_8))), (vI (w64 (q_14 - q_10)))] rfl (wt rfl) ?_
  refine h_nil ?_
  refine wH_at (H0 := ([(n_6, some (.cells 4 [(vI r_1.X), (vI r_1.Y), (vI r_1.W), (vI r_1.H)])), (n_7, some (.cells 4 [(vI 0), (vI 0), (vI 0), (vI 0)])), (n_16, some (.cells 4 [(vI q_8), (vI q_10), (vI (w64 (q_12 - q_8))), (vI (w64 (q_14 - q_10)))]))] : Hp)) ([(10, (.ref n_7 0 0)), (13, (.ref n_16 0 0))] : List (Nat × V)) (by kernel_rfl) (pre_mk (by kernel_rfl)) ?_
  refine wH_seq ?_
  refine wH_seq ?_
  obtain ⟨v_17, h_18, hF⟩ := bind_some hF
  refine wH_join (β := Unit) (fun _ => ([(10, (.ref n_7 0 0)), (13, (.ref n_16 0 0)), (58, (vB v_17))] : List (Nat × V))) (fun _ => ([(n_6, some (.cells 4 [(vI r_1.X), (vI r_1.Y), (vI r_1.W), (vI r_1.H)])), (n_7, some (.cells 4 [(vI 0), (vI 0), (vI 0), (vI 0)])), (n_16, some (.cells 4 [(vI q_8), (vI q_10), (vI (w64 (q_12 - q_8))), (vI (w64 (q_14 - q_10)))]))] : Hp)) (fun _ => True) ?_ ?_
  · refine wH_region ?_
    refine h_far pl92_2 rfl 2 rfl (wt rfl) ?_
    refine h_ldr 0 2 (.inl rfl) (fun _ _ _ => trivial) sz3 ag3 rfl rfl (vI (w64 (q_12 - q_8))) rfl (wt rfl) ?_
    refine h_op (vB ((w64 (q_12 - q_8)) == 0)) (wt rfl) rfl ?_
    rcases cond_some h_18 with ⟨hc_19, h_18⟩ | ⟨hc_19, h_18⟩
    · refine h_movb rfl hc_19 (wt rfl) ?_
      refine h_skip (wg rfl rfl rfl) ?_
      refine h_skip (wg rfl rfl rfl) ?_
      refine h_skip (wg rfl rfl rfl) ?_
      refine h_op (vB true) (wt rfl) rfl ?_
      refine h_nil ?_
      replace h_18 := some_inj h_18
      subst h_18
      exact cut_mk () trivial rfl rfl
    · refine h_movb rfl hc_19 (wt rfl) ?_
      refine h_far pl92_3 rfl 3 rfl (wg rfl rfl rfl) ?_
      refine h_ldr 0 2 (.inl rfl) (fun _ _ _ => trivial) sz3 ag3 rfl rfl (vI (w64 (q_14 - q_10))) rfl (wg rfl rfl rfl) ?_
      refine h_op (vB ((w64 (q_14 - q_10)) == 0)) (wg rfl rfl rfl) rfl ?_
      refine h_op (vB ((w64 (q_14 - q_10)) == 0)) (wt rfl) rfl ?_
      refine h_nil ?_
      replace h_18 := some_inj h_18
      subst h_18
      exact cut_mk () trivial rfl rfl
  · rintro ⟨⟩ _ sl_ H_ hp_ hq_
    refine wH_at _ hp_ hq_ ?_
    rcases cond_some hF with ⟨hc_20, hF⟩ | ⟨hc_20, hF⟩
    · refine wH_ift rfl hc_20 ?_
      refine wH_seq ?_
      refine wH_region ?_
      refine h_op (.d (.agg (Rect.enc (⟨0, 0, 0, 0⟩ : Rect)))) (wt rfl) (by kernel_rfl) ?_
      refine h_str 0 (.inl rfl) (fun _ _ _ => trivial) 1 sz92 rfl rfl [(vI 0), (vI 0), (vI 0), (vI 0)] rfl (wt rfl) ?_
      refine h_nil ?_
      replace hF := some_inj hF
      subst hF
      refine wH_ret ?_
      exact fin0 (.inr rfl) [(.d (.agg (Rect.enc (⟨0, 0, 0, 0⟩ : Rect))))] ⟨⟨1, _, _, _, _, _, _, _, rfl, rfl, sz92, ag92, rfl⟩, trivial⟩ rfl rfl rfl
    · refine wH_iff rfl hc_20 ?_
      refine wH_skip ?_
      refine wH_seq ?_
      refine wH_region ?_
      refine h_ldr 0 2 (.inl rfl) (fun _ _ _ => trivial) sz92 ag92 rfl rfl (.d (.agg (Rect.enc (⟨q_8, q_10, (w64 (q_12 - q_8)), (w64 (q_14 - q_10))⟩ : Rect)))) rfl (wt rfl) ?_
      refine h_str 0 (.inl rfl) (fun _ _ _ => trivial) 1 sz92 rfl rfl [(vI q_8), (vI q_10), (vI (w64 (q_12 - q_8))), (vI (w64 (q_14 - q_10)))] rfl (wt rfl) ?_
      refine h_nil ?_
      replace hF := some_inj hF
      subst hF
      refine wH_ret ?_
      exact fin0 (.inr rfl) [(.d (.agg (Rect.enc (⟨q_8, q_10, (w64 (q_12 - q_8)), (w64 (q_14 - q_10))⟩ : Rect))))] ⟨⟨1, _, _, _, _, _, _, _, rfl, rfl, sz92, ag92, rfl⟩, trivial⟩ rfl rfl rfl
end Go.Proofs.Ytodfcleaapnklaa.Law
