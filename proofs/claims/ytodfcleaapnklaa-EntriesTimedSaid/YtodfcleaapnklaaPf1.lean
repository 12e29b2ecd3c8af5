/-
  The machine computes these plain functions (written by a program of ours).
-/
import Derived.Test.YtodfcleaapnklaaFacts
import Derived.Test.YtodfcleaapnklaaDefs
open Go Go.Eng Go.Proofs
namespace Go.Proofs.Ytodfcleaapnklaa.Law
set_option maxRecDepth 100000
set_option linter.unusedVariables false
set_option maxHeartbeats 1000000
theorem mk_Below_ok {x_1 : Int} {n_2 : Int} {r : Int} (hF : mk_Below x_1 n_2 = some r) :
    FnM Try.prog 147 [(vI x_1), (vI n_2)] [] (vI r) [] := by
  refine FnM.of_wH ⟨Try.prog, 16, [], []⟩ rfl Try.func147 rfl rfl (Nat.le_of_ble_eq_true rfl) (by kernel_rfl) ?_
  unfold mk_Below at hF
  refine wH_seq ?_
  refine wH_region ?_
  refine h_op (vI 0) (wt rfl) rfl ?_
  refine h_nil ?_
  refine wH_seq ?_
  refine wH_seq ?_
  refine wH_region ?_
  refine h_op (vI n_2) (wt rfl) rfl ?_
  refine h_op (vB (decide (n_2 < 1))) (wt rfl) rfl ?_
  refine h_nil ?_
  rcases cond_some hF with ⟨hc_3, hF⟩ | ⟨hc_3, hF⟩
  · refine wH_ift rfl hc_3 ?_
    refine wH_seq ?_
    refine wH_region ?_
    refine h_op (vI 0) (wt rfl) rfl ?_
    refine h_nil ?_
    replace hF := some_inj hF
    subst hF
    refine wH_ret ?_
    exact fin0 (.inr rfl) [(vI 0)] ⟨rfl, trivial⟩ rfl rfl rfl
  · refine wH_iff rfl hc_3 ?_
    refine wH_skip ?_
    refine wH_seq ?_
    refine wH_region ?_
    refine h_op (vI x_1) (wt rfl) rfl ?_
    refine h_op (vI n_2) (wt rfl) rfl ?_
    obtain ⟨q_4, hz_5, hF⟩ := bind_some hF
    refine h_rem rfl rfl hz_5 (wt rfl) ?_
    refine h_op (vI q_4) (wt rfl) rfl ?_
    refine h_nil ?_
    refine wH_seq ?_
    refine wH_seq ?_
    refine wH_region ?_
    refine h_op (vI q_4) (wt rfl) rfl ?_
    refine h_op (vB (decide (q_4 < 0))) (wt rfl) rfl ?_
    refine h_nil ?_
    obtain ⟨v_6, h_7, hF⟩ := bind_some hF
    refine wH_join (β := Unit) (fun _ => ([(0, (vI v_6))] : List (Nat × V))) (fun _ => ([] : Hp)) (fun _ => True) ?_ ?_
    · rcases cond_some h_7 with ⟨hc_8, h_7⟩ | ⟨hc_8, h_7⟩
      · refine wH_ift rfl hc_8 ?_
        refine wH_region ?_
        refine h_op (vI q_4) (wt rfl) rfl ?_
        refine h_op (vI n_2) (wt rfl) rfl ?_
        refine h_op (vI (w64 (q_4 + n_2))) (wt rfl) rfl ?_
        refine h_op (vI (w64 (q_4 + n_2))) (wt rfl) rfl ?_
        refine h_nil ?_
        replace h_7 := some_inj h_7
        subst h_7
        exact cut_mk () trivial rfl rfl
      · refine wH_iff rfl hc_8 ?_
        refine wH_skip ?_
        replace h_7 := some_inj h_7
        subst h_7
        exact cut_mk () trivial rfl rfl
    · rintro ⟨⟩ _ sl_ H_ hp_ hq_
      refine wH_at _ hp_ hq_ ?_
      refine wH_seq ?_
      refine wH_region ?_
      refine h_op (vI v_6) (wt rfl) rfl ?_
      refine h_op (vI v_6) (wt rfl) rfl ?_
      refine h_nil ?_
      replace hF := some_inj hF
      subst hF
      refine wH_ret ?_
      exact fin0 (.inr rfl) [(vI v_6)] ⟨rfl, trivial⟩ rfl rfl rfl
theorem mk_Stream_Next_ok {s_1 : Stream} {n_2 : Int} {r : Int × Stream} (hF : mk_Stream_Next s_1 n_2 = some r) :
    FnM Try.prog 75 [(.ref (extN 0) 0 0), (vI n_2)] [(.cells 2 [(vL eI s_1.L), (vI s_1.f_at)])] (vI r.1) [some (.cells 2 [(vL eI r.2.L), (vI r.2.f_at)])] := by
  refine FnM.of_wH ⟨Try.prog, 64, [], []⟩ rfl Try.func75 rfl rfl (Nat.le_of_ble_eq_true rfl) (by kernel_rfl) ?_
  unfold mk_Stream_Next at hF
  refine wH_seq ?_
  refine wH_region ?_
  refine h_op (vI 0) (wt rfl) rfl ?_
  refine h_nil ?_
  refine wH_seq ?_
  refine wH_region ?_
  refine h_op (.ref (extN 0) 0 0) (wt rfl) rfl ?_
  refine h_op (.ref (extN 0) 0 0) (wt rfl) rfl ?_
  refine h_far pl25_1 rfl 1 rfl (wt rfl) ?_
  refine h_ldr 0 0 (.inl rfl) (fun _ _ _ => trivial) sz3 ag3 rfl rfl (vI s_1.f_at) rfl (wt rfl) ?_
  refine h_op (vI (w64 (s_1.f_at + 1))) (wt rfl) rfl ?_
  refine h_op (.ref (extN 0) 0 0) (wt rfl) rfl ?_
  refine h_far pl25_1 rfl 1 rfl (wt rfl) ?_
  refine h_str 0 (.inl rfl) (fun _ _ _ => trivial) 0 sz3 rfl rfl [(vL eI s_1.L), (vI (w64 (s_1.f_at + 1)))] rfl (wt rfl) ?_
  refine h_nil ?_
  refine wH_seq ?_
  refine wH_seq ?_
  refine wH_region ?_
  refine h_op (.ref (extN 0) 0 0) (wt rfl) rfl ?_
  refine h_op (.ref (extN 0) 0 0) (wt rfl) rfl ?_
  refine h_far pl25_0 rfl 0 rfl (wt rfl) ?_
  refine h_ldr 0 0 (.inl rfl) (fun _ _ _ => trivial) sz22 ag22 rfl rfl (vL eI s_1.L) rfl (wt rfl) ?_
  refine h_len un22 rfl (wt rfl) ?_
  refine h_op (vB ((s_1.L.length : Int) == 0)) (wt rfl) rfl ?_
  refine h_nil ?_
  rcases cond_some hF with ⟨hc_3, hF⟩ | ⟨hc_3, hF⟩
  · refine wH_ift rfl hc_3 ?_
    refine wH_seq ?_
    refine wH_region ?_
    refine h_op (.ref (extN 0) 0 0) (wt rfl) rfl ?_
    refine h_op (.ref (extN 0) 0 0) (wt rfl) rfl ?_
    refine h_far pl25_1 rfl 1 rfl (wt rfl) ?_
    refine h_ldr 0 0 (.inl rfl) (fun _ _ _ => trivial) sz3 ag3 rfl rfl (vI (w64 (s_1.f_at + 1))) rfl (wt rfl) ?_
    refine h_op (vI (w64 ((w64 (s_1.f_at + 1)) * 7919))) (wt rfl) rfl ?_
    refine h_op (vI n_2) (wt rfl) rfl ?_
    obtain ⟨r_4, hr_5, hF⟩ := bind_some hF
    refine h_call0 (mk_Below_ok hr_5) rfl hb147 rfl rfl rfl rfl (wt rfl) ?_
    refine h_op (vI r_4) (wt rfl) rfl ?_
    refine h_nil ?_
    replace hF := some_inj hF
    subst hF
    refine wH_ret ?_
    exact finB (.inr rfl) [(vI r_4)] _ [0] [extN 0] ⟨rfl, trivial⟩ (.cons (co_data rfl rfl) (.nil)) (by kernel_rfl) ⟨(by kernel_rfl), trivial⟩ (by decide) (by kernel_rfl)
  · refine wH_iff rfl hc_3 ?_
    refine wH_skip ?_
    refine wH_seq ?_
    refine wH_draws ?_
    refine h_op (.ref (extN 0) 0 0) (wt rfl) rfl ?_
    refine h_op (.ref (extN 0) 0 0) (wt rfl) rfl ?_
    refine h_far pl25_1 rfl 1 rfl (wt rfl) ?_
    refine h_ldr 3 0 (.inr (by kernel_rfl)) (fun _ _ ag => trivial) sz3 ag3 rfl rfl (vI (w64 (s_1.f_at + 1))) rfl (wt rfl) ?_
    refine h_op (vI (w64 ((w64 (s_1.f_at + 1)) - 1))) (wt rfl) rfl ?_
    refine h_op (.ref (extN 0) 0 0) (wt rfl) rfl ?_
    refine h_op (.ref (extN 0) 0 0) (wt rfl) rfl ?_
    refine h_far pl25_0 rfl 0 rfl (wt rfl) ?_
    refine h_ldr 8 0 (.inr (by kernel_rfl)) (fun _ _ ag => ⟨.inl ⟨rfl, rfl⟩, trivial⟩) sz22 ag22 rfl rfl (vL eI s_1.L) rfl (wt rfl) ?_
    refine h_len un22 rfl (wt rfl) ?_
    obtain ⟨q_6, hz_7, hF⟩ := bind_some hF
    refine h_rem rfl rfl hz_7 (wt rfl) ?_
    refine h_op (vI q_6) (wt rfl) rfl ?_
    refine h_nil ?_
    refine wH_seq ?_
    refine wH_draws ?_
    refine h_op (.ref (extN 0) 0 0) (wt rfl) rfl ?_
    refine h_op (.ref (extN 0) 0 0) (wt rfl) rfl ?_
    refine h_far pl25_1 rfl 1 rfl (wt rfl) ?_
    refine h_ldr 3 0 (.inr (by kernel_rfl)) (fun _ _ ag => trivial) sz3 ag3 rfl rfl (vI (w64 (s_1.f_at + 1))) rfl (wt rfl) ?_
    refine h_op (vI (w64 ((w64 (s_1.f_at + 1)) - 1))) (wt rfl) rfl ?_
    refine h_op (.ref (extN 0) 0 0) (wt rfl) rfl ?_
    refine h_op (.ref (extN 0) 0 0) (wt rfl) rfl ?_
    refine h_far pl25_0 rfl 0 rfl (wt rfl) ?_
    refine h_ldr 8 0 (.inr (by kernel_rfl)) (fun _ _ ag => ⟨.inl ⟨rfl, rfl⟩, trivial⟩) sz22 ag22 rfl rfl (vL eI s_1.L) rfl (wt rfl) ?_
    refine h_len un22 rfl (wt rfl) ?_
    obtain ⟨q_8, hz_9, hF⟩ := bind_some hF
    refine h_quo rfl rfl hz_9 (wt rfl) ?_
    refine h_op (vI q_8) (wt rfl) rfl ?_
    refine h_nil ?_
    refine wH_seq ?_
    refine wH_region ?_
    refine h_op (.ref (extN 0) 0 0) (wt rfl) rfl ?_
    refine h_op (.ref (extN 0) 0 0) (wt rfl) rfl ?_
    refine h_far pl25_0 rfl 0 rfl (wt rfl) ?_
    refine h_ldr 0 0 (.inl rfl) (fun _ _ _ => trivial) sz22 ag22 rfl rfl (vL eI s_1.L) rfl (wt rfl) ?_
    refine h_op (vI q_6) (wt rfl) rfl ?_
    obtain ⟨y_10, hy_11, hF⟩ := bind_some hF
    refine h_ia es22 rfl rfl hy_11 rfl (wt rfl) ?_
    refine h_ldc sz3 ag3 rfl (vI y_10) rfl (wt rfl) ?_
    obtain ⟨r_12, hr_13, hF⟩ := bind_some hF
    refine h_call0 (mk_Below_ok hr_13) rfl hb147 rfl rfl rfl rfl (wt rfl) ?_
    refine h_op (vI q_8) (wt rfl) rfl ?_
    refine h_op (vI q_6) (wt rfl) rfl ?_
    refine h_op (vI (w64 (7919 + q_6))) (wt rfl) rfl ?_
    refine h_op (vI (w64 (q_8 * (w64 (7919 + q_6))))) (wt rfl) rfl ?_
    refine h_op (vI (w64 (r_12 + (w64 (q_8 * (w64 (7919 + q_6))))))) (wt rfl) rfl ?_
    refine h_op (vI n_2) (wt rfl) rfl ?_
    obtain ⟨r_14, hr_15, hF⟩ := bind_some hF
    refine h_call0 (mk_Below_ok hr_15) rfl hb147 rfl rfl rfl rfl (wt rfl) ?_
    refine h_op (vI r_14) (wt rfl) rfl ?_
    refine h_nil ?_
    replace hF := some_inj hF
    subst hF
    refine wH_ret ?_
    exact finB (.inr rfl) [(vI r_14)] _ [0] [extN 0] ⟨rfl, trivial⟩ (.cons (co_data rfl rfl) (.nil)) (by kernel_rfl) ⟨(by kernel_rfl), trivial⟩ (by decide) (by kernel_rfl)
theorem mk_Stream_Range_ok {s_1 : Stream} {low_2 : Int} {high_3 : Int} {r : Int × Stream} (hF : mk_Stream_Range s_1 low_2 high_3 = some r) :
    FnM Try.prog 106 [(.ref (extN 0) 0 0), (vI low_2), (vI high_3)] [(.cells 2 [(vL eI s_1.L), (vI s_1.f_at)])] (vI r.1) [some (.cells 2 [(vL eI r.2.L), (vI r.2.f_at)])] := by
  refine FnM.of_wH ⟨Try.prog, 19, [], []⟩ rfl Try.func106 rfl rfl (Nat.le_of_ble_eq_true rfl) (by kernel_rfl) ?_
  unfold mk_Stream_Range at hF
  refine wH_seq ?_
  refine wH_region ?_
  refine h_op (vI 0) (wt rfl) rfl ?_
  refine h_nil ?_
  refine wH_seq ?_
  refine wH_seq ?_
  refine wH_region ?_
  refine h_op (vI high_3) (wt rfl) rfl ?_
  refine h_op (vI low_2) (wt rfl) rfl ?_
  refine h_op (vB (decide (high_3 < low_2))) (wt rfl) rfl ?_
  refine h_nil ?_
  rcases cond_some hF with ⟨hc_4, hF⟩ | ⟨hc_4, hF⟩
  · refine wH_ift rfl hc_4 ?_
    refine wH_seq ?_
    refine wH_region ?_
    refine h_op (vI low_2) (wt rfl) rfl ?_
    refine h_op (vI low_2) (wt rfl) rfl ?_
    refine h_nil ?_
    replace hF := some_inj hF
    subst hF
    refine wH_ret ?_
    exact finB (.inr rfl) [(vI low_2)] _ [0] [extN 0] ⟨rfl, trivial⟩ (.cons (co_data rfl rfl) (.nil)) (by kernel_rfl) ⟨(by kernel_rfl), trivial⟩ (by decide) (by kernel_rfl)
  · refine wH_iff rfl hc_4 ?_
    refine wH_skip ?_
    refine wH_seq ?_
    refine wH_region ?_
    refine h_op (vI low_2) (wt rfl) rfl ?_
    refine h_op (.ref (extN 0) 0 0) (wt rfl) rfl ?_
    refine h_op (vI high_3) (wt rfl) rfl ?_
    refine h_op (vI low_2) (wt rfl) rfl ?_
    refine h_op (vI (w64 (high_3 - low_2))) (wt rfl) rfl ?_
    refine h_op (vI (w64 ((w64 (high_3 - low_2)) + 1))) (wt rfl) rfl ?_
    obtain ⟨r_5, hr_6, hF⟩ := bind_some hF
    refine h_callq 0 [0] (.inl rfl) (fun _ _ _ => trivial) (mk_Stream_Next_ok hr_6) rfl hb75 rfl (by kernel_rfl) (by kernel_rfl) (by kernel_rfl) (by kernel_rfl) (by kernel_rfl) (by kernel_rfl) (by kernel_rfl) (by decide) (by kernel_rfl) (wt rfl) (vI r_5.1) (by kernel_rfl) ([((extN 0), some (.cells 2 [(vL eI r_5.2.L), (vI r_5.2.f_at)]))] : Hp) (by kernel_rfl) ?_
    refine h_op (vI (w64 (low_2 + r_5.1))) (wt rfl) rfl ?_
    refine h_op (vI (w64 (low_2 + r_5.1))) (wt rfl) rfl ?_
    refine h_nil ?_
    replace hF := some_inj hF
    subst hF
    refine wH_ret ?_
    exact finB (.inr rfl) [(vI (w64 (low_2 + r_5.1)))] _ [0] [extN 0] ⟨rfl, trivial⟩ (.cons (co_data rfl rfl) (.nil)) (by kernel_rfl) ⟨(by kernel_rfl), trivial⟩ (by decide) (by kernel_rfl)
theorem mk_Stream_Pick_ok {s_1 : Stream} {l_2 : (List Int)} {r : Int × Stream} (hF : mk_Stream_Pick s_1 l_2 = some r) :
    FnM Try.prog 10 [(.ref (extN 0) 0 0), (vL eI l_2)] [(.cells 2 [(vL eI s_1.L), (vI s_1.f_at)])] (vI r.1) [some (.cells 2 [(vL eI r.2.L), (vI r.2.f_at)])] := by
  refine FnM.of_wH ⟨Try.prog, 12, [], []⟩ rfl Try.func10 rfl rfl (Nat.le_of_ble_eq_true rfl) (by kernel_rfl) ?_
  unfold mk_Stream_Pick at hF
  refine wH_seq ?_
  refine wH_region ?_
  refine h_op (vI 0) (wt rfl) rfl ?_
  refine h_nil ?_
  refine wH_seq ?_
  refine wH_region ?_
  refine h_op (vL eI l_2) (wt rfl) rfl ?_
  refine h_op (.ref (extN 0) 0 0) (wt rfl) rfl ?_
  refine h_op (vL eI l_2) (wt rfl) rfl ?_
  refine h_len un22 rfl (wt rfl) ?_
  obtain ⟨r_3, hr_4, hF⟩ := bind_some hF
  refine h_callq 0 [0] (.inl rfl) (fun _ _ _ => trivial) (mk_Stream_Next_ok hr_4) rfl hb75 rfl (by kernel_rfl) (by kernel_rfl) (by kernel_rfl) (by kernel_rfl) (by kernel_rfl) (by kernel_rfl) (by kernel_rfl) (by decide) (by kernel_rfl) (wt rfl) (vI r_3.1) (by kernel_rfl) ([((extN 0), some (.cells 2 [(vL eI r_3.2.L), (vI r_3.2.f_at)]))] : Hp) (by kernel_rfl) ?_
  obtain ⟨y_6, hy_7, hF⟩ := bind_some hF
  refine h_ia es22 rfl rfl hy_7 rfl (wt rfl) ?_
  refine h_ldc sz3 ag3 rfl (vI y_6) rfl (wt rfl) ?_
  refine h_op (vI y_6) (wt rfl) rfl ?_
  refine h_nil ?_
  replace hF := some_inj hF
  subst hF
  refine wH_ret ?_
  exact finB (.inr rfl) [(vI y_6)] _ [0] [extN 0] ⟨rfl, trivial⟩ (.cons (co_data rfl rfl) (.nil)) (by kernel_rfl) ⟨(by kernel_rfl), trivial⟩ (by decide) (by kernel_rfl)
theorem mk_Stream_Flip_ok {s_1 : Stream} {n_2 : Int} {r : Bool × Stream} (hF : mk_Stream_Flip s_1 n_2 = some r) :
    FnM Try.prog 37 [(.ref (extN 0) 0 0), (vI n_2)] [(.cells 2 [(vL eI s_1.L), (vI s_1.f_at)])] (vB r.1) [some (.cells 2 [(vL eI r.2.L), (vI r.2.f_at)])] := by
  refine FnM.of_wH ⟨Try.prog, 9, [], []⟩ rfl Try.func37 rfl rfl (Nat.le_of_ble_eq_true rfl) (by kernel_rfl) ?_
  unfold mk_Stream_Flip at hF
  refine wH_seq ?_
  refine wH_region ?_
  refine h_op (vB false) (wt rfl) rfl ?_
  refine h_nil ?_
  refine wH_seq ?_
  refine wH_region ?_
  refine h_op (.ref (extN 0) 0 0) (wt rfl) rfl ?_
  refine h_op (vI n_2) (wt rfl) rfl ?_
  obtain ⟨r_3, hr_4, hF⟩ := bind_some hF
  refine h_callq 0 [0] (.inl rfl) (fun _ _ _ => trivial) (mk_Stream_Next_ok hr_4) rfl hb75 rfl (by kernel_rfl) (by kernel_rfl) (by kernel_rfl) (by kernel_rfl) (by kernel_rfl) (by kernel_rfl) (by kernel_rfl) (by decide) (by kernel_rfl) (wt rfl) (vI r_3.1) (by kernel_rfl) ([((extN 0), some (.cells 2 [(vL eI r_3.2.L), (vI r_3.2.f_at)]))] : Hp) (by kernel_rfl) ?_
  refine h_op (vB (r_3.1 == 0)) (wt rfl) rfl ?_
  refine h_op (vB (r_3.1 == 0)) (wt rfl) rfl ?_
  refine h_nil ?_
  replace hF := some_inj hF
  subst hF
  refine wH_ret ?_
  exact finB (.inr rfl) [(vB (r_3.1 == 0))] _ [0] [extN 0] ⟨rfl, trivial⟩ (.cons (co_data rfl rfl) (.nil)) (by kernel_rfl) ⟨(by kernel_rfl), trivial⟩ (by decide) (by kernel_rfl)
theorem mk_Stream_Some_ok {s_1 : Stream} {l_2 : (List ByteArray)} {r : ByteArray × Stream} (hF : mk_Stream_Some s_1 l_2 = some r) :
    FnM Try.prog 9 [(.ref (extN 0) 0 0), (vL eS l_2)] [(.cells 2 [(vL eI s_1.L), (vI s_1.f_at)])] (vS r.1) [some (.cells 2 [(vL eI r.2.L), (vI r.2.f_at)])] := by
  refine FnM.of_wH ⟨Try.prog, 12, [], []⟩ rfl Try.func9 rfl rfl (Nat.le_of_ble_eq_true rfl) (by kernel_rfl) ?_
  unfold mk_Stream_Some at hF
  refine wH_seq ?_
  refine wH_region ?_
  refine h_op (vS (⟨#[]⟩ : ByteArray)) (wt rfl) rfl ?_
  refine h_nil ?_
  refine wH_seq ?_
  refine wH_region ?_
  refine h_op (vL eS l_2) (wt rfl) rfl ?_
  refine h_op (.ref (extN 0) 0 0) (wt rfl) rfl ?_
  refine h_op (vL eS l_2) (wt rfl) rfl ?_
  refine h_len un46 rfl (wt rfl) ?_
  obtain ⟨r_3, hr_4, hF⟩ := bind_some hF
  refine h_callq 0 [0] (.inl rfl) (fun _ _ _ => trivial) (mk_Stream_Next_ok hr_4) rfl hb75 rfl (by kernel_rfl) (by kernel_rfl) (by kernel_rfl) (by kernel_rfl) (by kernel_rfl) (by kernel_rfl) (by kernel_rfl) (by decide) (by kernel_rfl) (wt rfl) (vI r_3.1) (by kernel_rfl) ([((extN 0), some (.cells 2 [(vL eI r_3.2.L), (vI r_3.2.f_at)]))] : Hp) (by kernel_rfl) ?_
  obtain ⟨y_6, hy_7, hF⟩ := bind_some hF
  refine h_ia es46 rfl rfl hy_7 rfl (wt rfl) ?_
  refine h_ldc sz9 ag9 rfl (vS y_6) rfl (wt rfl) ?_
  refine h_op (vS y_6) (wt rfl) rfl ?_
  refine h_nil ?_
  replace hF := some_inj hF
  subst hF
  refine wH_ret ?_
  exact finB (.inr rfl) [(vS y_6)] _ [0] [extN 0] ⟨rfl, trivial⟩ (.cons (co_data rfl rfl) (.nil)) (by kernel_rfl) ⟨(by kernel_rfl), trivial⟩ (by decide) (by kernel_rfl)
theorem mk_Stream_Odd_ok {s_1 : Stream} {low_2 : Int} {high_3 : Int} {r : Int × Stream} (hF : mk_Stream_Odd s_1 low_2 high_3 = some r) :
    FnM Try.prog 38 [(.ref (extN 0) 0 0), (vI low_2), (vI high_3)] [(.cells 2 [(vL eI s_1.L), (vI s_1.f_at)])] (vI r.1) [some (.cells 2 [(vL eI r.2.L), (vI r.2.f_at)])] := by
  refine FnM.of_wH ⟨Try.prog, 22, [], []⟩ rfl Try.func38 rfl rfl (Nat.le_of_ble_eq_true rfl) (by kernel_rfl) ?_
  unfold mk_Stream_Odd at hF
  refine wH_seq ?_
  refine wH_region ?_
  refine h_op (vI 0) (wt rfl) rfl ?_
  refine h_nil ?_
  refine wH_seq ?_
  refine wH_seq ?_
  refine wH_region ?_
  refine h_op (.ref (extN 0) 0 0) (wt rfl) rfl ?_
  obtain ⟨r_4, hr_5, hF⟩ := bind_some hF
  refine h_callq 0 [0] (.inl rfl) (fun _ _ _ => trivial) (mk_Stream_Flip_ok hr_5) rfl hb37 rfl (by kernel_rfl) (by kernel_rfl) (by kernel_rfl) (by kernel_rfl) (by kernel_rfl) (by kernel_rfl) (by kernel_rfl) (by decide) (by kernel_rfl) (wt rfl) (vB r_4.1) (by kernel_rfl) ([((extN 0), some (.cells 2 [(vL eI r_4.2.L), (vI r_4.2.f_at)]))] : Hp) (by kernel_rfl) ?_
  refine h_nil ?_
  rcases cond_some hF with ⟨hc_7, hF⟩ | ⟨hc_7, hF⟩
  · refine wH_ift rfl hc_7 ?_
    refine wH_seq ?_
    refine wH_region ?_
    refine h_op (.ref (extN 0) 0 0) (wt rfl) rfl ?_
    refine h_op (vI low_2) (wt rfl) rfl ?_
    refine h_op (vI (w64 (low_2 - 1))) (wt rfl) rfl ?_
    refine h_op (vI high_3) (wt rfl) rfl ?_
    refine h_op (vI (w64 (high_3 + 1))) (wt rfl) rfl ?_
    refine h_op (vI low_2) (wt rfl) rfl ?_
    refine h_op (vI high_3) (wt rfl) rfl ?_
    refine h_lit (([(w64 (low_2 - 1)), (w64 (high_3 + 1)), low_2, high_3, (-1099511627776), 1099511627776] : List Int).map eI) es22 ez22 rfl rfl rfl rfl rfl (wt rfl) ?_
    obtain ⟨r_8, hr_9, hF⟩ := bind_some hF
    refine h_callq 0 [0] (.inl rfl) (fun _ _ _ => trivial) (mk_Stream_Pick_ok hr_9) rfl hb10 rfl (by kernel_rfl) (by kernel_rfl) (by kernel_rfl) (by kernel_rfl) (by kernel_rfl) (by kernel_rfl) (by kernel_rfl) (by decide) (by kernel_rfl) (wt rfl) (vI r_8.1) (by kernel_rfl) ([((extN 0), some (.cells 2 [(vL eI r_8.2.L), (vI r_8.2.f_at)]))] : Hp) (by kernel_rfl) ?_
    refine h_op (vI r_8.1) (wt rfl) rfl ?_
    refine h_nil ?_
    replace hF := some_inj hF
    subst hF
    refine wH_ret ?_
    exact finB (.inr rfl) [(vI r_8.1)] _ [0] [extN 0] ⟨rfl, trivial⟩ (.cons (co_data rfl rfl) (.nil)) (by kernel_rfl) ⟨(by kernel_rfl), trivial⟩ (by decide) (by kernel_rfl)
  · refine wH_iff rfl hc_7 ?_
    refine wH_skip ?_
    refine wH_seq ?_
    refine wH_region ?_
    refine h_op (.ref (extN 0) 0 0) (wt rfl) rfl ?_
    refine h_op (vI low_2) (wt rfl) rfl ?_
    refine h_op (vI high_3) (wt rfl) rfl ?_
    obtain ⟨r_11, hr_12, hF⟩ := bind_some hF
    refine h_callq 0 [0] (.inl rfl) (fun _ _ _ => trivial) (mk_Stream_Range_ok hr_12) rfl hb106 rfl (by kernel_rfl) (by kernel_rfl) (by kernel_rfl) (by kernel_rfl) (by kernel_rfl) (by kernel_rfl) (by kernel_rfl) (by decide) (by kernel_rfl) (wt rfl) (vI r_11.1) (by kernel_rfl) ([((extN 0), some (.cells 2 [(vL eI r_11.2.L), (vI r_11.2.f_at)]))] : Hp) (by kernel_rfl) ?_
    refine h_op (vI r_11.1) (wt rfl) rfl ?_
    refine h_nil ?_
    replace hF := some_inj hF
    subst hF
    refine wH_ret ?_
    exact finB (.inr rfl) [(vI r_11.1)] _ [0] [extN 0] ⟨rfl, trivial⟩ (.cons (co_data rfl rfl) (.nil)) (by kernel_rfl) ⟨(by kernel_rfl), trivial⟩ (by decide) (by kernel_rfl)
theorem kit_IsKey_ok {s_1 : ByteArray} {r : Bool} (hF : kit_IsKey s_1 = some r) :
    FnM Try.prog 77 [(vS s_1)] [] (vB r) [] := by
  refine FnM.of_wH ⟨Try.prog, 48, [], []⟩ rfl Try.func77 rfl rfl (Nat.le_of_ble_eq_true rfl) (by kernel_rfl) ?_
  unfold kit_IsKey at hF
  refine wH_seq ?_
  refine wH_region ?_
  refine h_op (vB false) (wt rfl) rfl ?_
  refine h_nil ?_
  refine wH_seq ?_
  refine wH_seq ?_
  refine wH_region ?_
  refine h_op (vI 0) (wt rfl) rfl ?_
  refine h_nil ?_
  obtain ⟨o_10, hj_11, hF⟩ := bind_some hF
  obtain ⟨nq_33, hj_11⟩ := loopO_iter hj_11
  refine wH_join (β := (Int)) (fun (s_7 : Int) => ([(0, (vS s_1))] : List (Nat × V))) (fun (s_7 : Int) => ([] : Hp)) (fun p => o_10 = .go p) ?_ ?_
  · refine wH_block ?_
    refine wH_loop (β := Nat × (Int)) (fun p => (fun (k_2 : Nat) (s_7 : Int) => ([(0, (vS s_1)), (3, (vI s_7))] : List (Nat × V))) p.1 p.2) (fun p => (fun (k_2 : Nat) (s_7 : Int) => ([] : Hp)) p.1 p.2) (fun p => iterN (fun s => kit_IsKey_L1 s_1 s) p.1 p.2 = some o_10) (fun p => p.1) (nq_33, 0) hj_11 rfl rfl ?_
    rintro ⟨k_2, s_7⟩ hL_9
    dsimp only at hL_9
    cases k_2 with
    | zero => cases hL_9
    | succ k_2 =>
      obtain ⟨c_, hc_8, hL_9⟩ := bind_some hL_9
      unfold kit_IsKey_L1 at hc_8
      refine wH_seq ?_
      refine wH_seq ?_
      refine wH_region ?_
      refine h_op (vI s_7) (wt rfl) rfl ?_
      refine h_op (vS s_1) (wt rfl) rfl ?_
      refine h_lens un9 rfl (wt rfl) ?_
      refine h_op (vB (decide (s_7 < (s_1.size : Int)))) (wt rfl) rfl ?_
      refine h_nil ?_
      rcases cond_some hc_8 with ⟨hc_12, hc_8⟩ | ⟨hc_12, hc_8⟩
      · refine wH_ift rfl hc_12 ?_
        refine wH_skip ?_
        refine wH_seq ?_
        refine wH_block ?_
        refine wH_seq ?_
        refine wH_region ?_
        refine h_op (vS s_1) (wt rfl) rfl ?_
        refine h_op (vI s_7) (wt rfl) rfl ?_
        obtain ⟨b_13, hy_14, hc_8⟩ := bind_some hc_8
        refine h_idxs un9 rfl rfl hy_14 (wt rfl) ?_
        refine h_op (.d (.int .u8 (b_13.toNat : Int))) (wt rfl) rfl ?_
        refine h_nil ?_
        refine wH_seq ?_
        obtain ⟨v_15, h_16, hc_8⟩ := bind_some hc_8
        refine wH_join (β := Unit) (fun _ => ([(0, (vS s_1)), (3, (vI s_7)), (40, (vB v_15))] : List (Nat × V))) (fun _ => ([] : Hp)) (fun _ => True) ?_ ?_
        · refine wH_region ?_
          refine h_op (.d (.int .u8 (b_13.toNat : Int))) (wt rfl) rfl ?_
          refine h_op (vB (decide ((b_13.toNat : Int) ≥ 97))) (wt rfl) rfl ?_
          rcases cond_some h_16 with ⟨hc_17, h_16⟩ | ⟨hc_17, h_16⟩
          · refine h_movb rfl hc_17 (wt rfl) ?_
            refine h_op (.d (.int .u8 (b_13.toNat : Int))) (wg rfl rfl rfl) rfl ?_
            refine h_op (vB (decide ((b_13.toNat : Int) ≤ 122))) (wg rfl rfl rfl) rfl ?_
            refine h_op (vB (decide ((b_13.toNat : Int) ≤ 122))) (wt rfl) rfl ?_
            rcases cond_some h_16 with ⟨hc_18, h_16⟩ | ⟨hc_18, h_16⟩
            · refine h_movb rfl hc_18 (wt rfl) ?_
              refine h_skip (wg rfl rfl rfl) ?_
              refine h_skip (wg rfl rfl rfl) ?_
              refine h_skip (wg rfl rfl rfl) ?_
              refine h_skip (wn rfl rfl) ?_
              refine h_skip (wn rfl rfl) ?_
              refine h_skip (wn rfl rfl) ?_
              refine h_skip (wn rfl rfl) ?_
              refine h_skip (wn rfl rfl) ?_
              refine h_skip (wn rfl rfl) ?_
              refine h_skip (wn rfl rfl) ?_
              refine h_skip (wn rfl rfl) ?_
              refine h_skip (wn rfl rfl) ?_
              refine h_skip (wn rfl rfl) ?_
              refine h_skip (wn rfl rfl) ?_
              refine h_skip (wn rfl rfl) ?_
              refine h_skip (wn rfl rfl) ?_
              refine h_skip (wn rfl rfl) ?_
              refine h_skip (wg rfl rfl rfl) ?_
              refine h_op (vB true) (wt rfl) rfl ?_
              refine h_op (vB false) (wt rfl) rfl ?_
              refine h_nil ?_
              replace h_16 := some_inj h_16
              subst h_16
              exact cut_mk () trivial rfl rfl
            · refine h_movb rfl hc_18 (wt rfl) ?_
              refine h_op (vI s_7) (wg rfl rfl rfl) rfl ?_
              refine h_op (vB (decide (s_7 > 0))) (wg rfl rfl rfl) rfl ?_
              rcases cond_some h_16 with ⟨hc_19, h_16⟩ | ⟨hc_19, h_16⟩
              · refine h_movb rfl hc_19 (wg rfl rfl rfl) ?_
                refine h_op (.d (.int .u8 (b_13.toNat : Int))) (wg rfl rfl rfl) rfl ?_
                refine h_op (vB (decide ((b_13.toNat : Int) ≥ 48))) (wg rfl rfl rfl) rfl ?_
                rcases cond_some h_16 with ⟨hc_20, h_16⟩ | ⟨hc_20, h_16⟩
                · refine h_movb rfl hc_20 (wg rfl rfl rfl) ?_
                  refine h_op (.d (.int .u8 (b_13.toNat : Int))) (wg rfl rfl rfl) rfl ?_
                  refine h_op (vB (decide ((b_13.toNat : Int) ≤ 57))) (wg rfl rfl rfl) rfl ?_
                  refine h_op (vB (decide ((b_13.toNat : Int) ≤ 57))) (wg rfl rfl rfl) rfl ?_
                  rcases cond_some h_16 with ⟨hc_21, h_16⟩ | ⟨hc_21, h_16⟩
                  · refine h_movb rfl hc_21 (wg rfl rfl rfl) ?_
                    refine h_skip (wg rfl rfl rfl) ?_
                    refine h_skip (wg rfl rfl rfl) ?_
                    refine h_op (vB true) (wg rfl rfl rfl) rfl ?_
                    refine h_op (vB true) (wg rfl rfl rfl) rfl ?_
                    refine h_skip (wg rfl rfl rfl) ?_
                    refine h_skip (wg rfl rfl rfl) ?_
                    refine h_op (vB true) (wg rfl rfl rfl) rfl ?_
                    refine h_op (vB true) (wg rfl rfl rfl) rfl ?_
                    refine h_op (vB true) (wt rfl) rfl ?_
                    refine h_op (vB false) (wt rfl) rfl ?_
                    refine h_nil ?_
                    replace h_16 := some_inj h_16
                    subst h_16
                    exact cut_mk () trivial rfl rfl
                  · refine h_movb rfl hc_21 (wg rfl rfl rfl) ?_
                    refine h_op (.d (.int .u8 (b_13.toNat : Int))) (wg rfl rfl rfl) rfl ?_
                    refine h_op (vB ((b_13.toNat : Int) == 45)) (wg rfl rfl rfl) rfl ?_
                    refine h_op (vB ((b_13.toNat : Int) == 45)) (wg rfl rfl rfl) rfl ?_
                    rcases cond_some h_16 with ⟨hc_22, h_16⟩ | ⟨hc_22, h_16⟩
                    · refine h_movb rfl hc_22 (wg rfl rfl rfl) ?_
                      refine h_skip (wg rfl rfl rfl) ?_
                      refine h_skip (wg rfl rfl rfl) ?_
                      refine h_op (vB true) (wg rfl rfl rfl) rfl ?_
                      refine h_op (vB true) (wg rfl rfl rfl) rfl ?_
                      refine h_op (vB true) (wt rfl) rfl ?_
                      refine h_op (vB false) (wt rfl) rfl ?_
                      refine h_nil ?_
                      replace h_16 := some_inj h_16
                      subst h_16
                      exact cut_mk () trivial rfl rfl
                    · refine h_movb rfl hc_22 (wg rfl rfl rfl) ?_
                      refine h_op (.d (.int .u8 (b_13.toNat : Int))) (wg rfl rfl rfl) rfl ?_
                      refine h_op (vB ((b_13.toNat : Int) == 95)) (wg rfl rfl rfl) rfl ?_
                      refine h_op (vB ((b_13.toNat : Int) == 95)) (wg rfl rfl rfl) rfl ?_
                      refine h_op (vB ((b_13.toNat : Int) == 95)) (wg rfl rfl rfl) rfl ?_
                      refine h_op (vB ((b_13.toNat : Int) == 95)) (wt rfl) rfl ?_
                      refine h_op (vB (!((b_13.toNat : Int) == 95))) (wt rfl) rfl ?_
                      refine h_nil ?_
                      replace h_16 := some_inj h_16
                      subst h_16
                      exact cut_mk () trivial rfl rfl
                · refine h_movb rfl hc_20 (wg rfl rfl rfl) ?_
                  refine h_skip (wg rfl rfl rfl) ?_
                  refine h_skip (wg rfl rfl rfl) ?_
                  refine h_op (vB false) (wg rfl rfl rfl) rfl ?_
                  refine h_op (vB false) (wg rfl rfl rfl) rfl ?_
                  refine h_op (.d (.int .u8 (b_13.toNat : Int))) (wg rfl rfl rfl) rfl ?_
                  refine h_op (vB ((b_13.toNat : Int) == 45)) (wg rfl rfl rfl) rfl ?_
                  refine h_op (vB ((b_13.toNat : Int) == 45)) (wg rfl rfl rfl) rfl ?_
                  rcases cond_some h_16 with ⟨hc_23, h_16⟩ | ⟨hc_23, h_16⟩
                  · refine h_movb rfl hc_23 (wg rfl rfl rfl) ?_
                    refine h_skip (wg rfl rfl rfl) ?_
                    refine h_skip (wg rfl rfl rfl) ?_
                    refine h_op (vB true) (wg rfl rfl rfl) rfl ?_
                    refine h_op (vB true) (wg rfl rfl rfl) rfl ?_
                    refine h_op (vB true) (wt rfl) rfl ?_
                    refine h_op (vB false) (wt rfl) rfl ?_
                    refine h_nil ?_
                    replace h_16 := some_inj h_16
                    subst h_16
                    exact cut_mk () trivial rfl rfl
                  · refine h_movb rfl hc_23 (wg rfl rfl rfl) ?_
                    refine h_op (.d (.int .u8 (b_13.toNat : Int))) (wg rfl rfl rfl) rfl ?_
                    refine h_op (vB ((b_13.toNat : Int) == 95)) (wg rfl rfl rfl) rfl ?_
                    refine h_op (vB ((b_13.toNat : Int) == 95)) (wg rfl rfl rfl) rfl ?_
                    refine h_op (vB ((b_13.toNat : Int) == 95)) (wg rfl rfl rfl) rfl ?_
                    refine h_op (vB ((b_13.toNat : Int) == 95)) (wt rfl) rfl ?_
                    refine h_op (vB (!((b_13.toNat : Int) == 95))) (wt rfl) rfl ?_
                    refine h_nil ?_
                    replace h_16 := some_inj h_16
                    subst h_16
                    exact cut_mk () trivial rfl rfl
              · refine h_movb rfl hc_19 (wg rfl rfl rfl) ?_
                refine h_skip (wg rfl rfl rfl) ?_
                refine h_skip (wg rfl rfl rfl) ?_
                refine h_skip (wg rfl rfl rfl) ?_
                refine h_skip (wn rfl rfl) ?_
                refine h_skip (wn rfl rfl) ?_
                refine h_skip (wg rfl rfl rfl) ?_
                refine h_skip (wg rfl rfl rfl) ?_
                refine h_skip (wn rfl rfl) ?_
                refine h_skip (wn rfl rfl) ?_
                refine h_skip (wg rfl rfl rfl) ?_
                refine h_skip (wg rfl rfl rfl) ?_
                refine h_skip (wn rfl rfl) ?_
                refine h_skip (wn rfl rfl) ?_
                refine h_skip (wg rfl rfl rfl) ?_
                refine h_op (vB false) (wg rfl rfl rfl) rfl ?_
                refine h_op (vB false) (wt rfl) rfl ?_
                refine h_op (vB true) (wt rfl) rfl ?_
                refine h_nil ?_
                replace h_16 := some_inj h_16
                subst h_16
                exact cut_mk () trivial rfl rfl
          · refine h_movb rfl hc_17 (wt rfl) ?_
            refine h_skip (wg rfl rfl rfl) ?_
            refine h_skip (wg rfl rfl rfl) ?_
            refine h_op (vB false) (wt rfl) rfl ?_
            refine h_op (vB false) (wt rfl) rfl ?_
            refine h_op (vI s_7) (wg rfl rfl rfl) rfl ?_
            refine h_op (vB (decide (s_7 > 0))) (wg rfl rfl rfl) rfl ?_
            rcases cond_some h_16 with ⟨hc_24, h_16⟩ | ⟨hc_24, h_16⟩
            · refine h_movb rfl hc_24 (wg rfl rfl rfl) ?_
              refine h_op (.d (.int .u8 (b_13.toNat : Int))) (wg rfl rfl rfl) rfl ?_
              refine h_op (vB (decide ((b_13.toNat : Int) ≥ 48))) (wg rfl rfl rfl) rfl ?_
              rcases cond_some h_16 with ⟨hc_25, h_16⟩ | ⟨hc_25, h_16⟩
              · refine h_movb rfl hc_25 (wg rfl rfl rfl) ?_
                refine h_op (.d (.int .u8 (b_13.toNat : Int))) (wg rfl rfl rfl) rfl ?_
                refine h_op (vB (decide ((b_13.toNat : Int) ≤ 57))) (wg rfl rfl rfl) rfl ?_
                refine h_op (vB (decide ((b_13.toNat : Int) ≤ 57))) (wg rfl rfl rfl) rfl ?_
                rcases cond_some h_16 with ⟨hc_26, h_16⟩ | ⟨hc_26, h_16⟩
                · refine h_movb rfl hc_26 (wg rfl rfl rfl) ?_
                  refine h_skip (wg rfl rfl rfl) ?_
                  refine h_skip (wg rfl rfl rfl) ?_
                  refine h_op (vB true) (wg rfl rfl rfl) rfl ?_
                  refine h_op (vB true) (wg rfl rfl rfl) rfl ?_
                  refine h_skip (wg rfl rfl rfl) ?_
                  refine h_skip (wg rfl rfl rfl) ?_
                  refine h_op (vB true) (wg rfl rfl rfl) rfl ?_
                  refine h_op (vB true) (wg rfl rfl rfl) rfl ?_
                  refine h_op (vB true) (wt rfl) rfl ?_
                  refine h_op (vB false) (wt rfl) rfl ?_
                  refine h_nil ?_
                  replace h_16 := some_inj h_16
                  subst h_16
                  exact cut_mk () trivial rfl rfl
                · refine h_movb rfl hc_26 (wg rfl rfl rfl) ?_
                  refine h_op (.d (.int .u8 (b_13.toNat : Int))) (wg rfl rfl rfl) rfl ?_
                  refine h_op (vB ((b_13.toNat : Int) == 45)) (wg rfl rfl rfl) rfl ?_
                  refine h_op (vB ((b_13.toNat : Int) == 45)) (wg rfl rfl rfl) rfl ?_
                  rcases cond_some h_16 with ⟨hc_27, h_16⟩ | ⟨hc_27, h_16⟩
                  · refine h_movb rfl hc_27 (wg rfl rfl rfl) ?_
                    refine h_skip (wg rfl rfl rfl) ?_
                    refine h_skip (wg rfl rfl rfl) ?_
                    refine h_op (vB true) (wg rfl rfl rfl) rfl ?_
                    refine h_op (vB true) (wg rfl rfl rfl) rfl ?_
                    refine h_op (vB true) (wt rfl) rfl ?_
                    refine h_op (vB false) (wt rfl) rfl ?_
                    refine h_nil ?_
                    replace h_16 := some_inj h_16
                    subst h_16
                    exact cut_mk () trivial rfl rfl
                  · refine h_movb rfl hc_27 (wg rfl rfl rfl) ?_
                    refine h_op (.d (.int .u8 (b_13.toNat : Int))) (wg rfl rfl rfl) rfl ?_
                    refine h_op (vB ((b_13.toNat : Int) == 95)) (wg rfl rfl rfl) rfl ?_
                    refine h_op (vB ((b_13.toNat : Int) == 95)) (wg rfl rfl rfl) rfl ?_
                    refine h_op (vB ((b_13.toNat : Int) == 95)) (wg rfl rfl rfl) rfl ?_
                    refine h_op (vB ((b_13.toNat : Int) == 95)) (wt rfl) rfl ?_
                    refine h_op (vB (!((b_13.toNat : Int) == 95))) (wt rfl) rfl ?_
                    refine h_nil ?_
                    replace h_16 := some_inj h_16
                    subst h_16
                    exact cut_mk () trivial rfl rfl
              · refine h_movb rfl hc_25 (wg rfl rfl rfl) ?_
                refine h_skip (wg rfl rfl rfl) ?_
                refine h_skip (wg rfl rfl rfl) ?_
                refine h_op (vB false) (wg rfl rfl rfl) rfl ?_
                refine h_op (vB false) (wg rfl rfl rfl) rfl ?_
                refine h_op (.d (.int .u8 (b_13.toNat : Int))) (wg rfl rfl rfl) rfl ?_
                refine h_op (vB ((b_13.toNat : Int) == 45)) (wg rfl rfl rfl) rfl ?_
                refine h_op (vB ((b_13.toNat : Int) == 45)) (wg rfl rfl rfl) rfl ?_
                rcases cond_some h_16 with ⟨hc_28, h_16⟩ | ⟨hc_28, h_16⟩
                · refine h_movb rfl hc_28 (wg rfl rfl rfl) ?_
                  refine h_skip (wg rfl rfl rfl) ?_
                  refine h_skip (wg rfl rfl rfl) ?_
                  refine h_op (vB true) (wg rfl rfl rfl) rfl ?_
                  refine h_op (vB true) (wg rfl rfl rfl) rfl ?_
                  refine h_op (vB true) (wt rfl) rfl ?_
                  refine h_op (vB false) (wt rfl) rfl ?_
                  refine h_nil ?_
                  replace h_16 := some_inj h_16
                  subst h_16
                  exact cut_mk () trivial rfl rfl
                · refine h_movb rfl hc_28 (wg rfl rfl rfl) ?_
                  refine h_op (.d (.int .u8 (b_13.toNat : Int))) (wg rfl rfl rfl) rfl ?_
                  refine h_op (vB ((b_13.toNat : Int) == 95)) (wg rfl rfl rfl) rfl ?_
                  refine h_op (vB ((b_13.toNat : Int) == 95)) (wg rfl rfl rfl) rfl ?_
                  refine h_op (vB ((b_13.toNat : Int) == 95)) (wg rfl rfl rfl) rfl ?_
                  refine h_op (vB ((b_13.toNat : Int) == 95)) (wt rfl) rfl ?_
                  refine h_op (vB (!((b_13.toNat : Int) == 95))) (wt rfl) rfl ?_
                  refine h_nil ?_
                  replace h_16 := some_inj h_16
                  subst h_16
                  exact cut_mk () trivial rfl rfl
            · refine h_movb rfl hc_24 (wg rfl rfl rfl) ?_
              refine h_skip (wg rfl rfl rfl) ?_
              refine h_skip (wg rfl rfl rfl) ?_
              refine h_skip (wg rfl rfl rfl) ?_
              refine h_skip (wn rfl rfl) ?_
              refine h_skip (wn rfl rfl) ?_
              refine h_skip (wg rfl rfl rfl) ?_
              refine h_skip (wg rfl rfl rfl) ?_
              refine h_skip (wn rfl rfl) ?_
              refine h_skip (wn rfl rfl) ?_
              refine h_skip (wg rfl rfl rfl) ?_
              refine h_skip (wg rfl rfl rfl) ?_
              refine h_skip (wn rfl rfl) ?_
              refine h_skip (wn rfl rfl) ?_
              refine h_skip (wg rfl rfl rfl) ?_
              refine h_op (vB false) (wg rfl rfl rfl) rfl ?_
              refine h_op (vB false) (wt rfl) rfl ?_
              refine h_op (vB true) (wt rfl) rfl ?_
              refine h_nil ?_
              replace h_16 := some_inj h_16
              subst h_16
              exact cut_mk () trivial rfl rfl
        · rintro ⟨⟩ _ sl_ H_ hp_ hq_
          refine wH_at _ hp_ hq_ ?_
          rcases cond_some hc_8 with ⟨hc_29, hc_8⟩ | ⟨hc_29, hc_8⟩
          · refine wH_ift rfl hc_29 ?_
            refine wH_seq ?_
            refine wH_region ?_
            refine h_op (vB false) (wt rfl) rfl ?_
            refine h_nil ?_
            replace hc_8 := some_inj hc_8
            subst hc_8
            replace hL_9 := some_inj hL_9
            subst hL_9
            replace hF := some_inj hF
            subst hF
            refine wH_ret ?_
            exact fin0 (.inr rfl) [(vB false)] ⟨rfl, trivial⟩ rfl rfl rfl
          · refine wH_iff rfl hc_29 ?_
            refine wH_skip ?_
            refine wH_region ?_
            refine h_op (vI s_7) (wt rfl) rfl ?_
            refine h_op (vI (w64 (s_7 + 1))) (wt rfl) rfl ?_
            refine h_op (vI (w64 (s_7 + 1))) (wt rfl) rfl ?_
            refine h_nil ?_
            replace hc_8 := some_inj hc_8
            subst hc_8
            exact loop_mk (k_2, (w64 (s_7 + 1))) hL_9 (Nat.lt_succ_self _) rfl rfl
      · refine wH_iff rfl hc_12 ?_
        refine wH_exit ?_
        replace hc_8 := some_inj hc_8
        subst hc_8
        replace hL_9 := some_inj hL_9
        subst hL_9
        exact cut_mk (s_7) rfl rfl rfl
  · rintro s_7 ho_ sl_ H_ hp_ hq_
    subst ho_
    refine wH_at _ hp_ hq_ ?_
    refine wH_seq ?_
    obtain ⟨v_30, h_31, hF⟩ := bind_some hF
    refine wH_join (β := Unit) (fun _ => ([(2, (vB v_30))] : List (Nat × V))) (fun _ => ([] : Hp)) (fun _ => True) ?_ ?_
    · refine wH_region ?_
      refine h_op (vS s_1) (wt rfl) rfl ?_
      refine h_op (vB (sNe s_1 (⟨#[]⟩ : ByteArray))) (wt rfl) rfl ?_
      rcases cond_some h_31 with ⟨hc_32, h_31⟩ | ⟨hc_32, h_31⟩
      · refine h_movb rfl hc_32 (wt rfl) ?_
        refine h_op (vS s_1) (wg rfl rfl rfl) rfl ?_
        refine h_lens un9 rfl (wg rfl rfl rfl) ?_
        refine h_op (vB (decide ((s_1.size : Int) ≤ 40))) (wg rfl rfl rfl) rfl ?_
        refine h_op (vB (decide ((s_1.size : Int) ≤ 40))) (wt rfl) rfl ?_
        refine h_op (vB (decide ((s_1.size : Int) ≤ 40))) (wt rfl) rfl ?_
        refine h_nil ?_
        replace h_31 := some_inj h_31
        subst h_31
        exact cut_mk () trivial rfl rfl
      · refine h_movb rfl hc_32 (wt rfl) ?_
        refine h_skip (wg rfl rfl rfl) ?_
        refine h_skip (wg rfl rfl rfl) ?_
        refine h_skip (wg rfl rfl rfl) ?_
        refine h_op (vB false) (wt rfl) rfl ?_
        refine h_op (vB false) (wt rfl) rfl ?_
        refine h_nil ?_
        replace h_31 := some_inj h_31
        subst h_31
        exact cut_mk () trivial rfl rfl
    · rintro ⟨⟩ _ sl_ H_ hp_ hq_
      refine wH_at _ hp_ hq_ ?_
      replace hF := some_inj hF
      subst hF
      refine wH_ret ?_
      exact fin0 (.inr rfl) [(vB v_30)] ⟨rfl, trivial⟩ rfl rfl rfl
theorem kit_Outside_ok {n_1 : Int} {low_2 : Int} {high_3 : Int} {r : Bool} (hF : kit_Outside n_1 low_2 high_3 = some r) :
    FnM Try.prog 82 [(vI n_1), (vI low_2), (vI high_3)] [] (vB r) [] := by
  refine FnM.of_wH ⟨Try.prog, 15, [], []⟩ rfl Try.func82 rfl rfl (Nat.le_of_ble_eq_true rfl) (by kernel_rfl) ?_
  unfold kit_Outside at hF
  refine wH_seq ?_
  refine wH_region ?_
  refine h_op (vB false) (wt rfl) rfl ?_
  refine h_nil ?_
  refine wH_seq ?_
  obtain ⟨v_4, h_5, hF⟩ := bind_some hF
  refine wH_join (β := Unit) (fun _ => ([(6, (vB v_4))] : List (Nat × V))) (fun _ => ([] : Hp)) (fun _ => True) ?_ ?_
  · refine wH_region ?_
    refine h_op (vI n_1) (wt rfl) rfl ?_
    refine h_op (vI low_2) (wt rfl) rfl ?_
    refine h_op (vB (decide (n_1 < low_2))) (wt rfl) rfl ?_
    rcases cond_some h_5 with ⟨hc_6, h_5⟩ | ⟨hc_6, h_5⟩
    · refine h_movb rfl hc_6 (wt rfl) ?_
      refine h_skip (wg rfl rfl rfl) ?_
      refine h_skip (wg rfl rfl rfl) ?_
      refine h_skip (wg rfl rfl rfl) ?_
      refine h_op (vB true) (wt rfl) rfl ?_
      refine h_op (vB true) (wt rfl) rfl ?_
      refine h_nil ?_
      replace h_5 := some_inj h_5
      subst h_5
      exact cut_mk () trivial rfl rfl
    · refine h_movb rfl hc_6 (wt rfl) ?_
      refine h_op (vI n_1) (wg rfl rfl rfl) rfl ?_
      refine h_op (vI high_3) (wg rfl rfl rfl) rfl ?_
      refine h_op (vB (decide (n_1 > high_3))) (wg rfl rfl rfl) rfl ?_
      refine h_op (vB (decide (n_1 > high_3))) (wt rfl) rfl ?_
      refine h_op (vB (decide (n_1 > high_3))) (wt rfl) rfl ?_
      refine h_nil ?_
      replace h_5 := some_inj h_5
      subst h_5
      exact cut_mk () trivial rfl rfl
  · rintro ⟨⟩ _ sl_ H_ hp_ hq_
    refine wH_at _ hp_ hq_ ?_
    replace hF := some_inj hF
    subst hF
    refine wH_ret ?_
    exact fin0 (.inr rfl) [(vB v_4)] ⟨rfl, trivial⟩ rfl rfl rfl
theorem cmp_isNaN_int_ok {x_1 : Int} {r : Bool} (hF : cmp_isNaN_int x_1 = some r) :
    FnM Try.prog 165 [(vI x_1)] [] (vB r) [] := by
  refine FnM.of_wH ⟨Try.prog, 6, [], []⟩ rfl Try.func165 rfl rfl (Nat.le_of_ble_eq_true rfl) (by kernel_rfl) ?_
  unfold cmp_isNaN_int at hF
  refine wH_seq ?_
  refine wH_region ?_
  refine h_op (vB false) (wt rfl) rfl ?_
  refine h_nil ?_
  refine wH_seq ?_
  refine wH_region ?_
  refine h_op (vI x_1) (wt rfl) rfl ?_
  refine h_op (vI x_1) (wt rfl) rfl ?_
  refine h_op (vB (x_1 != x_1)) (wt rfl) rfl ?_
  refine h_op (vB (x_1 != x_1)) (wt rfl) rfl ?_
  refine h_nil ?_
  replace hF := some_inj hF
  subst hF
  refine wH_ret ?_
  exact fin0 (.inr rfl) [(vB (x_1 != x_1))] ⟨rfl, trivial⟩ rfl rfl rfl
theorem ref_in_ok {n_1 : Int} {low_2 : Int} {high_3 : Int} {r : Bool} (hF : ref_in n_1 low_2 high_3 = some r) :
    FnM Try.prog 84 [(vI n_1), (vI low_2), (vI high_3)] [] (vB r) [] := by
  refine FnM.of_wH ⟨Try.prog, 15, [], []⟩ rfl Try.func84 rfl rfl (Nat.le_of_ble_eq_true rfl) (by kernel_rfl) ?_
  unfold ref_in at hF
  refine wH_seq ?_
  refine wH_region ?_
  refine h_op (vB false) (wt rfl) rfl ?_
  refine h_nil ?_
  refine wH_seq ?_
  obtain ⟨v_4, h_5, hF⟩ := bind_some hF
  refine wH_join (β := Unit) (fun _ => ([(6, (vB v_4))] : List (Nat × V))) (fun _ => ([] : Hp)) (fun _ => True) ?_ ?_
  · refine wH_region ?_
    refine h_op (vI low_2) (wt rfl) rfl ?_
    refine h_op (vI n_1) (wt rfl) rfl ?_
    refine h_op (vB (decide (low_2 ≤ n_1))) (wt rfl) rfl ?_
    rcases cond_some h_5 with ⟨hc_6, h_5⟩ | ⟨hc_6, h_5⟩
    · refine h_movb rfl hc_6 (wt rfl) ?_
      refine h_op (vI n_1) (wg rfl rfl rfl) rfl ?_
      refine h_op (vI high_3) (wg rfl rfl rfl) rfl ?_
      refine h_op (vB (decide (n_1 ≤ high_3))) (wg rfl rfl rfl) rfl ?_
      refine h_op (vB (decide (n_1 ≤ high_3))) (wt rfl) rfl ?_
      refine h_op (vB (decide (n_1 ≤ high_3))) (wt rfl) rfl ?_
      refine h_nil ?_
      replace h_5 := some_inj h_5
      subst h_5
      exact cut_mk () trivial rfl rfl
    · refine h_movb rfl hc_6 (wt rfl) ?_
      refine h_skip (wg rfl rfl rfl) ?_
      refine h_skip (wg rfl rfl rfl) ?_
      refine h_skip (wg rfl rfl rfl) ?_
      refine h_op (vB false) (wt rfl) rfl ?_
      refine h_op (vB false) (wt rfl) rfl ?_
      refine h_nil ?_
      replace h_5 := some_inj h_5
      subst h_5
      exact cut_mk () trivial rfl rfl
  · rintro ⟨⟩ _ sl_ H_ hp_ hq_
    refine wH_at _ hp_ hq_ ?_
    replace hF := some_inj hF
    subst hF
    refine wH_ret ?_
    exact fin0 (.inr rfl) [(vB v_4)] ⟨rfl, trivial⟩ rfl rfl rfl
theorem internal_stringslite_IndexByte_ok {s_1 : ByteArray} {c_2 : Int} {r : Int} (hF : internal_stringslite_IndexByte s_1 c_2 = some r) :
    FnM Try.prog 183 [(vS s_1), (.d (.int .u8 c_2))] [] (vI r) [] := by
  refine FnM.of_wH ⟨Try.prog, 8, [], []⟩ rfl Try.func183 rfl rfl (Nat.le_of_ble_eq_true rfl) (by kernel_rfl) ?_
  unfold internal_stringslite_IndexByte at hF
  refine wH_seq ?_
  refine wH_region ?_
  refine h_op (vI 0) (wt rfl) rfl ?_
  refine h_nil ?_
  refine wH_seq ?_
  refine wH_region ?_
  refine h_op (vS s_1) (wt rfl) rfl ?_
  refine h_op (.d (.int .u8 c_2)) (wt rfl) rfl ?_
  refine h_ext (ext_ixB (f := 206) Try.func206 rfl rfl (by kernel_rfl) (by kernel_rfl) _ _) rfl nb206 rfl (wt rfl) ?_
  refine h_op (vI (ixB s_1 c_2)) (wt rfl) rfl ?_
  refine h_nil ?_
  replace hF := some_inj hF
  subst hF
  refine wH_ret ?_
  exact fin0 (.inr rfl) [(vI (ixB s_1 c_2))] ⟨rfl, trivial⟩ rfl rfl rfl
theorem strings_IndexByte_ok {s_1 : ByteArray} {c_2 : Int} {r : Int} (hF : strings_IndexByte s_1 c_2 = some r) :
    FnM Try.prog 150 [(vS s_1), (.d (.int .u8 c_2))] [] (vI r) [] := by
  refine FnM.of_wH ⟨Try.prog, 8, [], []⟩ rfl Try.func150 rfl rfl (Nat.le_of_ble_eq_true rfl) (by kernel_rfl) ?_
  unfold strings_IndexByte at hF
  refine wH_seq ?_
  refine wH_region ?_
  refine h_op (vI 0) (wt rfl) rfl ?_
  refine h_nil ?_
  refine wH_seq ?_
  refine wH_region ?_
  refine h_op (vS s_1) (wt rfl) rfl ?_
  refine h_op (.d (.int .u8 c_2)) (wt rfl) rfl ?_
  obtain ⟨r_3, hr_4, hF⟩ := bind_some hF
  refine h_call0 (internal_stringslite_IndexByte_ok hr_4) rfl hb183 rfl rfl rfl rfl (wt rfl) ?_
  refine h_op (vI r_3) (wt rfl) rfl ?_
  refine h_nil ?_
  replace hF := some_inj hF
  subst hF
  refine wH_ret ?_
  exact fin0 (.inr rfl) [(vI r_3)] ⟨rfl, trivial⟩ rfl rfl rfl
theorem ref_only_ok {s_1 : ByteArray} {somev_2 : ByteArray} {r : Bool} (hF : ref_only s_1 somev_2 = some r) :
    FnM Try.prog 85 [(vS s_1), (vS somev_2)] [] (vB r) [] := by
  refine FnM.of_wH ⟨Try.prog, 18, [], []⟩ rfl Try.func85 rfl rfl (Nat.le_of_ble_eq_true rfl) (by kernel_rfl) ?_
  unfold ref_only at hF
  refine wH_seq ?_
  refine wH_region ?_
  refine h_op (vB false) (wt rfl) rfl ?_
  refine h_nil ?_
  refine wH_seq ?_
  refine wH_seq ?_
  refine wH_region ?_
  refine h_op (vS s_1) (wt rfl) rfl ?_
  refine h_lens un9 rfl (wt rfl) ?_
  refine h_op (vI 0) (wt rfl) rfl ?_
  refine h_nil ?_
  obtain ⟨o_11, hj_12, hF⟩ := bind_some hF
  obtain ⟨hn_7, hj_12⟩ := forL_some hj_12
  refine wH_join (β := (Unit)) (fun (s_8 : Unit) => ([] : List (Nat × V))) (fun (s_8 : Unit) => ([] : Hp)) (fun p => o_11 = .go p) ?_ ?_
  · refine wH_block ?_
    refine wH_loop (β := Nat × (List Nat) × (Unit)) (fun p => (fun (k_3 : Nat) (l_4 : List Nat) (s_8 : Unit) => ([(0, (vS s_1)), (1, (vS somev_2)), (7, (vI (s_1.size : Int))), (8, (vI (k_3 : Int)))] : List (Nat × V))) p.1 p.2.1 p.2.2) (fun p => (fun (k_3 : Nat) (l_4 : List Nat) (s_8 : Unit) => ([] : Hp)) p.1 p.2.1 p.2.2) (fun p => forR (fun k x s => ref_only_L1 s_1 somev_2 k x s) p.2.1 p.1 p.2.2 = some o_11 ∧ ((List.range ((s_1.size : Int)).toNat)).drop p.1 = p.2.1) (fun p => p.2.1.length) (0, (List.range ((s_1.size : Int)).toNat), ()) ⟨hj_12, rfl⟩ rfl rfl ?_
    rintro ⟨k_3, l_4, s_8⟩ ⟨hL_10, hD_6⟩
    dsimp only at hL_10 hD_6
    cases l_4 with
    | nil =>
      replace hL_10 := some_inj hL_10
      subst hL_10
      refine wH_seq (wH_region (h_op (vB (decide ((k_3 : Int) < (s_1.size : Int)))) (wt rfl) rfl (h_nil ?_)))
      refine wH_seq (wH_iff rfl (range_nil hD_6) (wH_exit ?_))
      exact cut_mk (s_8) rfl rfl rfl
    | cons x_5 l_4 =>
      obtain ⟨c_, hc_9, hL_10⟩ := bind_some hL_10
      refine wH_seq (wH_region (h_op (vB (decide ((k_3 : Int) < (s_1.size : Int)))) (wt rfl) rfl (h_nil ?_)))
      refine wH_seq (wH_ift rfl (range_cons hD_6) (wH_skip ?_))
      unfold ref_only_L1 at hc_9
      refine wH_seq ?_
      refine wH_block ?_
      refine wH_seq ?_
      refine wH_region ?_
      refine h_op (vI (k_3 : Int)) (wt rfl) rfl ?_
      refine h_op (vI (k_3 : Int)) (wt rfl) rfl ?_
      refine h_nil ?_
      refine wH_seq ?_
      refine wH_region ?_
      refine h_op (vS somev_2) (wt rfl) rfl ?_
      refine h_op (vS s_1) (wt rfl) rfl ?_
      refine h_op (vI (k_3 : Int)) (wt rfl) rfl ?_
      obtain ⟨b_13, hy_14, hc_9⟩ := bind_some hc_9
      refine h_idxs un9 rfl rfl hy_14 (wt rfl) ?_
      obtain ⟨r_15, hr_16, hc_9⟩ := bind_some hc_9
      refine h_call0 (strings_IndexByte_ok hr_16) rfl hb150 rfl rfl rfl rfl (wt rfl) ?_
      refine h_op (vB (decide (r_15 < 0))) (wt rfl) rfl ?_
      refine h_nil ?_
      rcases cond_some hc_9 with ⟨hc_17, hc_9⟩ | ⟨hc_17, hc_9⟩
      · refine wH_ift rfl hc_17 ?_
        refine wH_seq ?_
        refine wH_region ?_
        refine h_op (vB false) (wt rfl) rfl ?_
        refine h_nil ?_
        replace hc_9 := some_inj hc_9
        subst hc_9
        replace hL_10 := some_inj hL_10
        subst hL_10
        replace hF := some_inj hF
        subst hF
        refine wH_ret ?_
        exact fin0 (.inr rfl) [(vB false)] ⟨rfl, trivial⟩ rfl rfl rfl
      · refine wH_iff rfl hc_17 ?_
        refine wH_skip ?_
        refine wH_region ?_
        refine h_opw (w64_nextr hD_6 hn_7) (wt rfl) rfl ?_
        refine h_op (vI ((k_3 + 1 : Nat) : Int)) (wt rfl) rfl ?_
        refine h_nil ?_
        replace hc_9 := some_inj hc_9
        subst hc_9
        exact loop_mk (k_3 + 1, l_4, ()) ⟨hL_10, drop_next hD_6⟩ (Nat.lt_succ_self _) rfl rfl
  · rintro s_8 ho_ sl_ H_ hp_ hq_
    subst ho_
    refine wH_at _ hp_ hq_ ?_
    refine wH_seq ?_
    refine wH_region ?_
    refine h_op (vB true) (wt rfl) rfl ?_
    refine h_nil ?_
    replace hF := some_inj hF
    subst hF
    refine wH_ret ?_
    exact fin0 (.inr rfl) [(vB true)] ⟨rfl, trivial⟩ rfl rfl rfl
theorem ref_Key_ok {s_1 : ByteArray} {r : Bool} (hF : ref_Key s_1 = some r) :
    FnM Try.prog 18 [(vS s_1)] [] (vB r) [] := by
  refine FnM.of_wH ⟨Try.prog, 15, [], []⟩ rfl Try.func18 rfl rfl (Nat.le_of_ble_eq_true rfl) (by kernel_rfl) ?_
  unfold ref_Key at hF
  refine wH_seq ?_
  refine wH_region ?_
  refine h_op (vB false) (wt rfl) rfl ?_
  refine h_nil ?_
  refine wH_seq ?_
  obtain ⟨v_2, h_3, hF⟩ := bind_some hF
  refine wH_join (β := Unit) (fun _ => ([(2, (vB v_2))] : List (Nat × V))) (fun _ => ([] : Hp)) (fun _ => True) ?_ ?_
  · refine wH_region ?_
    refine h_op (vS s_1) (wt rfl) rfl ?_
    refine h_lens un9 rfl (wt rfl) ?_
    obtain ⟨r_4, hr_5, h_3⟩ := bind_some h_3
    refine h_call0 (ref_in_ok hr_5) rfl hb84 rfl rfl rfl rfl (wt rfl) ?_
    rcases cond_some h_3 with ⟨hc_6, h_3⟩ | ⟨hc_6, h_3⟩
    · refine h_movb rfl hc_6 (wt rfl) ?_
      refine h_op (vS s_1) (wg rfl rfl rfl) rfl ?_
      obtain ⟨y_7, hy_8, h_3⟩ := bind_some h_3
      refine h_subFalseTrue un9 rfl rfl hy_8 (wg rfl rfl rfl) ?_
      obtain ⟨r_9, hr_10, h_3⟩ := bind_some h_3
      refine h_call0 (ref_only_ok hr_10) rfl hb85 rfl rfl rfl rfl (wg rfl rfl rfl) ?_
      refine h_op (vB r_9) (wt rfl) rfl ?_
      rcases cond_some h_3 with ⟨hc_11, h_3⟩ | ⟨hc_11, h_3⟩
      · refine h_movb rfl hc_11 (wt rfl) ?_
        refine h_op (vS s_1) (wg rfl rfl rfl) rfl ?_
        obtain ⟨r_12, hr_13, h_3⟩ := bind_some h_3
        refine h_call0 (ref_only_ok hr_13) rfl hb85 rfl rfl rfl rfl (wg rfl rfl rfl) ?_
        refine h_op (vB r_12) (wt rfl) rfl ?_
        refine h_op (vB r_12) (wt rfl) rfl ?_
        refine h_nil ?_
        replace h_3 := some_inj h_3
        subst h_3
        exact cut_mk () trivial rfl rfl
      · refine h_movb rfl hc_11 (wt rfl) ?_
        refine h_skip (wg rfl rfl rfl) ?_
        refine h_skip (wg rfl rfl rfl) ?_
        refine h_op (vB false) (wt rfl) rfl ?_
        refine h_op (vB false) (wt rfl) rfl ?_
        refine h_nil ?_
        replace h_3 := some_inj h_3
        subst h_3
        exact cut_mk () trivial rfl rfl
    · refine h_movb rfl hc_6 (wt rfl) ?_
      refine h_skip (wg rfl rfl rfl) ?_
      refine h_skip (wg rfl rfl rfl) ?_
      refine h_skip (wg rfl rfl rfl) ?_
      refine h_op (vB false) (wt rfl) rfl ?_
      refine h_op (vB false) (wt rfl) rfl ?_
      refine h_skip (wg rfl rfl rfl) ?_
      refine h_skip (wg rfl rfl rfl) ?_
      refine h_op (vB false) (wt rfl) rfl ?_
      refine h_op (vB false) (wt rfl) rfl ?_
      refine h_nil ?_
      replace h_3 := some_inj h_3
      subst h_3
      exact cut_mk () trivial rfl rfl
  · rintro ⟨⟩ _ sl_ H_ hp_ hq_
    refine wH_at _ hp_ hq_ ?_
    replace hF := some_inj hF
    subst hF
    refine wH_ret ?_
    exact fin0 (.inr rfl) [(vB v_2)] ⟨rfl, trivial⟩ rfl rfl rfl
theorem law_when_ok {is_1 : Bool} {e_2 : Int} {r : Int} (hF : law_when is_1 e_2 = some r) :
    FnM Try.prog 17 [(vB is_1), (vI e_2)] [] (vI r) [] := by
  refine FnM.of_wH ⟨Try.prog, 7, [], []⟩ rfl Try.func17 rfl rfl (Nat.le_of_ble_eq_true rfl) (by kernel_rfl) ?_
  unfold law_when at hF
  refine wH_seq ?_
  refine wH_region ?_
  refine h_op (vI 0) (wt rfl) rfl ?_
  refine h_nil ?_
  refine wH_seq ?_
  refine wH_seq ?_
  refine wH_region ?_
  refine h_op (vB is_1) (wt rfl) rfl ?_
  refine h_nil ?_
  rcases cond_some hF with ⟨hc_3, hF⟩ | ⟨hc_3, hF⟩
  · refine wH_ift rfl hc_3 ?_
    refine wH_seq ?_
    refine wH_region ?_
    refine h_op (vI e_2) (wt rfl) rfl ?_
    refine h_op (vI e_2) (wt rfl) rfl ?_
    refine h_nil ?_
    replace hF := some_inj hF
    subst hF
    refine wH_ret ?_
    exact fin0 (.inr rfl) [(vI e_2)] ⟨rfl, trivial⟩ rfl rfl rfl
  · refine wH_iff rfl hc_3 ?_
    refine wH_skip ?_
    refine wH_seq ?_
    refine wH_region ?_
    refine h_op (vI 0) (wt rfl) rfl ?_
    refine h_nil ?_
    replace hF := some_inj hF
    subst hF
    refine wH_ret ?_
    exact fin0 (.inr rfl) [(vI 0)] ⟨rfl, trivial⟩ rfl rfl rfl
theorem law_errs_ok {l_1 : (List Int)} {r : Int} (hF : law_errs l_1 = some r) :
    FnM Try.prog 16 [(vL eI l_1)] [] (vI r) [] := by
  refine FnM.of_wH ⟨Try.prog, 15, [], []⟩ rfl Try.func16 rfl rfl (Nat.le_of_ble_eq_true rfl) (by kernel_rfl) ?_
  unfold law_errs at hF
  refine wH_seq ?_
  refine wH_region ?_
  refine h_op (vI 0) (wt rfl) rfl ?_
  refine h_nil ?_
  refine wH_seq ?_
  refine wH_seq ?_
  refine wH_region ?_
  refine h_op (vL eI l_1) (wt rfl) rfl ?_
  refine h_len un129 rfl (wt rfl) ?_
  refine h_op (vI 0) (wt rfl) rfl ?_
  refine h_nil ?_
  obtain ⟨o_10, hj_11, hF⟩ := bind_some hF
  obtain ⟨hn_6, hj_11⟩ := forL_some hj_11
  refine wH_join (β := (Unit)) (fun (s_7 : Unit) => ([] : List (Nat × V))) (fun (s_7 : Unit) => ([] : Hp)) (fun p => o_10 = .go p) ?_ ?_
  · refine wH_block ?_
    refine wH_loop (β := Nat × (List Int) × (Unit)) (fun p => (fun (k_2 : Nat) (l_3 : List Int) (s_7 : Unit) => ([(5, (vL eI l_1)), (6, (vI (l_1.length : Int))), (7, (vI (k_2 : Int)))] : List (Nat × V))) p.1 p.2.1 p.2.2) (fun p => (fun (k_2 : Nat) (l_3 : List Int) (s_7 : Unit) => ([] : Hp)) p.1 p.2.1 p.2.2) (fun p => forR (fun k x s => law_errs_L1 k x s) p.2.1 p.1 p.2.2 = some o_10 ∧ (l_1).drop p.1 = p.2.1) (fun p => p.2.1.length) (0, l_1, ()) ⟨hj_11, rfl⟩ rfl rfl ?_
    rintro ⟨k_2, l_3, s_7⟩ ⟨hL_9, hD_5⟩
    dsimp only at hL_9 hD_5
    cases l_3 with
    | nil =>
      replace hL_9 := some_inj hL_9
      subst hL_9
      refine wH_seq (wH_region (h_op (vB (decide ((k_2 : Int) < (l_1.length : Int)))) (wt rfl) rfl (h_nil ?_)))
      refine wH_seq (wH_iff rfl (drop_nil hD_5) (wH_exit ?_))
      exact cut_mk (s_7) rfl rfl rfl
    | cons x_4 l_3 =>
      obtain ⟨c_, hc_8, hL_9⟩ := bind_some hL_9
      refine wH_seq (wH_region (h_op (vB (decide ((k_2 : Int) < (l_1.length : Int)))) (wt rfl) rfl (h_nil ?_)))
      refine wH_seq (wH_ift rfl (drop_cons hD_5) (wH_skip ?_))
      unfold law_errs_L1 at hc_8
      refine wH_seq ?_
      refine wH_block ?_
      refine wH_seq ?_
      refine wH_region ?_
      refine h_ia es129 rfl rfl (drop_idx hD_5) rfl (wt rfl) ?_
      refine h_ldc sz30 ag30 rfl (vI x_4) rfl (wt rfl) ?_
      refine h_op (vI x_4) (wt rfl) rfl ?_
      refine h_nil ?_
      refine wH_seq ?_
      refine wH_region ?_
      refine h_op (vI x_4) (wt rfl) rfl ?_
      refine h_op (vB (x_4 != 0)) (wt rfl) rfl ?_
      refine h_nil ?_
      rcases cond_some hc_8 with ⟨hc_12, hc_8⟩ | ⟨hc_12, hc_8⟩
      · refine wH_ift rfl hc_12 ?_
        refine wH_seq ?_
        refine wH_region ?_
        refine h_op (vI x_4) (wt rfl) rfl ?_
        refine h_op (vI x_4) (wt rfl) rfl ?_
        refine h_nil ?_
        replace hc_8 := some_inj hc_8
        subst hc_8
        replace hL_9 := some_inj hL_9
        subst hL_9
        replace hF := some_inj hF
        subst hF
        refine wH_ret ?_
        exact fin0 (.inr rfl) [(vI x_4)] ⟨rfl, trivial⟩ rfl rfl rfl
      · refine wH_iff rfl hc_12 ?_
        refine wH_skip ?_
        refine wH_region ?_
        refine h_opw (w64_next hD_5 hn_6) (wt rfl) rfl ?_
        refine h_op (vI ((k_2 + 1 : Nat) : Int)) (wt rfl) rfl ?_
        refine h_nil ?_
        replace hc_8 := some_inj hc_8
        subst hc_8
        exact loop_mk (k_2 + 1, l_3, ()) ⟨hL_9, drop_next hD_5⟩ (Nat.lt_succ_self _) rfl rfl
  · rintro s_7 ho_ sl_ H_ hp_ hq_
    subst ho_
    refine wH_at _ hp_ hq_ ?_
    refine wH_seq ?_
    refine wH_region ?_
    refine h_op (vI 0) (wt rfl) rfl ?_
    refine h_nil ?_
    replace hF := some_inj hF
    subst hF
    refine wH_ret ?_
    exact fin0 (.inr rfl) [(vI 0)] ⟨rfl, trivial⟩ rfl rfl rfl
theorem mk_Stream_RightPlayer_ok {s_1 : Stream} {r : Player × Stream} (hF : mk_Stream_RightPlayer s_1 = some r) :
    FnM Try.prog 89 [(.ref (extN 0) 0 0)] [(.cells 2 [(vL eI s_1.L), (vI s_1.f_at)])] (.d (.agg (Player.enc r.1))) [some (.cells 2 [(vL eI r.2.L), (vI r.2.f_at)])] := by
  refine FnM.of_wH ⟨Try.prog, 14, [], []⟩ rfl Try.func89 rfl rfl (Nat.le_of_ble_eq_true rfl) (by kernel_rfl) ?_
  unfold mk_Stream_RightPlayer at hF
  refine wH_seq ?_
  refine wH_region ?_
  refine h_alloc 0 (.inl rfl) z48 rfl (wt rfl) (fun n_2 => ?_)
  refine h_nil ?_
  refine wH_seq ?_
  refine wH_region ?_
  refine h_op (.ref (extN 0) 0 0) (wt rfl) rfl ?_
  refine h_lit (([0, 0, 60, (-90), 1440] : List Int).map eI) es22 ez22 rfl rfl rfl rfl rfl (wt rfl) ?_
  obtain ⟨r_3, hr_4, hF⟩ := bind_some hF
  refine h_callq 0 [0] (.inl rfl) (fun _ _ _ => trivial) (mk_Stream_Pick_ok hr_4) rfl hb10 rfl (by kernel_rfl) (by kernel_rfl) (by kernel_rfl) (by kernel_rfl) (by kernel_rfl) (by kernel_rfl) (by kernel_rfl) (by decide) (by kernel_rfl) (wt rfl) (vI r_3.1) (by kernel_rfl) ([((extN 0), some (.cells 2 [(vL eI r_3.2.L), (vI r_3.2.f_at)])), (n_2, some (.cells 4 [(vS (⟨#[]⟩ : ByteArray)), (vS (⟨#[]⟩ : ByteArray)), (vI 0), .nil]))] : Hp) (by kernel_rfl) ?_
  refine h_lit (([(⟨#[99, 105, 116, 121]⟩ : ByteArray)] : List ByteArray).map eS) es46 ez46 rfl rfl rfl rfl rfl (wt rfl) ?_
  refine h_lit (([(⟨#[99, 105, 116, 121]⟩ : ByteArray), (⟨#[109, 97, 108, 108]⟩ : ByteArray)] : List ByteArray).map eS) es46 ez46 rfl rfl rfl rfl rfl (wt rfl) ?_
  refine h_lit (([([] : List ByteArray), ([(⟨#[99, 105, 116, 121]⟩ : ByteArray)] : List ByteArray), ([(⟨#[99, 105, 116, 121]⟩ : ByteArray), (⟨#[109, 97, 108, 108]⟩ : ByteArray)] : List ByteArray)] : List (List ByteArray)).map (eL eS)) es133 ez133 rfl rfl rfl rfl rfl (wt rfl) ?_
  refine h_op (.ref (extN 0) 0 0) (wt rfl) rfl ?_
  obtain ⟨r_6, hr_7, hF⟩ := bind_some hF
  refine h_callq 0 [0] (.inl rfl) (fun _ _ _ => trivial) (mk_Stream_Next_ok hr_7) rfl hb75 rfl (by kernel_rfl) (by kernel_rfl) (by kernel_rfl) (by kernel_rfl) (by kernel_rfl) (by kernel_rfl) (by kernel_rfl) (by decide) (by kernel_rfl) (wt rfl) (vI r_6.1) (by kernel_rfl) ([((extN 0), some (.cells 2 [(vL eI r_6.2.L), (vI r_6.2.f_at)])), (n_2, some (.cells 4 [(vS (⟨#[]⟩ : ByteArray)), (vS (⟨#[]⟩ : ByteArray)), (vI 0), .nil]))] : Hp) (by kernel_rfl) ?_
  obtain ⟨y_9, hy_10, hF⟩ := bind_some hF
  refine h_ia es133 rfl rfl hy_10 rfl (wt rfl) ?_
  refine h_ldc sz46 ag46 rfl (vL eS y_9) rfl (wt rfl) ?_
  refine h_op (.d (.agg (Player.enc (⟨(⟨#[112]⟩ : ByteArray), (⟨#[115, 97]⟩ : ByteArray), r_3.1, y_9⟩ : Player)))) (wt rfl) (by kernel_rfl) ?_
  refine h_str 0 (.inl rfl) (fun _ _ _ => trivial) 1 sz48 rfl rfl [(vS (⟨#[112]⟩ : ByteArray)), (vS (⟨#[115, 97]⟩ : ByteArray)), (vI r_3.1), (vL eS y_9)] rfl (wt rfl) ?_
  refine h_nil ?_
  replace hF := some_inj hF
  subst hF
  refine wH_ret ?_
  exact finB (.inr rfl) [(.d (.agg (Player.enc (⟨(⟨#[112]⟩ : ByteArray), (⟨#[115, 97]⟩ : ByteArray), r_3.1, y_9⟩ : Player))))] _ [0] [extN 0] ⟨⟨1, _, _, _, _, _, _, _, rfl, rfl, sz48, ag48, rfl⟩, trivial⟩ (.cons (co_data rfl rfl) (.nil)) (by kernel_rfl) ⟨(by kernel_rfl), trivial⟩ (by decide) (by kernel_rfl)
theorem mk_Stream_Player_ok {s_1 : Stream} {r : Player × Stream} (hF : mk_Stream_Player s_1 = some r) :
    FnM Try.prog 24 [(.ref (extN 0) 0 0)] [(.cells 2 [(vL eI s_1.L), (vI s_1.f_at)])] (.d (.agg (Player.enc r.1))) [some (.cells 2 [(vL eI r.2.L), (vI r.2.f_at)])] := by
  refine FnM.of_wH ⟨Try.prog, 25, [], []⟩ rfl Try.func24 rfl rfl (Nat.le_of_ble_eq_true rfl) (by kernel_rfl) ?_
  unfold mk_Stream_Player at hF
  refine wH_seq ?_
  refine wH_region ?_
  refine h_alloc 0 (.inl rfl) z48 rfl (wt rfl) (fun n_2 => ?_)
  refine h_nil ?_
  refine wH_seq ?_
  refine wH_region ?_
  refine h_op (.ref (extN 0) 0 0) (wt rfl) rfl ?_
  obtain ⟨r_3, hr_4, hF⟩ := bind_some hF
  refine h_callq 0 [0] (.inl rfl) (fun _ _ _ => trivial) (mk_Stream_RightPlayer_ok hr_4) rfl hb89 rfl (by kernel_rfl) (by kernel_rfl) (by kernel_rfl) (by kernel_rfl) (by kernel_rfl) (by kernel_rfl) (by kernel_rfl) (by decide) (by kernel_rfl) (wt rfl) (.d (.agg (Player.enc r_3.1))) (by kernel_rfl) ([((extN 0), some (.cells 2 [(vL eI r_3.2.L), (vI r_3.2.f_at)])), (n_2, some (.cells 4 [(vS (⟨#[]⟩ : ByteArray)), (vS (⟨#[]⟩ : ByteArray)), (vI 0), .nil]))] : Hp) (by kernel_rfl) ?_
  refine h_alloc 0 (.inl rfl) z48 rfl (wt rfl) (fun n_6 => ?_)
  refine h_str 0 (.inl rfl) (fun _ _ _ => trivial) 2 sz48 rfl rfl [(vS r_3.1.Key), (vS r_3.1.Screen), (vI r_3.1.Zone), (vL eS r_3.1.Tags)] rfl (wt rfl) ?_
  refine h_nil ?_
  refine wH_seq ?_
  refine wH_seq ?_
  refine wH_region ?_
  refine h_op (.ref (extN 0) 0 0) (wt rfl) rfl ?_
  obtain ⟨r_7, hr_8, hF⟩ := bind_some hF
  refine h_callq 0 [0] (.inl rfl) (fun _ _ _ => trivial) (mk_Stream_Flip_ok hr_8) rfl hb37 rfl (by kernel_rfl) (by kernel_rfl) (by kernel_rfl) (by kernel_rfl) (by kernel_rfl) (by kernel_rfl) (by kernel_rfl) (by decide) (by kernel_rfl) (wt rfl) (vB r_7.1) (by kernel_rfl) ([((extN 0), some (.cells 2 [(vL eI r_7.2.L), (vI r_7.2.f_at)])), (n_2, some (.cells 4 [(vS (⟨#[]⟩ : ByteArray)), (vS (⟨#[]⟩ : ByteArray)), (vI 0), .nil])), (n_6, some (.cells 4 [(vS r_3.1.Key), (vS r_3.1.Screen), (vI r_3.1.Zone), (vL eS r_3.1.Tags)]))] : Hp) (by kernel_rfl) ?_
  refine h_nil ?_
  obtain ⟨v_10, h_11, hF⟩ := bind_some hF
  refine wH_join (β := Unit) (fun _ => ([(2, (.ref n_2 0 0)), (3, (.ref n_6 0 0))] : List (Nat × V))) (fun _ => ([((extN 0), some (.cells 2 [(vL eI v_10.1), (vI v_10.2.1)])), (n_2, some (.cells 4 [(vS (⟨#[]⟩ : ByteArray)), (vS (⟨#[]⟩ : ByteArray)), (vI 0), .nil])), (n_6, some (.cells 4 [(vS v_10.2.2.1), (vS v_10.2.2.2.1), (vI v_10.2.2.2.2.1), (vL eS v_10.2.2.2.2.2)]))] : Hp)) (fun _ => True) ?_ ?_
  · rcases cond_some h_11 with ⟨hc_12, h_11⟩ | ⟨hc_12, h_11⟩
    · refine wH_ift rfl hc_12 ?_
      refine wH_region ?_
      refine h_op (.ref (extN 0) 0 0) (wt rfl) rfl ?_
      refine h_lit (([(⟨#[112]⟩ : ByteArray), (⟨#[]⟩ : ByteArray)] : List ByteArray).map eS) es46 ez46 rfl rfl rfl rfl rfl (wt rfl) ?_
      obtain ⟨r_13, hr_14, h_11⟩ := bind_some h_11
      refine h_callq 0 [0] (.inl rfl) (fun _ _ _ => trivial) (mk_Stream_Some_ok hr_14) rfl hb9 rfl (by kernel_rfl) (by kernel_rfl) (by kernel_rfl) (by kernel_rfl) (by kernel_rfl) (by kernel_rfl) (by kernel_rfl) (by decide) (by kernel_rfl) (wt rfl) (vS r_13.1) (by kernel_rfl) ([((extN 0), some (.cells 2 [(vL eI r_13.2.L), (vI r_13.2.f_at)])), (n_2, some (.cells 4 [(vS (⟨#[]⟩ : ByteArray)), (vS (⟨#[]⟩ : ByteArray)), (vI 0), .nil])), (n_6, some (.cells 4 [(vS r_3.1.Key), (vS r_3.1.Screen), (vI r_3.1.Zone), (vL eS r_3.1.Tags)]))] : Hp) (by kernel_rfl) ?_
      refine h_op (.ref (extN 0) 0 0) (wt rfl) rfl ?_
      refine h_lit (([(⟨#[115, 97]⟩ : ByteArray), (⟨#[65]⟩ : ByteArray)] : List ByteArray).map eS) es46 ez46 rfl rfl rfl rfl rfl (wt rfl) ?_
      obtain ⟨r_16, hr_17, h_11⟩ := bind_some h_11
      refine h_callq 0 [0] (.inl rfl) (fun _ _ _ => trivial) (mk_Stream_Some_ok hr_17) rfl hb9 rfl (by kernel_rfl) (by kernel_rfl) (by kernel_rfl) (by kernel_rfl) (by kernel_rfl) (by kernel_rfl) (by kernel_rfl) (by decide) (by kernel_rfl) (wt rfl) (vS r_16.1) (by kernel_rfl) ([((extN 0), some (.cells 2 [(vL eI r_16.2.L), (vI r_16.2.f_at)])), (n_2, some (.cells 4 [(vS (⟨#[]⟩ : ByteArray)), (vS (⟨#[]⟩ : ByteArray)), (vI 0), .nil])), (n_6, some (.cells 4 [(vS r_3.1.Key), (vS r_3.1.Screen), (vI r_3.1.Zone), (vL eS r_3.1.Tags)]))] : Hp) (by kernel_rfl) ?_
      refine h_op (.ref (extN 0) 0 0) (wt rfl) rfl ?_
      obtain ⟨r_19, hr_20, h_11⟩ := bind_some h_11
      refine h_callq 0 [0] (.inl rfl) (fun _ _ _ => trivial) (mk_Stream_Odd_ok hr_20) rfl hb38 rfl (by kernel_rfl) (by kernel_rfl) (by kernel_rfl) (by kernel_rfl) (by kernel_rfl) (by kernel_rfl) (by kernel_rfl) (by decide) (by kernel_rfl) (wt rfl) (vI r_19.1) (by kernel_rfl) ([((extN 0), some (.cells 2 [(vL eI r_19.2.L), (vI r_19.2.f_at)])), (n_2, some (.cells 4 [(vS (⟨#[]⟩ : ByteArray)), (vS (⟨#[]⟩ : ByteArray)), (vI 0), .nil])), (n_6, some (.cells 4 [(vS r_3.1.Key), (vS r_3.1.Screen), (vI r_3.1.Zone), (vL eS r_3.1.Tags)]))] : Hp) (by kernel_rfl) ?_
      refine h_lit (([(⟨#[109, 97, 108, 108]⟩ : ByteArray), (⟨#[99, 105, 116, 121]⟩ : ByteArray)] : List ByteArray).map eS) es46 ez46 rfl rfl rfl rfl rfl (wt rfl) ?_
      refine h_lit (([(⟨#[]⟩ : ByteArray)] : List ByteArray).map eS) es46 ez46 rfl rfl rfl rfl rfl (wt rfl) ?_
      refine h_lit (([([(⟨#[109, 97, 108, 108]⟩ : ByteArray), (⟨#[99, 105, 116, 121]⟩ : ByteArray)] : List ByteArray), ([(⟨#[]⟩ : ByteArray)] : List ByteArray), ([] : List ByteArray)] : List (List ByteArray)).map (eL eS)) es133 ez133 rfl rfl rfl rfl rfl (wt rfl) ?_
      refine h_op (.ref (extN 0) 0 0) (wt rfl) rfl ?_
      obtain ⟨r_22, hr_23, h_11⟩ := bind_some h_11
      refine h_callq 0 [0] (.inl rfl) (fun _ _ _ => trivial) (mk_Stream_Next_ok hr_23) rfl hb75 rfl (by kernel_rfl) (by kernel_rfl) (by kernel_rfl) (by kernel_rfl) (by kernel_rfl) (by kernel_rfl) (by kernel_rfl) (by decide) (by kernel_rfl) (wt rfl) (vI r_22.1) (by kernel_rfl) ([((extN 0), some (.cells 2 [(vL eI r_22.2.L), (vI r_22.2.f_at)])), (n_2, some (.cells 4 [(vS (⟨#[]⟩ : ByteArray)), (vS (⟨#[]⟩ : ByteArray)), (vI 0), .nil])), (n_6, some (.cells 4 [(vS r_3.1.Key), (vS r_3.1.Screen), (vI r_3.1.Zone), (vL eS r_3.1.Tags)]))] : Hp) (by kernel_rfl) ?_
      obtain ⟨y_25, hy_26, h_11⟩ := bind_some h_11
      refine h_ia es133 rfl rfl hy_26 rfl (wt rfl) ?_
      refine h_ldc sz46 ag46 rfl (vL eS y_25) rfl (wt rfl) ?_
      refine h_op (.d (.agg (Player.enc (⟨r_13.1, r_16.1, r_19.1, y_25⟩ : Player)))) (wt rfl) (by kernel_rfl) ?_
      refine h_str 0 (.inl rfl) (fun _ _ _ => trivial) 2 sz48 rfl rfl [(vS r_13.1), (vS r_16.1), (vI r_19.1), (vL eS y_25)] rfl (wt rfl) ?_
      refine h_nil ?_
      replace h_11 := some_inj h_11
      subst h_11
      exact cut_mk () trivial rfl rfl
    · refine wH_iff rfl hc_12 ?_
      refine wH_skip ?_
      replace h_11 := some_inj h_11
      subst h_11
      exact cut_mk () trivial rfl rfl
  · rintro ⟨⟩ _ sl_ H_ hp_ hq_
    refine wH_at _ hp_ hq_ ?_
    refine wH_seq ?_
    refine wH_region ?_
    refine h_ldr 0 2 (.inl rfl) (fun _ _ _ => trivial) sz48 ag48 rfl rfl (.d (.agg (Player.enc (⟨v_10.2.2.1, v_10.2.2.2.1, v_10.2.2.2.2.1, v_10.2.2.2.2.2⟩ : Player)))) rfl (wt rfl) ?_
    refine h_str 0 (.inl rfl) (fun _ _ _ => trivial) 1 sz48 rfl rfl [(vS v_10.2.2.1), (vS v_10.2.2.2.1), (vI v_10.2.2.2.2.1), (vL eS v_10.2.2.2.2.2)] rfl (wt rfl) ?_
    refine h_nil ?_
    replace hF := some_inj hF
    subst hF
    refine wH_ret ?_
    exact finB (.inr rfl) [(.d (.agg (Player.enc (⟨v_10.2.2.1, v_10.2.2.2.1, v_10.2.2.2.2.1, v_10.2.2.2.2.2⟩ : Player))))] _ [0] [extN 0] ⟨⟨1, _, _, _, _, _, _, _, rfl, rfl, sz48, ag48, rfl⟩, trivial⟩ (.cons (co_data rfl rfl) (.nil)) (by kernel_rfl) ⟨(by kernel_rfl), trivial⟩ (by decide) (by kernel_rfl)
theorem mk_Stream_Days_ok {s_1 : Stream} {r : Window × Stream} (hF : mk_Stream_Days s_1 = some r) :
    FnM Try.prog 25 [(.ref (extN 0) 0 0)] [(.cells 2 [(vL eI s_1.L), (vI s_1.f_at)])] (.d (.agg (Window.enc r.1))) [some (.cells 2 [(vL eI r.2.L), (vI r.2.f_at)])] := by
  refine FnM.of_wH ⟨Try.prog, 31, [], []⟩ rfl Try.func25 rfl rfl (Nat.le_of_ble_eq_true rfl) (by kernel_rfl) ?_
  unfold mk_Stream_Days at hF
  refine wH_seq ?_
  refine wH_region ?_
  refine h_alloc 0 (.inl rfl) z51 rfl (wt rfl) (fun n_2 => ?_)
  refine h_nil ?_
  refine wH_seq ?_
  refine wH_region ?_
  refine h_op (.ref (extN 0) 0 0) (wt rfl) rfl ?_
  refine h_lit (([0, 0, 1, 36000000, 86400000] : List Int).map eI) es22 ez22 rfl rfl rfl rfl rfl (wt rfl) ?_
  obtain ⟨r_3, hr_4, hF⟩ := bind_some hF
  refine h_callq 0 [0] (.inl rfl) (fun _ _ _ => trivial) (mk_Stream_Pick_ok hr_4) rfl hb10 rfl (by kernel_rfl) (by kernel_rfl) (by kernel_rfl) (by kernel_rfl) (by kernel_rfl) (by kernel_rfl) (by kernel_rfl) (by decide) (by kernel_rfl) (wt rfl) (vI r_3.1) (by kernel_rfl) ([((extN 0), some (.cells 2 [(vL eI r_3.2.L), (vI r_3.2.f_at)])), (n_2, some (.cells 2 [(vI 0), (vI 0)]))] : Hp) (by kernel_rfl) ?_
  refine h_op (.ref (extN 0) 0 0) (wt rfl) rfl ?_
  refine h_lit (([1, 42000000, 86400000, 259200000, 777600000] : List Int).map eI) es22 ez22 rfl rfl rfl rfl rfl (wt rfl) ?_
  obtain ⟨r_6, hr_7, hF⟩ := bind_some hF
  refine h_callq 0 [0] (.inl rfl) (fun _ _ _ => trivial) (mk_Stream_Pick_ok hr_7) rfl hb10 rfl (by kernel_rfl) (by kernel_rfl) (by kernel_rfl) (by kernel_rfl) (by kernel_rfl) (by kernel_rfl) (by kernel_rfl) (by decide) (by kernel_rfl) (wt rfl) (vI r_6.1) (by kernel_rfl) ([((extN 0), some (.cells 2 [(vL eI r_6.2.L), (vI r_6.2.f_at)])), (n_2, some (.cells 2 [(vI 0), (vI 0)]))] : Hp) (by kernel_rfl) ?_
  refine h_op (.d (.agg (Window.enc (⟨r_3.1, r_6.1⟩ : Window)))) (wt rfl) (by kernel_rfl) ?_
  refine h_alloc 0 (.inl rfl) z51 rfl (wt rfl) (fun n_9 => ?_)
  refine h_str 0 (.inl rfl) (fun _ _ _ => trivial) 2 sz51 rfl rfl [(vI r_3.1), (vI r_6.1)] rfl (wt rfl) ?_
  refine h_nil ?_
  refine wH_seq ?_
  refine wH_seq ?_
  obtain ⟨v_10, h_11, hF⟩ := bind_some hF
  refine wH_join (β := Unit) (fun _ => ([(0, (.ref (extN 0) 0 0)), (2, (.ref n_2 0 0)), (3, (.ref n_9 0 0)), (20, (vB v_10.1))] : List (Nat × V))) (fun _ => ([((extN 0), some (.cells 2 [(vL eI v_10.2.1), (vI v_10.2.2)])), (n_2, some (.cells 2 [(vI 0), (vI 0)])), (n_9, some (.cells 2 [(vI r_3.1), (vI r_6.1)]))] : Hp)) (fun _ => True) ?_ ?_
  · refine wH_region ?_
    refine h_far pl51_0 rfl 0 rfl (wt rfl) ?_
    refine h_ldr 0 2 (.inl rfl) (fun _ _ _ => trivial) sz3 ag3 rfl rfl (vI r_3.1) rfl (wt rfl) ?_
    refine h_far pl51_1 rfl 1 rfl (wt rfl) ?_
    refine h_ldr 0 2 (.inl rfl) (fun _ _ _ => trivial) sz3 ag3 rfl rfl (vI r_6.1) rfl (wt rfl) ?_
    refine h_op (vB (decide (r_3.1 > r_6.1))) (wt rfl) rfl ?_
    rcases cond_some h_11 with ⟨hc_12, h_11⟩ | ⟨hc_12, h_11⟩
    · refine h_movb rfl hc_12 (wt rfl) ?_
      refine h_op (.ref (extN 0) 0 0) (wg rfl rfl rfl) rfl ?_
      obtain ⟨r_13, hr_14, h_11⟩ := bind_some h_11
      refine h_callq 0 [0] (.inl rfl) (fun _ _ _ => trivial) (mk_Stream_Flip_ok hr_14) rfl hb37 rfl (by kernel_rfl) (by kernel_rfl) (by kernel_rfl) (by kernel_rfl) (by kernel_rfl) (by kernel_rfl) (by kernel_rfl) (by decide) (by kernel_rfl) (wg rfl rfl rfl) (vB r_13.1) (by kernel_rfl) ([((extN 0), some (.cells 2 [(vL eI r_13.2.L), (vI r_13.2.f_at)])), (n_2, some (.cells 2 [(vI 0), (vI 0)])), (n_9, some (.cells 2 [(vI r_3.1), (vI r_6.1)]))] : Hp) (by kernel_rfl) ?_
      refine h_op (vB (!r_13.1)) (wg rfl rfl rfl) rfl ?_
      refine h_op (vB (!r_13.1)) (wt rfl) rfl ?_
      refine h_nil ?_
      replace h_11 := some_inj h_11
      subst h_11
      exact cut_mk () trivial rfl rfl
    · refine h_movb rfl hc_12 (wt rfl) ?_
      refine h_skip (wg rfl rfl rfl) ?_
      refine h_skip (wg rfl rfl rfl) ?_
      refine h_skip (wg rfl rfl rfl) ?_
      refine h_op (vB false) (wt rfl) rfl ?_
      refine h_nil ?_
      replace h_11 := some_inj h_11
      subst h_11
      exact cut_mk () trivial rfl rfl
  · rintro ⟨⟩ _ sl_ H_ hp_ hq_
    refine wH_at _ hp_ hq_ ?_
    obtain ⟨v_16, h_17, hF⟩ := bind_some hF
    refine wH_join (β := Unit) (fun _ => ([(0, (.ref (extN 0) 0 0)), (2, (.ref n_2 0 0)), (3, (.ref n_9 0 0))] : List (Nat × V))) (fun _ => ([((extN 0), some (.cells 2 [(vL eI v_10.2.1), (vI v_10.2.2)])), (n_2, some (.cells 2 [(vI 0), (vI 0)])), (n_9, some (.cells 2 [(vI v_16), (vI r_6.1)]))] : Hp)) (fun _ => True) ?_ ?_
    · rcases cond_some h_17 with ⟨hc_18, h_17⟩ | ⟨hc_18, h_17⟩
      · refine wH_ift rfl hc_18 ?_
        refine wH_region ?_
        refine h_far pl51_0 rfl 0 rfl (wt rfl) ?_
        refine h_str 0 (.inl rfl) (fun _ _ _ => trivial) 2 sz3 rfl rfl [(vI 0), (vI r_6.1)] rfl (wt rfl) ?_
        refine h_nil ?_
        replace h_17 := some_inj h_17
        subst h_17
        exact cut_mk () trivial rfl rfl
      · refine wH_iff rfl hc_18 ?_
        refine wH_skip ?_
        replace h_17 := some_inj h_17
        subst h_17
        exact cut_mk () trivial rfl rfl
    · rintro ⟨⟩ _ sl_ H_ hp_ hq_
      refine wH_at _ hp_ hq_ ?_
      refine wH_seq ?_
      refine wH_seq ?_
      refine wH_region ?_
      refine h_op (.ref (extN 0) 0 0) (wt rfl) rfl ?_
      obtain ⟨r_19, hr_20, hF⟩ := bind_some hF
      refine h_callq 0 [0] (.inl rfl) (fun _ _ _ => trivial) (mk_Stream_Flip_ok hr_20) rfl hb37 rfl (by kernel_rfl) (by kernel_rfl) (by kernel_rfl) (by kernel_rfl) (by kernel_rfl) (by kernel_rfl) (by kernel_rfl) (by decide) (by kernel_rfl) (wt rfl) (vB r_19.1) (by kernel_rfl) ([((extN 0), some (.cells 2 [(vL eI r_19.2.L), (vI r_19.2.f_at)])), (n_2, some (.cells 2 [(vI 0), (vI 0)])), (n_9, some (.cells 2 [(vI v_16), (vI r_6.1)]))] : Hp) (by kernel_rfl) ?_
      refine h_nil ?_
      obtain ⟨v_22, h_23, hF⟩ := bind_some hF
      refine wH_join (β := Unit) (fun _ => ([(2, (.ref n_2 0 0)), (3, (.ref n_9 0 0))] : List (Nat × V))) (fun _ => ([((extN 0), some (.cells 2 [(vL eI v_22.1), (vI v_22.2.1)])), (n_2, some (.cells 2 [(vI 0), (vI 0)])), (n_9, some (.cells 2 [(vI v_22.2.2.1), (vI v_22.2.2.2)]))] : Hp)) (fun _ => True) ?_ ?_
      · rcases cond_some h_23 with ⟨hc_24, h_23⟩ | ⟨hc_24, h_23⟩
        · refine wH_ift rfl hc_24 ?_
          refine wH_region ?_
          refine h_op (.ref (extN 0) 0 0) (wt rfl) rfl ?_
          obtain ⟨r_25, hr_26, h_23⟩ := bind_some h_23
          refine h_callq 0 [0] (.inl rfl) (fun _ _ _ => trivial) (mk_Stream_Odd_ok hr_26) rfl hb38 rfl (by kernel_rfl) (by kernel_rfl) (by kernel_rfl) (by kernel_rfl) (by kernel_rfl) (by kernel_rfl) (by kernel_rfl) (by decide) (by kernel_rfl) (wt rfl) (vI r_25.1) (by kernel_rfl) ([((extN 0), some (.cells 2 [(vL eI r_25.2.L), (vI r_25.2.f_at)])), (n_2, some (.cells 2 [(vI 0), (vI 0)])), (n_9, some (.cells 2 [(vI v_16), (vI r_6.1)]))] : Hp) (by kernel_rfl) ?_
          refine h_op (.ref (extN 0) 0 0) (wt rfl) rfl ?_
          refine h_lit (([345686400000, 345686400001, 34646400000, 34560000000, (-1)] : List Int).map eI) es22 ez22 rfl rfl rfl rfl rfl (wt rfl) ?_
          obtain ⟨r_28, hr_29, h_23⟩ := bind_some h_23
          refine h_callq 0 [0] (.inl rfl) (fun _ _ _ => trivial) (mk_Stream_Pick_ok hr_29) rfl hb10 rfl (by kernel_rfl) (by kernel_rfl) (by kernel_rfl) (by kernel_rfl) (by kernel_rfl) (by kernel_rfl) (by kernel_rfl) (by decide) (by kernel_rfl) (wt rfl) (vI r_28.1) (by kernel_rfl) ([((extN 0), some (.cells 2 [(vL eI r_28.2.L), (vI r_28.2.f_at)])), (n_2, some (.cells 2 [(vI 0), (vI 0)])), (n_9, some (.cells 2 [(vI v_16), (vI r_6.1)]))] : Hp) (by kernel_rfl) ?_
          refine h_op (.d (.agg (Window.enc (⟨r_25.1, r_28.1⟩ : Window)))) (wt rfl) (by kernel_rfl) ?_
          refine h_str 0 (.inl rfl) (fun _ _ _ => trivial) 2 sz51 rfl rfl [(vI r_25.1), (vI r_28.1)] rfl (wt rfl) ?_
          refine h_nil ?_
          replace h_23 := some_inj h_23
          subst h_23
          exact cut_mk () trivial rfl rfl
        · refine wH_iff rfl hc_24 ?_
          refine wH_skip ?_
          replace h_23 := some_inj h_23
          subst h_23
          exact cut_mk () trivial rfl rfl
      · rintro ⟨⟩ _ sl_ H_ hp_ hq_
        refine wH_at _ hp_ hq_ ?_
        refine wH_seq ?_
        refine wH_region ?_
        refine h_ldr 0 2 (.inl rfl) (fun _ _ _ => trivial) sz51 ag51 rfl rfl (.d (.agg (Window.enc (⟨v_22.2.2.1, v_22.2.2.2⟩ : Window)))) rfl (wt rfl) ?_
        refine h_str 0 (.inl rfl) (fun _ _ _ => trivial) 1 sz51 rfl rfl [(vI v_22.2.2.1), (vI v_22.2.2.2)] rfl (wt rfl) ?_
        refine h_nil ?_
        replace hF := some_inj hF
        subst hF
        refine wH_ret ?_
        exact finB (.inr rfl) [(.d (.agg (Window.enc (⟨v_22.2.2.1, v_22.2.2.2⟩ : Window))))] _ [0] [extN 0] ⟨⟨1, _, _, _, _, _, _, _, rfl, rfl, sz51, ag51, rfl⟩, trivial⟩ (.cons (co_data rfl rfl) (.nil)) (by kernel_rfl) ⟨(by kernel_rfl), trivial⟩ (by decide) (by kernel_rfl)
theorem mk_Stream_RightEntries_ok {s_1 : Stream} {r : (List Entry) × Stream} (hF : mk_Stream_RightEntries s_1 = some r) :
    FnM Try.prog 90 [(.ref (extN 0) 0 0)] [(.cells 2 [(vL eI s_1.L), (vI s_1.f_at)])] (vL Entry.enc r.1) [some (.cells 2 [(vL eI r.2.L), (vI r.2.f_at)])] := by
  refine FnM.of_wH ⟨Try.prog, 89, [], []⟩ rfl Try.func90 rfl rfl (Nat.le_of_ble_eq_true rfl) (by kernel_rfl) ?_
  unfold mk_Stream_RightEntries at hF
  refine wH_seq ?_
  refine wH_region ?_
  refine h_op .nil (wt rfl) rfl ?_
  refine h_nil ?_
  refine wH_seq ?_
  refine wH_region ?_
  refine h_op .nil (wt rfl) rfl ?_
  refine h_nil ?_
  refine wH_seq ?_
  refine wH_seq ?_
  refine wH_region ?_
  refine h_lit (([(⟨#[101, 97]⟩ : ByteArray), (⟨#[101, 98]⟩ : ByteArray), (⟨#[101, 99]⟩ : ByteArray), (⟨#[101, 100]⟩ : ByteArray)] : List ByteArray).map eS) es46 ez46 rfl rfl rfl rfl rfl (wt rfl) ?_
  refine h_len un46 rfl (wt rfl) ?_
  refine h_op (vI 0) (wt rfl) rfl ?_
  refine h_nil ?_
  refine wH_new (fun n_8 => ?_)
  obtain ⟨o_13, hj_14, hF⟩ := bind_some hF
  obtain ⟨hn_6, hj_14⟩ := forL_some hj_14
  refine wH_join (β := ((List Entry) × (List Int) × Int) × Nm) (fun p => (fun (s_7 : (List Entry) × (List Int) × Int) (n_10 : Nm) => ([(3, (gV n_10 13 s_7.1))] : List (Nat × V))) p.1 p.2) (fun p => (fun (s_7 : (List Entry) × (List Int) × Int) (n_10 : Nm) => ([((extN 0), some (.cells 2 [(vL eI s_7.2.1), (vI s_7.2.2)])), (n_10, gB 13 Entry.enc s_7.1)] : Hp)) p.1 p.2) (fun p => o_13 = .go p.1) ?_ ?_
  · refine wH_block ?_
    refine wH_loop (β := Nat × (List ByteArray) × ((List Entry) × (List Int) × Int) × Nm) (fun p => (fun (k_2 : Nat) (l_3 : List ByteArray) (s_7 : (List Entry) × (List Int) × Int) (n_10 : Nm) => ([(0, (.ref (extN 0) 0 0)), (3, (gV n_10 13 s_7.1)), (11, (vL eS ([(⟨#[101, 97]⟩ : ByteArray), (⟨#[101, 98]⟩ : ByteArray), (⟨#[101, 99]⟩ : ByteArray), (⟨#[101, 100]⟩ : ByteArray)] : List ByteArray))), (12, (vI (([(⟨#[101, 97]⟩ : ByteArray), (⟨#[101, 98]⟩ : ByteArray), (⟨#[101, 99]⟩ : ByteArray), (⟨#[101, 100]⟩ : ByteArray)] : List ByteArray).length : Int))), (13, (vI (k_2 : Int)))] : List (Nat × V))) p.1 p.2.1 p.2.2.1 p.2.2.2) (fun p => (fun (k_2 : Nat) (l_3 : List ByteArray) (s_7 : (List Entry) × (List Int) × Int) (n_10 : Nm) => ([((extN 0), some (.cells 2 [(vL eI s_7.2.1), (vI s_7.2.2)])), (n_10, gB 13 Entry.enc s_7.1)] : Hp)) p.1 p.2.1 p.2.2.1 p.2.2.2) (fun p => forR (fun k x s => mk_Stream_RightEntries_L3 k x s) p.2.1 p.1 p.2.2.1 = some o_13 ∧ (([(⟨#[101, 97]⟩ : ByteArray), (⟨#[101, 98]⟩ : ByteArray), (⟨#[101, 99]⟩ : ByteArray), (⟨#[101, 100]⟩ : ByteArray)] : List ByteArray)).drop p.1 = p.2.1) (fun p => p.2.1.length) (0, ([(⟨#[101, 97]⟩ : ByteArray), (⟨#[101, 98]⟩ : ByteArray), (⟨#[101, 99]⟩ : ByteArray), (⟨#[101, 100]⟩ : ByteArray)] : List ByteArray), (([] : List Entry), s_1.L, s_1.f_at), n_8) ⟨hj_14, rfl⟩ rfl rfl ?_
    rintro ⟨k_2, l_3, s_7, n_10⟩ ⟨hL_12, hD_5⟩
    dsimp only at hL_12 hD_5
    cases l_3 with
    | nil =>
      replace hL_12 := some_inj hL_12
      subst hL_12
      refine wH_seq (wH_region (h_op (vB (decide ((k_2 : Int) < (([(⟨#[101, 97]⟩ : ByteArray), (⟨#[101, 98]⟩ : ByteArray), (⟨#[101, 99]⟩ : ByteArray), (⟨#[101, 100]⟩ : ByteArray)] : List ByteArray).length : Int)))) (wt rfl) rfl (h_nil ?_)))
      refine wH_seq (wH_iff rfl (drop_nil hD_5) (wH_exit ?_))
      exact cut_mk (s_7, n_10) rfl rfl rfl
    | cons x_4 l_3 =>
      obtain ⟨c_, hc_11, hL_12⟩ := bind_some hL_12
      refine wH_seq (wH_region (h_op (vB (decide ((k_2 : Int) < (([(⟨#[101, 97]⟩ : ByteArray), (⟨#[101, 98]⟩ : ByteArray), (⟨#[101, 99]⟩ : ByteArray), (⟨#[101, 100]⟩ : ByteArray)] : List ByteArray).length : Int)))) (wt rfl) rfl (h_nil ?_)))
      refine wH_seq (wH_ift rfl (drop_cons hD_5) (wH_skip ?_))
      unfold mk_Stream_RightEntries_L3 at hc_11
      refine wH_seq ?_
      refine wH_block ?_
      refine wH_seq ?_
      refine wH_region ?_
      refine h_ia es46 rfl rfl (drop_idx hD_5) rfl (wt rfl) ?_
      refine h_ldc sz9 ag9 rfl (vS x_4) rfl (wt rfl) ?_
      refine h_op (vS x_4) (wt rfl) rfl ?_
      refine h_nil ?_
      refine wH_seq ?_
      refine wH_seq ?_
      refine wH_region ?_
      refine h_op (.ref (extN 0) 0 0) (wt rfl) rfl ?_
      obtain ⟨r_15, hr_16, hc_11⟩ := bind_some hc_11
      refine h_callq 0 [0] (.inl rfl) (fun _ _ _ => trivial) (mk_Stream_Flip_ok hr_16) rfl hb37 rfl (by kernel_rfl) (by kernel_rfl) (by kernel_rfl) (by kernel_rfl) (by kernel_rfl) (by kernel_rfl) (by kernel_rfl) (by decide) (by kernel_rfl) (wt rfl) (vB r_15.1) (by kernel_rfl) ([((extN 0), some (.cells 2 [(vL eI r_15.2.L), (vI r_15.2.f_at)])), (n_10, gB 13 Entry.enc s_7.1)] : Hp) (by kernel_rfl) ?_
      refine h_nil ?_
      rcases cond_some hc_11 with ⟨hc_18, hc_11⟩ | ⟨hc_18, hc_11⟩
      · refine wH_ift rfl hc_18 ?_
        refine wH_exit ?_
        refine wH_region ?_
        refine h_opw (w64_next hD_5 hn_6) (wt rfl) rfl ?_
        refine h_op (vI ((k_2 + 1 : Nat) : Int)) (wt rfl) rfl ?_
        refine h_nil ?_
        replace hc_11 := some_inj hc_11
        subst hc_11
        exact loop_mk (k_2 + 1, l_3, (s_7.1, r_15.2.L, r_15.2.f_at), n_10) ⟨hL_12, drop_next hD_5⟩ (Nat.lt_succ_self _) rfl rfl
      · refine wH_iff rfl hc_18 ?_
        refine wH_skip ?_
        refine wH_seq ?_
        refine wH_region ?_
        refine h_op (vS x_4) (wt rfl) rfl ?_
        refine h_op (.ref (extN 0) 0 0) (wt rfl) rfl ?_
        refine h_lit (([(⟨#[105, 97]⟩ : ByteArray), (⟨#[105, 98]⟩ : ByteArray), (⟨#[105, 99]⟩ : ByteArray)] : List ByteArray).map eS) es46 ez46 rfl rfl rfl rfl rfl (wt rfl) ?_
        obtain ⟨r_19, hr_20, hc_11⟩ := bind_some hc_11
        refine h_callq 0 [0] (.inl rfl) (fun _ _ _ => trivial) (mk_Stream_Some_ok hr_20) rfl hb9 rfl (by kernel_rfl) (by kernel_rfl) (by kernel_rfl) (by kernel_rfl) (by kernel_rfl) (by kernel_rfl) (by kernel_rfl) (by decide) (by kernel_rfl) (wt rfl) (vS r_19.1) (by kernel_rfl) ([((extN 0), some (.cells 2 [(vL eI r_19.2.L), (vI r_19.2.f_at)])), (n_10, gB 13 Entry.enc s_7.1)] : Hp) (by kernel_rfl) ?_
        refine h_op (.ref (extN 0) 0 0) (wt rfl) rfl ?_
        obtain ⟨r_22, hr_23, hc_11⟩ := bind_some hc_11
        refine h_callq 0 [0] (.inl rfl) (fun _ _ _ => trivial) (mk_Stream_Range_ok hr_23) rfl hb106 rfl (by kernel_rfl) (by kernel_rfl) (by kernel_rfl) (by kernel_rfl) (by kernel_rfl) (by kernel_rfl) (by kernel_rfl) (by decide) (by kernel_rfl) (wt rfl) (vI r_22.1) (by kernel_rfl) ([((extN 0), some (.cells 2 [(vL eI r_22.2.L), (vI r_22.2.f_at)])), (n_10, gB 13 Entry.enc s_7.1)] : Hp) (by kernel_rfl) ?_
        refine h_op (.ref (extN 0) 0 0) (wt rfl) rfl ?_
        refine h_lit (([0, 0, 1, 3] : List Int).map eI) es22 ez22 rfl rfl rfl rfl rfl (wt rfl) ?_
        obtain ⟨r_25, hr_26, hc_11⟩ := bind_some hc_11
        refine h_callq 0 [0] (.inl rfl) (fun _ _ _ => trivial) (mk_Stream_Pick_ok hr_26) rfl hb10 rfl (by kernel_rfl) (by kernel_rfl) (by kernel_rfl) (by kernel_rfl) (by kernel_rfl) (by kernel_rfl) (by kernel_rfl) (by decide) (by kernel_rfl) (wt rfl) (vI r_25.1) (by kernel_rfl) ([((extN 0), some (.cells 2 [(vL eI r_25.2.L), (vI r_25.2.f_at)])), (n_10, gB 13 Entry.enc s_7.1)] : Hp) (by kernel_rfl) ?_
        refine h_op (.ref (extN 0) 0 0) (wt rfl) rfl ?_
        refine h_lit (([1, 1, 2, 3, 7] : List Int).map eI) es22 ez22 rfl rfl rfl rfl rfl (wt rfl) ?_
        obtain ⟨r_28, hr_29, hc_11⟩ := bind_some hc_11
        refine h_callq 0 [0] (.inl rfl) (fun _ _ _ => trivial) (mk_Stream_Pick_ok hr_29) rfl hb10 rfl (by kernel_rfl) (by kernel_rfl) (by kernel_rfl) (by kernel_rfl) (by kernel_rfl) (by kernel_rfl) (by kernel_rfl) (by decide) (by kernel_rfl) (wt rfl) (vI r_28.1) (by kernel_rfl) ([((extN 0), some (.cells 2 [(vL eI r_28.2.L), (vI r_28.2.f_at)])), (n_10, gB 13 Entry.enc s_7.1)] : Hp) (by kernel_rfl) ?_
        refine h_op (.ref (extN 0) 0 0) (wt rfl) rfl ?_
        refine h_lit (([127, 127, 31, 96, 1, 2] : List Int).map eI) es22 ez22 rfl rfl rfl rfl rfl (wt rfl) ?_
        obtain ⟨r_31, hr_32, hc_11⟩ := bind_some hc_11
        refine h_callq 0 [0] (.inl rfl) (fun _ _ _ => trivial) (mk_Stream_Pick_ok hr_32) rfl hb10 rfl (by kernel_rfl) (by kernel_rfl) (by kernel_rfl) (by kernel_rfl) (by kernel_rfl) (by kernel_rfl) (by kernel_rfl) (by decide) (by kernel_rfl) (wt rfl) (vI r_31.1) (by kernel_rfl) ([((extN 0), some (.cells 2 [(vL eI r_31.2.L), (vI r_31.2.f_at)])), (n_10, gB 13 Entry.enc s_7.1)] : Hp) (by kernel_rfl) ?_
        refine h_op (.ref (extN 0) 0 0) (wt rfl) rfl ?_
        refine h_lit (([0, 0, 60, 600, 1380] : List Int).map eI) es22 ez22 rfl rfl rfl rfl rfl (wt rfl) ?_
        obtain ⟨r_34, hr_35, hc_11⟩ := bind_some hc_11
        refine h_callq 0 [0] (.inl rfl) (fun _ _ _ => trivial) (mk_Stream_Pick_ok hr_35) rfl hb10 rfl (by kernel_rfl) (by kernel_rfl) (by kernel_rfl) (by kernel_rfl) (by kernel_rfl) (by kernel_rfl) (by kernel_rfl) (by decide) (by kernel_rfl) (wt rfl) (vI r_34.1) (by kernel_rfl) ([((extN 0), some (.cells 2 [(vL eI r_34.2.L), (vI r_34.2.f_at)])), (n_10, gB 13 Entry.enc s_7.1)] : Hp) (by kernel_rfl) ?_
        refine h_op (.ref (extN 0) 0 0) (wt rfl) rfl ?_
        refine h_lit (([0, 60, 120, 600, 720, 1439] : List Int).map eI) es22 ez22 rfl rfl rfl rfl rfl (wt rfl) ?_
        obtain ⟨r_37, hr_38, hc_11⟩ := bind_some hc_11
        refine h_callq 0 [0] (.inl rfl) (fun _ _ _ => trivial) (mk_Stream_Pick_ok hr_38) rfl hb10 rfl (by kernel_rfl) (by kernel_rfl) (by kernel_rfl) (by kernel_rfl) (by kernel_rfl) (by kernel_rfl) (by kernel_rfl) (by decide) (by kernel_rfl) (wt rfl) (vI r_37.1) (by kernel_rfl) ([((extN 0), some (.cells 2 [(vL eI r_37.2.L), (vI r_37.2.f_at)])), (n_10, gB 13 Entry.enc s_7.1)] : Hp) (by kernel_rfl) ?_
        refine h_op (.ref (extN 0) 0 0) (wt rfl) rfl ?_
        refine h_lit (([0, 0, 1, 5] : List Int).map eI) es22 ez22 rfl rfl rfl rfl rfl (wt rfl) ?_
        obtain ⟨r_40, hr_41, hc_11⟩ := bind_some hc_11
        refine h_callq 0 [0] (.inl rfl) (fun _ _ _ => trivial) (mk_Stream_Pick_ok hr_41) rfl hb10 rfl (by kernel_rfl) (by kernel_rfl) (by kernel_rfl) (by kernel_rfl) (by kernel_rfl) (by kernel_rfl) (by kernel_rfl) (by decide) (by kernel_rfl) (wt rfl) (vI r_40.1) (by kernel_rfl) ([((extN 0), some (.cells 2 [(vL eI r_40.2.L), (vI r_40.2.f_at)])), (n_10, gB 13 Entry.enc s_7.1)] : Hp) (by kernel_rfl) ?_
        refine h_op (.ref (extN 0) 0 0) (wt rfl) rfl ?_
        obtain ⟨r_43, hr_44, hc_11⟩ := bind_some hc_11
        refine h_callq 0 [0] (.inl rfl) (fun _ _ _ => trivial) (mk_Stream_Flip_ok hr_44) rfl hb37 rfl (by kernel_rfl) (by kernel_rfl) (by kernel_rfl) (by kernel_rfl) (by kernel_rfl) (by kernel_rfl) (by kernel_rfl) (by decide) (by kernel_rfl) (wt rfl) (vB r_43.1) (by kernel_rfl) ([((extN 0), some (.cells 2 [(vL eI r_43.2.L), (vI r_43.2.f_at)])), (n_10, gB 13 Entry.enc s_7.1)] : Hp) (by kernel_rfl) ?_
        refine h_op (.agg [(vS x_4), (vS r_19.1), (vI r_22.1), (vI r_25.1), (vI 0), (vI r_28.1), (vI r_31.1), .nil, (vI r_34.1), (vI r_37.1), (vI r_40.1), .nil, (vB r_43.1)]) (wt rfl) (by kernel_rfl) ?_
        refine h_alloc 0 (.inl rfl) z56 rfl (wt rfl) (fun n_46 => ?_)
        refine h_str 0 (.inl rfl) (fun _ _ _ => trivial) 2 sz56 rfl rfl [(vS x_4), (vS r_19.1), (vI r_22.1), (vI r_25.1), (vI 0), (vI r_28.1), (vI r_31.1), .nil, (vI r_34.1), (vI r_37.1), (vI r_40.1), .nil, (vB r_43.1)] rfl (wt rfl) ?_
        refine h_nil ?_
        refine wH_seq ?_
        refine wH_draws ?_
        refine h_far pl56_3 rfl 3 rfl (wt rfl) ?_
        refine h_ldr 1 2 (.inr (by kernel_rfl)) (fun _ _ ag => trivial) sz3 ag3 rfl rfl (vI r_25.1) rfl (wt rfl) ?_
        refine h_op (.ref (extN 0) 0 0) (wt rfl) rfl ?_
        refine h_lit (([0, 1, 5, 10, 30] : List Int).map eI) es22 ez22 rfl rfl rfl rfl rfl (wt rfl) ?_
        obtain ⟨r_47, hr_48, hc_11⟩ := bind_some hc_11
        refine h_callq 4 [0] (.inr (by kernel_rfl)) (fun _ _ ag => by exact ⟨.inr (.inl (dis1 (ag_ne ag (i := 0) (j := 2) rfl rfl (by decide)))), trivial⟩) (mk_Stream_Pick_ok hr_48) rfl hb10 rfl (by kernel_rfl) (by kernel_rfl) (by kernel_rfl) (by kernel_rfl) (by kernel_rfl) (by kernel_rfl) (by kernel_rfl) (by decide) (by kernel_rfl) (wt rfl) (vI r_47.1) (by kernel_rfl) ([((extN 0), some (.cells 2 [(vL eI r_47.2.L), (vI r_47.2.f_at)])), (n_10, gB 13 Entry.enc s_7.1), (n_46, some (.cells 13 [(vS x_4), (vS r_19.1), (vI r_22.1), (vI r_25.1), (vI 0), (vI r_28.1), (vI r_31.1), .nil, (vI r_34.1), (vI r_37.1), (vI r_40.1), .nil, (vB r_43.1)]))] : Hp) (by kernel_rfl) ?_
        refine h_op (vI (w64 (r_25.1 + r_47.1))) (wt rfl) rfl ?_
        refine h_far pl56_4 rfl 4 rfl (wt rfl) ?_
        refine h_str 7 (.inr (by kernel_rfl)) (fun _ _ ag => ⟨.inr (.inr (by kernel_rfl)), ⟨.inr (.inr (by kernel_rfl)), trivial⟩⟩) 2 sz3 rfl rfl [(vS x_4), (vS r_19.1), (vI r_22.1), (vI r_25.1), (vI (w64 (r_25.1 + r_47.1))), (vI r_28.1), (vI r_31.1), .nil, (vI r_34.1), (vI r_37.1), (vI r_40.1), .nil, (vB r_43.1)] rfl (wt rfl) ?_
        refine h_nil ?_
        refine wH_seq ?_
        refine wH_seq ?_
        refine wH_region ?_
        refine h_lit (([1, 2, 8] : List Int).map eI) es22 ez22 rfl rfl rfl rfl rfl (wt rfl) ?_
        refine h_len un22 rfl (wt rfl) ?_
        refine h_op (vI 0) (wt rfl) rfl ?_
        refine h_nil ?_
        refine wH_new (fun n_56 => ?_)
        obtain ⟨o_61, hj_62, hc_11⟩ := bind_some hc_11
        obtain ⟨hn_54, hj_62⟩ := forL_some hj_62
        refine wH_join (β := ((List Int) × (List Int) × Int) × Nm) (fun p => (fun (s_55 : (List Int) × (List Int) × Int) (n_58 : Nm) => ([(0, (.ref (extN 0) 0 0)), (3, (gV n_10 13 s_7.1)), (6, (.ref n_46 0 0)), (11, (vL eS ([(⟨#[101, 97]⟩ : ByteArray), (⟨#[101, 98]⟩ : ByteArray), (⟨#[101, 99]⟩ : ByteArray), (⟨#[101, 100]⟩ : ByteArray)] : List ByteArray))), (12, (vI (([(⟨#[101, 97]⟩ : ByteArray), (⟨#[101, 98]⟩ : ByteArray), (⟨#[101, 99]⟩ : ByteArray), (⟨#[101, 100]⟩ : ByteArray)] : List ByteArray).length : Int))), (13, (vI (k_2 : Int)))] : List (Nat × V))) p.1 p.2) (fun p => (fun (s_55 : (List Int) × (List Int) × Int) (n_58 : Nm) => ([((extN 0), some (.cells 2 [(vL eI s_55.2.1), (vI s_55.2.2)])), (n_10, gB 13 Entry.enc s_7.1), (n_46, some (.cells 13 [(vS x_4), (vS r_19.1), (vI r_22.1), (vI r_25.1), (vI (w64 (r_25.1 + r_47.1))), (vI r_28.1), (vI r_31.1), (gV n_58 1 s_55.1), (vI r_34.1), (vI r_37.1), (vI r_40.1), .nil, (vB r_43.1)])), (n_58, gB 1 eI s_55.1)] : Hp)) p.1 p.2) (fun p => o_61 = .go p.1) ?_ ?_
        · refine wH_block ?_
          refine wH_loop (β := Nat × (List Int) × ((List Int) × (List Int) × Int) × Nm) (fun p => (fun (k_50 : Nat) (l_51 : List Int) (s_55 : (List Int) × (List Int) × Int) (n_58 : Nm) => ([(0, (.ref (extN 0) 0 0)), (3, (gV n_10 13 s_7.1)), (6, (.ref n_46 0 0)), (11, (vL eS ([(⟨#[101, 97]⟩ : ByteArray), (⟨#[101, 98]⟩ : ByteArray), (⟨#[101, 99]⟩ : ByteArray), (⟨#[101, 100]⟩ : ByteArray)] : List ByteArray))), (12, (vI (([(⟨#[101, 97]⟩ : ByteArray), (⟨#[101, 98]⟩ : ByteArray), (⟨#[101, 99]⟩ : ByteArray), (⟨#[101, 100]⟩ : ByteArray)] : List ByteArray).length : Int))), (13, (vI (k_2 : Int))), (53, (vL eI ([1, 2, 8] : List Int))), (54, (vI (([1, 2, 8] : List Int).length : Int))), (55, (vI (k_50 : Int)))] : List (Nat × V))) p.1 p.2.1 p.2.2.1 p.2.2.2) (fun p => (fun (k_50 : Nat) (l_51 : List Int) (s_55 : (List Int) × (List Int) × Int) (n_58 : Nm) => ([((extN 0), some (.cells 2 [(vL eI s_55.2.1), (vI s_55.2.2)])), (n_10, gB 13 Entry.enc s_7.1), (n_46, some (.cells 13 [(vS x_4), (vS r_19.1), (vI r_22.1), (vI r_25.1), (vI (w64 (r_25.1 + r_47.1))), (vI r_28.1), (vI r_31.1), (gV n_58 1 s_55.1), (vI r_34.1), (vI r_37.1), (vI r_40.1), .nil, (vB r_43.1)])), (n_58, gB 1 eI s_55.1)] : Hp)) p.1 p.2.1 p.2.2.1 p.2.2.2) (fun p => forR (fun k x s => mk_Stream_RightEntries_L1 k x s) p.2.1 p.1 p.2.2.1 = some o_61 ∧ (([1, 2, 8] : List Int)).drop p.1 = p.2.1) (fun p => p.2.1.length) (0, ([1, 2, 8] : List Int), (([] : List Int), r_47.2.L, r_47.2.f_at), n_56) ⟨hj_62, rfl⟩ rfl rfl ?_
          rintro ⟨k_50, l_51, s_55, n_58⟩ ⟨hL_60, hD_53⟩
          dsimp only at hL_60 hD_53
          cases l_51 with
          | nil =>
            replace hL_60 := some_inj hL_60
            subst hL_60
            refine wH_seq (wH_region (h_op (vB (decide ((k_50 : Int) < (([1, 2, 8] : List Int).length : Int)))) (wt rfl) rfl (h_nil ?_)))
            refine wH_seq (wH_iff rfl (drop_nil hD_53) (wH_exit ?_))
            exact cut_mk (s_55, n_58) rfl rfl rfl
          | cons x_52 l_51 =>
            obtain ⟨c_, hc_59, hL_60⟩ := bind_some hL_60
            refine wH_seq (wH_region (h_op (vB (decide ((k_50 : Int) < (([1, 2, 8] : List Int).length : Int)))) (wt rfl) rfl (h_nil ?_)))
            refine wH_seq (wH_ift rfl (drop_cons hD_53) (wH_skip ?_))
            unfold mk_Stream_RightEntries_L1 at hc_59
            refine wH_seq ?_
            refine wH_block ?_
            refine wH_seq ?_
            refine wH_region ?_
            refine h_ia es22 rfl rfl (drop_idx hD_53) rfl (wt rfl) ?_
            refine h_ldc sz3 ag3 rfl (vI x_52) rfl (wt rfl) ?_
            refine h_op (vI x_52) (wt rfl) rfl ?_
            refine h_nil ?_
            refine wH_seq ?_
            refine wH_region ?_
            refine h_op (.ref (extN 0) 0 0) (wt rfl) rfl ?_
            obtain ⟨r_63, hr_64, hc_59⟩ := bind_some hc_59
            refine h_callq 0 [0] (.inl rfl) (fun _ _ _ => trivial) (mk_Stream_Flip_ok hr_64) rfl hb37 rfl (by kernel_rfl) (by kernel_rfl) (by kernel_rfl) (by kernel_rfl) (by kernel_rfl) (by kernel_rfl) (by kernel_rfl) (by decide) (by kernel_rfl) (wt rfl) (vB r_63.1) (by kernel_rfl) ([((extN 0), some (.cells 2 [(vL eI r_63.2.L), (vI r_63.2.f_at)])), (n_10, gB 13 Entry.enc s_7.1), (n_46, some (.cells 13 [(vS x_4), (vS r_19.1), (vI r_22.1), (vI r_25.1), (vI (w64 (r_25.1 + r_47.1))), (vI r_28.1), (vI r_31.1), (gV n_58 1 s_55.1), (vI r_34.1), (vI r_37.1), (vI r_40.1), .nil, (vB r_43.1)])), (n_58, gB 1 eI s_55.1)] : Hp) (by kernel_rfl) ?_
            refine h_nil ?_
            obtain ⟨v_66, h_67, hc_59⟩ := bind_some hc_59
            refine wH_join (β := Nm) (fun (n_68 : Nm) => ([(0, (.ref (extN 0) 0 0)), (3, (gV n_10 13 s_7.1)), (6, (.ref n_46 0 0)), (11, (vL eS ([(⟨#[101, 97]⟩ : ByteArray), (⟨#[101, 98]⟩ : ByteArray), (⟨#[101, 99]⟩ : ByteArray), (⟨#[101, 100]⟩ : ByteArray)] : List ByteArray))), (12, (vI (([(⟨#[101, 97]⟩ : ByteArray), (⟨#[101, 98]⟩ : ByteArray), (⟨#[101, 99]⟩ : ByteArray), (⟨#[101, 100]⟩ : ByteArray)] : List ByteArray).length : Int))), (13, (vI (k_2 : Int))), (53, (vL eI ([1, 2, 8] : List Int))), (54, (vI (([1, 2, 8] : List Int).length : Int))), (55, (vI (k_50 : Int)))] : List (Nat × V))) (fun (n_68 : Nm) => ([((extN 0), some (.cells 2 [(vL eI r_63.2.L), (vI r_63.2.f_at)])), (n_10, gB 13 Entry.enc s_7.1), (n_46, some (.cells 13 [(vS x_4), (vS r_19.1), (vI r_22.1), (vI r_25.1), (vI (w64 (r_25.1 + r_47.1))), (vI r_28.1), (vI r_31.1), (gV n_68 1 v_66), (vI r_34.1), (vI r_37.1), (vI r_40.1), .nil, (vB r_43.1)])), (n_68, gB 1 eI v_66)] : Hp)) (fun _ => True) ?_ ?_
            · rcases cond_some h_67 with ⟨hc_69, h_67⟩ | ⟨hc_69, h_67⟩
              · refine wH_ift rfl hc_69 ?_
                refine wH_region ?_
                refine h_far pl56_7 rfl 7 rfl (wt rfl) ?_
                refine h_ldr 0 2 (.inl rfl) (fun _ _ _ => trivial) sz22 ag22 rfl rfl (gV n_58 1 s_55.1) rfl (wt rfl) ?_
                refine h_op (vI x_52) (wt rfl) rfl ?_
                refine h_lit (([x_52] : List Int).map eI) es22 ez22 rfl rfl rfl rfl rfl (wt rfl) ?_
                obtain ⟨a_70, hz_71, h_67⟩ := bind_some h_67
                refine h_appg 0 (.inl rfl) (fun _ _ _ => trivial) (i := 3) el22 el22 sz3 z3 rfl (by decide) by3 (by decide) (fun _ => rfl) rfl rfl rfl hz_71 (wt rfl) (fun n_72 => ?_)
                refine h_far pl56_7 rfl 7 rfl (wt rfl) ?_
                refine h_str 0 (.inl rfl) (fun _ _ _ => trivial) 2 sz22 rfl rfl [(vS x_4), (vS r_19.1), (vI r_22.1), (vI r_25.1), (vI (w64 (r_25.1 + r_47.1))), (vI r_28.1), (vI r_31.1), (gV n_72 1 a_70), (vI r_34.1), (vI r_37.1), (vI r_40.1), .nil, (vB r_43.1)] (stC_g rfl) (wt rfl) ?_
                refine h_nil ?_
                replace h_67 := some_inj h_67
                subst h_67
                exact cut_mk n_72 trivial rfl rfl
              · refine wH_iff rfl hc_69 ?_
                refine wH_skip ?_
                replace h_67 := some_inj h_67
                subst h_67
                exact cut_mk n_58 trivial rfl rfl
            · rintro n_68 _ sl_ H_ hp_ hq_
              refine wH_at _ hp_ hq_ ?_
              refine wH_region ?_
              refine h_opw (w64_next hD_53 hn_54) (wt rfl) rfl ?_
              refine h_op (vI ((k_50 + 1 : Nat) : Int)) (wt rfl) rfl ?_
              refine h_nil ?_
              replace hc_59 := some_inj hc_59
              subst hc_59
              exact loop_mk (k_50 + 1, l_51, (v_66, r_63.2.L, r_63.2.f_at), n_68) ⟨hL_60, drop_next hD_53⟩ (Nat.lt_succ_self _) rfl rfl
        · rintro ⟨s_55, n_58⟩ ho_ sl_ H_ hp_ hq_
          subst ho_
          refine wH_at _ hp_ hq_ ?_
          refine wH_seq ?_
          refine wH_seq ?_
          refine wH_region ?_
          refine h_lit (([(⟨#[99, 105, 116, 121]⟩ : ByteArray), (⟨#[109, 97, 108, 108]⟩ : ByteArray)] : List ByteArray).map eS) es46 ez46 rfl rfl rfl rfl rfl (wt rfl) ?_
          refine h_len un46 rfl (wt rfl) ?_
          refine h_op (vI 0) (wt rfl) rfl ?_
          refine h_nil ?_
          refine wH_new (fun n_79 => ?_)
          obtain ⟨o_84, hj_85, hc_11⟩ := bind_some hc_11
          obtain ⟨hn_77, hj_85⟩ := forL_some hj_85
          refine wH_join (β := ((List ByteArray) × (List Int) × Int) × Nm) (fun p => (fun (s_78 : (List ByteArray) × (List Int) × Int) (n_81 : Nm) => ([(0, (.ref (extN 0) 0 0)), (3, (gV n_10 13 s_7.1)), (6, (.ref n_46 0 0)), (11, (vL eS ([(⟨#[101, 97]⟩ : ByteArray), (⟨#[101, 98]⟩ : ByteArray), (⟨#[101, 99]⟩ : ByteArray), (⟨#[101, 100]⟩ : ByteArray)] : List ByteArray))), (12, (vI (([(⟨#[101, 97]⟩ : ByteArray), (⟨#[101, 98]⟩ : ByteArray), (⟨#[101, 99]⟩ : ByteArray), (⟨#[101, 100]⟩ : ByteArray)] : List ByteArray).length : Int))), (13, (vI (k_2 : Int)))] : List (Nat × V))) p.1 p.2) (fun p => (fun (s_78 : (List ByteArray) × (List Int) × Int) (n_81 : Nm) => ([((extN 0), some (.cells 2 [(vL eI s_78.2.1), (vI s_78.2.2)])), (n_10, gB 13 Entry.enc s_7.1), (n_46, some (.cells 13 [(vS x_4), (vS r_19.1), (vI r_22.1), (vI r_25.1), (vI (w64 (r_25.1 + r_47.1))), (vI r_28.1), (vI r_31.1), (gV n_58 1 s_55.1), (vI r_34.1), (vI r_37.1), (vI r_40.1), (gV n_81 1 s_78.1), (vB r_43.1)])), (n_58, gB 1 eI s_55.1), (n_81, gB 1 eS s_78.1)] : Hp)) p.1 p.2) (fun p => o_84 = .go p.1) ?_ ?_
          · refine wH_block ?_
            refine wH_loop (β := Nat × (List ByteArray) × ((List ByteArray) × (List Int) × Int) × Nm) (fun p => (fun (k_73 : Nat) (l_74 : List ByteArray) (s_78 : (List ByteArray) × (List Int) × Int) (n_81 : Nm) => ([(0, (.ref (extN 0) 0 0)), (3, (gV n_10 13 s_7.1)), (6, (.ref n_46 0 0)), (11, (vL eS ([(⟨#[101, 97]⟩ : ByteArray), (⟨#[101, 98]⟩ : ByteArray), (⟨#[101, 99]⟩ : ByteArray), (⟨#[101, 100]⟩ : ByteArray)] : List ByteArray))), (12, (vI (([(⟨#[101, 97]⟩ : ByteArray), (⟨#[101, 98]⟩ : ByteArray), (⟨#[101, 99]⟩ : ByteArray), (⟨#[101, 100]⟩ : ByteArray)] : List ByteArray).length : Int))), (13, (vI (k_2 : Int))), (68, (vL eS ([(⟨#[99, 105, 116, 121]⟩ : ByteArray), (⟨#[109, 97, 108, 108]⟩ : ByteArray)] : List ByteArray))), (69, (vI (([(⟨#[99, 105, 116, 121]⟩ : ByteArray), (⟨#[109, 97, 108, 108]⟩ : ByteArray)] : List ByteArray).length : Int))), (70, (vI (k_73 : Int)))] : List (Nat × V))) p.1 p.2.1 p.2.2.1 p.2.2.2) (fun p => (fun (k_73 : Nat) (l_74 : List ByteArray) (s_78 : (List ByteArray) × (List Int) × Int) (n_81 : Nm) => ([((extN 0), some (.cells 2 [(vL eI s_78.2.1), (vI s_78.2.2)])), (n_10, gB 13 Entry.enc s_7.1), (n_46, some (.cells 13 [(vS x_4), (vS r_19.1), (vI r_22.1), (vI r_25.1), (vI (w64 (r_25.1 + r_47.1))), (vI r_28.1), (vI r_31.1), (gV n_58 1 s_55.1), (vI r_34.1), (vI r_37.1), (vI r_40.1), (gV n_81 1 s_78.1), (vB r_43.1)])), (n_58, gB 1 eI s_55.1), (n_81, gB 1 eS s_78.1)] : Hp)) p.1 p.2.1 p.2.2.1 p.2.2.2) (fun p => forR (fun k x s => mk_Stream_RightEntries_L2 k x s) p.2.1 p.1 p.2.2.1 = some o_84 ∧ (([(⟨#[99, 105, 116, 121]⟩ : ByteArray), (⟨#[109, 97, 108, 108]⟩ : ByteArray)] : List ByteArray)).drop p.1 = p.2.1) (fun p => p.2.1.length) (0, ([(⟨#[99, 105, 116, 121]⟩ : ByteArray), (⟨#[109, 97, 108, 108]⟩ : ByteArray)] : List ByteArray), (([] : List ByteArray), s_55.2.1, s_55.2.2), n_79) ⟨hj_85, rfl⟩ rfl rfl ?_
            rintro ⟨k_73, l_74, s_78, n_81⟩ ⟨hL_83, hD_76⟩
            dsimp only at hL_83 hD_76
            cases l_74 with
            | nil =>
              replace hL_83 := some_inj hL_83
              subst hL_83
              refine wH_seq (wH_region (h_op (vB (decide ((k_73 : Int) < (([(⟨#[99, 105, 116, 121]⟩ : ByteArray), (⟨#[109, 97, 108, 108]⟩ : ByteArray)] : List ByteArray).length : Int)))) (wt rfl) rfl (h_nil ?_)))
              refine wH_seq (wH_iff rfl (drop_nil hD_76) (wH_exit ?_))
              exact cut_mk (s_78, n_81) rfl rfl rfl
            | cons x_75 l_74 =>
              obtain ⟨c_, hc_82, hL_83⟩ := bind_some hL_83
              refine wH_seq (wH_region (h_op (vB (decide ((k_73 : Int) < (([(⟨#[99, 105, 116, 121]⟩ : ByteArray), (⟨#[109, 97, 108, 108]⟩ : ByteArray)] : List ByteArray).length : Int)))) (wt rfl) rfl (h_nil ?_)))
              refine wH_seq (wH_ift rfl (drop_cons hD_76) (wH_skip ?_))
              unfold mk_Stream_RightEntries_L2 at hc_82
              refine wH_seq ?_
              refine wH_block ?_
              refine wH_seq ?_
              refine wH_region ?_
              refine h_ia es46 rfl rfl (drop_idx hD_76) rfl (wt rfl) ?_
              refine h_ldc sz9 ag9 rfl (vS x_75) rfl (wt rfl) ?_
              refine h_op (vS x_75) (wt rfl) rfl ?_
              refine h_nil ?_
              refine wH_seq ?_
              refine wH_region ?_
              refine h_op (.ref (extN 0) 0 0) (wt rfl) rfl ?_
              obtain ⟨r_86, hr_87, hc_82⟩ := bind_some hc_82
              refine h_callq 0 [0] (.inl rfl) (fun _ _ _ => trivial) (mk_Stream_Flip_ok hr_87) rfl hb37 rfl (by kernel_rfl) (by kernel_rfl) (by kernel_rfl) (by kernel_rfl) (by kernel_rfl) (by kernel_rfl) (by kernel_rfl) (by decide) (by kernel_rfl) (wt rfl) (vB r_86.1) (by kernel_rfl) ([((extN 0), some (.cells 2 [(vL eI r_86.2.L), (vI r_86.2.f_at)])), (n_10, gB 13 Entry.enc s_7.1), (n_46, some (.cells 13 [(vS x_4), (vS r_19.1), (vI r_22.1), (vI r_25.1), (vI (w64 (r_25.1 + r_47.1))), (vI r_28.1), (vI r_31.1), (gV n_58 1 s_55.1), (vI r_34.1), (vI r_37.1), (vI r_40.1), (gV n_81 1 s_78.1), (vB r_43.1)])), (n_58, gB 1 eI s_55.1), (n_81, gB 1 eS s_78.1)] : Hp) (by kernel_rfl) ?_
              refine h_nil ?_
              obtain ⟨v_89, h_90, hc_82⟩ := bind_some hc_82
              refine wH_join (β := Nm) (fun (n_91 : Nm) => ([(0, (.ref (extN 0) 0 0)), (3, (gV n_10 13 s_7.1)), (6, (.ref n_46 0 0)), (11, (vL eS ([(⟨#[101, 97]⟩ : ByteArray), (⟨#[101, 98]⟩ : ByteArray), (⟨#[101, 99]⟩ : ByteArray), (⟨#[101, 100]⟩ : ByteArray)] : List ByteArray))), (12, (vI (([(⟨#[101, 97]⟩ : ByteArray), (⟨#[101, 98]⟩ : ByteArray), (⟨#[101, 99]⟩ : ByteArray), (⟨#[101, 100]⟩ : ByteArray)] : List ByteArray).length : Int))), (13, (vI (k_2 : Int))), (68, (vL eS ([(⟨#[99, 105, 116, 121]⟩ : ByteArray), (⟨#[109, 97, 108, 108]⟩ : ByteArray)] : List ByteArray))), (69, (vI (([(⟨#[99, 105, 116, 121]⟩ : ByteArray), (⟨#[109, 97, 108, 108]⟩ : ByteArray)] : List ByteArray).length : Int))), (70, (vI (k_73 : Int)))] : List (Nat × V))) (fun (n_91 : Nm) => ([((extN 0), some (.cells 2 [(vL eI r_86.2.L), (vI r_86.2.f_at)])), (n_10, gB 13 Entry.enc s_7.1), (n_46, some (.cells 13 [(vS x_4), (vS r_19.1), (vI r_22.1), (vI r_25.1), (vI (w64 (r_25.1 + r_47.1))), (vI r_28.1), (vI r_31.1), (gV n_58 1 s_55.1), (vI r_34.1), (vI r_37.1), (vI r_40.1), (gV n_91 1 v_89), (vB r_43.1)])), (n_58, gB 1 eI s_55.1), (n_91, gB 1 eS v_89)] : Hp)) (fun _ => True) ?_ ?_
              · rcases cond_some h_90 with ⟨hc_92, h_90⟩ | ⟨hc_92, h_90⟩
                · refine wH_ift rfl hc_92 ?_
                  refine wH_region ?_
                  refine h_far pl56_11 rfl 11 rfl (wt rfl) ?_
                  refine h_ldr 0 2 (.inl rfl) (fun _ _ _ => trivial) sz46 ag46 rfl rfl (gV n_81 1 s_78.1) rfl (wt rfl) ?_
                  refine h_op (vS x_75) (wt rfl) rfl ?_
                  refine h_lit (([x_75] : List ByteArray).map eS) es46 ez46 rfl rfl rfl rfl rfl (wt rfl) ?_
                  obtain ⟨a_93, hz_94, h_90⟩ := bind_some h_90
                  refine h_appg 0 (.inl rfl) (fun _ _ _ => trivial) (i := 4) el46 el46 sz9 z9 rfl (by decide) by9 (by decide) (fun _ => rfl) rfl rfl rfl hz_94 (wt rfl) (fun n_95 => ?_)
                  refine h_far pl56_11 rfl 11 rfl (wt rfl) ?_
                  refine h_str 0 (.inl rfl) (fun _ _ _ => trivial) 2 sz46 rfl rfl [(vS x_4), (vS r_19.1), (vI r_22.1), (vI r_25.1), (vI (w64 (r_25.1 + r_47.1))), (vI r_28.1), (vI r_31.1), (gV n_58 1 s_55.1), (vI r_34.1), (vI r_37.1), (vI r_40.1), (gV n_95 1 a_93), (vB r_43.1)] (stC_g rfl) (wt rfl) ?_
                  refine h_nil ?_
                  replace h_90 := some_inj h_90
                  subst h_90
                  exact cut_mk n_95 trivial rfl rfl
                · refine wH_iff rfl hc_92 ?_
                  refine wH_skip ?_
                  replace h_90 := some_inj h_90
                  subst h_90
                  exact cut_mk n_81 trivial rfl rfl
              · rintro n_91 _ sl_ H_ hp_ hq_
                refine wH_at _ hp_ hq_ ?_
                refine wH_region ?_
                refine h_opw (w64_next hD_76 hn_77) (wt rfl) rfl ?_
                refine h_op (vI ((k_73 + 1 : Nat) : Int)) (wt rfl) rfl ?_
                refine h_nil ?_
                replace hc_82 := some_inj hc_82
                subst hc_82
                exact loop_mk (k_73 + 1, l_74, (v_89, r_86.2.L, r_86.2.f_at), n_91) ⟨hL_83, drop_next hD_76⟩ (Nat.lt_succ_self _) rfl rfl
          · rintro ⟨s_78, n_81⟩ ho_ sl_ H_ hp_ hq_
            subst ho_
            refine wH_at _ hp_ hq_ ?_
            refine wH_frozg 3 rfl ?_
            refine wH_frozg 4 rfl ?_
            refine wH_coc2 3 4 2 [(vS x_4), (vS r_19.1), (vI r_22.1), (vI r_25.1), (vI (w64 (r_25.1 + r_47.1))), (vI r_28.1), (vI r_31.1), (vL eI s_55.1), (vI r_34.1), (vI r_37.1), (vI r_40.1), (vL eS s_78.1), (vB r_43.1)] rfl rfl rfl (fun S hS hS2 => cons_eq (rfl) (cons_eq (rfl) (cons_eq (rfl) (cons_eq (rfl) (cons_eq (rfl) (cons_eq (rfl) (cons_eq (rfl) (cons_eq (hS) (cons_eq (rfl) (cons_eq (rfl) (cons_eq (rfl) (cons_eq (hS2) (cons_eq (rfl) (rfl)))))))))))))) ?_
            refine wH_region ?_
            refine h_op (gV n_10 13 s_7.1) (wt rfl) rfl ?_
            refine h_ldr 0 2 (.inl rfl) (fun _ _ _ => trivial) sz56 ag56 rfl rfl (.d (.agg (Entry.enc (⟨x_4, r_19.1, r_22.1, r_25.1, (w64 (r_25.1 + r_47.1)), r_28.1, r_31.1, s_55.1, r_34.1, r_37.1, r_40.1, s_78.1, r_43.1⟩ : Entry)))) rfl (wt rfl) ?_
            refine h_lit (([(⟨x_4, r_19.1, r_22.1, r_25.1, (w64 (r_25.1 + r_47.1)), r_28.1, r_31.1, s_55.1, r_34.1, r_37.1, r_40.1, s_78.1, r_43.1⟩ : Entry)] : List Entry).map Entry.enc) es53 ez53 rfl rfl rfl rfl rfl (wt rfl) ?_
            obtain ⟨a_96, hz_97, hc_11⟩ := bind_some hc_11
            refine h_appg 0 (.inl rfl) (fun _ _ _ => trivial) (i := 1) el53 el53 sz56 z56 rfl (by decide) by56 (by decide) (fun _ => rfl) rfl rfl rfl hz_97 (wt rfl) (fun n_98 => ?_)
            refine h_op (gV n_98 13 a_96) (wt rfl) rfl ?_
            refine h_nil ?_
            refine wH_region ?_
            refine h_opw (w64_next hD_5 hn_6) (wt rfl) rfl ?_
            refine h_op (vI ((k_2 + 1 : Nat) : Int)) (wt rfl) rfl ?_
            refine h_nil ?_
            replace hc_11 := some_inj hc_11
            subst hc_11
            exact loop_mk (k_2 + 1, l_3, (a_96, s_78.2.1, s_78.2.2), n_98) ⟨hL_12, drop_next hD_5⟩ (Nat.lt_succ_self _) rfl rfl
  · rintro ⟨s_7, n_10⟩ ho_ sl_ H_ hp_ hq_
    subst ho_
    refine wH_at _ hp_ hq_ ?_
    refine wH_seq ?_
    refine wH_region ?_
    refine h_op (gV n_10 13 s_7.1) (wt rfl) rfl ?_
    refine h_op (gV n_10 13 s_7.1) (wt rfl) rfl ?_
    refine h_nil ?_
    refine wH_frozg 1 rfl ?_
    refine wH_cog 2 1 rfl rfl ?_
    refine wH_cog 3 1 rfl rfl ?_
    refine wH_cog 88 1 rfl rfl ?_
    replace hF := some_inj hF
    subst hF
    refine wH_ret ?_
    exact finB (.inr rfl) [(vL Entry.enc s_7.1)] _ [0] [extN 0] ⟨rfl, trivial⟩ (.cons (co_data rfl rfl) (.nil)) (by kernel_rfl) ⟨(by kernel_rfl), trivial⟩ (by decide) (by kernel_rfl)
end Go.Proofs.Ytodfcleaapnklaa.Law
