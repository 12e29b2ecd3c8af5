/-
  The machine computes these plain functions (written by a program of ours).
-/
import Derived.Test.YtodfcleaapnklaaGreatFacts
import Derived.Test.YtodfcleaapnklaaGreatDefs
open Go Go.Eng Go.Proofs
namespace Go.Proofs.YtodfcleaapnklaaGreat.Law
set_option maxRecDepth 100000
set_option linter.unusedVariables false
set_option maxHeartbeats 1000000
theorem mk_Below_ok {x_1 : Int} {n_2 : Int} {r : Int} (hF : mk_Below x_1 n_2 = some r) :
    FnM Tryz.prog 71 [(vI x_1), (vI n_2)] [] (vI r) [] := by
  refine FnM.of_wH ⟨Tryz.prog, 16, [], []⟩ rfl Tryz.func71 rfl rfl (Nat.le_of_ble_eq_true rfl) (by kernel_rfl) ?_
  unfold mk_Below at hF
  refine wH_seq ?_
  refine wH_region ?_
  refine h_op (vI 0) (wt rfl) rfl ?_
  refine h_nil ?_
  refine wH_seq ?_
  refine wH_seq ?_
  refine wH_region ?_
  refine h_op (vI n_2) (wt rfl) rfl ?_
  refine h_op (vB (decide (n_2 < 1))) (wt rfl) rfl ?_
  refine h_nil ?_
  rcases cond_some hF with ⟨hc_3, hF⟩ | ⟨hc_3, hF⟩
  · refine wH_ift rfl hc_3 ?_
    refine wH_seq ?_
    refine wH_region ?_
    refine h_op (vI 0) (wt rfl) rfl ?_
    refine h_nil ?_
    replace hF := some_inj hF
    subst hF
    refine wH_ret ?_
    exact fin0 (.inr rfl) [(vI 0)] ⟨rfl, trivial⟩ rfl rfl rfl
  · refine wH_iff rfl hc_3 ?_
    refine wH_skip ?_
    refine wH_seq ?_
    refine wH_region ?_
    refine h_op (vI x_1) (wt rfl) rfl ?_
    refine h_op (vI n_2) (wt rfl) rfl ?_
    obtain ⟨q_4, hz_5, hF⟩ := bind_some hF
    refine h_rem rfl rfl hz_5 (wt rfl) ?_
    refine h_op (vI q_4) (wt rfl) rfl ?_
    refine h_nil ?_
    refine wH_seq ?_
    refine wH_seq ?_
    refine wH_region ?_
    refine h_op (vI q_4) (wt rfl) rfl ?_
    refine h_op (vB (decide (q_4 < 0))) (wt rfl) rfl ?_
    refine h_nil ?_
    obtain ⟨v_6, h_7, hF⟩ := bind_some hF
    refine wH_join (β := Unit) (fun _ => ([(0, (vI v_6))] : List (Nat × V))) (fun _ => ([] : Hp)) (fun _ => True) ?_ ?_
    · rcases cond_some h_7 with ⟨hc_8, h_7⟩ | ⟨hc_8, h_7⟩
      · refine wH_ift rfl hc_8 ?_
        refine wH_region ?_
        refine h_op (vI q_4) (wt rfl) rfl ?_
        refine h_op (vI n_2) (wt rfl) rfl ?_
        refine h_op (vI (w64 (q_4 + n_2))) (wt rfl) rfl ?_
        refine h_op (vI (w64 (q_4 + n_2))) (wt rfl) rfl ?_
        refine h_nil ?_
        replace h_7 := some_inj h_7
        subst h_7
        exact cut_mk () trivial rfl (pre_r rfl)
      · refine wH_iff rfl hc_8 ?_
        refine wH_skip ?_
        replace h_7 := some_inj h_7
        subst h_7
        exact cut_mk () trivial rfl (pre_r rfl)
    · rintro ⟨⟩ _ sl_ H_ hp_ hq_
      refine wH_at _ hp_ hq_ ?_
      refine wH_seq ?_
      refine wH_region ?_
      refine h_op (vI v_6) (wt rfl) rfl ?_
      refine h_op (vI v_6) (wt rfl) rfl ?_
      refine h_nil ?_
      replace hF := some_inj hF
      subst hF
      refine wH_ret ?_
      exact fin0 (.inr rfl) [(vI v_6)] ⟨rfl, trivial⟩ rfl rfl rfl
theorem mk_Stream_Next_ok {s_1 : Stream} {n_2 : Int} {r : Int × Stream} (hF : mk_Stream_Next s_1 n_2 = some r) :
    FnM Tryz.prog 36 [(.ref (extN 0) 0 0), (vI n_2)] [(.cells 2 [(vL eI s_1.L), (vI s_1.f_at)])] (vI r.1) [some (.cells 2 [(vL eI r.2.L), (vI r.2.f_at)])] := by
  refine FnM.of_wH ⟨Tryz.prog, 64, [], []⟩ rfl Tryz.func36 rfl rfl (Nat.le_of_ble_eq_true rfl) (by kernel_rfl) ?_
  unfold mk_Stream_Next at hF
  refine wH_seq ?_
  refine wH_region ?_
  refine h_op (vI 0) (wt rfl) rfl ?_
  refine h_nil ?_
  refine wH_seq ?_
  refine wH_region ?_
  refine h_op (.ref (extN 0) 0 0) (wt rfl) rfl ?_
  refine h_op (.ref (extN 0) 0 0) (wt rfl) rfl ?_
  refine h_far pl25_1 rfl 1 rfl (wt rfl) ?_
  refine h_ldr 0 0 (.inl rfl) (fun _ _ _ => trivial) sz3 ag3 rfl rfl (vI s_1.f_at) rfl (wt rfl) ?_
  refine h_op (vI (w64 (s_1.f_at + 1))) (wt rfl) rfl ?_
  refine h_op (.ref (extN 0) 0 0) (wt rfl) rfl ?_
  refine h_far pl25_1 rfl 1 rfl (wt rfl) ?_
  refine h_str 0 (.inl rfl) (fun _ _ _ => trivial) 0 sz3 rfl rfl [(vL eI s_1.L), (vI (w64 (s_1.f_at + 1)))] rfl (wt rfl) ?_
  refine h_nil ?_
  refine wH_seq ?_
  refine wH_seq ?_
  refine wH_region ?_
  refine h_op (.ref (extN 0) 0 0) (wt rfl) rfl ?_
  refine h_op (.ref (extN 0) 0 0) (wt rfl) rfl ?_
  refine h_far pl25_0 rfl 0 rfl (wt rfl) ?_
  refine h_ldr 0 0 (.inl rfl) (fun _ _ _ => trivial) sz22 ag22 rfl rfl (vL eI s_1.L) rfl (wt rfl) ?_
  refine h_len un22 rfl (wt rfl) ?_
  refine h_op (vB ((s_1.L.length : Int) == 0)) (wt rfl) rfl ?_
  refine h_nil ?_
  rcases cond_some hF with ⟨hc_3, hF⟩ | ⟨hc_3, hF⟩
  · refine wH_ift rfl hc_3 ?_
    refine wH_seq ?_
    refine wH_region ?_
    refine h_op (.ref (extN 0) 0 0) (wt rfl) rfl ?_
    refine h_op (.ref (extN 0) 0 0) (wt rfl) rfl ?_
    refine h_far pl25_1 rfl 1 rfl (wt rfl) ?_
    refine h_ldr 0 0 (.inl rfl) (fun _ _ _ => trivial) sz3 ag3 rfl rfl (vI (w64 (s_1.f_at + 1))) rfl (wt rfl) ?_
    refine h_op (vI (w64 ((w64 (s_1.f_at + 1)) * 7919))) (wt rfl) rfl ?_
    refine h_op (vI n_2) (wt rfl) rfl ?_
    obtain ⟨r_4, hr_5, hF⟩ := bind_some hF
    refine h_call0 (mk_Below_ok hr_5) rfl hb71 rfl rfl rfl rfl (wt rfl) ?_
    refine h_op (vI r_4) (wt rfl) rfl ?_
    refine h_nil ?_
    replace hF := some_inj hF
    subst hF
    refine wH_ret ?_
    exact finB (.inr rfl) [(vI r_4)] _ [0] [extN 0] ⟨rfl, trivial⟩ (.cons (co_data rfl rfl) (.nil)) (by kernel_rfl) ⟨(by kernel_rfl), trivial⟩ (by decide) (by kernel_rfl)
  · refine wH_iff rfl hc_3 ?_
    refine wH_skip ?_
    refine wH_seq ?_
    refine wH_draws ?_
    refine h_op (.ref (extN 0) 0 0) (wt rfl) rfl ?_
    refine h_op (.ref (extN 0) 0 0) (wt rfl) rfl ?_
    refine h_far pl25_1 rfl 1 rfl (wt rfl) ?_
    refine h_ldr 3 0 (.inr (by kernel_rfl)) (fun _ _ ag => trivial) sz3 ag3 rfl rfl (vI (w64 (s_1.f_at + 1))) rfl (wt rfl) ?_
    refine h_op (vI (w64 ((w64 (s_1.f_at + 1)) - 1))) (wt rfl) rfl ?_
    refine h_op (.ref (extN 0) 0 0) (wt rfl) rfl ?_
    refine h_op (.ref (extN 0) 0 0) (wt rfl) rfl ?_
    refine h_far pl25_0 rfl 0 rfl (wt rfl) ?_
    refine h_ldr 8 0 (.inr (by kernel_rfl)) (fun _ _ ag => ⟨.inl ⟨rfl, rfl⟩, trivial⟩) sz22 ag22 rfl rfl (vL eI s_1.L) rfl (wt rfl) ?_
    refine h_len un22 rfl (wt rfl) ?_
    obtain ⟨q_6, hz_7, hF⟩ := bind_some hF
    refine h_rem rfl rfl hz_7 (wt rfl) ?_
    refine h_op (vI q_6) (wt rfl) rfl ?_
    refine h_nil ?_
    refine wH_seq ?_
    refine wH_draws ?_
    refine h_op (.ref (extN 0) 0 0) (wt rfl) rfl ?_
    refine h_op (.ref (extN 0) 0 0) (wt rfl) rfl ?_
    refine h_far pl25_1 rfl 1 rfl (wt rfl) ?_
    refine h_ldr 3 0 (.inr (by kernel_rfl)) (fun _ _ ag => trivial) sz3 ag3 rfl rfl (vI (w64 (s_1.f_at + 1))) rfl (wt rfl) ?_
    refine h_op (vI (w64 ((w64 (s_1.f_at + 1)) - 1))) (wt rfl) rfl ?_
    refine h_op (.ref (extN 0) 0 0) (wt rfl) rfl ?_
    refine h_op (.ref (extN 0) 0 0) (wt rfl) rfl ?_
    refine h_far pl25_0 rfl 0 rfl (wt rfl) ?_
    refine h_ldr 8 0 (.inr (by kernel_rfl)) (fun _ _ ag => ⟨.inl ⟨rfl, rfl⟩, trivial⟩) sz22 ag22 rfl rfl (vL eI s_1.L) rfl (wt rfl) ?_
    refine h_len un22 rfl (wt rfl) ?_
    obtain ⟨q_8, hz_9, hF⟩ := bind_some hF
    refine h_quo rfl rfl hz_9 (wt rfl) ?_
    refine h_op (vI q_8) (wt rfl) rfl ?_
    refine h_nil ?_
    refine wH_at (H0 := ([((extN 0), some (.cells 2 [(vL eI s_1.L), (vI (w64 (s_1.f_at + 1)))]))] : Hp)) ([(0, (.ref (extN 0) 0 0)), (1, (vI n_2)), (5, (vI q_6)), (6, (vI q_8))] : List (Nat × V)) (by kernel_rfl) (pre_mk (by kernel_rfl)) ?_
    refine wH_seq ?_
    refine wH_region ?_
    refine h_op (.ref (extN 0) 0 0) (wt rfl) rfl ?_
    refine h_op (.ref (extN 0) 0 0) (wt rfl) rfl ?_
    refine h_far pl25_0 rfl 0 rfl (wt rfl) ?_
    refine h_ldr 0 0 (.inl rfl) (fun _ _ _ => trivial) sz22 ag22 rfl rfl (vL eI s_1.L) rfl (wt rfl) ?_
    refine h_op (vI q_6) (wt rfl) rfl ?_
    obtain ⟨y_10, hy_11, hF⟩ := bind_some hF
    refine h_ia es22 rfl rfl hy_11 rfl (wt rfl) ?_
    refine h_ldc sz3 ag3 rfl (vI y_10) rfl (wt rfl) ?_
    obtain ⟨r_12, hr_13, hF⟩ := bind_some hF
    refine h_call0 (mk_Below_ok hr_13) rfl hb71 rfl rfl rfl rfl (wt rfl) ?_
    refine h_op (vI q_8) (wt rfl) rfl ?_
    refine h_op (vI q_6) (wt rfl) rfl ?_
    refine h_op (vI (w64 (7919 + q_6))) (wt rfl) rfl ?_
    refine h_op (vI (w64 (q_8 * (w64 (7919 + q_6))))) (wt rfl) rfl ?_
    refine h_op (vI (w64 (r_12 + (w64 (q_8 * (w64 (7919 + q_6))))))) (wt rfl) rfl ?_
    refine h_op (vI n_2) (wt rfl) rfl ?_
    obtain ⟨r_14, hr_15, hF⟩ := bind_some hF
    refine h_call0 (mk_Below_ok hr_15) rfl hb71 rfl rfl rfl rfl (wt rfl) ?_
    refine h_op (vI r_14) (wt rfl) rfl ?_
    refine h_nil ?_
    replace hF := some_inj hF
    subst hF
    refine wH_ret ?_
    exact finB (.inr rfl) [(vI r_14)] _ [0] [extN 0] ⟨rfl, trivial⟩ (.cons (co_data rfl rfl) (.nil)) (by kernel_rfl) ⟨(by kernel_rfl), trivial⟩ (by decide) (by kernel_rfl)
theorem mk_Stream_Pick_ok {s_1 : Stream} {l_2 : (List Int)} {r : Int × Stream} (hF : mk_Stream_Pick s_1 l_2 = some r) :
    FnM Tryz.prog 39 [(.ref (extN 0) 0 0), (vL eI l_2)] [(.cells 2 [(vL eI s_1.L), (vI s_1.f_at)])] (vI r.1) [some (.cells 2 [(vL eI r.2.L), (vI r.2.f_at)])] := by
  refine FnM.of_wH ⟨Tryz.prog, 12, [], []⟩ rfl Tryz.func39 rfl rfl (Nat.le_of_ble_eq_true rfl) (by kernel_rfl) ?_
  unfold mk_Stream_Pick at hF
  refine wH_seq ?_
  refine wH_region ?_
  refine h_op (vI 0) (wt rfl) rfl ?_
  refine h_nil ?_
  refine wH_seq ?_
  refine wH_region ?_
  refine h_op (vL eI l_2) (wt rfl) rfl ?_
  refine h_op (.ref (extN 0) 0 0) (wt rfl) rfl ?_
  refine h_op (vL eI l_2) (wt rfl) rfl ?_
  refine h_len un22 rfl (wt rfl) ?_
  obtain ⟨r_3, hr_4, hF⟩ := bind_some hF
  refine h_callq 0 [0] (.inl rfl) (fun _ _ _ => trivial) (mk_Stream_Next_ok hr_4) rfl hb36 rfl (by kernel_rfl) (by kernel_rfl) (by kernel_rfl) (by kernel_rfl) (by kernel_rfl) (by kernel_rfl) (by kernel_rfl) (by decide) (by kernel_rfl) (wt rfl) (vI r_3.1) (by kernel_rfl) ([((extN 0), some (.cells 2 [(vL eI r_3.2.L), (vI r_3.2.f_at)]))] : Hp) (by kernel_rfl) ?_
  obtain ⟨y_6, hy_7, hF⟩ := bind_some hF
  refine h_ia es22 rfl rfl hy_7 rfl (wt rfl) ?_
  refine h_ldc sz3 ag3 rfl (vI y_6) rfl (wt rfl) ?_
  refine h_op (vI y_6) (wt rfl) rfl ?_
  refine h_nil ?_
  replace hF := some_inj hF
  subst hF
  refine wH_ret ?_
  exact finB (.inr rfl) [(vI y_6)] _ [0] [extN 0] ⟨rfl, trivial⟩ (.cons (co_data rfl rfl) (.nil)) (by kernel_rfl) ⟨(by kernel_rfl), trivial⟩ (by decide) (by kernel_rfl)
theorem mk_Stream_Range_ok {s_1 : Stream} {low_2 : Int} {high_3 : Int} {r : Int × Stream} (hF : mk_Stream_Range s_1 low_2 high_3 = some r) :
    FnM Tryz.prog 6 [(.ref (extN 0) 0 0), (vI low_2), (vI high_3)] [(.cells 2 [(vL eI s_1.L), (vI s_1.f_at)])] (vI r.1) [some (.cells 2 [(vL eI r.2.L), (vI r.2.f_at)])] := by
  refine FnM.of_wH ⟨Tryz.prog, 19, [], []⟩ rfl Tryz.func6 rfl rfl (Nat.le_of_ble_eq_true rfl) (by kernel_rfl) ?_
  unfold mk_Stream_Range at hF
  refine wH_seq ?_
  refine wH_region ?_
  refine h_op (vI 0) (wt rfl) rfl ?_
  refine h_nil ?_
  refine wH_seq ?_
  refine wH_seq ?_
  refine wH_region ?_
  refine h_op (vI high_3) (wt rfl) rfl ?_
  refine h_op (vI low_2) (wt rfl) rfl ?_
  refine h_op (vB (decide (high_3 < low_2))) (wt rfl) rfl ?_
  refine h_nil ?_
  rcases cond_some hF with ⟨hc_4, hF⟩ | ⟨hc_4, hF⟩
  · refine wH_ift rfl hc_4 ?_
    refine wH_seq ?_
    refine wH_region ?_
    refine h_op (vI low_2) (wt rfl) rfl ?_
    refine h_op (vI low_2) (wt rfl) rfl ?_
    refine h_nil ?_
    replace hF := some_inj hF
    subst hF
    refine wH_ret ?_
    exact finB (.inr rfl) [(vI low_2)] _ [0] [extN 0] ⟨rfl, trivial⟩ (.cons (co_data rfl rfl) (.nil)) (by kernel_rfl) ⟨(by kernel_rfl), trivial⟩ (by decide) (by kernel_rfl)
  · refine wH_iff rfl hc_4 ?_
    refine wH_skip ?_
    refine wH_seq ?_
    refine wH_region ?_
    refine h_op (vI low_2) (wt rfl) rfl ?_
    refine h_op (.ref (extN 0) 0 0) (wt rfl) rfl ?_
    refine h_op (vI high_3) (wt rfl) rfl ?_
    refine h_op (vI low_2) (wt rfl) rfl ?_
    refine h_op (vI (w64 (high_3 - low_2))) (wt rfl) rfl ?_
    refine h_op (vI (w64 ((w64 (high_3 - low_2)) + 1))) (wt rfl) rfl ?_
    obtain ⟨r_5, hr_6, hF⟩ := bind_some hF
    refine h_callq 0 [0] (.inl rfl) (fun _ _ _ => trivial) (mk_Stream_Next_ok hr_6) rfl hb36 rfl (by kernel_rfl) (by kernel_rfl) (by kernel_rfl) (by kernel_rfl) (by kernel_rfl) (by kernel_rfl) (by kernel_rfl) (by decide) (by kernel_rfl) (wt rfl) (vI r_5.1) (by kernel_rfl) ([((extN 0), some (.cells 2 [(vL eI r_5.2.L), (vI r_5.2.f_at)]))] : Hp) (by kernel_rfl) ?_
    refine h_op (vI (w64 (low_2 + r_5.1))) (wt rfl) rfl ?_
    refine h_op (vI (w64 (low_2 + r_5.1))) (wt rfl) rfl ?_
    refine h_nil ?_
    replace hF := some_inj hF
    subst hF
    refine wH_ret ?_
    exact finB (.inr rfl) [(vI (w64 (low_2 + r_5.1)))] _ [0] [extN 0] ⟨rfl, trivial⟩ (.cons (co_data rfl rfl) (.nil)) (by kernel_rfl) ⟨(by kernel_rfl), trivial⟩ (by decide) (by kernel_rfl)
theorem slices_Clone_api_Screen_api_Screen_ok {s_1 : (List Screen)} {r : (List Screen)} (hF : slices_Clone_api_Screen_api_Screen s_1 = some r) :
    FnM Tryz.prog 61 [(vL Screen.enc s_1)] [] (vL Screen.enc r) [] := by
  refine FnM.of_wH ⟨Tryz.prog, 8, [], []⟩ rfl Tryz.func61 rfl rfl (Nat.le_of_ble_eq_true rfl) (by kernel_rfl) ?_
  unfold slices_Clone_api_Screen_api_Screen at hF
  refine wH_seq ?_
  refine wH_region ?_
  refine h_op .nil (wt rfl) rfl ?_
  refine h_nil ?_
  refine wH_seq ?_
  refine wH_seq ?_
  refine wH_region ?_
  refine h_op (vL Screen.enc s_1) (wt rfl) rfl ?_
  refine h_nileq un56 rfl (wt rfl) (fun b_2 hb_3 => ?_)
  refine h_nil ?_
  cases b_2 with
  | true =>
    refine wH_ift rfl rfl ?_
    obtain rfl := hb_3 rfl
    replace hF := clone_nil hF
    refine wH_seq ?_
    refine wH_region ?_
    refine h_op .nil (wt rfl) rfl ?_
    refine h_nil ?_
    replace hF := some_inj hF
    subst hF
    refine wH_ret ?_
    exact fin0 (.inr rfl) [.nil] ⟨rfl, trivial⟩ rfl rfl rfl
  | false =>
    refine wH_iff rfl rfl ?_
    refine wH_skip ?_
    refine wH_seq ?_
    refine wH_region ?_
    refine h_lit0 es56 ez56 rfl (wt rfl) ?_
    refine h_op (vL Screen.enc s_1) (wt rfl) rfl ?_
    obtain ⟨a_4, hz_5, hF⟩ := bind_some hF
    refine h_appn 0 (.inl rfl) el56 el56 sz99 z99 rfl (by decide) by99 (by decide) (fun _ => rfl) rfl rfl hz_5 (wt rfl) (fun n_6 => ?_)
    refine h_op (gV n_6 5 a_4) (wt rfl) rfl ?_
    refine h_nil ?_
    refine wH_frozg 0 rfl ?_
    refine wH_cog 2 0 rfl rfl ?_
    refine wH_cog 7 0 rfl rfl ?_
    replace hF := some_inj hF
    subst hF
    refine wH_ret ?_
    exact fin0 (.inr rfl) [(vL Screen.enc a_4)] ⟨rfl, trivial⟩ rfl rfl rfl
theorem slices_Clone_api_Screen_api_Screen_okb {s_1 : (List Screen)} {r : (List Screen)} (hF : slices_Clone_api_Screen_api_Screen s_1 = some r) :
    FnM Tryz.prog 61 [(vL Screen.enc s_1)] [] (gV (extN 0) 5 r) (([] : List Box).map some ++ gO 5 Screen.enc r) := by
  refine FnM.of_wH ⟨Tryz.prog, 8, [], []⟩ rfl Tryz.func61 rfl rfl (Nat.le_of_ble_eq_true rfl) (by kernel_rfl) ?_
  unfold slices_Clone_api_Screen_api_Screen at hF
  refine wH_seq ?_
  refine wH_region ?_
  refine h_op .nil (wt rfl) rfl ?_
  refine h_nil ?_
  refine wH_seq ?_
  refine wH_seq ?_
  refine wH_region ?_
  refine h_op (vL Screen.enc s_1) (wt rfl) rfl ?_
  refine h_nileq un56 rfl (wt rfl) (fun b_2 hb_3 => ?_)
  refine h_nil ?_
  cases b_2 with
  | true =>
    refine wH_ift rfl rfl ?_
    obtain rfl := hb_3 rfl
    replace hF := clone_nil hF
    refine wH_seq ?_
    refine wH_region ?_
    refine h_op .nil (wt rfl) rfl ?_
    refine h_nil ?_
    refine wH_new (fun n_4 => ?_)
    replace hF := some_inj hF
    subst hF
    refine wH_ret ?_
    exact finG (outs := ([] : List Box)) (.inr rfl) 0 rfl rfl rfl (by kernel_rfl) (by kernel_rfl)
  | false =>
    refine wH_iff rfl rfl ?_
    refine wH_skip ?_
    refine wH_seq ?_
    refine wH_region ?_
    refine h_lit0 es56 ez56 rfl (wt rfl) ?_
    refine h_op (vL Screen.enc s_1) (wt rfl) rfl ?_
    obtain ⟨a_5, hz_6, hF⟩ := bind_some hF
    refine h_appn 0 (.inl rfl) el56 el56 sz99 z99 rfl (by decide) by99 (by decide) (fun _ => rfl) rfl rfl hz_6 (wt rfl) (fun n_7 => ?_)
    refine h_op (gV n_7 5 a_5) (wt rfl) rfl ?_
    refine h_nil ?_
    replace hF := some_inj hF
    subst hF
    refine wH_ret ?_
    exact finG (outs := ([] : List Box)) (.inr rfl) 0 rfl rfl rfl (by kernel_rfl) (by kernel_rfl)
theorem mk_Stream_Flip_ok {s_1 : Stream} {n_2 : Int} {r : Bool × Stream} (hF : mk_Stream_Flip s_1 n_2 = some r) :
    FnM Tryz.prog 7 [(.ref (extN 0) 0 0), (vI n_2)] [(.cells 2 [(vL eI s_1.L), (vI s_1.f_at)])] (vB r.1) [some (.cells 2 [(vL eI r.2.L), (vI r.2.f_at)])] := by
  refine FnM.of_wH ⟨Tryz.prog, 9, [], []⟩ rfl Tryz.func7 rfl rfl (Nat.le_of_ble_eq_true rfl) (by kernel_rfl) ?_
  unfold mk_Stream_Flip at hF
  refine wH_seq ?_
  refine wH_region ?_
  refine h_op (vB false) (wt rfl) rfl ?_
  refine h_nil ?_
  refine wH_seq ?_
  refine wH_region ?_
  refine h_op (.ref (extN 0) 0 0) (wt rfl) rfl ?_
  refine h_op (vI n_2) (wt rfl) rfl ?_
  obtain ⟨r_3, hr_4, hF⟩ := bind_some hF
  refine h_callq 0 [0] (.inl rfl) (fun _ _ _ => trivial) (mk_Stream_Next_ok hr_4) rfl hb36 rfl (by kernel_rfl) (by kernel_rfl) (by kernel_rfl) (by kernel_rfl) (by kernel_rfl) (by kernel_rfl) (by kernel_rfl) (by decide) (by kernel_rfl) (wt rfl) (vI r_3.1) (by kernel_rfl) ([((extN 0), some (.cells 2 [(vL eI r_3.2.L), (vI r_3.2.f_at)]))] : Hp) (by kernel_rfl) ?_
  refine h_op (vB (r_3.1 == 0)) (wt rfl) rfl ?_
  refine h_op (vB (r_3.1 == 0)) (wt rfl) rfl ?_
  refine h_nil ?_
  replace hF := some_inj hF
  subst hF
  refine wH_ret ?_
  exact finB (.inr rfl) [(vB (r_3.1 == 0))] _ [0] [extN 0] ⟨rfl, trivial⟩ (.cons (co_data rfl rfl) (.nil)) (by kernel_rfl) ⟨(by kernel_rfl), trivial⟩ (by decide) (by kernel_rfl)
theorem ref_in_ok {n_1 : Int} {low_2 : Int} {high_3 : Int} {r : Bool} (hF : ref_in n_1 low_2 high_3 = some r) :
    FnM Tryz.prog 48 [(vI n_1), (vI low_2), (vI high_3)] [] (vB r) [] := by
  refine FnM.of_wH ⟨Tryz.prog, 15, [], []⟩ rfl Tryz.func48 rfl rfl (Nat.le_of_ble_eq_true rfl) (by kernel_rfl) ?_
  unfold ref_in at hF
  refine wH_seq ?_
  refine wH_region ?_
  refine h_op (vB false) (wt rfl) rfl ?_
  refine h_nil ?_
  refine wH_seq ?_
  obtain ⟨v_4, h_5, hF⟩ := bind_some hF
  refine wH_join (β := Unit) (fun _ => ([(6, (vB v_4))] : List (Nat × V))) (fun _ => ([] : Hp)) (fun _ => True) ?_ ?_
  · refine wH_region ?_
    refine h_op (vI low_2) (wt rfl) rfl ?_
    refine h_op (vI n_1) (wt rfl) rfl ?_
    refine h_op (vB (decide (low_2 ≤ n_1))) (wt rfl) rfl ?_
    rcases cond_some h_5 with ⟨hc_6, h_5⟩ | ⟨hc_6, h_5⟩
    · refine h_movb rfl hc_6 (wt rfl) ?_
      refine h_op (vI n_1) (wg rfl rfl rfl) rfl ?_
      refine h_op (vI high_3) (wg rfl rfl rfl) rfl ?_
      refine h_op (vB (decide (n_1 ≤ high_3))) (wg rfl rfl rfl) rfl ?_
      refine h_op (vB (decide (n_1 ≤ high_3))) (wt rfl) rfl ?_
      refine h_op (vB (decide (n_1 ≤ high_3))) (wt rfl) rfl ?_
      refine h_nil ?_
      replace h_5 := some_inj h_5
      subst h_5
      exact cut_mk () trivial rfl (pre_r rfl)
    · refine h_movb rfl hc_6 (wt rfl) ?_
      refine h_skip (wg rfl rfl rfl) ?_
      refine h_skip (wg rfl rfl rfl) ?_
      refine h_skip (wg rfl rfl rfl) ?_
      refine h_op (vB false) (wt rfl) rfl ?_
      refine h_op (vB false) (wt rfl) rfl ?_
      refine h_nil ?_
      replace h_5 := some_inj h_5
      subst h_5
      exact cut_mk () trivial rfl (pre_r rfl)
  · rintro ⟨⟩ _ sl_ H_ hp_ hq_
    refine wH_at _ hp_ hq_ ?_
    replace hF := some_inj hF
    subst hF
    refine wH_ret ?_
    exact fin0 (.inr rfl) [(vB v_4)] ⟨rfl, trivial⟩ rfl rfl rfl
theorem internal_stringslite_IndexByte_ok {s_1 : ByteArray} {c_2 : Int} {r : Int} (hF : internal_stringslite_IndexByte s_1 c_2 = some r) :
    FnM Tryz.prog 98 [(vS s_1), (.d (.int .u8 c_2))] [] (vI r) [] := by
  refine FnM.of_wH ⟨Tryz.prog, 8, [], []⟩ rfl Tryz.func98 rfl rfl (Nat.le_of_ble_eq_true rfl) (by kernel_rfl) ?_
  unfold internal_stringslite_IndexByte at hF
  refine wH_seq ?_
  refine wH_region ?_
  refine h_op (vI 0) (wt rfl) rfl ?_
  refine h_nil ?_
  refine wH_seq ?_
  refine wH_region ?_
  refine h_op (vS s_1) (wt rfl) rfl ?_
  refine h_op (.d (.int .u8 c_2)) (wt rfl) rfl ?_
  refine h_ext (ext_ixB (f := 112) Tryz.func112 rfl rfl (by kernel_rfl) (by kernel_rfl) _ _) rfl nb112 rfl (wt rfl) ?_
  refine h_op (vI (ixB s_1 c_2)) (wt rfl) rfl ?_
  refine h_nil ?_
  replace hF := some_inj hF
  subst hF
  refine wH_ret ?_
  exact fin0 (.inr rfl) [(vI (ixB s_1 c_2))] ⟨rfl, trivial⟩ rfl rfl rfl
theorem strings_IndexByte_ok {s_1 : ByteArray} {c_2 : Int} {r : Int} (hF : strings_IndexByte s_1 c_2 = some r) :
    FnM Tryz.prog 90 [(vS s_1), (.d (.int .u8 c_2))] [] (vI r) [] := by
  refine FnM.of_wH ⟨Tryz.prog, 8, [], []⟩ rfl Tryz.func90 rfl rfl (Nat.le_of_ble_eq_true rfl) (by kernel_rfl) ?_
  unfold strings_IndexByte at hF
  refine wH_seq ?_
  refine wH_region ?_
  refine h_op (vI 0) (wt rfl) rfl ?_
  refine h_nil ?_
  refine wH_seq ?_
  refine wH_region ?_
  refine h_op (vS s_1) (wt rfl) rfl ?_
  refine h_op (.d (.int .u8 c_2)) (wt rfl) rfl ?_
  obtain ⟨r_3, hr_4, hF⟩ := bind_some hF
  refine h_call0 (internal_stringslite_IndexByte_ok hr_4) rfl hb98 rfl rfl rfl rfl (wt rfl) ?_
  refine h_op (vI r_3) (wt rfl) rfl ?_
  refine h_nil ?_
  replace hF := some_inj hF
  subst hF
  refine wH_ret ?_
  exact fin0 (.inr rfl) [(vI r_3)] ⟨rfl, trivial⟩ rfl rfl rfl
theorem ref_only_ok {s_1 : ByteArray} {somev_2 : ByteArray} {r : Bool} (hF : ref_only s_1 somev_2 = some r) :
    FnM Tryz.prog 72 [(vS s_1), (vS somev_2)] [] (vB r) [] := by
  refine FnM.of_wH ⟨Tryz.prog, 18, [], []⟩ rfl Tryz.func72 rfl rfl (Nat.le_of_ble_eq_true rfl) (by kernel_rfl) ?_
  unfold ref_only at hF
  refine wH_seq ?_
  refine wH_region ?_
  refine h_op (vB false) (wt rfl) rfl ?_
  refine h_nil ?_
  refine wH_seq ?_
  refine wH_seq ?_
  refine wH_region ?_
  refine h_op (vS s_1) (wt rfl) rfl ?_
  refine h_lens un9 rfl (wt rfl) ?_
  refine h_op (vI 0) (wt rfl) rfl ?_
  refine h_nil ?_
  obtain ⟨o_11, hj_12, hF⟩ := bind_some hF
  obtain ⟨hn_7, hj_12⟩ := forL_some hj_12
  refine wH_join (β := (Unit)) (fun (s_8 : Unit) => ([] : List (Nat × V))) (fun (s_8 : Unit) => ([] : Hp)) (fun p => o_11 = .go p) ?_ ?_
  · refine wH_block ?_
    refine wH_loop (β := Nat × (List Nat) × (Unit)) (fun p => (fun (k_3 : Nat) (l_4 : List Nat) (s_8 : Unit) => ([(0, (vS s_1)), (1, (vS somev_2)), (7, (vI (s_1.size : Int))), (8, (vI (k_3 : Int)))] : List (Nat × V))) p.1 p.2.1 p.2.2) (fun p => (fun (k_3 : Nat) (l_4 : List Nat) (s_8 : Unit) => ([] : Hp)) p.1 p.2.1 p.2.2) (fun p => forR (fun k x s => ref_only_L1 s_1 somev_2 k x s) p.2.1 p.1 p.2.2 = some o_11 ∧ ((List.range ((s_1.size : Int)).toNat)).drop p.1 = p.2.1) (fun p => p.2.1.length) (0, (List.range ((s_1.size : Int)).toNat), ()) ⟨hj_12, rfl⟩ rfl (pre_r rfl) ?_
    rintro ⟨k_3, l_4, s_8⟩ ⟨hL_10, hD_6⟩
    dsimp only at hL_10 hD_6
    cases l_4 with
    | nil =>
      replace hL_10 := some_inj hL_10
      subst hL_10
      refine wH_seq (wH_region (h_op (vB (decide ((k_3 : Int) < (s_1.size : Int)))) (wt rfl) rfl (h_nil ?_)))
      refine wH_seq (wH_iff rfl (range_nil hD_6) (wH_exit ?_))
      exact cut_mk (s_8) rfl rfl (pre_r rfl)
    | cons x_5 l_4 =>
      obtain ⟨c_, hc_9, hL_10⟩ := bind_some hL_10
      refine wH_seq (wH_region (h_op (vB (decide ((k_3 : Int) < (s_1.size : Int)))) (wt rfl) rfl (h_nil ?_)))
      refine wH_seq (wH_ift rfl (range_cons hD_6) (wH_skip ?_))
      unfold ref_only_L1 at hc_9
      refine wH_seq ?_
      refine wH_block ?_
      refine wH_seq ?_
      refine wH_region ?_
      refine h_op (vI (k_3 : Int)) (wt rfl) rfl ?_
      refine h_op (vI (k_3 : Int)) (wt rfl) rfl ?_
      refine h_nil ?_
      refine wH_seq ?_
      refine wH_region ?_
      refine h_op (vS somev_2) (wt rfl) rfl ?_
      refine h_op (vS s_1) (wt rfl) rfl ?_
      refine h_op (vI (k_3 : Int)) (wt rfl) rfl ?_
      obtain ⟨b_13, hy_14, hc_9⟩ := bind_some hc_9
      refine h_idxs un9 rfl rfl hy_14 (wt rfl) ?_
      obtain ⟨r_15, hr_16, hc_9⟩ := bind_some hc_9
      refine h_call0 (strings_IndexByte_ok hr_16) rfl hb90 rfl rfl rfl rfl (wt rfl) ?_
      refine h_op (vB (decide (r_15 < 0))) (wt rfl) rfl ?_
      refine h_nil ?_
      rcases cond_some hc_9 with ⟨hc_17, hc_9⟩ | ⟨hc_17, hc_9⟩
      · refine wH_ift rfl hc_17 ?_
        refine wH_seq ?_
        refine wH_region ?_
        refine h_op (vB false) (wt rfl) rfl ?_
        refine h_nil ?_
        replace hc_9 := some_inj hc_9
        subst hc_9
        replace hL_10 := some_inj hL_10
        subst hL_10
        replace hF := some_inj hF
        subst hF
        refine wH_ret ?_
        exact fin0 (.inr rfl) [(vB false)] ⟨rfl, trivial⟩ rfl rfl rfl
      · refine wH_iff rfl hc_17 ?_
        refine wH_skip ?_
        refine wH_region ?_
        refine h_opw (w64_nextr hD_6 hn_7) (wt rfl) rfl ?_
        refine h_op (vI ((k_3 + 1 : Nat) : Int)) (wt rfl) rfl ?_
        refine h_nil ?_
        replace hc_9 := some_inj hc_9
        subst hc_9
        exact loop_mk (k_3 + 1, l_4, ()) ⟨hL_10, drop_next hD_6⟩ (Nat.lt_succ_self _) rfl (pre_r rfl)
  · rintro s_8 ho_ sl_ H_ hp_ hq_
    subst ho_
    refine wH_at _ hp_ hq_ ?_
    refine wH_seq ?_
    refine wH_region ?_
    refine h_op (vB true) (wt rfl) rfl ?_
    refine h_nil ?_
    replace hF := some_inj hF
    subst hF
    refine wH_ret ?_
    exact fin0 (.inr rfl) [(vB true)] ⟨rfl, trivial⟩ rfl rfl rfl
theorem ref_Key_ok {s_1 : ByteArray} {r : Bool} (hF : ref_Key s_1 = some r) :
    FnM Tryz.prog 45 [(vS s_1)] [] (vB r) [] := by
  refine FnM.of_wH ⟨Tryz.prog, 15, [], []⟩ rfl Tryz.func45 rfl rfl (Nat.le_of_ble_eq_true rfl) (by kernel_rfl) ?_
  unfold ref_Key at hF
  refine wH_seq ?_
  refine wH_region ?_
  refine h_op (vB false) (wt rfl) rfl ?_
  refine h_nil ?_
  refine wH_seq ?_
  obtain ⟨v_2, h_3, hF⟩ := bind_some hF
  refine wH_join (β := Unit) (fun _ => ([(2, (vB v_2))] : List (Nat × V))) (fun _ => ([] : Hp)) (fun _ => True) ?_ ?_
  · refine wH_region ?_
    refine h_op (vS s_1) (wt rfl) rfl ?_
    refine h_lens un9 rfl (wt rfl) ?_
    obtain ⟨r_4, hr_5, h_3⟩ := bind_some h_3
    refine h_call0 (ref_in_ok hr_5) rfl hb48 rfl rfl rfl rfl (wt rfl) ?_
    rcases cond_some h_3 with ⟨hc_6, h_3⟩ | ⟨hc_6, h_3⟩
    · refine h_movb rfl hc_6 (wt rfl) ?_
      refine h_op (vS s_1) (wg rfl rfl rfl) rfl ?_
      obtain ⟨y_7, hy_8, h_3⟩ := bind_some h_3
      refine h_subFalseTrue un9 rfl rfl hy_8 (wg rfl rfl rfl) ?_
      obtain ⟨r_9, hr_10, h_3⟩ := bind_some h_3
      refine h_call0 (ref_only_ok hr_10) rfl hb72 rfl rfl rfl rfl (wg rfl rfl rfl) ?_
      refine h_op (vB r_9) (wt rfl) rfl ?_
      rcases cond_some h_3 with ⟨hc_11, h_3⟩ | ⟨hc_11, h_3⟩
      · refine h_movb rfl hc_11 (wt rfl) ?_
        refine h_op (vS s_1) (wg rfl rfl rfl) rfl ?_
        obtain ⟨r_12, hr_13, h_3⟩ := bind_some h_3
        refine h_call0 (ref_only_ok hr_13) rfl hb72 rfl rfl rfl rfl (wg rfl rfl rfl) ?_
        refine h_op (vB r_12) (wt rfl) rfl ?_
        refine h_op (vB r_12) (wt rfl) rfl ?_
        refine h_nil ?_
        replace h_3 := some_inj h_3
        subst h_3
        exact cut_mk () trivial rfl (pre_r rfl)
      · refine h_movb rfl hc_11 (wt rfl) ?_
        refine h_skip (wg rfl rfl rfl) ?_
        refine h_skip (wg rfl rfl rfl) ?_
        refine h_op (vB false) (wt rfl) rfl ?_
        refine h_op (vB false) (wt rfl) rfl ?_
        refine h_nil ?_
        replace h_3 := some_inj h_3
        subst h_3
        exact cut_mk () trivial rfl (pre_r rfl)
    · refine h_movb rfl hc_6 (wt rfl) ?_
      refine h_skip (wg rfl rfl rfl) ?_
      refine h_skip (wg rfl rfl rfl) ?_
      refine h_skip (wg rfl rfl rfl) ?_
      refine h_op (vB false) (wt rfl) rfl ?_
      refine h_op (vB false) (wt rfl) rfl ?_
      refine h_skip (wg rfl rfl rfl) ?_
      refine h_skip (wg rfl rfl rfl) ?_
      refine h_op (vB false) (wt rfl) rfl ?_
      refine h_op (vB false) (wt rfl) rfl ?_
      refine h_nil ?_
      replace h_3 := some_inj h_3
      subst h_3
      exact cut_mk () trivial rfl (pre_r rfl)
  · rintro ⟨⟩ _ sl_ H_ hp_ hq_
    refine wH_at _ hp_ hq_ ?_
    replace hF := some_inj hF
    subst hF
    refine wH_ret ?_
    exact fin0 (.inr rfl) [(vB v_2)] ⟨rfl, trivial⟩ rfl rfl rfl
theorem ref_side_ok {n_1 : Int} {r : Bool} (hF : ref_side n_1 = some r) :
    FnM Tryz.prog 46 [(vI n_1)] [] (vB r) [] := by
  refine FnM.of_wH ⟨Tryz.prog, 5, [], []⟩ rfl Tryz.func46 rfl rfl (Nat.le_of_ble_eq_true rfl) (by kernel_rfl) ?_
  unfold ref_side at hF
  refine wH_seq ?_
  refine wH_region ?_
  refine h_op (vB false) (wt rfl) rfl ?_
  refine h_nil ?_
  refine wH_seq ?_
  refine wH_region ?_
  refine h_op (vI n_1) (wt rfl) rfl ?_
  obtain ⟨r_2, hr_3, hF⟩ := bind_some hF
  refine h_call0 (ref_in_ok hr_3) rfl hb48 rfl rfl rfl rfl (wt rfl) ?_
  refine h_op (vB r_2) (wt rfl) rfl ?_
  refine h_nil ?_
  replace hF := some_inj hF
  subst hF
  refine wH_ret ?_
  exact fin0 (.inr rfl) [(vB r_2)] ⟨rfl, trivial⟩ rfl rfl rfl
theorem ref_RectFault_ok {r_1 : Rect} {r : Int} (hF : ref_RectFault r_1 = some r) :
    FnM Tryz.prog 29 [(.d (.agg (Rect.enc r_1)))] [] (vI r) [] := by
  refine FnM.of_wH ⟨Tryz.prog, 31, [], []⟩ rfl Tryz.func29 rfl rfl (Nat.le_of_ble_eq_true rfl) (by kernel_rfl) ?_
  unfold ref_RectFault at hF
  refine wH_seq ?_
  refine wH_region ?_
  refine h_box 0 (.inl rfl) [(vI r_1.X), (vI r_1.Y), (vI r_1.W), (vI r_1.H)] rfl rfl (wt rfl) (fun n_2 => ?_)
  refine h_op (vI 0) (wt rfl) rfl ?_
  refine h_nil ?_
  refine wH_seq ?_
  refine wH_seq ?_
  obtain ⟨v_3, h_4, hF⟩ := bind_some hF
  refine wH_join (β := Unit) (fun _ => ([(30, (vB v_3))] : List (Nat × V))) (fun _ => ([(n_2, some (.cells 4 [(vI r_1.X), (vI r_1.Y), (vI r_1.W), (vI r_1.H)]))] : Hp)) (fun _ => True) ?_ ?_
  · refine wH_region ?_
    refine h_far pl49_0 rfl 0 rfl (wt rfl) ?_
    refine h_ldr 0 0 (.inl rfl) (fun _ _ _ => trivial) sz3 ag3 rfl rfl (vI r_1.X) rfl (wt rfl) ?_
    obtain ⟨r_5, hr_6, h_4⟩ := bind_some h_4
    refine h_call0 (ref_in_ok hr_6) rfl hb48 rfl rfl rfl rfl (wt rfl) ?_
    refine h_op (vB (!r_5)) (wt rfl) rfl ?_
    rcases cond_some h_4 with ⟨hc_7, h_4⟩ | ⟨hc_7, h_4⟩
    · refine h_movb rfl hc_7 (wt rfl) ?_
      refine h_skip (wg rfl rfl rfl) ?_
      refine h_skip (wg rfl rfl rfl) ?_
      refine h_skip (wg rfl rfl rfl) ?_
      refine h_skip (wg rfl rfl rfl) ?_
      refine h_op (vB true) (wt rfl) rfl ?_
      refine h_op (vB true) (wt rfl) rfl ?_
      refine h_skip (wg rfl rfl rfl) ?_
      refine h_skip (wg rfl rfl rfl) ?_
      refine h_skip (wg rfl rfl rfl) ?_
      refine h_skip (wg rfl rfl rfl) ?_
      refine h_skip (wg rfl rfl rfl) ?_
      refine h_skip (wg rfl rfl rfl) ?_
      refine h_skip (wg rfl rfl rfl) ?_
      refine h_op (vB true) (wt rfl) rfl ?_
      refine h_op (vB true) (wt rfl) rfl ?_
      refine h_skip (wg rfl rfl rfl) ?_
      refine h_skip (wg rfl rfl rfl) ?_
      refine h_skip (wg rfl rfl rfl) ?_
      refine h_skip (wg rfl rfl rfl) ?_
      refine h_skip (wg rfl rfl rfl) ?_
      refine h_skip (wg rfl rfl rfl) ?_
      refine h_skip (wg rfl rfl rfl) ?_
      refine h_op (vB true) (wt rfl) rfl ?_
      refine h_nil ?_
      replace h_4 := some_inj h_4
      subst h_4
      exact cut_mk () trivial rfl (pre_r rfl)
    · refine h_movb rfl hc_7 (wt rfl) ?_
      refine h_far pl49_1 rfl 1 rfl (wg rfl rfl rfl) ?_
      refine h_ldr 0 0 (.inl rfl) (fun _ _ _ => trivial) sz3 ag3 rfl rfl (vI r_1.Y) rfl (wg rfl rfl rfl) ?_
      obtain ⟨r_8, hr_9, h_4⟩ := bind_some h_4
      refine h_call0 (ref_in_ok hr_9) rfl hb48 rfl rfl rfl rfl (wg rfl rfl rfl) ?_
      refine h_op (vB (!r_8)) (wg rfl rfl rfl) rfl ?_
      refine h_op (vB (!r_8)) (wt rfl) rfl ?_
      rcases cond_some h_4 with ⟨hc_10, h_4⟩ | ⟨hc_10, h_4⟩
      · refine h_movb rfl hc_10 (wt rfl) ?_
        refine h_skip (wg rfl rfl rfl) ?_
        refine h_skip (wg rfl rfl rfl) ?_
        refine h_skip (wg rfl rfl rfl) ?_
        refine h_skip (wg rfl rfl rfl) ?_
        refine h_skip (wg rfl rfl rfl) ?_
        refine h_skip (wg rfl rfl rfl) ?_
        refine h_skip (wg rfl rfl rfl) ?_
        refine h_op (vB true) (wt rfl) rfl ?_
        refine h_op (vB true) (wt rfl) rfl ?_
        refine h_skip (wg rfl rfl rfl) ?_
        refine h_skip (wg rfl rfl rfl) ?_
        refine h_skip (wg rfl rfl rfl) ?_
        refine h_skip (wg rfl rfl rfl) ?_
        refine h_skip (wg rfl rfl rfl) ?_
        refine h_skip (wg rfl rfl rfl) ?_
        refine h_skip (wg rfl rfl rfl) ?_
        refine h_op (vB true) (wt rfl) rfl ?_
        refine h_nil ?_
        replace h_4 := some_inj h_4
        subst h_4
        exact cut_mk () trivial rfl (pre_r rfl)
      · refine h_movb rfl hc_10 (wt rfl) ?_
        refine h_far pl49_2 rfl 2 rfl (wg rfl rfl rfl) ?_
        refine h_ldr 0 0 (.inl rfl) (fun _ _ _ => trivial) sz3 ag3 rfl rfl (vI r_1.W) rfl (wg rfl rfl rfl) ?_
        refine h_far pl49_0 rfl 0 rfl (wg rfl rfl rfl) ?_
        refine h_ldr 0 0 (.inl rfl) (fun _ _ _ => trivial) sz3 ag3 rfl rfl (vI r_1.X) rfl (wg rfl rfl rfl) ?_
        refine h_op (vI (w64 (100000 - r_1.X))) (wg rfl rfl rfl) rfl ?_
        obtain ⟨r_11, hr_12, h_4⟩ := bind_some h_4
        refine h_call0 (ref_in_ok hr_12) rfl hb48 rfl rfl rfl rfl (wg rfl rfl rfl) ?_
        refine h_op (vB (!r_11)) (wg rfl rfl rfl) rfl ?_
        refine h_op (vB (!r_11)) (wt rfl) rfl ?_
        rcases cond_some h_4 with ⟨hc_13, h_4⟩ | ⟨hc_13, h_4⟩
        · refine h_movb rfl hc_13 (wt rfl) ?_
          refine h_skip (wg rfl rfl rfl) ?_
          refine h_skip (wg rfl rfl rfl) ?_
          refine h_skip (wg rfl rfl rfl) ?_
          refine h_skip (wg rfl rfl rfl) ?_
          refine h_skip (wg rfl rfl rfl) ?_
          refine h_skip (wg rfl rfl rfl) ?_
          refine h_skip (wg rfl rfl rfl) ?_
          refine h_op (vB true) (wt rfl) rfl ?_
          refine h_nil ?_
          replace h_4 := some_inj h_4
          subst h_4
          exact cut_mk () trivial rfl (pre_r rfl)
        · refine h_movb rfl hc_13 (wt rfl) ?_
          refine h_far pl49_3 rfl 3 rfl (wg rfl rfl rfl) ?_
          refine h_ldr 0 0 (.inl rfl) (fun _ _ _ => trivial) sz3 ag3 rfl rfl (vI r_1.H) rfl (wg rfl rfl rfl) ?_
          refine h_far pl49_1 rfl 1 rfl (wg rfl rfl rfl) ?_
          refine h_ldr 0 0 (.inl rfl) (fun _ _ _ => trivial) sz3 ag3 rfl rfl (vI r_1.Y) rfl (wg rfl rfl rfl) ?_
          refine h_op (vI (w64 (100000 - r_1.Y))) (wg rfl rfl rfl) rfl ?_
          obtain ⟨r_14, hr_15, h_4⟩ := bind_some h_4
          refine h_call0 (ref_in_ok hr_15) rfl hb48 rfl rfl rfl rfl (wg rfl rfl rfl) ?_
          refine h_op (vB (!r_14)) (wg rfl rfl rfl) rfl ?_
          refine h_op (vB (!r_14)) (wt rfl) rfl ?_
          refine h_nil ?_
          replace h_4 := some_inj h_4
          subst h_4
          exact cut_mk () trivial rfl (pre_r rfl)
  · rintro ⟨⟩ _ sl_ H_ hp_ hq_
    refine wH_at _ hp_ hq_ ?_
    rcases cond_some hF with ⟨hc_16, hF⟩ | ⟨hc_16, hF⟩
    · refine wH_ift rfl hc_16 ?_
      refine wH_seq ?_
      refine wH_region ?_
      refine h_op (vI 1) (wt rfl) rfl ?_
      refine h_nil ?_
      replace hF := some_inj hF
      subst hF
      refine wH_ret ?_
      exact fin0 (.inr rfl) [(vI 1)] ⟨rfl, trivial⟩ rfl rfl rfl
    · refine wH_iff rfl hc_16 ?_
      refine wH_skip ?_
      refine wH_seq ?_
      refine wH_region ?_
      refine h_op (vI 0) (wt rfl) rfl ?_
      refine h_nil ?_
      replace hF := some_inj hF
      subst hF
      refine wH_ret ?_
      exact fin0 (.inr rfl) [(vI 0)] ⟨rfl, trivial⟩ rfl rfl rfl
theorem ref_within_ok {r_1 : Rect} {wv_2 : Int} {h_3 : Int} {r : Bool} (hF : ref_within r_1 wv_2 h_3 = some r) :
    FnM Tryz.prog 47 [(.d (.agg (Rect.enc r_1))), (vI wv_2), (vI h_3)] [] (vB r) [] := by
  refine FnM.of_wH ⟨Tryz.prog, 33, [], []⟩ rfl Tryz.func47 rfl rfl (Nat.le_of_ble_eq_true rfl) (by kernel_rfl) ?_
  unfold ref_within at hF
  refine wH_seq ?_
  refine wH_region ?_
  refine h_box 0 (.inl rfl) [(vI r_1.X), (vI r_1.Y), (vI r_1.W), (vI r_1.H)] rfl rfl (wt rfl) (fun n_4 => ?_)
  refine h_op (vB false) (wt rfl) rfl ?_
  refine h_nil ?_
  refine wH_seq ?_
  obtain ⟨v_5, h_6, hF⟩ := bind_some hF
  refine wH_join (β := Unit) (fun _ => ([(6, (vB v_5))] : List (Nat × V))) (fun _ => ([(n_4, some (.cells 4 [(vI r_1.X), (vI r_1.Y), (vI r_1.W), (vI r_1.H)]))] : Hp)) (fun _ => True) ?_ ?_
  · refine wH_region ?_
    refine h_far pl49_0 rfl 0 rfl (wt rfl) ?_
    refine h_ldr 0 0 (.inl rfl) (fun _ _ _ => trivial) sz3 ag3 rfl rfl (vI r_1.X) rfl (wt rfl) ?_
    refine h_op (vB (decide (r_1.X ≥ 0))) (wt rfl) rfl ?_
    rcases cond_some h_6 with ⟨hc_7, h_6⟩ | ⟨hc_7, h_6⟩
    · refine h_movb rfl hc_7 (wt rfl) ?_
      refine h_far pl49_1 rfl 1 rfl (wg rfl rfl rfl) ?_
      refine h_ldr 0 0 (.inl rfl) (fun _ _ _ => trivial) sz3 ag3 rfl rfl (vI r_1.Y) rfl (wg rfl rfl rfl) ?_
      refine h_op (vB (decide (r_1.Y ≥ 0))) (wg rfl rfl rfl) rfl ?_
      refine h_op (vB (decide (r_1.Y ≥ 0))) (wt rfl) rfl ?_
      rcases cond_some h_6 with ⟨hc_8, h_6⟩ | ⟨hc_8, h_6⟩
      · refine h_movb rfl hc_8 (wt rfl) ?_
        refine h_far pl49_0 rfl 0 rfl (wg rfl rfl rfl) ?_
        refine h_ldr 0 0 (.inl rfl) (fun _ _ _ => trivial) sz3 ag3 rfl rfl (vI r_1.X) rfl (wg rfl rfl rfl) ?_
        refine h_far pl49_2 rfl 2 rfl (wg rfl rfl rfl) ?_
        refine h_ldr 0 0 (.inl rfl) (fun _ _ _ => trivial) sz3 ag3 rfl rfl (vI r_1.W) rfl (wg rfl rfl rfl) ?_
        refine h_op (vI (w64 (r_1.X + r_1.W))) (wg rfl rfl rfl) rfl ?_
        refine h_op (vI wv_2) (wg rfl rfl rfl) rfl ?_
        refine h_op (vB (decide ((w64 (r_1.X + r_1.W)) ≤ wv_2))) (wg rfl rfl rfl) rfl ?_
        refine h_op (vB (decide ((w64 (r_1.X + r_1.W)) ≤ wv_2))) (wt rfl) rfl ?_
        rcases cond_some h_6 with ⟨hc_9, h_6⟩ | ⟨hc_9, h_6⟩
        · refine h_movb rfl hc_9 (wt rfl) ?_
          refine h_far pl49_1 rfl 1 rfl (wg rfl rfl rfl) ?_
          refine h_ldr 0 0 (.inl rfl) (fun _ _ _ => trivial) sz3 ag3 rfl rfl (vI r_1.Y) rfl (wg rfl rfl rfl) ?_
          refine h_far pl49_3 rfl 3 rfl (wg rfl rfl rfl) ?_
          refine h_ldr 0 0 (.inl rfl) (fun _ _ _ => trivial) sz3 ag3 rfl rfl (vI r_1.H) rfl (wg rfl rfl rfl) ?_
          refine h_op (vI (w64 (r_1.Y + r_1.H))) (wg rfl rfl rfl) rfl ?_
          refine h_op (vI h_3) (wg rfl rfl rfl) rfl ?_
          refine h_op (vB (decide ((w64 (r_1.Y + r_1.H)) ≤ h_3))) (wg rfl rfl rfl) rfl ?_
          refine h_op (vB (decide ((w64 (r_1.Y + r_1.H)) ≤ h_3))) (wt rfl) rfl ?_
          refine h_op (vB (decide ((w64 (r_1.Y + r_1.H)) ≤ h_3))) (wt rfl) rfl ?_
          refine h_nil ?_
          replace h_6 := some_inj h_6
          subst h_6
          exact cut_mk () trivial rfl (pre_r rfl)
        · refine h_movb rfl hc_9 (wt rfl) ?_
          refine h_skip (wg rfl rfl rfl) ?_
          refine h_skip (wg rfl rfl rfl) ?_
          refine h_skip (wg rfl rfl rfl) ?_
          refine h_skip (wg rfl rfl rfl) ?_
          refine h_skip (wg rfl rfl rfl) ?_
          refine h_skip (wg rfl rfl rfl) ?_
          refine h_skip (wg rfl rfl rfl) ?_
          refine h_op (vB false) (wt rfl) rfl ?_
          refine h_op (vB false) (wt rfl) rfl ?_
          refine h_nil ?_
          replace h_6 := some_inj h_6
          subst h_6
          exact cut_mk () trivial rfl (pre_r rfl)
      · refine h_movb rfl hc_8 (wt rfl) ?_
        refine h_skip (wg rfl rfl rfl) ?_
        refine h_skip (wg rfl rfl rfl) ?_
        refine h_skip (wg rfl rfl rfl) ?_
        refine h_skip (wg rfl rfl rfl) ?_
        refine h_skip (wg rfl rfl rfl) ?_
        refine h_skip (wg rfl rfl rfl) ?_
        refine h_skip (wg rfl rfl rfl) ?_
        refine h_op (vB false) (wt rfl) rfl ?_
        refine h_op (vB false) (wt rfl) rfl ?_
        refine h_skip (wg rfl rfl rfl) ?_
        refine h_skip (wg rfl rfl rfl) ?_
        refine h_skip (wg rfl rfl rfl) ?_
        refine h_skip (wg rfl rfl rfl) ?_
        refine h_skip (wg rfl rfl rfl) ?_
        refine h_skip (wg rfl rfl rfl) ?_
        refine h_skip (wg rfl rfl rfl) ?_
        refine h_op (vB false) (wt rfl) rfl ?_
        refine h_op (vB false) (wt rfl) rfl ?_
        refine h_nil ?_
        replace h_6 := some_inj h_6
        subst h_6
        exact cut_mk () trivial rfl (pre_r rfl)
    · refine h_movb rfl hc_7 (wt rfl) ?_
      refine h_skip (wg rfl rfl rfl) ?_
      refine h_skip (wg rfl rfl rfl) ?_
      refine h_skip (wg rfl rfl rfl) ?_
      refine h_op (vB false) (wt rfl) rfl ?_
      refine h_op (vB false) (wt rfl) rfl ?_
      refine h_skip (wg rfl rfl rfl) ?_
      refine h_skip (wg rfl rfl rfl) ?_
      refine h_skip (wg rfl rfl rfl) ?_
      refine h_skip (wg rfl rfl rfl) ?_
      refine h_skip (wg rfl rfl rfl) ?_
      refine h_skip (wg rfl rfl rfl) ?_
      refine h_skip (wg rfl rfl rfl) ?_
      refine h_op (vB false) (wt rfl) rfl ?_
      refine h_op (vB false) (wt rfl) rfl ?_
      refine h_skip (wg rfl rfl rfl) ?_
      refine h_skip (wg rfl rfl rfl) ?_
      refine h_skip (wg rfl rfl rfl) ?_
      refine h_skip (wg rfl rfl rfl) ?_
      refine h_skip (wg rfl rfl rfl) ?_
      refine h_skip (wg rfl rfl rfl) ?_
      refine h_skip (wg rfl rfl rfl) ?_
      refine h_op (vB false) (wt rfl) rfl ?_
      refine h_op (vB false) (wt rfl) rfl ?_
      refine h_nil ?_
      replace h_6 := some_inj h_6
      subst h_6
      exact cut_mk () trivial rfl (pre_r rfl)
  · rintro ⟨⟩ _ sl_ H_ hp_ hq_
    refine wH_at _ hp_ hq_ ?_
    replace hF := some_inj hF
    subst hF
    refine wH_ret ?_
    exact fin0 (.inr rfl) [(vB v_5)] ⟨rfl, trivial⟩ rfl rfl rfl
theorem ref_MeetOf_ok {a_1 : Rect} {b_2 : Rect} {r : Rect × Bool} (hF : ref_MeetOf a_1 b_2 = some r) :
    FnM Tryz.prog 68 [(.d (.agg (Rect.enc a_1))), (.d (.agg (Rect.enc b_2)))] [] (.tup [(.d (.agg (Rect.enc r.1))), (vB r.2)]) [] := by
  refine FnM.of_wH ⟨Tryz.prog, 58, [], []⟩ rfl Tryz.func68 rfl rfl (Nat.le_of_ble_eq_true rfl) (by kernel_rfl) ?_
  unfold ref_MeetOf at hF
  refine wH_seq ?_
  refine wH_region ?_
  refine h_box 0 (.inl rfl) [(vI a_1.X), (vI a_1.Y), (vI a_1.W), (vI a_1.H)] rfl rfl (wt rfl) (fun n_3 => ?_)
  refine h_box 0 (.inl rfl) [(vI b_2.X), (vI b_2.Y), (vI b_2.W), (vI b_2.H)] rfl rfl (wt rfl) (fun n_4 => ?_)
  refine h_alloc 0 (.inl rfl) z49 rfl (wt rfl) (fun n_5 => ?_)
  refine h_op (vB false) (wt rfl) rfl ?_
  refine h_nil ?_
  refine wH_seq ?_
  refine wH_draws ?_
  refine h_far pl49_0 rfl 0 rfl (wt rfl) ?_
  refine h_ldr 1 0 (.inr (by kernel_rfl)) (fun _ _ ag => trivial) sz3 ag3 rfl rfl (vI a_1.X) rfl (wt rfl) ?_
  refine h_far pl49_0 rfl 0 rfl (wt rfl) ?_
  refine h_ldr 3 1 (.inr (by kernel_rfl)) (fun _ _ ag => ⟨.inl ⟨rfl, rfl⟩, trivial⟩) sz3 ag3 rfl rfl (vI b_2.X) rfl (wt rfl) ?_
  refine h_minmax (vI (maxI a_1.X b_2.X)) rfl (.inr rfl) (wt rfl) ?_
  refine h_far pl49_1 rfl 1 rfl (wt rfl) ?_
  refine h_ldr 6 0 (.inr (by kernel_rfl)) (fun _ _ ag => ⟨.inl ⟨rfl, rfl⟩, ⟨.inl ⟨rfl, rfl⟩, trivial⟩⟩) sz3 ag3 rfl rfl (vI a_1.Y) rfl (wt rfl) ?_
  refine h_far pl49_1 rfl 1 rfl (wt rfl) ?_
  refine h_ldr 8 1 (.inr (by kernel_rfl)) (fun _ _ ag => ⟨.inl ⟨rfl, rfl⟩, ⟨.inl ⟨rfl, rfl⟩, ⟨.inl ⟨rfl, rfl⟩, trivial⟩⟩⟩) sz3 ag3 rfl rfl (vI b_2.Y) rfl (wt rfl) ?_
  refine h_minmax (vI (maxI a_1.Y b_2.Y)) rfl (.inr rfl) (wt rfl) ?_
  refine h_op (vI (maxI a_1.X b_2.X)) (wt rfl) rfl ?_
  refine h_op (vI (maxI a_1.Y b_2.Y)) (wt rfl) rfl ?_
  refine h_nil ?_
  refine wH_seq ?_
  refine wH_draws ?_
  refine h_far pl49_0 rfl 0 rfl (wt rfl) ?_
  refine h_ldr 1 0 (.inr (by kernel_rfl)) (fun _ _ ag => trivial) sz3 ag3 rfl rfl (vI a_1.X) rfl (wt rfl) ?_
  refine h_far pl49_2 rfl 2 rfl (wt rfl) ?_
  refine h_ldr 3 0 (.inr (by kernel_rfl)) (fun _ _ ag => ⟨.inl ⟨rfl, rfl⟩, trivial⟩) sz3 ag3 rfl rfl (vI a_1.W) rfl (wt rfl) ?_
  refine h_op (vI (w64 (a_1.X + a_1.W))) (wt rfl) rfl ?_
  refine h_far pl49_0 rfl 0 rfl (wt rfl) ?_
  refine h_ldr 6 1 (.inr (by kernel_rfl)) (fun _ _ ag => ⟨.inl ⟨rfl, rfl⟩, ⟨.inl ⟨rfl, rfl⟩, trivial⟩⟩) sz3 ag3 rfl rfl (vI b_2.X) rfl (wt rfl) ?_
  refine h_far pl49_2 rfl 2 rfl (wt rfl) ?_
  refine h_ldr 8 1 (.inr (by kernel_rfl)) (fun _ _ ag => ⟨.inl ⟨rfl, rfl⟩, ⟨.inl ⟨rfl, rfl⟩, ⟨.inl ⟨rfl, rfl⟩, trivial⟩⟩⟩) sz3 ag3 rfl rfl (vI b_2.W) rfl (wt rfl) ?_
  refine h_op (vI (w64 (b_2.X + b_2.W))) (wt rfl) rfl ?_
  refine h_minmax (vI (minI (w64 (a_1.X + a_1.W)) (w64 (b_2.X + b_2.W)))) rfl (.inl rfl) (wt rfl) ?_
  refine h_op (vI (maxI a_1.X b_2.X)) (wt rfl) rfl ?_
  refine h_op (vI (w64 ((minI (w64 (a_1.X + a_1.W)) (w64 (b_2.X + b_2.W))) - (maxI a_1.X b_2.X)))) (wt rfl) rfl ?_
  refine h_far pl49_1 rfl 1 rfl (wt rfl) ?_
  refine h_ldr 14 0 (.inr (by kernel_rfl)) (fun _ _ ag => ⟨.inl ⟨rfl, rfl⟩, ⟨.inl ⟨rfl, rfl⟩, ⟨.inl ⟨rfl, rfl⟩, ⟨.inl ⟨rfl, rfl⟩, trivial⟩⟩⟩⟩) sz3 ag3 rfl rfl (vI a_1.Y) rfl (wt rfl) ?_
  refine h_far pl49_3 rfl 3 rfl (wt rfl) ?_
  refine h_ldr 16 0 (.inr (by kernel_rfl)) (fun _ _ ag => ⟨.inl ⟨rfl, rfl⟩, ⟨.inl ⟨rfl, rfl⟩, ⟨.inl ⟨rfl, rfl⟩, ⟨.inl ⟨rfl, rfl⟩, ⟨.inl ⟨rfl, rfl⟩, trivial⟩⟩⟩⟩⟩) sz3 ag3 rfl rfl (vI a_1.H) rfl (wt rfl) ?_
  refine h_op (vI (w64 (a_1.Y + a_1.H))) (wt rfl) rfl ?_
  refine h_far pl49_1 rfl 1 rfl (wt rfl) ?_
  refine h_ldr 19 1 (.inr (by kernel_rfl)) (fun _ _ ag => ⟨.inl ⟨rfl, rfl⟩, ⟨.inl ⟨rfl, rfl⟩, ⟨.inl ⟨rfl, rfl⟩, ⟨.inl ⟨rfl, rfl⟩, ⟨.inl ⟨rfl, rfl⟩, ⟨.inl ⟨rfl, rfl⟩, trivial⟩⟩⟩⟩⟩⟩) sz3 ag3 rfl rfl (vI b_2.Y) rfl (wt rfl) ?_
  refine h_far pl49_3 rfl 3 rfl (wt rfl) ?_
  refine h_ldr 21 1 (.inr (by kernel_rfl)) (fun _ _ ag => ⟨.inl ⟨rfl, rfl⟩, ⟨.inl ⟨rfl, rfl⟩, ⟨.inl ⟨rfl, rfl⟩, ⟨.inl ⟨rfl, rfl⟩, ⟨.inl ⟨rfl, rfl⟩, ⟨.inl ⟨rfl, rfl⟩, ⟨.inl ⟨rfl, rfl⟩, trivial⟩⟩⟩⟩⟩⟩⟩) sz3 ag3 rfl rfl (vI b_2.H) rfl (wt rfl) ?_
  refine h_op (vI (w64 (b_2.Y + b_2.H))) (wt rfl) rfl ?_
  refine h_minmax (vI (minI (w64 (a_1.Y + a_1.H)) (w64 (b_2.Y + b_2.H)))) rfl (.inl rfl) (wt rfl) ?_
  refine h_op (vI (maxI a_1.Y b_2.Y)) (wt rfl) rfl ?_
  refine h_op (vI (w64 ((minI (w64 (a_1.Y + a_1.H)) (w64 (b_2.Y + b_2.H))) - (maxI a_1.Y b_2.Y)))) (wt rfl) rfl ?_
  refine h_op (vI (w64 ((minI (w64 (a_1.X + a_1.W)) (w64 (b_2.X + b_2.W))) - (maxI a_1.X b_2.X)))) (wt rfl) rfl ?_
  refine h_op (vI (w64 ((minI (w64 (a_1.Y + a_1.H)) (w64 (b_2.Y + b_2.H))) - (maxI a_1.Y b_2.Y)))) (wt rfl) rfl ?_
  refine h_nil ?_
  refine wH_at (H0 := ([(n_3, some (.cells 4 [(vI a_1.X), (vI a_1.Y), (vI a_1.W), (vI a_1.H)])), (n_4, some (.cells 4 [(vI b_2.X), (vI b_2.Y), (vI b_2.W), (vI b_2.H)])), (n_5, some (.cells 4 [(vI 0), (vI 0), (vI 0), (vI 0)]))] : Hp)) ([(4, (.ref n_5 0 0)), (6, (vI (maxI a_1.X b_2.X))), (7, (vI (maxI a_1.Y b_2.Y))), (8, (vI (w64 ((minI (w64 (a_1.X + a_1.W)) (w64 (b_2.X + b_2.W))) - (maxI a_1.X b_2.X))))), (9, (vI (w64 ((minI (w64 (a_1.Y + a_1.H)) (w64 (b_2.Y + b_2.H))) - (maxI a_1.Y b_2.Y)))))] : List (Nat × V)) (by kernel_rfl) (pre_mk (by kernel_rfl)) ?_
  refine wH_seq ?_
  refine wH_seq ?_
  obtain ⟨v_6, h_7, hF⟩ := bind_some hF
  refine wH_join (β := Unit) (fun _ => ([(4, (.ref n_5 0 0)), (6, (vI (maxI a_1.X b_2.X))), (7, (vI (maxI a_1.Y b_2.Y))), (8, (vI (w64 ((minI (w64 (a_1.X + a_1.W)) (w64 (b_2.X + b_2.W))) - (maxI a_1.X b_2.X))))), (9, (vI (w64 ((minI (w64 (a_1.Y + a_1.H)) (w64 (b_2.Y + b_2.H))) - (maxI a_1.Y b_2.Y))))), (51, (vB v_6))] : List (Nat × V))) (fun _ => ([(n_3, some (.cells 4 [(vI a_1.X), (vI a_1.Y), (vI a_1.W), (vI a_1.H)])), (n_4, some (.cells 4 [(vI b_2.X), (vI b_2.Y), (vI b_2.W), (vI b_2.H)])), (n_5, some (.cells 4 [(vI 0), (vI 0), (vI 0), (vI 0)]))] : Hp)) (fun _ => True) ?_ ?_
  · refine wH_region ?_
    refine h_op (vI (w64 ((minI (w64 (a_1.X + a_1.W)) (w64 (b_2.X + b_2.W))) - (maxI a_1.X b_2.X)))) (wt rfl) rfl ?_
    refine h_op (vB (decide ((w64 ((minI (w64 (a_1.X + a_1.W)) (w64 (b_2.X + b_2.W))) - (maxI a_1.X b_2.X))) ≤ 0))) (wt rfl) rfl ?_
    rcases cond_some h_7 with ⟨hc_8, h_7⟩ | ⟨hc_8, h_7⟩
    · refine h_movb rfl hc_8 (wt rfl) ?_
      refine h_skip (wg rfl rfl rfl) ?_
      refine h_skip (wg rfl rfl rfl) ?_
      refine h_op (vB true) (wt rfl) rfl ?_
      refine h_nil ?_
      replace h_7 := some_inj h_7
      subst h_7
      exact cut_mk () trivial rfl (pre_r rfl)
    · refine h_movb rfl hc_8 (wt rfl) ?_
      refine h_op (vI (w64 ((minI (w64 (a_1.Y + a_1.H)) (w64 (b_2.Y + b_2.H))) - (maxI a_1.Y b_2.Y)))) (wg rfl rfl rfl) rfl ?_
      refine h_op (vB (decide ((w64 ((minI (w64 (a_1.Y + a_1.H)) (w64 (b_2.Y + b_2.H))) - (maxI a_1.Y b_2.Y))) ≤ 0))) (wg rfl rfl rfl) rfl ?_
      refine h_op (vB (decide ((w64 ((minI (w64 (a_1.Y + a_1.H)) (w64 (b_2.Y + b_2.H))) - (maxI a_1.Y b_2.Y))) ≤ 0))) (wt rfl) rfl ?_
      refine h_nil ?_
      replace h_7 := some_inj h_7
      subst h_7
      exact cut_mk () trivial rfl (pre_r rfl)
  · rintro ⟨⟩ _ sl_ H_ hp_ hq_
    refine wH_at _ hp_ hq_ ?_
    rcases cond_some hF with ⟨hc_9, hF⟩ | ⟨hc_9, hF⟩
    · refine wH_ift rfl hc_9 ?_
      refine wH_seq ?_
      refine wH_region ?_
      refine h_op (.d (.agg (Rect.enc (⟨0, 0, 0, 0⟩ : Rect)))) (wt rfl) (by kernel_rfl) ?_
      refine h_str 0 (.inl rfl) (fun _ _ _ => trivial) 2 sz49 rfl rfl [(vI 0), (vI 0), (vI 0), (vI 0)] rfl (wt rfl) ?_
      refine h_op (vB false) (wt rfl) rfl ?_
      refine h_nil ?_
      replace hF := some_inj hF
      subst hF
      refine wH_ret ?_
      exact fin0 (.inr rfl) [(.d (.agg (Rect.enc (⟨0, 0, 0, 0⟩ : Rect)))), (vB false)] ⟨⟨2, _, _, _, _, _, _, _, rfl, rfl, sz49, ag49, rfl⟩, ⟨rfl, trivial⟩⟩ rfl rfl rfl
    · refine wH_iff rfl hc_9 ?_
      refine wH_skip ?_
      refine wH_seq ?_
      refine wH_region ?_
      refine h_op (vI (maxI a_1.X b_2.X)) (wt rfl) rfl ?_
      refine h_op (vI (maxI a_1.Y b_2.Y)) (wt rfl) rfl ?_
      refine h_op (vI (w64 ((minI (w64 (a_1.X + a_1.W)) (w64 (b_2.X + b_2.W))) - (maxI a_1.X b_2.X)))) (wt rfl) rfl ?_
      refine h_op (vI (w64 ((minI (w64 (a_1.Y + a_1.H)) (w64 (b_2.Y + b_2.H))) - (maxI a_1.Y b_2.Y)))) (wt rfl) rfl ?_
      refine h_op (.d (.agg (Rect.enc (⟨(maxI a_1.X b_2.X), (maxI a_1.Y b_2.Y), (w64 ((minI (w64 (a_1.X + a_1.W)) (w64 (b_2.X + b_2.W))) - (maxI a_1.X b_2.X))), (w64 ((minI (w64 (a_1.Y + a_1.H)) (w64 (b_2.Y + b_2.H))) - (maxI a_1.Y b_2.Y)))⟩ : Rect)))) (wt rfl) (by kernel_rfl) ?_
      refine h_str 0 (.inl rfl) (fun _ _ _ => trivial) 2 sz49 rfl rfl [(vI (maxI a_1.X b_2.X)), (vI (maxI a_1.Y b_2.Y)), (vI (w64 ((minI (w64 (a_1.X + a_1.W)) (w64 (b_2.X + b_2.W))) - (maxI a_1.X b_2.X)))), (vI (w64 ((minI (w64 (a_1.Y + a_1.H)) (w64 (b_2.Y + b_2.H))) - (maxI a_1.Y b_2.Y))))] rfl (wt rfl) ?_
      refine h_op (vB true) (wt rfl) rfl ?_
      refine h_nil ?_
      replace hF := some_inj hF
      subst hF
      refine wH_ret ?_
      exact fin0 (.inr rfl) [(.d (.agg (Rect.enc (⟨(maxI a_1.X b_2.X), (maxI a_1.Y b_2.Y), (w64 ((minI (w64 (a_1.X + a_1.W)) (w64 (b_2.X + b_2.W))) - (maxI a_1.X b_2.X))), (w64 ((minI (w64 (a_1.Y + a_1.H)) (w64 (b_2.Y + b_2.H))) - (maxI a_1.Y b_2.Y)))⟩ : Rect)))), (vB true)] ⟨⟨2, _, _, _, _, _, _, _, rfl, rfl, sz49, ag49, rfl⟩, ⟨rfl, trivial⟩⟩ rfl rfl rfl
theorem ref_WallFault_ok {wv_1 : Wall} {r : Int} (hF : ref_WallFault wv_1 = some r) :
    FnM Tryz.prog 27 [(.d (.agg (Wall.enc wv_1)))] [] (vI r) [] := by
  refine FnM.of_wH ⟨Tryz.prog, 96, [], []⟩ rfl Tryz.func27 rfl rfl (Nat.le_of_ble_eq_true rfl) (by kernel_rfl) ?_
  unfold ref_WallFault at hF
  refine wH_seq ?_
  refine wH_region ?_
  refine h_box 0 (.inl rfl) [(vS wv_1.Key), (vI wv_1.W), (vI wv_1.H), (vL Screen.enc wv_1.Screens)] rfl rfl (wt rfl) (fun n_2 => ?_)
  refine h_op (vI 0) (wt rfl) rfl ?_
  refine h_nil ?_
  refine wH_seq ?_
  refine wH_block ?_
  refine wH_seq ?_
  refine wH_region ?_
  refine h_far pl58_0 rfl 0 rfl (wt rfl) ?_
  refine h_ldr 0 0 (.inl rfl) (fun _ _ _ => trivial) sz9 ag9 rfl rfl (vS wv_1.Key) rfl (wt rfl) ?_
  obtain ⟨r_3, hr_4, hF⟩ := bind_some hF
  refine h_call0 (ref_Key_ok hr_4) rfl hb45 rfl rfl rfl rfl (wt rfl) ?_
  refine h_op (vB (!r_3)) (wt rfl) rfl ?_
  refine h_op (vB (!r_3)) (wt rfl) rfl ?_
  refine h_nil ?_
  rcases cond_some hF with ⟨hc_5, hF⟩ | ⟨hc_5, hF⟩
  · refine wH_ift rfl hc_5 ?_
    refine wH_seq ?_
    refine wH_region ?_
    refine h_op (vI 5) (wt rfl) rfl ?_
    refine h_nil ?_
    replace hF := some_inj hF
    subst hF
    refine wH_ret ?_
    exact fin0 (.inr rfl) [(vI 5)] ⟨rfl, trivial⟩ rfl rfl rfl
  · refine wH_iff rfl hc_5 ?_
    refine wH_seq ?_
    obtain ⟨v_6, h_7, hF⟩ := bind_some hF
    refine wH_join (β := Unit) (fun _ => ([(1, (.ref n_2 0 0)), (18, (vB v_6))] : List (Nat × V))) (fun _ => ([(n_2, some (.cells 4 [(vS wv_1.Key), (vI wv_1.W), (vI wv_1.H), (vL Screen.enc wv_1.Screens)]))] : Hp)) (fun _ => True) ?_ ?_
    · refine wH_region ?_
      refine h_far pl58_1 rfl 1 rfl (wt rfl) ?_
      refine h_ldr 0 0 (.inl rfl) (fun _ _ _ => trivial) sz3 ag3 rfl rfl (vI wv_1.W) rfl (wt rfl) ?_
      obtain ⟨r_8, hr_9, h_7⟩ := bind_some h_7
      refine h_call0 (ref_side_ok hr_9) rfl hb46 rfl rfl rfl rfl (wt rfl) ?_
      refine h_op (vB (!r_8)) (wt rfl) rfl ?_
      rcases cond_some h_7 with ⟨hc_10, h_7⟩ | ⟨hc_10, h_7⟩
      · refine h_movb rfl hc_10 (wt rfl) ?_
        refine h_skip (wg rfl rfl rfl) ?_
        refine h_skip (wg rfl rfl rfl) ?_
        refine h_skip (wg rfl rfl rfl) ?_
        refine h_skip (wg rfl rfl rfl) ?_
        refine h_op (vB true) (wt rfl) rfl ?_
        refine h_op (vB true) (wt rfl) rfl ?_
        refine h_nil ?_
        replace h_7 := some_inj h_7
        subst h_7
        exact cut_mk () trivial rfl (pre_r rfl)
      · refine h_movb rfl hc_10 (wt rfl) ?_
        refine h_far pl58_2 rfl 2 rfl (wg rfl rfl rfl) ?_
        refine h_ldr 0 0 (.inl rfl) (fun _ _ _ => trivial) sz3 ag3 rfl rfl (vI wv_1.H) rfl (wg rfl rfl rfl) ?_
        obtain ⟨r_11, hr_12, h_7⟩ := bind_some h_7
        refine h_call0 (ref_side_ok hr_12) rfl hb46 rfl rfl rfl rfl (wg rfl rfl rfl) ?_
        refine h_op (vB (!r_11)) (wg rfl rfl rfl) rfl ?_
        refine h_op (vB (!r_11)) (wt rfl) rfl ?_
        refine h_op (vB (!r_11)) (wt rfl) rfl ?_
        refine h_nil ?_
        replace h_7 := some_inj h_7
        subst h_7
        exact cut_mk () trivial rfl (pre_r rfl)
    · rintro ⟨⟩ _ sl_ H_ hp_ hq_
      refine wH_at _ hp_ hq_ ?_
      rcases cond_some hF with ⟨hc_13, hF⟩ | ⟨hc_13, hF⟩
      · refine wH_ift rfl hc_13 ?_
        refine wH_seq ?_
        refine wH_region ?_
        refine h_op (vI 1) (wt rfl) rfl ?_
        refine h_nil ?_
        replace hF := some_inj hF
        subst hF
        refine wH_ret ?_
        exact fin0 (.inr rfl) [(vI 1)] ⟨rfl, trivial⟩ rfl rfl rfl
      · refine wH_iff rfl hc_13 ?_
        refine wH_seq ?_
        refine wH_region ?_
        refine h_far pl58_3 rfl 3 rfl (wt rfl) ?_
        refine h_ldr 0 0 (.inl rfl) (fun _ _ _ => trivial) sz56 ag56 rfl rfl (vL Screen.enc wv_1.Screens) rfl (wt rfl) ?_
        refine h_len un56 rfl (wt rfl) ?_
        refine h_op (vB (decide ((wv_1.Screens.length : Int) > 50))) (wt rfl) rfl ?_
        refine h_op (vB (decide ((wv_1.Screens.length : Int) > 50))) (wt rfl) rfl ?_
        refine h_nil ?_
        rcases cond_some hF with ⟨hc_14, hF⟩ | ⟨hc_14, hF⟩
        · refine wH_ift rfl hc_14 ?_
          refine wH_seq ?_
          refine wH_region ?_
          refine h_op (vI 2) (wt rfl) rfl ?_
          refine h_nil ?_
          replace hF := some_inj hF
          subst hF
          refine wH_ret ?_
          exact fin0 (.inr rfl) [(vI 2)] ⟨rfl, trivial⟩ rfl rfl rfl
        · refine wH_iff rfl hc_14 ?_
          refine wH_skip ?_
          refine wH_seq ?_
          refine wH_region ?_
          refine h_op (vS (⟨#[]⟩ : ByteArray)) (wt rfl) rfl ?_
          refine h_nil ?_
          refine wH_seq ?_
          refine wH_seq ?_
          refine wH_region ?_
          refine h_far pl58_3 rfl 3 rfl (wt rfl) ?_
          refine h_ldr 0 0 (.inl rfl) (fun _ _ _ => trivial) sz56 ag56 rfl rfl (vL Screen.enc wv_1.Screens) rfl (wt rfl) ?_
          refine h_len un56 rfl (wt rfl) ?_
          refine h_op (vI 0) (wt rfl) rfl ?_
          refine h_nil ?_
          obtain ⟨o_23, hj_24, hF⟩ := bind_some hF
          obtain ⟨hn_19, hj_24⟩ := forL_some hj_24
          refine wH_join (β := (ByteArray)) (fun (s_20 : ByteArray) => ([(1, (.ref n_2 0 0))] : List (Nat × V))) (fun (s_20 : ByteArray) => ([(n_2, some (.cells 4 [(vS wv_1.Key), (vI wv_1.W), (vI wv_1.H), (vL Screen.enc wv_1.Screens)]))] : Hp)) (fun p => o_23 = .go p) ?_ ?_
          · refine wH_block ?_
            refine wH_loop (β := Nat × (List Screen) × (ByteArray)) (fun p => (fun (k_15 : Nat) (l_16 : List Screen) (s_20 : ByteArray) => ([(1, (.ref n_2 0 0)), (3, (vS s_20)), (35, (vL Screen.enc wv_1.Screens)), (36, (vI (wv_1.Screens.length : Int))), (37, (vI (k_15 : Int)))] : List (Nat × V))) p.1 p.2.1 p.2.2) (fun p => (fun (k_15 : Nat) (l_16 : List Screen) (s_20 : ByteArray) => ([(n_2, some (.cells 4 [(vS wv_1.Key), (vI wv_1.W), (vI wv_1.H), (vL Screen.enc wv_1.Screens)]))] : Hp)) p.1 p.2.1 p.2.2) (fun p => forR (fun k x s => ref_WallFault_L1 wv_1 k x s) p.2.1 p.1 p.2.2 = some o_23 ∧ (wv_1.Screens).drop p.1 = p.2.1) (fun p => p.2.1.length) (0, wv_1.Screens, (⟨#[]⟩ : ByteArray)) ⟨hj_24, rfl⟩ rfl (pre_r rfl) ?_
            rintro ⟨k_15, l_16, s_20⟩ ⟨hL_22, hD_18⟩
            dsimp only at hL_22 hD_18
            cases l_16 with
            | nil =>
              replace hL_22 := some_inj hL_22
              subst hL_22
              refine wH_seq (wH_region (h_op (vB (decide ((k_15 : Int) < (wv_1.Screens.length : Int)))) (wt rfl) rfl (h_nil ?_)))
              refine wH_seq (wH_iff rfl (drop_nil hD_18) (wH_exit ?_))
              exact cut_mk (s_20) rfl rfl (pre_r rfl)
            | cons x_17 l_16 =>
              obtain ⟨c_, hc_21, hL_22⟩ := bind_some hL_22
              refine wH_seq (wH_region (h_op (vB (decide ((k_15 : Int) < (wv_1.Screens.length : Int)))) (wt rfl) rfl (h_nil ?_)))
              refine wH_seq (wH_ift rfl (drop_cons hD_18) (wH_skip ?_))
              unfold ref_WallFault_L1 at hc_21
              refine wH_seq ?_
              refine wH_block ?_
              refine wH_seq ?_
              refine wH_region ?_
              refine h_ia es56 rfl rfl (drop_idx hD_18) rfl (wt rfl) ?_
              refine h_ldc sz99 ag99 rfl (.d (.agg (Screen.enc x_17))) rfl (wt rfl) ?_
              refine h_alloc 0 (.inl rfl) z99 rfl (wt rfl) (fun n_25 => ?_)
              refine h_str 0 (.inl rfl) (fun _ _ _ => trivial) 1 sz99 rfl rfl [(vS x_17.Key), (vI x_17.On.X), (vI x_17.On.Y), (vI x_17.On.W), (vI x_17.On.H)] rfl (wt rfl) ?_
              refine h_nil ?_
              refine wH_seq ?_
              refine wH_seq ?_
              refine wH_region ?_
              refine h_far pl99_0 rfl 0 rfl (wt rfl) ?_
              refine h_ldr 0 1 (.inl rfl) (fun _ _ _ => trivial) sz9 ag9 rfl rfl (vS x_17.Key) rfl (wt rfl) ?_
              obtain ⟨r_26, hr_27, hc_21⟩ := bind_some hc_21
              refine h_call0 (ref_Key_ok hr_27) rfl hb45 rfl rfl rfl rfl (wt rfl) ?_
              refine h_op (vB (!r_26)) (wt rfl) rfl ?_
              refine h_nil ?_
              rcases cond_some hc_21 with ⟨hc_28, hc_21⟩ | ⟨hc_28, hc_21⟩
              · refine wH_ift rfl hc_28 ?_
                refine wH_seq ?_
                refine wH_region ?_
                refine h_op (vI 5) (wt rfl) rfl ?_
                refine h_nil ?_
                replace hc_21 := some_inj hc_21
                subst hc_21
                replace hL_22 := some_inj hL_22
                subst hL_22
                replace hF := some_inj hF
                subst hF
                refine wH_ret ?_
                exact fin0 (.inr rfl) [(vI 5)] ⟨rfl, trivial⟩ rfl rfl rfl
              · refine wH_iff rfl hc_28 ?_
                refine wH_skip ?_
                refine wH_seq ?_
                refine wH_seq ?_
                refine wH_region ?_
                refine h_far pl99_1 rfl 1 rfl (wt rfl) ?_
                refine h_ldr 0 1 (.inl rfl) (fun _ _ _ => trivial) sz49 ag49 rfl rfl (.d (.agg (Rect.enc x_17.On))) rfl (wt rfl) ?_
                obtain ⟨r_29, hr_30, hc_21⟩ := bind_some hc_21
                refine h_call0 (ref_RectFault_ok hr_30) rfl hb29 rfl rfl rfl rfl (wt rfl) ?_
                refine h_op (vI r_29) (wt rfl) rfl ?_
                refine h_nil ?_
                refine wH_seq ?_
                refine wH_region ?_
                refine h_op (vI r_29) (wt rfl) rfl ?_
                refine h_op (vB (r_29 != 0)) (wt rfl) rfl ?_
                refine h_nil ?_
                rcases cond_some hc_21 with ⟨hc_31, hc_21⟩ | ⟨hc_31, hc_21⟩
                · refine wH_ift rfl hc_31 ?_
                  refine wH_seq ?_
                  refine wH_region ?_
                  refine h_op (vI r_29) (wt rfl) rfl ?_
                  refine h_op (vI r_29) (wt rfl) rfl ?_
                  refine h_nil ?_
                  replace hc_21 := some_inj hc_21
                  subst hc_21
                  replace hL_22 := some_inj hL_22
                  subst hL_22
                  replace hF := some_inj hF
                  subst hF
                  refine wH_ret ?_
                  exact fin0 (.inr rfl) [(vI r_29)] ⟨rfl, trivial⟩ rfl rfl rfl
                · refine wH_iff rfl hc_31 ?_
                  refine wH_skip ?_
                  refine wH_seq ?_
                  refine wH_block ?_
                  refine wH_seq ?_
                  refine wH_region ?_
                  refine h_far pl99_1 rfl 1 rfl (wt rfl) ?_
                  refine h_ldr 0 1 (.inl rfl) (fun _ _ _ => trivial) sz49 ag49 rfl rfl (.d (.agg (Rect.enc x_17.On))) rfl (wt rfl) ?_
                  refine h_far pl58_1 rfl 1 rfl (wt rfl) ?_
                  refine h_ldr 0 0 (.inl rfl) (fun _ _ _ => trivial) sz3 ag3 rfl rfl (vI wv_1.W) rfl (wt rfl) ?_
                  refine h_far pl58_2 rfl 2 rfl (wt rfl) ?_
                  refine h_ldr 0 0 (.inl rfl) (fun _ _ _ => trivial) sz3 ag3 rfl rfl (vI wv_1.H) rfl (wt rfl) ?_
                  obtain ⟨r_32, hr_33, hc_21⟩ := bind_some hc_21
                  refine h_call0 (ref_within_ok hr_33) rfl hb47 rfl rfl rfl rfl (wt rfl) ?_
                  refine h_op (vB (!r_32)) (wt rfl) rfl ?_
                  refine h_op (vB (!r_32)) (wt rfl) rfl ?_
                  refine h_nil ?_
                  rcases cond_some hc_21 with ⟨hc_34, hc_21⟩ | ⟨hc_34, hc_21⟩
                  · refine wH_ift rfl hc_34 ?_
                    refine wH_seq ?_
                    refine wH_region ?_
                    refine h_op (vI 3) (wt rfl) rfl ?_
                    refine h_nil ?_
                    replace hc_21 := some_inj hc_21
                    subst hc_21
                    replace hL_22 := some_inj hL_22
                    subst hL_22
                    replace hF := some_inj hF
                    subst hF
                    refine wH_ret ?_
                    exact fin0 (.inr rfl) [(vI 3)] ⟨rfl, trivial⟩ rfl rfl rfl
                  · refine wH_iff rfl hc_34 ?_
                    refine wH_seq ?_
                    refine wH_region ?_
                    refine h_far pl99_0 rfl 0 rfl (wt rfl) ?_
                    refine h_ldr 0 1 (.inl rfl) (fun _ _ _ => trivial) sz9 ag9 rfl rfl (vS x_17.Key) rfl (wt rfl) ?_
                    refine h_op (vS s_20) (wt rfl) rfl ?_
                    refine h_op (vB (sLe x_17.Key s_20)) (wt rfl) rfl ?_
                    refine h_op (vB (sLe x_17.Key s_20)) (wt rfl) rfl ?_
                    refine h_nil ?_
                    rcases cond_some hc_21 with ⟨hc_35, hc_21⟩ | ⟨hc_35, hc_21⟩
                    · refine wH_ift rfl hc_35 ?_
                      refine wH_seq ?_
                      refine wH_region ?_
                      refine h_op (vI 7) (wt rfl) rfl ?_
                      refine h_nil ?_
                      replace hc_21 := some_inj hc_21
                      subst hc_21
                      replace hL_22 := some_inj hL_22
                      subst hL_22
                      replace hF := some_inj hF
                      subst hF
                      refine wH_ret ?_
                      exact fin0 (.inr rfl) [(vI 7)] ⟨rfl, trivial⟩ rfl rfl rfl
                    · refine wH_iff rfl hc_35 ?_
                      refine wH_skip ?_
                      refine wH_region ?_
                      refine h_far pl99_0 rfl 0 rfl (wt rfl) ?_
                      refine h_ldr 0 1 (.inl rfl) (fun _ _ _ => trivial) sz9 ag9 rfl rfl (vS x_17.Key) rfl (wt rfl) ?_
                      refine h_op (vS x_17.Key) (wt rfl) rfl ?_
                      refine h_nil ?_
                      refine wH_at (H0 := ([(n_2, some (.cells 4 [(vS wv_1.Key), (vI wv_1.W), (vI wv_1.H), (vL Screen.enc wv_1.Screens)])), (n_25, some (.cells 5 [(vS x_17.Key), (vI x_17.On.X), (vI x_17.On.Y), (vI x_17.On.W), (vI x_17.On.H)]))] : Hp)) ([(1, (.ref n_2 0 0)), (3, (vS x_17.Key)), (35, (vL Screen.enc wv_1.Screens)), (36, (vI (wv_1.Screens.length : Int))), (37, (vI (k_15 : Int)))] : List (Nat × V)) (by kernel_rfl) (pre_mk (by kernel_rfl)) ?_
                      refine wH_region ?_
                      refine h_opw (w64_next hD_18 hn_19) (wt rfl) rfl ?_
                      refine h_op (vI ((k_15 + 1 : Nat) : Int)) (wt rfl) rfl ?_
                      refine h_nil ?_
                      replace hc_21 := some_inj hc_21
                      subst hc_21
                      exact loop_mk (k_15 + 1, l_16, x_17.Key) ⟨hL_22, drop_next hD_18⟩ (Nat.lt_succ_self _) rfl (pre_r rfl)
          · rintro s_20 ho_ sl_ H_ hp_ hq_
            subst ho_
            refine wH_at _ hp_ hq_ ?_
            refine wH_seq ?_
            refine wH_seq ?_
            refine wH_region ?_
            refine h_far pl58_3 rfl 3 rfl (wt rfl) ?_
            refine h_ldr 0 0 (.inl rfl) (fun _ _ _ => trivial) sz56 ag56 rfl rfl (vL Screen.enc wv_1.Screens) rfl (wt rfl) ?_
            refine h_len un56 rfl (wt rfl) ?_
            refine h_op (vI 0) (wt rfl) rfl ?_
            refine h_nil ?_
            obtain ⟨o_44, hj_45, hF⟩ := bind_some hF
            obtain ⟨hn_40, hj_45⟩ := forL_some hj_45
            refine wH_join (β := (Unit)) (fun (s_41 : Unit) => ([] : List (Nat × V))) (fun (s_41 : Unit) => ([(n_2, some (.cells 4 [(vS wv_1.Key), (vI wv_1.W), (vI wv_1.H), (vL Screen.enc wv_1.Screens)]))] : Hp)) (fun p => o_44 = .go p) ?_ ?_
            · refine wH_block ?_
              refine wH_loop (β := Nat × (List Screen) × (Unit)) (fun p => (fun (k_36 : Nat) (l_37 : List Screen) (s_41 : Unit) => ([(1, (.ref n_2 0 0)), (69, (vL Screen.enc wv_1.Screens)), (70, (vI (wv_1.Screens.length : Int))), (71, (vI (k_36 : Int)))] : List (Nat × V))) p.1 p.2.1 p.2.2) (fun p => (fun (k_36 : Nat) (l_37 : List Screen) (s_41 : Unit) => ([(n_2, some (.cells 4 [(vS wv_1.Key), (vI wv_1.W), (vI wv_1.H), (vL Screen.enc wv_1.Screens)]))] : Hp)) p.1 p.2.1 p.2.2) (fun p => forR (fun k x s => ref_WallFault_L3 wv_1 k x s) p.2.1 p.1 p.2.2 = some o_44 ∧ (wv_1.Screens).drop p.1 = p.2.1) (fun p => p.2.1.length) (0, wv_1.Screens, ()) ⟨hj_45, rfl⟩ rfl (pre_r rfl) ?_
              rintro ⟨k_36, l_37, s_41⟩ ⟨hL_43, hD_39⟩
              dsimp only at hL_43 hD_39
              cases l_37 with
              | nil =>
                replace hL_43 := some_inj hL_43
                subst hL_43
                refine wH_seq (wH_region (h_op (vB (decide ((k_36 : Int) < (wv_1.Screens.length : Int)))) (wt rfl) rfl (h_nil ?_)))
                refine wH_seq (wH_iff rfl (drop_nil hD_39) (wH_exit ?_))
                exact cut_mk (s_41) rfl rfl (pre_r rfl)
              | cons x_38 l_37 =>
                obtain ⟨c_, hc_42, hL_43⟩ := bind_some hL_43
                refine wH_seq (wH_region (h_op (vB (decide ((k_36 : Int) < (wv_1.Screens.length : Int)))) (wt rfl) rfl (h_nil ?_)))
                refine wH_seq (wH_ift rfl (drop_cons hD_39) (wH_skip ?_))
                unfold ref_WallFault_L3 at hc_42
                refine wH_seq ?_
                refine wH_block ?_
                refine wH_seq ?_
                refine wH_region ?_
                refine h_op (vI (k_36 : Int)) (wt rfl) rfl ?_
                refine h_ia es56 rfl rfl (drop_idx hD_39) rfl (wt rfl) ?_
                refine h_ldc sz99 ag99 rfl (.d (.agg (Screen.enc x_38))) rfl (wt rfl) ?_
                refine h_alloc 0 (.inl rfl) z99 rfl (wt rfl) (fun n_46 => ?_)
                refine h_op (vI (k_36 : Int)) (wt rfl) rfl ?_
                refine h_str 0 (.inl rfl) (fun _ _ _ => trivial) 1 sz99 rfl rfl [(vS x_38.Key), (vI x_38.On.X), (vI x_38.On.Y), (vI x_38.On.W), (vI x_38.On.H)] rfl (wt rfl) ?_
                refine h_nil ?_
                refine wH_seq ?_
                refine wH_region ?_
                refine h_far pl58_3 rfl 3 rfl (wt rfl) ?_
                refine h_ldr 0 0 (.inl rfl) (fun _ _ _ => trivial) sz56 ag56 rfl rfl (vL Screen.enc wv_1.Screens) rfl (wt rfl) ?_
                refine h_op (vI (k_36 : Int)) (wt rfl) rfl ?_
                obtain ⟨y_47, hy_48, hc_42⟩ := bind_some hc_42
                refine h_sublFalseTrue un56 sz99 (fun _ => rfl) rfl rfl hy_48 (wt rfl) ?_
                refine h_len un56 rfl (wt rfl) ?_
                refine h_op (vI 0) (wt rfl) rfl ?_
                refine h_nil ?_
                obtain ⟨o_57, hj_58, hc_42⟩ := bind_some hc_42
                obtain ⟨hn_53, hj_58⟩ := forL_some hj_58
                refine wH_join (β := (Unit)) (fun (s_54 : Unit) => ([(1, (.ref n_2 0 0)), (69, (vL Screen.enc wv_1.Screens)), (70, (vI (wv_1.Screens.length : Int))), (71, (vI (k_36 : Int)))] : List (Nat × V))) (fun (s_54 : Unit) => ([(n_2, some (.cells 4 [(vS wv_1.Key), (vI wv_1.W), (vI wv_1.H), (vL Screen.enc wv_1.Screens)])), (n_46, some (.cells 5 [(vS x_38.Key), (vI x_38.On.X), (vI x_38.On.Y), (vI x_38.On.W), (vI x_38.On.H)]))] : Hp)) (fun p => o_57 = .go p) ?_ ?_
                · refine wH_block ?_
                  refine wH_loop (β := Nat × (List Screen) × (Unit)) (fun p => (fun (k_49 : Nat) (l_50 : List Screen) (s_54 : Unit) => ([(1, (.ref n_2 0 0)), (8, (.ref n_46 0 0)), (69, (vL Screen.enc wv_1.Screens)), (70, (vI (wv_1.Screens.length : Int))), (71, (vI (k_36 : Int))), (79, (vL Screen.enc y_47)), (80, (vI (y_47.length : Int))), (81, (vI (k_49 : Int)))] : List (Nat × V))) p.1 p.2.1 p.2.2) (fun p => (fun (k_49 : Nat) (l_50 : List Screen) (s_54 : Unit) => ([(n_2, some (.cells 4 [(vS wv_1.Key), (vI wv_1.W), (vI wv_1.H), (vL Screen.enc wv_1.Screens)])), (n_46, some (.cells 5 [(vS x_38.Key), (vI x_38.On.X), (vI x_38.On.Y), (vI x_38.On.W), (vI x_38.On.H)]))] : Hp)) p.1 p.2.1 p.2.2) (fun p => forR (fun k x s => ref_WallFault_L2 x_38 k x s) p.2.1 p.1 p.2.2 = some o_57 ∧ (y_47).drop p.1 = p.2.1) (fun p => p.2.1.length) (0, y_47, ()) ⟨hj_58, rfl⟩ rfl (pre_r rfl) ?_
                  rintro ⟨k_49, l_50, s_54⟩ ⟨hL_56, hD_52⟩
                  dsimp only at hL_56 hD_52
                  cases l_50 with
                  | nil =>
                    replace hL_56 := some_inj hL_56
                    subst hL_56
                    refine wH_seq (wH_region (h_op (vB (decide ((k_49 : Int) < (y_47.length : Int)))) (wt rfl) rfl (h_nil ?_)))
                    refine wH_seq (wH_iff rfl (drop_nil hD_52) (wH_exit ?_))
                    exact cut_mk (s_54) rfl rfl (pre_r rfl)
                  | cons x_51 l_50 =>
                    obtain ⟨c_, hc_55, hL_56⟩ := bind_some hL_56
                    refine wH_seq (wH_region (h_op (vB (decide ((k_49 : Int) < (y_47.length : Int)))) (wt rfl) rfl (h_nil ?_)))
                    refine wH_seq (wH_ift rfl (drop_cons hD_52) (wH_skip ?_))
                    unfold ref_WallFault_L2 at hc_55
                    refine wH_seq ?_
                    refine wH_block ?_
                    refine wH_seq ?_
                    refine wH_region ?_
                    refine h_ia es56 rfl rfl (drop_idx hD_52) rfl (wt rfl) ?_
                    refine h_ldc sz99 ag99 rfl (.d (.agg (Screen.enc x_51))) rfl (wt rfl) ?_
                    refine h_alloc 0 (.inl rfl) z99 rfl (wt rfl) (fun n_59 => ?_)
                    refine h_str 0 (.inl rfl) (fun _ _ _ => trivial) 2 sz99 rfl rfl [(vS x_51.Key), (vI x_51.On.X), (vI x_51.On.Y), (vI x_51.On.W), (vI x_51.On.H)] rfl (wt rfl) ?_
                    refine h_nil ?_
                    refine wH_seq ?_
                    refine wH_region ?_
                    refine h_far pl99_1 rfl 1 rfl (wt rfl) ?_
                    refine h_ldr 0 1 (.inl rfl) (fun _ _ _ => trivial) sz49 ag49 rfl rfl (.d (.agg (Rect.enc x_38.On))) rfl (wt rfl) ?_
                    refine h_far pl99_1 rfl 1 rfl (wt rfl) ?_
                    refine h_ldr 0 2 (.inl rfl) (fun _ _ _ => trivial) sz49 ag49 rfl rfl (.d (.agg (Rect.enc x_51.On))) rfl (wt rfl) ?_
                    obtain ⟨r_60, hr_61, hc_55⟩ := bind_some hc_55
                    refine h_call0 (ref_MeetOf_ok hr_61) rfl hb68 rfl rfl rfl rfl (wt rfl) ?_
                    refine h_op (.tup [(.d (.agg (Rect.enc r_60.1))), (vB r_60.2)]) (wt rfl) rfl ?_
                    refine h_op (.d (.agg (Rect.enc r_60.1))) (wt rfl) rfl ?_
                    refine h_op (vB r_60.2) (wt rfl) rfl ?_
                    refine h_alloc 0 (.inl rfl) z49 rfl (wt rfl) (fun n_62 => ?_)
                    refine h_str 0 (.inl rfl) (fun _ _ _ => trivial) 3 sz49 rfl rfl [(vI r_60.1.X), (vI r_60.1.Y), (vI r_60.1.W), (vI r_60.1.H)] rfl (wt rfl) ?_
                    refine h_op (vB r_60.2) (wt rfl) rfl ?_
                    refine h_nil ?_
                    refine wH_seq ?_
                    refine wH_region ?_
                    refine h_op (vB r_60.2) (wt rfl) rfl ?_
                    refine h_nil ?_
                    rcases cond_some hc_55 with ⟨hc_63, hc_55⟩ | ⟨hc_63, hc_55⟩
                    · refine wH_ift rfl hc_63 ?_
                      refine wH_seq ?_
                      refine wH_region ?_
                      refine h_op (vI 13) (wt rfl) rfl ?_
                      refine h_nil ?_
                      replace hc_55 := some_inj hc_55
                      subst hc_55
                      replace hL_56 := some_inj hL_56
                      subst hL_56
                      replace hc_42 := some_inj hc_42
                      subst hc_42
                      replace hL_43 := some_inj hL_43
                      subst hL_43
                      replace hF := some_inj hF
                      subst hF
                      refine wH_ret ?_
                      exact fin0 (.inr rfl) [(vI 13)] ⟨rfl, trivial⟩ rfl rfl rfl
                    · refine wH_iff rfl hc_63 ?_
                      refine wH_skip ?_
                      refine wH_region ?_
                      refine h_opw (w64_next hD_52 hn_53) (wt rfl) rfl ?_
                      refine h_op (vI ((k_49 + 1 : Nat) : Int)) (wt rfl) rfl ?_
                      refine h_nil ?_
                      replace hc_55 := some_inj hc_55
                      subst hc_55
                      exact loop_mk (k_49 + 1, l_50, ()) ⟨hL_56, drop_next hD_52⟩ (Nat.lt_succ_self _) rfl (pre_r rfl)
                · rintro s_54 ho_ sl_ H_ hp_ hq_
                  subst ho_
                  refine wH_at _ hp_ hq_ ?_
                  refine wH_region ?_
                  refine h_opw (w64_next hD_39 hn_40) (wt rfl) rfl ?_
                  refine h_op (vI ((k_36 + 1 : Nat) : Int)) (wt rfl) rfl ?_
                  refine h_nil ?_
                  replace hc_42 := some_inj hc_42
                  subst hc_42
                  exact loop_mk (k_36 + 1, l_37, ()) ⟨hL_43, drop_next hD_39⟩ (Nat.lt_succ_self _) rfl (pre_r rfl)
            · rintro s_41 ho_ sl_ H_ hp_ hq_
              subst ho_
              refine wH_at _ hp_ hq_ ?_
              refine wH_seq ?_
              refine wH_region ?_
              refine h_op (vI 0) (wt rfl) rfl ?_
              refine h_nil ?_
              replace hF := some_inj hF
              subst hF
              refine wH_ret ?_
              exact fin0 (.inr rfl) [(vI 0)] ⟨rfl, trivial⟩ rfl rfl rfl
theorem mk_Stream_RightWall_ok {s_1 : Stream} {r : Wall × Stream} (hF : mk_Stream_RightWall s_1 = some r) :
    FnM Tryz.prog 60 [(.ref (extN 0) 0 0)] [(.cells 2 [(vL eI s_1.L), (vI s_1.f_at)])] (.d (.agg (Wall.enc r.1))) [some (.cells 2 [(vL eI r.2.L), (vI r.2.f_at)])] := by
  refine FnM.of_wH ⟨Tryz.prog, 73, [], []⟩ rfl Tryz.func60 rfl rfl (Nat.le_of_ble_eq_true rfl) (by kernel_rfl) ?_
  unfold mk_Stream_RightWall at hF
  refine wH_seq ?_
  refine wH_region ?_
  refine h_alloc 0 (.inl rfl) z58 rfl (wt rfl) (fun n_2 => ?_)
  refine h_nil ?_
  refine wH_seq ?_
  refine wH_region ?_
  refine h_op (.ref (extN 0) 0 0) (wt rfl) rfl ?_
  refine h_lit (([10, 20, 24, 100] : List Int).map eI) es22 ez22 rfl rfl rfl rfl rfl (wt rfl) ?_
  obtain ⟨r_3, hr_4, hF⟩ := bind_some hF
  refine h_callq 0 [0] (.inl rfl) (fun _ _ _ => trivial) (mk_Stream_Pick_ok hr_4) rfl hb39 rfl (by kernel_rfl) (by kernel_rfl) (by kernel_rfl) (by kernel_rfl) (by kernel_rfl) (by kernel_rfl) (by kernel_rfl) (by decide) (by kernel_rfl) (wt rfl) (vI r_3.1) (by kernel_rfl) ([((extN 0), some (.cells 2 [(vL eI r_3.2.L), (vI r_3.2.f_at)])), (n_2, some (.cells 4 [(vS (⟨#[]⟩ : ByteArray)), (vI 0), (vI 0), .nil]))] : Hp) (by kernel_rfl) ?_
  refine h_op (.ref (extN 0) 0 0) (wt rfl) rfl ?_
  refine h_lit (([6, 10, 30] : List Int).map eI) es22 ez22 rfl rfl rfl rfl rfl (wt rfl) ?_
  obtain ⟨r_6, hr_7, hF⟩ := bind_some hF
  refine h_callq 0 [0] (.inl rfl) (fun _ _ _ => trivial) (mk_Stream_Pick_ok hr_7) rfl hb39 rfl (by kernel_rfl) (by kernel_rfl) (by kernel_rfl) (by kernel_rfl) (by kernel_rfl) (by kernel_rfl) (by kernel_rfl) (by decide) (by kernel_rfl) (wt rfl) (vI r_6.1) (by kernel_rfl) ([((extN 0), some (.cells 2 [(vL eI r_6.2.L), (vI r_6.2.f_at)])), (n_2, some (.cells 4 [(vS (⟨#[]⟩ : ByteArray)), (vI 0), (vI 0), .nil]))] : Hp) (by kernel_rfl) ?_
  refine h_op (.agg [(vS (⟨#[119]⟩ : ByteArray)), (vI r_3.1), (vI r_6.1), .nil]) (wt rfl) (by kernel_rfl) ?_
  refine h_alloc 0 (.inl rfl) z58 rfl (wt rfl) (fun n_9 => ?_)
  refine h_str 0 (.inl rfl) (fun _ _ _ => trivial) 2 sz58 rfl rfl [(vS (⟨#[119]⟩ : ByteArray)), (vI r_3.1), (vI r_6.1), .nil] rfl (wt rfl) ?_
  refine h_nil ?_
  refine wH_seq ?_
  refine wH_seq ?_
  refine wH_region ?_
  refine h_lit (([(⟨#[115, 97]⟩ : ByteArray), (⟨#[115, 98]⟩ : ByteArray), (⟨#[115, 99]⟩ : ByteArray), (⟨#[115, 100]⟩ : ByteArray)] : List ByteArray).map eS) es38 ez38 rfl rfl rfl rfl rfl (wt rfl) ?_
  refine h_len un38 rfl (wt rfl) ?_
  refine h_op (vI 0) (wt rfl) rfl ?_
  refine h_nil ?_
  refine wH_coc0 2 [(vS (⟨#[119]⟩ : ByteArray)), (vI r_3.1), (vI r_6.1), (vL Screen.enc ([] : List Screen))] rfl (fun S => cons_eq (rfl) (cons_eq (rfl) (cons_eq (rfl) (cons_eq (rfl) (rfl))))) ?_
  obtain ⟨o_18, hj_19, hF⟩ := bind_some hF
  obtain ⟨hn_14, hj_19⟩ := forL_some hj_19
  refine wH_join (β := ((List Int) × Int × (List Screen))) (fun (s_15 : (List Int) × Int × (List Screen)) => ([(2, (.ref n_2 0 0)), (3, (.ref n_9 0 0))] : List (Nat × V))) (fun (s_15 : (List Int) × Int × (List Screen)) => ([((extN 0), some (.cells 2 [(vL eI s_15.1), (vI s_15.2.1)])), (n_2, some (.cells 4 [(vS (⟨#[]⟩ : ByteArray)), (vI 0), (vI 0), .nil])), (n_9, some (.cells 4 [(vS (⟨#[119]⟩ : ByteArray)), (vI r_3.1), (vI r_6.1), (vL Screen.enc s_15.2.2)]))] : Hp)) (fun p => o_18 = .go p) ?_ ?_
  · refine wH_block ?_
    refine wH_loop (β := Nat × (List ByteArray) × ((List Int) × Int × (List Screen))) (fun p => (fun (k_10 : Nat) (l_11 : List ByteArray) (s_15 : (List Int) × Int × (List Screen)) => ([(0, (.ref (extN 0) 0 0)), (2, (.ref n_2 0 0)), (3, (.ref n_9 0 0)), (16, (vL eS ([(⟨#[115, 97]⟩ : ByteArray), (⟨#[115, 98]⟩ : ByteArray), (⟨#[115, 99]⟩ : ByteArray), (⟨#[115, 100]⟩ : ByteArray)] : List ByteArray))), (17, (vI (([(⟨#[115, 97]⟩ : ByteArray), (⟨#[115, 98]⟩ : ByteArray), (⟨#[115, 99]⟩ : ByteArray), (⟨#[115, 100]⟩ : ByteArray)] : List ByteArray).length : Int))), (18, (vI (k_10 : Int)))] : List (Nat × V))) p.1 p.2.1 p.2.2) (fun p => (fun (k_10 : Nat) (l_11 : List ByteArray) (s_15 : (List Int) × Int × (List Screen)) => ([((extN 0), some (.cells 2 [(vL eI s_15.1), (vI s_15.2.1)])), (n_2, some (.cells 4 [(vS (⟨#[]⟩ : ByteArray)), (vI 0), (vI 0), .nil])), (n_9, some (.cells 4 [(vS (⟨#[119]⟩ : ByteArray)), (vI r_3.1), (vI r_6.1), (vL Screen.enc s_15.2.2)]))] : Hp)) p.1 p.2.1 p.2.2) (fun p => forR (fun k x s => mk_Stream_RightWall_L1 r_3 r_6 k x s) p.2.1 p.1 p.2.2 = some o_18 ∧ (([(⟨#[115, 97]⟩ : ByteArray), (⟨#[115, 98]⟩ : ByteArray), (⟨#[115, 99]⟩ : ByteArray), (⟨#[115, 100]⟩ : ByteArray)] : List ByteArray)).drop p.1 = p.2.1) (fun p => p.2.1.length) (0, ([(⟨#[115, 97]⟩ : ByteArray), (⟨#[115, 98]⟩ : ByteArray), (⟨#[115, 99]⟩ : ByteArray), (⟨#[115, 100]⟩ : ByteArray)] : List ByteArray), (r_6.2.L, r_6.2.f_at, ([] : List Screen))) ⟨hj_19, rfl⟩ rfl (pre_r rfl) ?_
    rintro ⟨k_10, l_11, s_15⟩ ⟨hL_17, hD_13⟩
    dsimp only at hL_17 hD_13
    cases l_11 with
    | nil =>
      replace hL_17 := some_inj hL_17
      subst hL_17
      refine wH_seq (wH_region (h_op (vB (decide ((k_10 : Int) < (([(⟨#[115, 97]⟩ : ByteArray), (⟨#[115, 98]⟩ : ByteArray), (⟨#[115, 99]⟩ : ByteArray), (⟨#[115, 100]⟩ : ByteArray)] : List ByteArray).length : Int)))) (wt rfl) rfl (h_nil ?_)))
      refine wH_seq (wH_iff rfl (drop_nil hD_13) (wH_exit ?_))
      exact cut_mk (s_15) rfl rfl (pre_r rfl)
    | cons x_12 l_11 =>
      obtain ⟨c_, hc_16, hL_17⟩ := bind_some hL_17
      refine wH_seq (wH_region (h_op (vB (decide ((k_10 : Int) < (([(⟨#[115, 97]⟩ : ByteArray), (⟨#[115, 98]⟩ : ByteArray), (⟨#[115, 99]⟩ : ByteArray), (⟨#[115, 100]⟩ : ByteArray)] : List ByteArray).length : Int)))) (wt rfl) rfl (h_nil ?_)))
      refine wH_seq (wH_ift rfl (drop_cons hD_13) (wH_skip ?_))
      unfold mk_Stream_RightWall_L1 at hc_16
      refine wH_seq ?_
      refine wH_block ?_
      refine wH_seq ?_
      refine wH_region ?_
      refine h_ia es38 rfl rfl (drop_idx hD_13) rfl (wt rfl) ?_
      refine h_ldc sz9 ag9 rfl (vS x_12) rfl (wt rfl) ?_
      refine h_op (vS x_12) (wt rfl) rfl ?_
      refine h_nil ?_
      refine wH_seq ?_
      refine wH_draws ?_
      refine h_op (vS x_12) (wt rfl) rfl ?_
      refine h_op (.ref (extN 0) 0 0) (wt rfl) rfl ?_
      refine h_far pl58_1 rfl 1 rfl (wt rfl) ?_
      refine h_ldr 3 2 (.inr (by kernel_rfl)) (fun _ _ ag => trivial) sz3 ag3 rfl rfl (vI r_3.1) rfl (wt rfl) ?_
      refine h_op (vI (w64 (r_3.1 - 1))) (wt rfl) rfl ?_
      obtain ⟨r_20, hr_21, hc_16⟩ := bind_some hc_16
      refine h_callq 5 [0] (.inr (by kernel_rfl)) (fun _ _ ag => by exact ⟨.inr (.inr (by kernel_rfl)), trivial⟩) (mk_Stream_Range_ok hr_21) rfl hb6 rfl (by kernel_rfl) (by kernel_rfl) (by kernel_rfl) (by kernel_rfl) (by kernel_rfl) (by kernel_rfl) (by kernel_rfl) (by decide) (by kernel_rfl) (wt rfl) (vI r_20.1) (by kernel_rfl) ([((extN 0), some (.cells 2 [(vL eI r_20.2.L), (vI r_20.2.f_at)])), (n_2, some (.cells 4 [(vS (⟨#[]⟩ : ByteArray)), (vI 0), (vI 0), .nil])), (n_9, some (.cells 4 [(vS (⟨#[119]⟩ : ByteArray)), (vI r_3.1), (vI r_6.1), (vL Screen.enc s_15.2.2)]))] : Hp) (by kernel_rfl) ?_
      refine h_op (.ref (extN 0) 0 0) (wt rfl) rfl ?_
      refine h_far pl58_2 rfl 2 rfl (wt rfl) ?_
      refine h_ldr 8 2 (.inr (by kernel_rfl)) (fun _ _ ag => ⟨.inl ⟨rfl, rfl⟩, ⟨.inr (.inl (dis1 (ag_ne ag (i := 2) (j := 0) rfl rfl (by decide)))), trivial⟩⟩) sz3 ag3 rfl rfl (vI r_6.1) rfl (wt rfl) ?_
      refine h_op (vI (w64 (r_6.1 - 1))) (wt rfl) rfl ?_
      obtain ⟨r_23, hr_24, hc_16⟩ := bind_some hc_16
      refine h_callq 10 [0] (.inr (by kernel_rfl)) (fun _ _ ag => by exact ⟨.inr (.inr (by kernel_rfl)), ⟨.inr (.inr (by kernel_rfl)), ⟨.inr (.inr (by kernel_rfl)), trivial⟩⟩⟩) (mk_Stream_Range_ok hr_24) rfl hb6 rfl (by kernel_rfl) (by kernel_rfl) (by kernel_rfl) (by kernel_rfl) (by kernel_rfl) (by kernel_rfl) (by kernel_rfl) (by decide) (by kernel_rfl) (wt rfl) (vI r_23.1) (by kernel_rfl) ([((extN 0), some (.cells 2 [(vL eI r_23.2.L), (vI r_23.2.f_at)])), (n_2, some (.cells 4 [(vS (⟨#[]⟩ : ByteArray)), (vI 0), (vI 0), .nil])), (n_9, some (.cells 4 [(vS (⟨#[119]⟩ : ByteArray)), (vI r_3.1), (vI r_6.1), (vL Screen.enc s_15.2.2)]))] : Hp) (by kernel_rfl) ?_
      refine h_op (.d (.agg (Rect.enc (⟨r_20.1, r_23.1, 0, 0⟩ : Rect)))) (wt rfl) (by kernel_rfl) ?_
      refine h_op (.d (.agg (Screen.enc (⟨x_12, (⟨r_20.1, r_23.1, 0, 0⟩ : Rect)⟩ : Screen)))) (wt rfl) (by kernel_rfl) ?_
      refine h_alloc 13 (.inr (by kernel_rfl)) z99 rfl (wt rfl) (fun n_26 => ?_)
      refine h_str 14 (.inr (by kernel_rfl)) (fun _ _ ag => ⟨.inr (.inr (by kernel_rfl)), ⟨.inr (.inr (by kernel_rfl)), ⟨.inr (.inr (by kernel_rfl)), ⟨.inr (.inr (by kernel_rfl)), ⟨.inr (.inr (by kernel_rfl)), trivial⟩⟩⟩⟩⟩) 3 sz99 rfl rfl [(vS x_12), (vI r_20.1), (vI r_23.1), (vI 0), (vI 0)] rfl (wt rfl) ?_
      refine h_nil ?_
      refine wH_seq ?_
      refine wH_draws ?_
      refine h_op (.ref (extN 0) 0 0) (wt rfl) rfl ?_
      refine h_far pl58_1 rfl 1 rfl (wt rfl) ?_
      refine h_ldr 2 2 (.inr (by kernel_rfl)) (fun _ _ ag => trivial) sz3 ag3 rfl rfl (vI r_3.1) rfl (wt rfl) ?_
      refine h_far pl99_1 rfl 1 rfl (wt rfl) ?_
      refine h_far pl49_0 rfl 1 rfl (wt rfl) ?_
      refine h_ldr 5 3 (.inr (by kernel_rfl)) (fun _ _ ag => ⟨.inl ⟨rfl, rfl⟩, trivial⟩) sz3 ag3 rfl rfl (vI r_20.1) rfl (wt rfl) ?_
      refine h_op (vI (w64 (r_3.1 - r_20.1))) (wt rfl) rfl ?_
      obtain ⟨r_27, hr_28, hc_16⟩ := bind_some hc_16
      refine h_callq 7 [0] (.inr (by kernel_rfl)) (fun _ _ ag => by exact ⟨.inr (.inr (by kernel_rfl)), ⟨.inr (.inr (by kernel_rfl)), trivial⟩⟩) (mk_Stream_Range_ok hr_28) rfl hb6 rfl (by kernel_rfl) (by kernel_rfl) (by kernel_rfl) (by kernel_rfl) (by kernel_rfl) (by kernel_rfl) (by kernel_rfl) (by decide) (by kernel_rfl) (wt rfl) (vI r_27.1) (by kernel_rfl) ([((extN 0), some (.cells 2 [(vL eI r_27.2.L), (vI r_27.2.f_at)])), (n_2, some (.cells 4 [(vS (⟨#[]⟩ : ByteArray)), (vI 0), (vI 0), .nil])), (n_9, some (.cells 4 [(vS (⟨#[119]⟩ : ByteArray)), (vI r_3.1), (vI r_6.1), (vL Screen.enc s_15.2.2)])), (n_26, some (.cells 5 [(vS x_12), (vI r_20.1), (vI r_23.1), (vI 0), (vI 0)]))] : Hp) (by kernel_rfl) ?_
      refine h_op (.ref (extN 0) 0 0) (wt rfl) rfl ?_
      refine h_far pl58_2 rfl 2 rfl (wt rfl) ?_
      refine h_ldr 10 2 (.inr (by kernel_rfl)) (fun _ _ ag => ⟨.inl ⟨rfl, rfl⟩, ⟨.inl ⟨rfl, rfl⟩, ⟨.inr (.inl (dis1 (ag_ne ag (i := 2) (j := 0) rfl rfl (by decide)))), trivial⟩⟩⟩) sz3 ag3 rfl rfl (vI r_6.1) rfl (wt rfl) ?_
      refine h_far pl99_1 rfl 1 rfl (wt rfl) ?_
      refine h_far pl49_1 rfl 2 rfl (wt rfl) ?_
      refine h_ldr 13 3 (.inr (by kernel_rfl)) (fun _ _ ag => ⟨.inl ⟨rfl, rfl⟩, ⟨.inl ⟨rfl, rfl⟩, ⟨.inr (.inl (dis1 (ag_ne ag (i := 3) (j := 0) rfl rfl (by decide)))), ⟨.inl ⟨rfl, rfl⟩, trivial⟩⟩⟩⟩) sz3 ag3 rfl rfl (vI r_23.1) rfl (wt rfl) ?_
      refine h_op (vI (w64 (r_6.1 - r_23.1))) (wt rfl) rfl ?_
      obtain ⟨r_30, hr_31, hc_16⟩ := bind_some hc_16
      refine h_callq 15 [0] (.inr (by kernel_rfl)) (fun _ _ ag => by exact ⟨.inr (.inr (by kernel_rfl)), ⟨.inr (.inr (by kernel_rfl)), ⟨.inr (.inr (by kernel_rfl)), ⟨.inr (.inr (by kernel_rfl)), ⟨.inr (.inr (by kernel_rfl)), trivial⟩⟩⟩⟩⟩) (mk_Stream_Range_ok hr_31) rfl hb6 rfl (by kernel_rfl) (by kernel_rfl) (by kernel_rfl) (by kernel_rfl) (by kernel_rfl) (by kernel_rfl) (by kernel_rfl) (by decide) (by kernel_rfl) (wt rfl) (vI r_30.1) (by kernel_rfl) ([((extN 0), some (.cells 2 [(vL eI r_30.2.L), (vI r_30.2.f_at)])), (n_2, some (.cells 4 [(vS (⟨#[]⟩ : ByteArray)), (vI 0), (vI 0), .nil])), (n_9, some (.cells 4 [(vS (⟨#[119]⟩ : ByteArray)), (vI r_3.1), (vI r_6.1), (vL Screen.enc s_15.2.2)])), (n_26, some (.cells 5 [(vS x_12), (vI r_20.1), (vI r_23.1), (vI 0), (vI 0)]))] : Hp) (by kernel_rfl) ?_
      refine h_far pl99_1 rfl 1 rfl (wt rfl) ?_
      refine h_far pl49_2 rfl 3 rfl (wt rfl) ?_
      refine h_str 18 (.inr (by kernel_rfl)) (fun _ _ ag => ⟨.inr (.inr (by kernel_rfl)), ⟨.inr (.inr (by kernel_rfl)), ⟨.inr (.inr (by kernel_rfl)), ⟨.inr (.inr (by kernel_rfl)), ⟨.inr (.inr (by kernel_rfl)), ⟨.inr (.inr (by kernel_rfl)), trivial⟩⟩⟩⟩⟩⟩) 3 sz3 rfl rfl [(vS x_12), (vI r_20.1), (vI r_23.1), (vI r_27.1), (vI 0)] rfl (wt rfl) ?_
      refine h_far pl99_1 rfl 1 rfl (wt rfl) ?_
      refine h_far pl49_3 rfl 4 rfl (wt rfl) ?_
      refine h_str 21 (.inr (by kernel_rfl)) (fun _ _ ag => ⟨.inr (.inr (by kernel_rfl)), ⟨.inr (.inr (by kernel_rfl)), ⟨.inr (.inr (by kernel_rfl)), ⟨.inr (.inr (by kernel_rfl)), ⟨.inr (.inr (by kernel_rfl)), ⟨.inr (.inr (by kernel_rfl)), ⟨.inr (.inr (by kernel_rfl)), trivial⟩⟩⟩⟩⟩⟩⟩) 3 sz3 rfl rfl [(vS x_12), (vI r_20.1), (vI r_23.1), (vI r_27.1), (vI r_30.1)] rfl (wt rfl) ?_
      refine h_nil ?_
      refine wH_at (H0 := ([((extN 0), some (.cells 2 [(vL eI r_30.2.L), (vI r_30.2.f_at)])), (n_2, some (.cells 4 [(vS (⟨#[]⟩ : ByteArray)), (vI 0), (vI 0), .nil])), (n_9, some (.cells 4 [(vS (⟨#[119]⟩ : ByteArray)), (vI r_3.1), (vI r_6.1), (vL Screen.enc s_15.2.2)])), (n_26, some (.cells 5 [(vS x_12), (vI r_20.1), (vI r_23.1), (vI r_27.1), (vI r_30.1)]))] : Hp)) ([(0, (.ref (extN 0) 0 0)), (2, (.ref n_2 0 0)), (3, (.ref n_9 0 0)), (6, (.ref n_26 0 0)), (16, (vL eS ([(⟨#[115, 97]⟩ : ByteArray), (⟨#[115, 98]⟩ : ByteArray), (⟨#[115, 99]⟩ : ByteArray), (⟨#[115, 100]⟩ : ByteArray)] : List ByteArray))), (17, (vI (([(⟨#[115, 97]⟩ : ByteArray), (⟨#[115, 98]⟩ : ByteArray), (⟨#[115, 99]⟩ : ByteArray), (⟨#[115, 100]⟩ : ByteArray)] : List ByteArray).length : Int))), (18, (vI (k_10 : Int)))] : List (Nat × V)) (by kernel_rfl) (pre_mk (by kernel_rfl)) ?_
      refine wH_seq ?_
      refine wH_draws ?_
      refine h_far pl58_3 rfl 3 rfl (wt rfl) ?_
      refine h_ldr 1 2 (.inr (by kernel_rfl)) (fun _ _ ag => trivial) sz56 ag56 rfl rfl (vL Screen.enc s_15.2.2) rfl (wt rfl) ?_
      obtain ⟨r_33, hr_34, hc_16⟩ := bind_some hc_16
      refine h_callgq 2 (.inr (by kernel_rfl)) (slices_Clone_api_Screen_api_Screen_okb hr_34) rfl hb61 (by kernel_rfl) (by kernel_rfl) (by kernel_rfl) (wt rfl) (fun n_35 => ?_)
      refine h_ldr 3 3 (.inr (by kernel_rfl)) (fun _ _ ag => ⟨.inl ⟨rfl, rfl⟩, ⟨.inr (.inl (dis1 (ag_ne ag (i := 3) (j := 4) rfl rfl (by decide)))), trivial⟩⟩) sz99 ag99 rfl rfl (.d (.agg (Screen.enc (⟨x_12, (⟨r_20.1, r_23.1, r_27.1, r_30.1⟩ : Rect)⟩ : Screen)))) rfl (wt rfl) ?_
      refine h_lit (([(⟨x_12, (⟨r_20.1, r_23.1, r_27.1, r_30.1⟩ : Rect)⟩ : Screen)] : List Screen).map Screen.enc) es56 ez56 rfl rfl rfl rfl rfl (wt rfl) ?_
      obtain ⟨a_36, hz_37, hc_16⟩ := bind_some hc_16
      refine h_appg 5 (.inr (by kernel_rfl)) (fun _ _ ag => ⟨.inr (.inr (by kernel_rfl)), ⟨.inr (.inr (by kernel_rfl)), ⟨.inr (.inr (by kernel_rfl)), trivial⟩⟩⟩) (i := 4) el56 el56 sz99 z99 rfl (by decide) by99 (by decide) (fun _ => rfl) rfl rfl rfl hz_37 (wt rfl) (fun n_38 => ?_)
      refine h_op (gV n_38 5 a_36) (wt rfl) rfl ?_
      refine h_nil ?_
      refine wH_seq ?_
      refine wH_region ?_
      refine h_ldr 0 2 (.inl rfl) (fun _ _ _ => trivial) sz58 ag58 rfl rfl (.d (.agg (Wall.enc (⟨(⟨#[119]⟩ : ByteArray), r_3.1, r_6.1, s_15.2.2⟩ : Wall)))) rfl (wt rfl) ?_
      refine h_alloc 0 (.inl rfl) z58 rfl (wt rfl) (fun n_39 => ?_)
      refine h_str 0 (.inl rfl) (fun _ _ _ => trivial) 5 sz58 rfl rfl [(vS (⟨#[119]⟩ : ByteArray)), (vI r_3.1), (vI r_6.1), (vL Screen.enc s_15.2.2)] rfl (wt rfl) ?_
      refine h_nil ?_
      refine wH_seq ?_
      refine wH_region ?_
      refine h_op (.ref (extN 0) 0 0) (wt rfl) rfl ?_
      obtain ⟨r_40, hr_41, hc_16⟩ := bind_some hc_16
      refine h_callq 0 [0] (.inl rfl) (fun _ _ _ => trivial) (mk_Stream_Flip_ok hr_41) rfl hb7 rfl (by kernel_rfl) (by kernel_rfl) (by kernel_rfl) (by kernel_rfl) (by kernel_rfl) (by kernel_rfl) (by kernel_rfl) (by decide) (by kernel_rfl) (wt rfl) (vB r_40.1) (by kernel_rfl) ([((extN 0), some (.cells 2 [(vL eI r_40.2.L), (vI r_40.2.f_at)])), (n_2, some (.cells 4 [(vS (⟨#[]⟩ : ByteArray)), (vI 0), (vI 0), .nil])), (n_9, some (.cells 4 [(vS (⟨#[119]⟩ : ByteArray)), (vI r_3.1), (vI r_6.1), (vL Screen.enc s_15.2.2)])), (n_26, some (.cells 5 [(vS x_12), (vI r_20.1), (vI r_23.1), (vI r_27.1), (vI r_30.1)])), (n_38, gB 5 Screen.enc a_36), (n_39, some (.cells 4 [(vS (⟨#[119]⟩ : ByteArray)), (vI r_3.1), (vI r_6.1), (vL Screen.enc s_15.2.2)]))] : Hp) (by kernel_rfl) ?_
      refine h_op (vB (!r_40.1)) (wt rfl) rfl ?_
      refine h_nil ?_
      obtain ⟨v_43, h_44, hc_16⟩ := bind_some hc_16
      refine wH_join (β := Unit) (fun _ => ([(0, (.ref (extN 0) 0 0)), (2, (.ref n_2 0 0)), (3, (.ref n_9 0 0)), (16, (vL eS ([(⟨#[115, 97]⟩ : ByteArray), (⟨#[115, 98]⟩ : ByteArray), (⟨#[115, 99]⟩ : ByteArray), (⟨#[115, 100]⟩ : ByteArray)] : List ByteArray))), (17, (vI (([(⟨#[115, 97]⟩ : ByteArray), (⟨#[115, 98]⟩ : ByteArray), (⟨#[115, 99]⟩ : ByteArray), (⟨#[115, 100]⟩ : ByteArray)] : List ByteArray).length : Int))), (18, (vI (k_10 : Int)))] : List (Nat × V))) (fun _ => ([((extN 0), some (.cells 2 [(vL eI r_40.2.L), (vI r_40.2.f_at)])), (n_2, some (.cells 4 [(vS (⟨#[]⟩ : ByteArray)), (vI 0), (vI 0), .nil])), (n_9, some (.cells 4 [(vS (⟨#[119]⟩ : ByteArray)), (vI r_3.1), (vI r_6.1), (vL Screen.enc v_43.1)])), (n_26, some (.cells 5 [(vS x_12), (vI r_20.1), (vI r_23.1), (vI r_27.1), (vI r_30.1)])), (n_39, some (.cells 4 [(vS (⟨#[119]⟩ : ByteArray)), (vI r_3.1), (vI r_6.1), (vL Screen.enc v_43.2)]))] : Hp)) (fun _ => True) ?_ ?_
      · rcases cond_some h_44 with ⟨hc_45, h_44⟩ | ⟨hc_45, h_44⟩
        · refine wH_ift rfl hc_45 ?_
          refine wH_seq ?_
          refine wH_region ?_
          refine h_op (gV n_38 5 a_36) (wt rfl) rfl ?_
          refine h_far pl58_3 rfl 3 rfl (wt rfl) ?_
          refine h_str 0 (.inl rfl) (fun _ _ _ => trivial) 5 sz56 rfl rfl [(vS (⟨#[119]⟩ : ByteArray)), (vI r_3.1), (vI r_6.1), (gV n_38 5 a_36)] (stC_g rfl) (wt rfl) ?_
          refine h_nil ?_
          refine wH_seq ?_
          refine wH_frozg 4 rfl ?_
          refine wH_cog 7 4 rfl rfl ?_
          refine wH_cog 60 4 rfl rfl ?_
          refine wH_cog 65 4 rfl rfl ?_
          refine wH_coc 4 5 [(vS (⟨#[119]⟩ : ByteArray)), (vI r_3.1), (vI r_6.1), (vL Screen.enc a_36)] rfl rfl (fun S hS => cons_eq (rfl) (cons_eq (rfl) (cons_eq (rfl) (cons_eq (hS) (rfl))))) ?_
          refine wH_region ?_
          refine h_ldr 0 5 (.inl rfl) (fun _ _ _ => trivial) sz58 ag58 rfl rfl (.d (.agg (Wall.enc (⟨(⟨#[119]⟩ : ByteArray), r_3.1, r_6.1, a_36⟩ : Wall)))) rfl (wt rfl) ?_
          obtain ⟨r_46, hr_47, h_44⟩ := bind_some h_44
          refine h_call0 (ref_WallFault_ok hr_47) rfl hb27 rfl rfl rfl rfl (wt rfl) ?_
          refine h_op (vB (r_46 == 0)) (wt rfl) rfl ?_
          refine h_nil ?_
          rcases cond_some h_44 with ⟨hc_48, h_44⟩ | ⟨hc_48, h_44⟩
          · refine wH_ift rfl hc_48 ?_
            refine wH_region ?_
            refine h_ldr 0 5 (.inl rfl) (fun _ _ _ => trivial) sz58 ag58 rfl rfl (.d (.agg (Wall.enc (⟨(⟨#[119]⟩ : ByteArray), r_3.1, r_6.1, a_36⟩ : Wall)))) rfl (wt rfl) ?_
            refine h_str 0 (.inl rfl) (fun _ _ _ => trivial) 2 sz58 rfl rfl [(vS (⟨#[119]⟩ : ByteArray)), (vI r_3.1), (vI r_6.1), (vL Screen.enc a_36)] rfl (wt rfl) ?_
            refine h_nil ?_
            replace h_44 := some_inj h_44
            subst h_44
            exact cut_mk () trivial rfl (pre_is [0, 1, 2, 3, 5] (by decide) rfl)
          · refine wH_iff rfl hc_48 ?_
            refine wH_skip ?_
            replace h_44 := some_inj h_44
            subst h_44
            exact cut_mk () trivial rfl (pre_is [0, 1, 2, 3, 5] (by decide) rfl)
        · refine wH_iff rfl hc_45 ?_
          refine wH_skip ?_
          replace h_44 := some_inj h_44
          subst h_44
          exact cut_mk () trivial rfl (pre_is [0, 1, 2, 3, 5] (by decide) rfl)
      · rintro ⟨⟩ _ sl_ H_ hp_ hq_
        refine wH_at _ hp_ hq_ ?_
        refine wH_region ?_
        refine h_opw (w64_next hD_13 hn_14) (wt rfl) rfl ?_
        refine h_op (vI ((k_10 + 1 : Nat) : Int)) (wt rfl) rfl ?_
        refine h_nil ?_
        replace hc_16 := some_inj hc_16
        subst hc_16
        exact loop_mk (k_10 + 1, l_11, (r_40.2.L, r_40.2.f_at, v_43.1)) ⟨hL_17, drop_next hD_13⟩ (Nat.lt_succ_self _) rfl (pre_r rfl)
  · rintro s_15 ho_ sl_ H_ hp_ hq_
    subst ho_
    refine wH_at _ hp_ hq_ ?_
    refine wH_seq ?_
    refine wH_region ?_
    refine h_ldr 0 2 (.inl rfl) (fun _ _ _ => trivial) sz58 ag58 rfl rfl (.d (.agg (Wall.enc (⟨(⟨#[119]⟩ : ByteArray), r_3.1, r_6.1, s_15.2.2⟩ : Wall)))) rfl (wt rfl) ?_
    refine h_str 0 (.inl rfl) (fun _ _ _ => trivial) 1 sz58 rfl rfl [(vS (⟨#[119]⟩ : ByteArray)), (vI r_3.1), (vI r_6.1), (vL Screen.enc s_15.2.2)] rfl (wt rfl) ?_
    refine h_nil ?_
    replace hF := some_inj hF
    subst hF
    refine wH_ret ?_
    exact finB (.inr rfl) [(.d (.agg (Wall.enc (⟨(⟨#[119]⟩ : ByteArray), r_3.1, r_6.1, s_15.2.2⟩ : Wall))))] _ [0] [extN 0] ⟨⟨1, _, _, _, _, _, _, _, rfl, rfl, sz58, ag58, rfl⟩, trivial⟩ (.cons (co_data rfl rfl) (.nil)) (by kernel_rfl) ⟨(by kernel_rfl), trivial⟩ (by decide) (by kernel_rfl)
theorem mk_Stream_Some_ok {s_1 : Stream} {l_2 : (List ByteArray)} {r : ByteArray × Stream} (hF : mk_Stream_Some s_1 l_2 = some r) :
    FnM Tryz.prog 37 [(.ref (extN 0) 0 0), (vL eS l_2)] [(.cells 2 [(vL eI s_1.L), (vI s_1.f_at)])] (vS r.1) [some (.cells 2 [(vL eI r.2.L), (vI r.2.f_at)])] := by
  refine FnM.of_wH ⟨Tryz.prog, 12, [], []⟩ rfl Tryz.func37 rfl rfl (Nat.le_of_ble_eq_true rfl) (by kernel_rfl) ?_
  unfold mk_Stream_Some at hF
  refine wH_seq ?_
  refine wH_region ?_
  refine h_op (vS (⟨#[]⟩ : ByteArray)) (wt rfl) rfl ?_
  refine h_nil ?_
  refine wH_seq ?_
  refine wH_region ?_
  refine h_op (vL eS l_2) (wt rfl) rfl ?_
  refine h_op (.ref (extN 0) 0 0) (wt rfl) rfl ?_
  refine h_op (vL eS l_2) (wt rfl) rfl ?_
  refine h_len un38 rfl (wt rfl) ?_
  obtain ⟨r_3, hr_4, hF⟩ := bind_some hF
  refine h_callq 0 [0] (.inl rfl) (fun _ _ _ => trivial) (mk_Stream_Next_ok hr_4) rfl hb36 rfl (by kernel_rfl) (by kernel_rfl) (by kernel_rfl) (by kernel_rfl) (by kernel_rfl) (by kernel_rfl) (by kernel_rfl) (by decide) (by kernel_rfl) (wt rfl) (vI r_3.1) (by kernel_rfl) ([((extN 0), some (.cells 2 [(vL eI r_3.2.L), (vI r_3.2.f_at)]))] : Hp) (by kernel_rfl) ?_
  obtain ⟨y_6, hy_7, hF⟩ := bind_some hF
  refine h_ia es38 rfl rfl hy_7 rfl (wt rfl) ?_
  refine h_ldc sz9 ag9 rfl (vS y_6) rfl (wt rfl) ?_
  refine h_op (vS y_6) (wt rfl) rfl ?_
  refine h_nil ?_
  replace hF := some_inj hF
  subst hF
  refine wH_ret ?_
  exact finB (.inr rfl) [(vS y_6)] _ [0] [extN 0] ⟨rfl, trivial⟩ (.cons (co_data rfl rfl) (.nil)) (by kernel_rfl) ⟨(by kernel_rfl), trivial⟩ (by decide) (by kernel_rfl)
theorem mk_Stream_Odd_ok {s_1 : Stream} {low_2 : Int} {high_3 : Int} {r : Int × Stream} (hF : mk_Stream_Odd s_1 low_2 high_3 = some r) :
    FnM Tryz.prog 8 [(.ref (extN 0) 0 0), (vI low_2), (vI high_3)] [(.cells 2 [(vL eI s_1.L), (vI s_1.f_at)])] (vI r.1) [some (.cells 2 [(vL eI r.2.L), (vI r.2.f_at)])] := by
  refine FnM.of_wH ⟨Tryz.prog, 22, [], []⟩ rfl Tryz.func8 rfl rfl (Nat.le_of_ble_eq_true rfl) (by kernel_rfl) ?_
  unfold mk_Stream_Odd at hF
  refine wH_seq ?_
  refine wH_region ?_
  refine h_op (vI 0) (wt rfl) rfl ?_
  refine h_nil ?_
  refine wH_seq ?_
  refine wH_seq ?_
  refine wH_region ?_
  refine h_op (.ref (extN 0) 0 0) (wt rfl) rfl ?_
  obtain ⟨r_4, hr_5, hF⟩ := bind_some hF
  refine h_callq 0 [0] (.inl rfl) (fun _ _ _ => trivial) (mk_Stream_Flip_ok hr_5) rfl hb7 rfl (by kernel_rfl) (by kernel_rfl) (by kernel_rfl) (by kernel_rfl) (by kernel_rfl) (by kernel_rfl) (by kernel_rfl) (by decide) (by kernel_rfl) (wt rfl) (vB r_4.1) (by kernel_rfl) ([((extN 0), some (.cells 2 [(vL eI r_4.2.L), (vI r_4.2.f_at)]))] : Hp) (by kernel_rfl) ?_
  refine h_nil ?_
  rcases cond_some hF with ⟨hc_7, hF⟩ | ⟨hc_7, hF⟩
  · refine wH_ift rfl hc_7 ?_
    refine wH_seq ?_
    refine wH_region ?_
    refine h_op (.ref (extN 0) 0 0) (wt rfl) rfl ?_
    refine h_op (vI low_2) (wt rfl) rfl ?_
    refine h_op (vI (w64 (low_2 - 1))) (wt rfl) rfl ?_
    refine h_op (vI high_3) (wt rfl) rfl ?_
    refine h_op (vI (w64 (high_3 + 1))) (wt rfl) rfl ?_
    refine h_op (vI low_2) (wt rfl) rfl ?_
    refine h_op (vI high_3) (wt rfl) rfl ?_
    refine h_lit (([(w64 (low_2 - 1)), (w64 (high_3 + 1)), low_2, high_3, (-1099511627776), 1099511627776] : List Int).map eI) es22 ez22 rfl rfl rfl rfl rfl (wt rfl) ?_
    obtain ⟨r_8, hr_9, hF⟩ := bind_some hF
    refine h_callq 0 [0] (.inl rfl) (fun _ _ _ => trivial) (mk_Stream_Pick_ok hr_9) rfl hb39 rfl (by kernel_rfl) (by kernel_rfl) (by kernel_rfl) (by kernel_rfl) (by kernel_rfl) (by kernel_rfl) (by kernel_rfl) (by decide) (by kernel_rfl) (wt rfl) (vI r_8.1) (by kernel_rfl) ([((extN 0), some (.cells 2 [(vL eI r_8.2.L), (vI r_8.2.f_at)]))] : Hp) (by kernel_rfl) ?_
    refine h_op (vI r_8.1) (wt rfl) rfl ?_
    refine h_nil ?_
    replace hF := some_inj hF
    subst hF
    refine wH_ret ?_
    exact finB (.inr rfl) [(vI r_8.1)] _ [0] [extN 0] ⟨rfl, trivial⟩ (.cons (co_data rfl rfl) (.nil)) (by kernel_rfl) ⟨(by kernel_rfl), trivial⟩ (by decide) (by kernel_rfl)
  · refine wH_iff rfl hc_7 ?_
    refine wH_skip ?_
    refine wH_seq ?_
    refine wH_region ?_
    refine h_op (.ref (extN 0) 0 0) (wt rfl) rfl ?_
    refine h_op (vI low_2) (wt rfl) rfl ?_
    refine h_op (vI high_3) (wt rfl) rfl ?_
    obtain ⟨r_11, hr_12, hF⟩ := bind_some hF
    refine h_callq 0 [0] (.inl rfl) (fun _ _ _ => trivial) (mk_Stream_Range_ok hr_12) rfl hb6 rfl (by kernel_rfl) (by kernel_rfl) (by kernel_rfl) (by kernel_rfl) (by kernel_rfl) (by kernel_rfl) (by kernel_rfl) (by decide) (by kernel_rfl) (wt rfl) (vI r_11.1) (by kernel_rfl) ([((extN 0), some (.cells 2 [(vL eI r_11.2.L), (vI r_11.2.f_at)]))] : Hp) (by kernel_rfl) ?_
    refine h_op (vI r_11.1) (wt rfl) rfl ?_
    refine h_nil ?_
    replace hF := some_inj hF
    subst hF
    refine wH_ret ?_
    exact finB (.inr rfl) [(vI r_11.1)] _ [0] [extN 0] ⟨rfl, trivial⟩ (.cons (co_data rfl rfl) (.nil)) (by kernel_rfl) ⟨(by kernel_rfl), trivial⟩ (by decide) (by kernel_rfl)
theorem mk_Stream_RightRect_ok {s_1 : Stream} {r : Rect × Stream} (hF : mk_Stream_RightRect s_1 = some r) :
    FnM Tryz.prog 62 [(.ref (extN 0) 0 0)] [(.cells 2 [(vL eI s_1.L), (vI s_1.f_at)])] (.d (.agg (Rect.enc r.1))) [some (.cells 2 [(vL eI r.2.L), (vI r.2.f_at)])] := by
  refine FnM.of_wH ⟨Tryz.prog, 12, [], []⟩ rfl Tryz.func62 rfl rfl (Nat.le_of_ble_eq_true rfl) (by kernel_rfl) ?_
  unfold mk_Stream_RightRect at hF
  refine wH_seq ?_
  refine wH_region ?_
  refine h_alloc 0 (.inl rfl) z49 rfl (wt rfl) (fun n_2 => ?_)
  refine h_nil ?_
  refine wH_seq ?_
  refine wH_region ?_
  refine h_op (.ref (extN 0) 0 0) (wt rfl) rfl ?_
  obtain ⟨r_3, hr_4, hF⟩ := bind_some hF
  refine h_callq 0 [0] (.inl rfl) (fun _ _ _ => trivial) (mk_Stream_Range_ok hr_4) rfl hb6 rfl (by kernel_rfl) (by kernel_rfl) (by kernel_rfl) (by kernel_rfl) (by kernel_rfl) (by kernel_rfl) (by kernel_rfl) (by decide) (by kernel_rfl) (wt rfl) (vI r_3.1) (by kernel_rfl) ([((extN 0), some (.cells 2 [(vL eI r_3.2.L), (vI r_3.2.f_at)])), (n_2, some (.cells 4 [(vI 0), (vI 0), (vI 0), (vI 0)]))] : Hp) (by kernel_rfl) ?_
  refine h_op (.ref (extN 0) 0 0) (wt rfl) rfl ?_
  obtain ⟨r_6, hr_7, hF⟩ := bind_some hF
  refine h_callq 0 [0] (.inl rfl) (fun _ _ _ => trivial) (mk_Stream_Range_ok hr_7) rfl hb6 rfl (by kernel_rfl) (by kernel_rfl) (by kernel_rfl) (by kernel_rfl) (by kernel_rfl) (by kernel_rfl) (by kernel_rfl) (by decide) (by kernel_rfl) (wt rfl) (vI r_6.1) (by kernel_rfl) ([((extN 0), some (.cells 2 [(vL eI r_6.2.L), (vI r_6.2.f_at)])), (n_2, some (.cells 4 [(vI 0), (vI 0), (vI 0), (vI 0)]))] : Hp) (by kernel_rfl) ?_
  refine h_op (.ref (extN 0) 0 0) (wt rfl) rfl ?_
  obtain ⟨r_9, hr_10, hF⟩ := bind_some hF
  refine h_callq 0 [0] (.inl rfl) (fun _ _ _ => trivial) (mk_Stream_Range_ok hr_10) rfl hb6 rfl (by kernel_rfl) (by kernel_rfl) (by kernel_rfl) (by kernel_rfl) (by kernel_rfl) (by kernel_rfl) (by kernel_rfl) (by decide) (by kernel_rfl) (wt rfl) (vI r_9.1) (by kernel_rfl) ([((extN 0), some (.cells 2 [(vL eI r_9.2.L), (vI r_9.2.f_at)])), (n_2, some (.cells 4 [(vI 0), (vI 0), (vI 0), (vI 0)]))] : Hp) (by kernel_rfl) ?_
  refine h_op (.ref (extN 0) 0 0) (wt rfl) rfl ?_
  obtain ⟨r_12, hr_13, hF⟩ := bind_some hF
  refine h_callq 0 [0] (.inl rfl) (fun _ _ _ => trivial) (mk_Stream_Range_ok hr_13) rfl hb6 rfl (by kernel_rfl) (by kernel_rfl) (by kernel_rfl) (by kernel_rfl) (by kernel_rfl) (by kernel_rfl) (by kernel_rfl) (by decide) (by kernel_rfl) (wt rfl) (vI r_12.1) (by kernel_rfl) ([((extN 0), some (.cells 2 [(vL eI r_12.2.L), (vI r_12.2.f_at)])), (n_2, some (.cells 4 [(vI 0), (vI 0), (vI 0), (vI 0)]))] : Hp) (by kernel_rfl) ?_
  refine h_op (.d (.agg (Rect.enc (⟨r_3.1, r_6.1, r_9.1, r_12.1⟩ : Rect)))) (wt rfl) (by kernel_rfl) ?_
  refine h_str 0 (.inl rfl) (fun _ _ _ => trivial) 1 sz49 rfl rfl [(vI r_3.1), (vI r_6.1), (vI r_9.1), (vI r_12.1)] rfl (wt rfl) ?_
  refine h_nil ?_
  replace hF := some_inj hF
  subst hF
  refine wH_ret ?_
  exact finB (.inr rfl) [(.d (.agg (Rect.enc (⟨r_3.1, r_6.1, r_9.1, r_12.1⟩ : Rect))))] _ [0] [extN 0] ⟨⟨1, _, _, _, _, _, _, _, rfl, rfl, sz49, ag49, rfl⟩, trivial⟩ (.cons (co_data rfl rfl) (.nil)) (by kernel_rfl) ⟨(by kernel_rfl), trivial⟩ (by decide) (by kernel_rfl)
theorem mk_Stream_Rect_ok {s_1 : Stream} {r : Rect × Stream} (hF : mk_Stream_Rect s_1 = some r) :
    FnM Tryz.prog 23 [(.ref (extN 0) 0 0)] [(.cells 2 [(vL eI s_1.L), (vI s_1.f_at)])] (.d (.agg (Rect.enc r.1))) [some (.cells 2 [(vL eI r.2.L), (vI r.2.f_at)])] := by
  refine FnM.of_wH ⟨Tryz.prog, 32, [], []⟩ rfl Tryz.func23 rfl rfl (Nat.le_of_ble_eq_true rfl) (by kernel_rfl) ?_
  unfold mk_Stream_Rect at hF
  refine wH_seq ?_
  refine wH_region ?_
  refine h_alloc 0 (.inl rfl) z49 rfl (wt rfl) (fun n_2 => ?_)
  refine h_nil ?_
  refine wH_seq ?_
  refine wH_region ?_
  refine h_op (.ref (extN 0) 0 0) (wt rfl) rfl ?_
  obtain ⟨r_3, hr_4, hF⟩ := bind_some hF
  refine h_callq 0 [0] (.inl rfl) (fun _ _ _ => trivial) (mk_Stream_RightRect_ok hr_4) rfl hb62 rfl (by kernel_rfl) (by kernel_rfl) (by kernel_rfl) (by kernel_rfl) (by kernel_rfl) (by kernel_rfl) (by kernel_rfl) (by decide) (by kernel_rfl) (wt rfl) (.d (.agg (Rect.enc r_3.1))) (by kernel_rfl) ([((extN 0), some (.cells 2 [(vL eI r_3.2.L), (vI r_3.2.f_at)])), (n_2, some (.cells 4 [(vI 0), (vI 0), (vI 0), (vI 0)]))] : Hp) (by kernel_rfl) ?_
  refine h_alloc 0 (.inl rfl) z49 rfl (wt rfl) (fun n_6 => ?_)
  refine h_str 0 (.inl rfl) (fun _ _ _ => trivial) 2 sz49 rfl rfl [(vI r_3.1.X), (vI r_3.1.Y), (vI r_3.1.W), (vI r_3.1.H)] rfl (wt rfl) ?_
  refine h_nil ?_
  refine wH_seq ?_
  refine wH_seq ?_
  refine wH_region ?_
  refine h_op (.ref (extN 0) 0 0) (wt rfl) rfl ?_
  obtain ⟨r_7, hr_8, hF⟩ := bind_some hF
  refine h_callq 0 [0] (.inl rfl) (fun _ _ _ => trivial) (mk_Stream_Flip_ok hr_8) rfl hb7 rfl (by kernel_rfl) (by kernel_rfl) (by kernel_rfl) (by kernel_rfl) (by kernel_rfl) (by kernel_rfl) (by kernel_rfl) (by decide) (by kernel_rfl) (wt rfl) (vB r_7.1) (by kernel_rfl) ([((extN 0), some (.cells 2 [(vL eI r_7.2.L), (vI r_7.2.f_at)])), (n_2, some (.cells 4 [(vI 0), (vI 0), (vI 0), (vI 0)])), (n_6, some (.cells 4 [(vI r_3.1.X), (vI r_3.1.Y), (vI r_3.1.W), (vI r_3.1.H)]))] : Hp) (by kernel_rfl) ?_
  refine h_nil ?_
  obtain ⟨v_10, h_11, hF⟩ := bind_some hF
  refine wH_join (β := Unit) (fun _ => ([(2, (.ref n_2 0 0)), (3, (.ref n_6 0 0))] : List (Nat × V))) (fun _ => ([((extN 0), some (.cells 2 [(vL eI v_10.1), (vI v_10.2.1)])), (n_2, some (.cells 4 [(vI 0), (vI 0), (vI 0), (vI 0)])), (n_6, some (.cells 4 [(vI v_10.2.2.1), (vI v_10.2.2.2.1), (vI v_10.2.2.2.2.1), (vI v_10.2.2.2.2.2)]))] : Hp)) (fun _ => True) ?_ ?_
  · rcases cond_some h_11 with ⟨hc_12, h_11⟩ | ⟨hc_12, h_11⟩
    · refine wH_ift rfl hc_12 ?_
      refine wH_seq ?_
      refine wH_region ?_
      refine h_op (.ref (extN 0) 0 0) (wt rfl) rfl ?_
      obtain ⟨r_13, hr_14, h_11⟩ := bind_some h_11
      refine h_callq 0 [0] (.inl rfl) (fun _ _ _ => trivial) (mk_Stream_Next_ok hr_14) rfl hb36 rfl (by kernel_rfl) (by kernel_rfl) (by kernel_rfl) (by kernel_rfl) (by kernel_rfl) (by kernel_rfl) (by kernel_rfl) (by decide) (by kernel_rfl) (wt rfl) (vI r_13.1) (by kernel_rfl) ([((extN 0), some (.cells 2 [(vL eI r_13.2.L), (vI r_13.2.f_at)])), (n_2, some (.cells 4 [(vI 0), (vI 0), (vI 0), (vI 0)])), (n_6, some (.cells 4 [(vI r_3.1.X), (vI r_3.1.Y), (vI r_3.1.W), (vI r_3.1.H)]))] : Hp) (by kernel_rfl) ?_
      refine h_nil ?_
      refine wH_block ?_
      refine wH_seq ?_
      refine wH_region ?_
      refine h_op (vB (r_13.1 == 0)) (wt rfl) rfl ?_
      refine h_op (vB (r_13.1 == 0)) (wt rfl) rfl ?_
      refine h_nil ?_
      rcases cond_some h_11 with ⟨hc_16, h_11⟩ | ⟨hc_16, h_11⟩
      · refine wH_ift rfl hc_16 ?_
        refine wH_region ?_
        refine h_op (.ref (extN 0) 0 0) (wt rfl) rfl ?_
        obtain ⟨r_17, hr_18, h_11⟩ := bind_some h_11
        refine h_callq 0 [0] (.inl rfl) (fun _ _ _ => trivial) (mk_Stream_Odd_ok hr_18) rfl hb8 rfl (by kernel_rfl) (by kernel_rfl) (by kernel_rfl) (by kernel_rfl) (by kernel_rfl) (by kernel_rfl) (by kernel_rfl) (by decide) (by kernel_rfl) (wt rfl) (vI r_17.1) (by kernel_rfl) ([((extN 0), some (.cells 2 [(vL eI r_17.2.L), (vI r_17.2.f_at)])), (n_2, some (.cells 4 [(vI 0), (vI 0), (vI 0), (vI 0)])), (n_6, some (.cells 4 [(vI r_3.1.X), (vI r_3.1.Y), (vI r_3.1.W), (vI r_3.1.H)]))] : Hp) (by kernel_rfl) ?_
        refine h_far pl49_0 rfl 0 rfl (wt rfl) ?_
        refine h_str 0 (.inl rfl) (fun _ _ _ => trivial) 2 sz3 rfl rfl [(vI r_17.1), (vI r_3.1.Y), (vI r_3.1.W), (vI r_3.1.H)] rfl (wt rfl) ?_
        refine h_nil ?_
        replace h_11 := some_inj h_11
        subst h_11
        exact cut_mk () trivial rfl (pre_r rfl)
      · refine wH_iff rfl hc_16 ?_
        refine wH_seq ?_
        refine wH_region ?_
        refine h_op (vB (r_13.1 == 1)) (wt rfl) rfl ?_
        refine h_op (vB (r_13.1 == 1)) (wt rfl) rfl ?_
        refine h_nil ?_
        rcases cond_some h_11 with ⟨hc_20, h_11⟩ | ⟨hc_20, h_11⟩
        · refine wH_ift rfl hc_20 ?_
          refine wH_region ?_
          refine h_op (.ref (extN 0) 0 0) (wt rfl) rfl ?_
          obtain ⟨r_21, hr_22, h_11⟩ := bind_some h_11
          refine h_callq 0 [0] (.inl rfl) (fun _ _ _ => trivial) (mk_Stream_Odd_ok hr_22) rfl hb8 rfl (by kernel_rfl) (by kernel_rfl) (by kernel_rfl) (by kernel_rfl) (by kernel_rfl) (by kernel_rfl) (by kernel_rfl) (by decide) (by kernel_rfl) (wt rfl) (vI r_21.1) (by kernel_rfl) ([((extN 0), some (.cells 2 [(vL eI r_21.2.L), (vI r_21.2.f_at)])), (n_2, some (.cells 4 [(vI 0), (vI 0), (vI 0), (vI 0)])), (n_6, some (.cells 4 [(vI r_3.1.X), (vI r_3.1.Y), (vI r_3.1.W), (vI r_3.1.H)]))] : Hp) (by kernel_rfl) ?_
          refine h_op (.ref (extN 0) 0 0) (wt rfl) rfl ?_
          obtain ⟨r_24, hr_25, h_11⟩ := bind_some h_11
          refine h_callq 0 [0] (.inl rfl) (fun _ _ _ => trivial) (mk_Stream_Odd_ok hr_25) rfl hb8 rfl (by kernel_rfl) (by kernel_rfl) (by kernel_rfl) (by kernel_rfl) (by kernel_rfl) (by kernel_rfl) (by kernel_rfl) (by decide) (by kernel_rfl) (wt rfl) (vI r_24.1) (by kernel_rfl) ([((extN 0), some (.cells 2 [(vL eI r_24.2.L), (vI r_24.2.f_at)])), (n_2, some (.cells 4 [(vI 0), (vI 0), (vI 0), (vI 0)])), (n_6, some (.cells 4 [(vI r_3.1.X), (vI r_3.1.Y), (vI r_3.1.W), (vI r_3.1.H)]))] : Hp) (by kernel_rfl) ?_
          refine h_far pl49_2 rfl 2 rfl (wt rfl) ?_
          refine h_str 0 (.inl rfl) (fun _ _ _ => trivial) 2 sz3 rfl rfl [(vI r_3.1.X), (vI r_3.1.Y), (vI r_21.1), (vI r_3.1.H)] rfl (wt rfl) ?_
          refine h_far pl49_3 rfl 3 rfl (wt rfl) ?_
          refine h_str 0 (.inl rfl) (fun _ _ _ => trivial) 2 sz3 rfl rfl [(vI r_3.1.X), (vI r_3.1.Y), (vI r_21.1), (vI r_24.1)] rfl (wt rfl) ?_
          refine h_nil ?_
          replace h_11 := some_inj h_11
          subst h_11
          exact cut_mk () trivial rfl (pre_r rfl)
        · refine wH_iff rfl hc_20 ?_
          refine wH_region ?_
          refine h_op (.ref (extN 0) 0 0) (wt rfl) rfl ?_
          refine h_lit (([(-100000), 99999] : List Int).map eI) es22 ez22 rfl rfl rfl rfl rfl (wt rfl) ?_
          obtain ⟨r_27, hr_28, h_11⟩ := bind_some h_11
          refine h_callq 0 [0] (.inl rfl) (fun _ _ _ => trivial) (mk_Stream_Pick_ok hr_28) rfl hb39 rfl (by kernel_rfl) (by kernel_rfl) (by kernel_rfl) (by kernel_rfl) (by kernel_rfl) (by kernel_rfl) (by kernel_rfl) (by decide) (by kernel_rfl) (wt rfl) (vI r_27.1) (by kernel_rfl) ([((extN 0), some (.cells 2 [(vL eI r_27.2.L), (vI r_27.2.f_at)])), (n_2, some (.cells 4 [(vI 0), (vI 0), (vI 0), (vI 0)])), (n_6, some (.cells 4 [(vI r_3.1.X), (vI r_3.1.Y), (vI r_3.1.W), (vI r_3.1.H)]))] : Hp) (by kernel_rfl) ?_
          refine h_op (.ref (extN 0) 0 0) (wt rfl) rfl ?_
          refine h_lit (([1, 2, 200000] : List Int).map eI) es22 ez22 rfl rfl rfl rfl rfl (wt rfl) ?_
          obtain ⟨r_30, hr_31, h_11⟩ := bind_some h_11
          refine h_callq 0 [0] (.inl rfl) (fun _ _ _ => trivial) (mk_Stream_Pick_ok hr_31) rfl hb39 rfl (by kernel_rfl) (by kernel_rfl) (by kernel_rfl) (by kernel_rfl) (by kernel_rfl) (by kernel_rfl) (by kernel_rfl) (by decide) (by kernel_rfl) (wt rfl) (vI r_30.1) (by kernel_rfl) ([((extN 0), some (.cells 2 [(vL eI r_30.2.L), (vI r_30.2.f_at)])), (n_2, some (.cells 4 [(vI 0), (vI 0), (vI 0), (vI 0)])), (n_6, some (.cells 4 [(vI r_3.1.X), (vI r_3.1.Y), (vI r_3.1.W), (vI r_3.1.H)]))] : Hp) (by kernel_rfl) ?_
          refine h_far pl49_1 rfl 1 rfl (wt rfl) ?_
          refine h_str 0 (.inl rfl) (fun _ _ _ => trivial) 2 sz3 rfl rfl [(vI r_3.1.X), (vI r_27.1), (vI r_3.1.W), (vI r_3.1.H)] rfl (wt rfl) ?_
          refine h_far pl49_3 rfl 3 rfl (wt rfl) ?_
          refine h_str 0 (.inl rfl) (fun _ _ _ => trivial) 2 sz3 rfl rfl [(vI r_3.1.X), (vI r_27.1), (vI r_3.1.W), (vI r_30.1)] rfl (wt rfl) ?_
          refine h_nil ?_
          replace h_11 := some_inj h_11
          subst h_11
          exact cut_mk () trivial rfl (pre_r rfl)
    · refine wH_iff rfl hc_12 ?_
      refine wH_skip ?_
      replace h_11 := some_inj h_11
      subst h_11
      exact cut_mk () trivial rfl (pre_r rfl)
  · rintro ⟨⟩ _ sl_ H_ hp_ hq_
    refine wH_at _ hp_ hq_ ?_
    refine wH_seq ?_
    refine wH_region ?_
    refine h_ldr 0 2 (.inl rfl) (fun _ _ _ => trivial) sz49 ag49 rfl rfl (.d (.agg (Rect.enc (⟨v_10.2.2.1, v_10.2.2.2.1, v_10.2.2.2.2.1, v_10.2.2.2.2.2⟩ : Rect)))) rfl (wt rfl) ?_
    refine h_str 0 (.inl rfl) (fun _ _ _ => trivial) 1 sz49 rfl rfl [(vI v_10.2.2.1), (vI v_10.2.2.2.1), (vI v_10.2.2.2.2.1), (vI v_10.2.2.2.2.2)] rfl (wt rfl) ?_
    refine h_nil ?_
    replace hF := some_inj hF
    subst hF
    refine wH_ret ?_
    exact finB (.inr rfl) [(.d (.agg (Rect.enc (⟨v_10.2.2.1, v_10.2.2.2.1, v_10.2.2.2.2.1, v_10.2.2.2.2.2⟩ : Rect))))] _ [0] [extN 0] ⟨⟨1, _, _, _, _, _, _, _, rfl, rfl, sz49, ag49, rfl⟩, trivial⟩ (.cons (co_data rfl rfl) (.nil)) (by kernel_rfl) ⟨(by kernel_rfl), trivial⟩ (by decide) (by kernel_rfl)
theorem mk_Stream_Wall_ok {s_1 : Stream} {r : Wall × Stream} (hF : mk_Stream_Wall s_1 = some r) :
    FnM Tryz.prog 22 [(.ref (extN 0) 0 0)] [(.cells 2 [(vL eI s_1.L), (vI s_1.f_at)])] (.d (.agg (Wall.enc r.1))) [some (.cells 2 [(vL eI r.2.L), (vI r.2.f_at)])] := by
  refine FnM.of_wH ⟨Tryz.prog, 34, [], []⟩ rfl Tryz.func22 rfl rfl (Nat.le_of_ble_eq_true rfl) (by kernel_rfl) ?_
  unfold mk_Stream_Wall at hF
  refine wH_seq ?_
  refine wH_region ?_
  refine h_alloc 0 (.inl rfl) z58 rfl (wt rfl) (fun n_2 => ?_)
  refine h_nil ?_
  refine wH_seq ?_
  refine wH_region ?_
  refine h_op (.ref (extN 0) 0 0) (wt rfl) rfl ?_
  obtain ⟨r_3, hr_4, hF⟩ := bind_some hF
  refine h_callq 0 [0] (.inl rfl) (fun _ _ _ => trivial) (mk_Stream_RightWall_ok hr_4) rfl hb60 rfl (by kernel_rfl) (by kernel_rfl) (by kernel_rfl) (by kernel_rfl) (by kernel_rfl) (by kernel_rfl) (by kernel_rfl) (by decide) (by kernel_rfl) (wt rfl) (.d (.agg (Wall.enc r_3.1))) (by kernel_rfl) ([((extN 0), some (.cells 2 [(vL eI r_3.2.L), (vI r_3.2.f_at)])), (n_2, some (.cells 4 [(vS (⟨#[]⟩ : ByteArray)), (vI 0), (vI 0), .nil]))] : Hp) (by kernel_rfl) ?_
  refine h_alloc 0 (.inl rfl) z58 rfl (wt rfl) (fun n_6 => ?_)
  refine h_str 0 (.inl rfl) (fun _ _ _ => trivial) 2 sz58 rfl rfl [(vS r_3.1.Key), (vI r_3.1.W), (vI r_3.1.H), (vL Screen.enc r_3.1.Screens)] rfl (wt rfl) ?_
  refine h_nil ?_
  refine wH_seq ?_
  refine wH_seq ?_
  refine wH_region ?_
  refine h_op (.ref (extN 0) 0 0) (wt rfl) rfl ?_
  obtain ⟨r_7, hr_8, hF⟩ := bind_some hF
  refine h_callq 0 [0] (.inl rfl) (fun _ _ _ => trivial) (mk_Stream_Flip_ok hr_8) rfl hb7 rfl (by kernel_rfl) (by kernel_rfl) (by kernel_rfl) (by kernel_rfl) (by kernel_rfl) (by kernel_rfl) (by kernel_rfl) (by decide) (by kernel_rfl) (wt rfl) (vB r_7.1) (by kernel_rfl) ([((extN 0), some (.cells 2 [(vL eI r_7.2.L), (vI r_7.2.f_at)])), (n_2, some (.cells 4 [(vS (⟨#[]⟩ : ByteArray)), (vI 0), (vI 0), .nil])), (n_6, some (.cells 4 [(vS r_3.1.Key), (vI r_3.1.W), (vI r_3.1.H), (vL Screen.enc r_3.1.Screens)]))] : Hp) (by kernel_rfl) ?_
  refine h_nil ?_
  obtain ⟨v_12, h_13, hF⟩ := bind_some hF
  refine wH_join (β := Unit) (fun _ => ([(2, (.ref n_2 0 0)), (3, (.ref n_6 0 0))] : List (Nat × V))) (fun _ => ([((extN 0), some (.cells 2 [(vL eI v_12.1), (vI v_12.2.1)])), (n_2, some (.cells 4 [(vS (⟨#[]⟩ : ByteArray)), (vI 0), (vI 0), .nil])), (n_6, some (.cells 4 [(vS v_12.2.2.1), (vI v_12.2.2.2.1), (vI r_3.1.H), (vL Screen.enc v_12.2.2.2.2)]))] : Hp)) (fun _ => True) ?_ ?_
  · rcases cond_some h_13 with ⟨hc_14, h_13⟩ | ⟨hc_14, h_13⟩
    · refine wH_ift rfl hc_14 ?_
      refine wH_seq ?_
      refine wH_region ?_
      refine h_op (.ref (extN 0) 0 0) (wt rfl) rfl ?_
      obtain ⟨r_15, hr_16, h_13⟩ := bind_some h_13
      refine h_callq 0 [0] (.inl rfl) (fun _ _ _ => trivial) (mk_Stream_Next_ok hr_16) rfl hb36 rfl (by kernel_rfl) (by kernel_rfl) (by kernel_rfl) (by kernel_rfl) (by kernel_rfl) (by kernel_rfl) (by kernel_rfl) (by decide) (by kernel_rfl) (wt rfl) (vI r_15.1) (by kernel_rfl) ([((extN 0), some (.cells 2 [(vL eI r_15.2.L), (vI r_15.2.f_at)])), (n_2, some (.cells 4 [(vS (⟨#[]⟩ : ByteArray)), (vI 0), (vI 0), .nil])), (n_6, some (.cells 4 [(vS r_3.1.Key), (vI r_3.1.W), (vI r_3.1.H), (vL Screen.enc r_3.1.Screens)]))] : Hp) (by kernel_rfl) ?_
      refine h_nil ?_
      refine wH_block ?_
      refine wH_seq ?_
      refine wH_region ?_
      refine h_op (vB (r_15.1 == 0)) (wt rfl) rfl ?_
      refine h_op (vB (r_15.1 == 0)) (wt rfl) rfl ?_
      refine h_nil ?_
      rcases cond_some h_13 with ⟨hc_18, h_13⟩ | ⟨hc_18, h_13⟩
      · refine wH_ift rfl hc_18 ?_
        refine wH_region ?_
        refine h_op (.ref (extN 0) 0 0) (wt rfl) rfl ?_
        refine h_lit (([(⟨#[]⟩ : ByteArray), (⟨#[65]⟩ : ByteArray)] : List ByteArray).map eS) es38 ez38 rfl rfl rfl rfl rfl (wt rfl) ?_
        obtain ⟨r_19, hr_20, h_13⟩ := bind_some h_13
        refine h_callq 0 [0] (.inl rfl) (fun _ _ _ => trivial) (mk_Stream_Some_ok hr_20) rfl hb37 rfl (by kernel_rfl) (by kernel_rfl) (by kernel_rfl) (by kernel_rfl) (by kernel_rfl) (by kernel_rfl) (by kernel_rfl) (by decide) (by kernel_rfl) (wt rfl) (vS r_19.1) (by kernel_rfl) ([((extN 0), some (.cells 2 [(vL eI r_19.2.L), (vI r_19.2.f_at)])), (n_2, some (.cells 4 [(vS (⟨#[]⟩ : ByteArray)), (vI 0), (vI 0), .nil])), (n_6, some (.cells 4 [(vS r_3.1.Key), (vI r_3.1.W), (vI r_3.1.H), (vL Screen.enc r_3.1.Screens)]))] : Hp) (by kernel_rfl) ?_
        refine h_far pl58_0 rfl 0 rfl (wt rfl) ?_
        refine h_str 0 (.inl rfl) (fun _ _ _ => trivial) 2 sz9 rfl rfl [(vS r_19.1), (vI r_3.1.W), (vI r_3.1.H), (vL Screen.enc r_3.1.Screens)] rfl (wt rfl) ?_
        refine h_nil ?_
        replace h_13 := some_inj h_13
        subst h_13
        exact cut_mk () trivial rfl (pre_r rfl)
      · refine wH_iff rfl hc_18 ?_
        refine wH_seq ?_
        refine wH_region ?_
        refine h_op (vB (r_15.1 == 1)) (wt rfl) rfl ?_
        refine h_op (vB (r_15.1 == 1)) (wt rfl) rfl ?_
        refine h_nil ?_
        rcases cond_some h_13 with ⟨hc_22, h_13⟩ | ⟨hc_22, h_13⟩
        · refine wH_ift rfl hc_22 ?_
          refine wH_region ?_
          refine h_op (.ref (extN 0) 0 0) (wt rfl) rfl ?_
          obtain ⟨r_23, hr_24, h_13⟩ := bind_some h_13
          refine h_callq 0 [0] (.inl rfl) (fun _ _ _ => trivial) (mk_Stream_Odd_ok hr_24) rfl hb8 rfl (by kernel_rfl) (by kernel_rfl) (by kernel_rfl) (by kernel_rfl) (by kernel_rfl) (by kernel_rfl) (by kernel_rfl) (by decide) (by kernel_rfl) (wt rfl) (vI r_23.1) (by kernel_rfl) ([((extN 0), some (.cells 2 [(vL eI r_23.2.L), (vI r_23.2.f_at)])), (n_2, some (.cells 4 [(vS (⟨#[]⟩ : ByteArray)), (vI 0), (vI 0), .nil])), (n_6, some (.cells 4 [(vS r_3.1.Key), (vI r_3.1.W), (vI r_3.1.H), (vL Screen.enc r_3.1.Screens)]))] : Hp) (by kernel_rfl) ?_
          refine h_far pl58_1 rfl 1 rfl (wt rfl) ?_
          refine h_str 0 (.inl rfl) (fun _ _ _ => trivial) 2 sz3 rfl rfl [(vS r_3.1.Key), (vI r_23.1), (vI r_3.1.H), (vL Screen.enc r_3.1.Screens)] rfl (wt rfl) ?_
          refine h_nil ?_
          replace h_13 := some_inj h_13
          subst h_13
          exact cut_mk () trivial rfl (pre_r rfl)
        · refine wH_iff rfl hc_22 ?_
          refine wH_region ?_
          refine h_far pl58_3 rfl 3 rfl (wt rfl) ?_
          refine h_ldr 0 2 (.inl rfl) (fun _ _ _ => trivial) sz56 ag56 rfl rfl (vL Screen.enc r_3.1.Screens) rfl (wt rfl) ?_
          obtain ⟨r_26, hr_27, h_13⟩ := bind_some h_13
          refine h_callg [] (slices_Clone_api_Screen_api_Screen_okb hr_27) rfl hb61 rfl (by kernel_rfl) (by kernel_rfl) (by kernel_rfl) (by kernel_rfl) (by kernel_rfl) rfl (by decide) (by kernel_rfl) (wt rfl) ([((extN 0), some (.cells 2 [(vL eI r_15.2.L), (vI r_15.2.f_at)])), (n_2, some (.cells 4 [(vS (⟨#[]⟩ : ByteArray)), (vI 0), (vI 0), .nil])), (n_6, some (.cells 4 [(vS r_3.1.Key), (vI r_3.1.W), (vI r_3.1.H), (vL Screen.enc r_3.1.Screens)]))] : Hp) (fun _ => by kernel_rfl) (fun n_29 => ?_)
          refine h_op (.ref (extN 0) 0 0) (wt rfl) rfl ?_
          refine h_lit (([(⟨#[]⟩ : ByteArray), (⟨#[115, 97]⟩ : ByteArray), (⟨#[115, 122]⟩ : ByteArray)] : List ByteArray).map eS) es38 ez38 rfl rfl rfl rfl rfl (wt rfl) ?_
          obtain ⟨r_30, hr_31, h_13⟩ := bind_some h_13
          refine h_callq 0 [0] (.inl rfl) (fun _ _ _ => trivial) (mk_Stream_Some_ok hr_31) rfl hb37 rfl (by kernel_rfl) (by kernel_rfl) (by kernel_rfl) (by kernel_rfl) (by kernel_rfl) (by kernel_rfl) (by kernel_rfl) (by decide) (by kernel_rfl) (wt rfl) (vS r_30.1) (by kernel_rfl) ([((extN 0), some (.cells 2 [(vL eI r_30.2.L), (vI r_30.2.f_at)])), (n_2, some (.cells 4 [(vS (⟨#[]⟩ : ByteArray)), (vI 0), (vI 0), .nil])), (n_6, some (.cells 4 [(vS r_3.1.Key), (vI r_3.1.W), (vI r_3.1.H), (vL Screen.enc r_3.1.Screens)])), (n_29, gB 5 Screen.enc r_26)] : Hp) (by kernel_rfl) ?_
          refine h_op (.ref (extN 0) 0 0) (wt rfl) rfl ?_
          obtain ⟨r_33, hr_34, h_13⟩ := bind_some h_13
          refine h_callq 0 [0] (.inl rfl) (fun _ _ _ => trivial) (mk_Stream_Rect_ok hr_34) rfl hb23 rfl (by kernel_rfl) (by kernel_rfl) (by kernel_rfl) (by kernel_rfl) (by kernel_rfl) (by kernel_rfl) (by kernel_rfl) (by decide) (by kernel_rfl) (wt rfl) (.d (.agg (Rect.enc r_33.1))) (by kernel_rfl) ([((extN 0), some (.cells 2 [(vL eI r_33.2.L), (vI r_33.2.f_at)])), (n_2, some (.cells 4 [(vS (⟨#[]⟩ : ByteArray)), (vI 0), (vI 0), .nil])), (n_6, some (.cells 4 [(vS r_3.1.Key), (vI r_3.1.W), (vI r_3.1.H), (vL Screen.enc r_3.1.Screens)])), (n_29, gB 5 Screen.enc r_26)] : Hp) (by kernel_rfl) ?_
          refine h_op (.d (.agg (Screen.enc (⟨r_30.1, r_33.1⟩ : Screen)))) (wt rfl) (by kernel_rfl) ?_
          refine h_lit (([(⟨r_30.1, r_33.1⟩ : Screen)] : List Screen).map Screen.enc) es56 ez56 rfl rfl rfl rfl rfl (wt rfl) ?_
          obtain ⟨a_36, hz_37, h_13⟩ := bind_some h_13
          refine h_appg 0 (.inl rfl) (fun _ _ _ => trivial) (i := 3) el56 el56 sz99 z99 rfl (by decide) by99 (by decide) (fun _ => rfl) rfl rfl rfl hz_37 (wt rfl) (fun n_38 => ?_)
          refine h_far pl58_3 rfl 3 rfl (wt rfl) ?_
          refine h_ghost (fun hw => wH_frozg 3 rfl hw) (by kernel_rfl) ?_
          refine h_ghost (fun hw => wH_cog 20 3 rfl rfl hw) (by kernel_rfl) ?_
          refine h_str 0 (.inl rfl) (fun _ _ _ => trivial) 2 sz56 rfl rfl [(vS r_3.1.Key), (vI r_3.1.W), (vI r_3.1.H), (vL Screen.enc a_36)] rfl (wt rfl) ?_
          refine h_nil ?_
          replace h_13 := some_inj h_13
          subst h_13
          exact cut_mk () trivial rfl (pre_r rfl)
    · refine wH_iff rfl hc_14 ?_
      refine wH_skip ?_
      replace h_13 := some_inj h_13
      subst h_13
      exact cut_mk () trivial rfl (pre_r rfl)
  · rintro ⟨⟩ _ sl_ H_ hp_ hq_
    refine wH_at _ hp_ hq_ ?_
    refine wH_seq ?_
    refine wH_region ?_
    refine h_ldr 0 2 (.inl rfl) (fun _ _ _ => trivial) sz58 ag58 rfl rfl (.d (.agg (Wall.enc (⟨v_12.2.2.1, v_12.2.2.2.1, r_3.1.H, v_12.2.2.2.2⟩ : Wall)))) rfl (wt rfl) ?_
    refine h_str 0 (.inl rfl) (fun _ _ _ => trivial) 1 sz58 rfl rfl [(vS v_12.2.2.1), (vI v_12.2.2.2.1), (vI r_3.1.H), (vL Screen.enc v_12.2.2.2.2)] rfl (wt rfl) ?_
    refine h_nil ?_
    replace hF := some_inj hF
    subst hF
    refine wH_ret ?_
    exact finB (.inr rfl) [(.d (.agg (Wall.enc (⟨v_12.2.2.1, v_12.2.2.2.1, r_3.1.H, v_12.2.2.2.2⟩ : Wall))))] _ [0] [extN 0] ⟨⟨1, _, _, _, _, _, _, _, rfl, rfl, sz58, ag58, rfl⟩, trivial⟩ (.cons (co_data rfl rfl) (.nil)) (by kernel_rfl) ⟨(by kernel_rfl), trivial⟩ (by decide) (by kernel_rfl)
end Go.Proofs.YtodfcleaapnklaaGreat.Law
