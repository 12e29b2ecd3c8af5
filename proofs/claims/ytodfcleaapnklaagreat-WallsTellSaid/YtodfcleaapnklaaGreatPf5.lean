/-
  The machine computes these plain functions (written by a program of ours).
-/
import Derived.Test.YtodfcleaapnklaaGreatFacts
import Derived.Test.YtodfcleaapnklaaGreatDefs
import Derived.Test.YtodfcleaapnklaaGreatPf4
open Go Go.Eng Go.Proofs
namespace Go.Proofs.YtodfcleaapnklaaGreat.Law
set_option maxRecDepth 100000
set_option linter.unusedVariables false
set_option maxHeartbeats 1000000
theorem law_WallsTell_ok {l_1 : (List Int)} {r : Bool} (hF : law_WallsTell l_1 = some r) :
    FnM Tryz.prog 4 [(vL eI l_1)] [] (vB r) [] := by
  refine FnM.of_wH ⟨Tryz.prog, 131, [], []⟩ rfl Tryz.func4 rfl rfl (Nat.le_of_ble_eq_true rfl) (by kernel_rfl) ?_
  unfold law_WallsTell at hF
  refine wH_seq ?_
  refine wH_region ?_
  refine h_op (vB false) (wt rfl) rfl ?_
  refine h_nil ?_
  refine wH_seq ?_
  refine wH_region ?_
  refine h_op (vL eI l_1) (wt rfl) rfl ?_
  refine h_op (.d (.agg (Stream.enc (⟨l_1, 0⟩ : Stream)))) (wt rfl) (by kernel_rfl) ?_
  refine h_box 0 (.inl rfl) [(vL eI l_1), (vI 0)] rfl rfl (wt rfl) (fun n_2 => ?_)
  refine h_op (.ref n_2 0 0) (wt rfl) rfl ?_
  refine h_nil ?_
  refine wH_seq ?_
  refine wH_region ?_
  refine h_op (.ref n_2 0 0) (wt rfl) rfl ?_
  obtain ⟨r_3, hr_4, hF⟩ := bind_some hF
  refine h_callq 0 [0] (.inl rfl) (fun _ _ _ => trivial) (mk_Stream_Wall_ok hr_4) rfl hb22 rfl (by kernel_rfl) (by kernel_rfl) (by kernel_rfl) (by kernel_rfl) (by kernel_rfl) (by kernel_rfl) (by kernel_rfl) (by decide) (by kernel_rfl) (wt rfl) (.d (.agg (Wall.enc r_3.1))) (by kernel_rfl) ([(n_2, some (.cells 2 [(vL eI r_3.2.L), (vI r_3.2.f_at)]))] : Hp) (by kernel_rfl) ?_
  refine h_op (.ref n_2 0 0) (wt rfl) rfl ?_
  obtain ⟨r_6, hr_7, hF⟩ := bind_some hF
  refine h_callq 0 [0] (.inl rfl) (fun _ _ _ => trivial) (mk_Stream_Rect_ok hr_7) rfl hb23 rfl (by kernel_rfl) (by kernel_rfl) (by kernel_rfl) (by kernel_rfl) (by kernel_rfl) (by kernel_rfl) (by kernel_rfl) (by decide) (by kernel_rfl) (wt rfl) (.d (.agg (Rect.enc r_6.1))) (by kernel_rfl) ([(n_2, some (.cells 2 [(vL eI r_6.2.L), (vI r_6.2.f_at)]))] : Hp) (by kernel_rfl) ?_
  refine h_op (.ref n_2 0 0) (wt rfl) rfl ?_
  obtain ⟨r_9, hr_10, hF⟩ := bind_some hF
  refine h_callq 0 [0] (.inl rfl) (fun _ _ _ => trivial) (mk_Stream_Range_ok hr_10) rfl hb6 rfl (by kernel_rfl) (by kernel_rfl) (by kernel_rfl) (by kernel_rfl) (by kernel_rfl) (by kernel_rfl) (by kernel_rfl) (by decide) (by kernel_rfl) (wt rfl) (vI r_9.1) (by kernel_rfl) ([(n_2, some (.cells 2 [(vL eI r_9.2.L), (vI r_9.2.f_at)]))] : Hp) (by kernel_rfl) ?_
  refine h_op (.ref n_2 0 0) (wt rfl) rfl ?_
  obtain ⟨r_12, hr_13, hF⟩ := bind_some hF
  refine h_callq 0 [0] (.inl rfl) (fun _ _ _ => trivial) (mk_Stream_Range_ok hr_13) rfl hb6 rfl (by kernel_rfl) (by kernel_rfl) (by kernel_rfl) (by kernel_rfl) (by kernel_rfl) (by kernel_rfl) (by kernel_rfl) (by decide) (by kernel_rfl) (wt rfl) (vI r_12.1) (by kernel_rfl) ([(n_2, some (.cells 2 [(vL eI r_12.2.L), (vI r_12.2.f_at)]))] : Hp) (by kernel_rfl) ?_
  refine h_alloc 0 (.inl rfl) z58 rfl (wt rfl) (fun n_15 => ?_)
  refine h_alloc 0 (.inl rfl) z49 rfl (wt rfl) (fun n_16 => ?_)
  refine h_str 0 (.inl rfl) (fun _ _ _ => trivial) 1 sz58 rfl rfl [(vS r_3.1.Key), (vI r_3.1.W), (vI r_3.1.H), (vL Screen.enc r_3.1.Screens)] rfl (wt rfl) ?_
  refine h_str 0 (.inl rfl) (fun _ _ _ => trivial) 2 sz49 rfl rfl [(vI r_6.1.X), (vI r_6.1.Y), (vI r_6.1.W), (vI r_6.1.H)] rfl (wt rfl) ?_
  refine h_op (vI r_9.1) (wt rfl) rfl ?_
  refine h_op (vI r_12.1) (wt rfl) rfl ?_
  refine h_nil ?_
  refine wH_seq ?_
  refine wH_seq ?_
  refine wH_region ?_
  refine h_op (.ref n_2 0 0) (wt rfl) rfl ?_
  obtain ⟨r_17, hr_18, hF⟩ := bind_some hF
  refine h_callq 0 [0] (.inl rfl) (fun _ _ _ => trivial) (mk_Stream_Flip_ok hr_18) rfl hb7 rfl (by kernel_rfl) (by kernel_rfl) (by kernel_rfl) (by kernel_rfl) (by kernel_rfl) (by kernel_rfl) (by kernel_rfl) (by decide) (by kernel_rfl) (wt rfl) (vB r_17.1) (by kernel_rfl) ([(n_2, some (.cells 2 [(vL eI r_17.2.L), (vI r_17.2.f_at)])), (n_15, some (.cells 4 [(vS r_3.1.Key), (vI r_3.1.W), (vI r_3.1.H), (vL Screen.enc r_3.1.Screens)])), (n_16, some (.cells 4 [(vI r_6.1.X), (vI r_6.1.Y), (vI r_6.1.W), (vI r_6.1.H)]))] : Hp) (by kernel_rfl) ?_
  refine h_nil ?_
  obtain ⟨v_20, h_21, hF⟩ := bind_some hF
  refine wH_join (β := Unit) (fun _ => ([(4, (.ref n_15 0 0)), (5, (.ref n_16 0 0)), (6, (vI v_20.1)), (7, (vI r_12.1))] : List (Nat × V))) (fun _ => ([(n_2, some (.cells 2 [(vL eI v_20.2.1), (vI v_20.2.2)])), (n_15, some (.cells 4 [(vS r_3.1.Key), (vI r_3.1.W), (vI r_3.1.H), (vL Screen.enc r_3.1.Screens)])), (n_16, some (.cells 4 [(vI r_6.1.X), (vI r_6.1.Y), (vI r_6.1.W), (vI r_6.1.H)]))] : Hp)) (fun _ => True) ?_ ?_
  · rcases cond_some h_21 with ⟨hc_22, h_21⟩ | ⟨hc_22, h_21⟩
    · refine wH_ift rfl hc_22 ?_
      refine wH_region ?_
      refine h_op (.ref n_2 0 0) (wt rfl) rfl ?_
      obtain ⟨r_23, hr_24, h_21⟩ := bind_some h_21
      refine h_callq 0 [0] (.inl rfl) (fun _ _ _ => trivial) (mk_Stream_Odd_ok hr_24) rfl hb8 rfl (by kernel_rfl) (by kernel_rfl) (by kernel_rfl) (by kernel_rfl) (by kernel_rfl) (by kernel_rfl) (by kernel_rfl) (by decide) (by kernel_rfl) (wt rfl) (vI r_23.1) (by kernel_rfl) ([(n_2, some (.cells 2 [(vL eI r_23.2.L), (vI r_23.2.f_at)])), (n_15, some (.cells 4 [(vS r_3.1.Key), (vI r_3.1.W), (vI r_3.1.H), (vL Screen.enc r_3.1.Screens)])), (n_16, some (.cells 4 [(vI r_6.1.X), (vI r_6.1.Y), (vI r_6.1.W), (vI r_6.1.H)]))] : Hp) (by kernel_rfl) ?_
      refine h_op (vI r_23.1) (wt rfl) rfl ?_
      refine h_nil ?_
      replace h_21 := some_inj h_21
      subst h_21
      exact cut_mk () trivial rfl (pre_r rfl)
    · refine wH_iff rfl hc_22 ?_
      refine wH_skip ?_
      replace h_21 := some_inj h_21
      subst h_21
      exact cut_mk () trivial rfl (pre_r rfl)
  · rintro ⟨⟩ _ sl_ H_ hp_ hq_
    refine wH_at _ hp_ hq_ ?_
    refine wH_seq ?_
    refine wH_region ?_
    refine h_ldr 0 1 (.inl rfl) (fun _ _ _ => trivial) sz58 ag58 rfl rfl (.d (.agg (Wall.enc r_3.1))) rfl (wt rfl) ?_
    refine h_op (vI v_20.1) (wt rfl) rfl ?_
    refine h_op (vI r_12.1) (wt rfl) rfl ?_
    obtain ⟨r_26, hr_27, hF⟩ := bind_some hF
    refine h_call0 (screen_ScreenAt_ok hr_27) rfl hb24 rfl rfl rfl rfl (wt rfl) ?_
    refine h_op (.tup [(vS r_26.1), (vB r_26.2.1), (vI r_26.2.2)]) (wt rfl) rfl ?_
    refine h_op (vS r_26.1) (wt rfl) rfl ?_
    refine h_op (vB r_26.2.1) (wt rfl) rfl ?_
    refine h_op (vI r_26.2.2) (wt rfl) rfl ?_
    refine h_op (vS r_26.1) (wt rfl) rfl ?_
    refine h_op (vB r_26.2.1) (wt rfl) rfl ?_
    refine h_op (vI r_26.2.2) (wt rfl) rfl ?_
    refine h_nil ?_
    refine wH_seq ?_
    refine wH_region ?_
    refine h_ldr 0 1 (.inl rfl) (fun _ _ _ => trivial) sz58 ag58 rfl rfl (.d (.agg (Wall.enc r_3.1))) rfl (wt rfl) ?_
    obtain ⟨r_28, hr_29, hF⟩ := bind_some hF
    refine h_call0 (screen_Dark_ok hr_29) rfl hb25 rfl rfl rfl rfl (wt rfl) ?_
    refine h_op (.tup [(vL Rect.enc r_28.1), (vI r_28.2)]) (wt rfl) rfl ?_
    refine h_op (vL Rect.enc r_28.1) (wt rfl) rfl ?_
    refine h_op (vI r_28.2) (wt rfl) rfl ?_
    refine h_op (vL Rect.enc r_28.1) (wt rfl) rfl ?_
    refine h_op (vI r_28.2) (wt rfl) rfl ?_
    refine h_nil ?_
    refine wH_seq ?_
    refine wH_region ?_
    refine h_ldr 0 1 (.inl rfl) (fun _ _ _ => trivial) sz58 ag58 rfl rfl (.d (.agg (Wall.enc r_3.1))) rfl (wt rfl) ?_
    refine h_ldr 0 2 (.inl rfl) (fun _ _ _ => trivial) sz49 ag49 rfl rfl (.d (.agg (Rect.enc r_6.1))) rfl (wt rfl) ?_
    obtain ⟨r_30, hr_31, hF⟩ := bind_some hF
    refine h_call0 (screen_Parts_ok hr_31) rfl hb26 rfl rfl rfl rfl (wt rfl) ?_
    refine h_op (.tup [(vL Patch.enc r_30.1), (vI r_30.2)]) (wt rfl) rfl ?_
    refine h_op (vL Patch.enc r_30.1) (wt rfl) rfl ?_
    refine h_op (vI r_30.2) (wt rfl) rfl ?_
    refine h_op (vL Patch.enc r_30.1) (wt rfl) rfl ?_
    refine h_op (vI r_30.2) (wt rfl) rfl ?_
    refine h_nil ?_
    refine wH_seq ?_
    refine wH_region ?_
    refine h_ldr 0 1 (.inl rfl) (fun _ _ _ => trivial) sz58 ag58 rfl rfl (.d (.agg (Wall.enc r_3.1))) rfl (wt rfl) ?_
    obtain ⟨r_32, hr_33, hF⟩ := bind_some hF
    refine h_call0 (ref_WallFault_ok hr_33) rfl hb27 rfl rfl rfl rfl (wt rfl) ?_
    refine h_op (vI r_32) (wt rfl) rfl ?_
    refine h_nil ?_
    refine wH_seq ?_
    refine wH_seq ?_
    refine wH_region ?_
    refine h_ldr 0 1 (.inl rfl) (fun _ _ _ => trivial) sz58 ag58 rfl rfl (.d (.agg (Wall.enc r_3.1))) rfl (wt rfl) ?_
    obtain ⟨r_34, hr_35, hF⟩ := bind_some hF
    refine h_call0 (screen_CheckWall_ok hr_35) rfl hb28 rfl rfl rfl rfl (wt rfl) ?_
    refine h_op (vI r_32) (wt rfl) rfl ?_
    refine h_op (vB (r_34 != r_32)) (wt rfl) rfl ?_
    refine h_nil ?_
    refine wH_at (H0 := ([(n_2, some (.cells 2 [(vL eI v_20.2.1), (vI v_20.2.2)])), (n_15, some (.cells 4 [(vS r_3.1.Key), (vI r_3.1.W), (vI r_3.1.H), (vL Screen.enc r_3.1.Screens)])), (n_16, some (.cells 4 [(vI r_6.1.X), (vI r_6.1.Y), (vI r_6.1.W), (vI r_6.1.H)]))] : Hp)) ([(4, (.ref n_15 0 0)), (5, (.ref n_16 0 0)), (6, (vI v_20.1)), (7, (vI r_12.1)), (8, (vS r_26.1)), (9, (vB r_26.2.1)), (10, (vI r_26.2.2)), (11, (vL Rect.enc r_28.1)), (12, (vI r_28.2)), (13, (vL Patch.enc r_30.1)), (14, (vI r_30.2)), (15, (vI r_32)), (61, (vB (r_34 != r_32)))] : List (Nat × V)) (by kernel_rfl) (pre_mk (by kernel_rfl)) ?_
    rcases cond_some hF with ⟨hc_36, hF⟩ | ⟨hc_36, hF⟩
    · refine wH_ift rfl hc_36 ?_
      refine wH_seq ?_
      refine wH_region ?_
      refine h_op (vB false) (wt rfl) rfl ?_
      refine h_nil ?_
      replace hF := some_inj hF
      subst hF
      refine wH_ret ?_
      exact fin0 (.inr rfl) [(vB false)] ⟨rfl, trivial⟩ rfl rfl rfl
    · refine wH_iff rfl hc_36 ?_
      refine wH_skip ?_
      refine wH_seq ?_
      obtain ⟨v_37, h_38, hF⟩ := bind_some hF
      refine wH_join (β := Unit) (fun _ => ([(4, (.ref n_15 0 0)), (5, (.ref n_16 0 0)), (6, (vI v_20.1)), (7, (vI r_12.1)), (8, (vS r_26.1)), (9, (vB r_26.2.1)), (10, (vI r_26.2.2)), (11, (vL Rect.enc r_28.1)), (12, (vI r_28.2)), (13, (vL Patch.enc r_30.1)), (14, (vI r_30.2)), (15, (vI r_32)), (16, (vI v_37.1)), (17, (vI v_37.2))] : List (Nat × V))) (fun _ => ([(n_2, some (.cells 2 [(vL eI v_20.2.1), (vI v_20.2.2)])), (n_15, some (.cells 4 [(vS r_3.1.Key), (vI r_3.1.W), (vI r_3.1.H), (vL Screen.enc r_3.1.Screens)])), (n_16, some (.cells 4 [(vI r_6.1.X), (vI r_6.1.Y), (vI r_6.1.W), (vI r_6.1.H)]))] : Hp)) (fun _ => True) ?_ ?_
      · refine wH_draws ?_
        refine h_op (vI r_32) (wt rfl) rfl ?_
        refine h_op (vI v_20.1) (wt rfl) rfl ?_
        refine h_op (vB (decide (v_20.1 < (-100000)))) (wt rfl) rfl ?_
        rcases cond_some h_38 with ⟨hc_39, h_38⟩ | ⟨hc_39, h_38⟩
        · refine h_movb rfl hc_39 (wt rfl) ?_
          refine h_skip (wg rfl rfl rfl) ?_
          refine h_skip (wg rfl rfl rfl) ?_
          refine h_op (vB true) (wt rfl) rfl ?_
          obtain ⟨r_40, hr_41, h_38⟩ := bind_some h_38
          refine h_call0 (law_when_ok hr_41) rfl hb15 rfl rfl rfl rfl (wt rfl) ?_
          refine h_lit (([r_32, r_40] : List Int).map eI) es90 ez90 rfl rfl rfl rfl rfl (wt rfl) ?_
          obtain ⟨r_42, hr_43, h_38⟩ := bind_some h_38
          refine h_call0 (law_errs_ok hr_43) rfl hb14 rfl rfl rfl rfl (wt rfl) ?_
          refine h_op (vI r_32) (wt rfl) rfl ?_
          refine h_ldr 11 2 (.inr (by kernel_rfl)) (fun _ _ ag => trivial) sz49 ag49 rfl rfl (.d (.agg (Rect.enc r_6.1))) rfl (wt rfl) ?_
          obtain ⟨r_44, hr_45, h_38⟩ := bind_some h_38
          refine h_call0 (ref_RectFault_ok hr_45) rfl hb29 rfl rfl rfl rfl (wt rfl) ?_
          refine h_lit (([r_32, r_44] : List Int).map eI) es90 ez90 rfl rfl rfl rfl rfl (wt rfl) ?_
          obtain ⟨r_46, hr_47, h_38⟩ := bind_some h_38
          refine h_call0 (law_errs_ok hr_47) rfl hb14 rfl rfl rfl rfl (wt rfl) ?_
          refine h_op (vI r_42) (wt rfl) rfl ?_
          refine h_op (vI r_46) (wt rfl) rfl ?_
          refine h_nil ?_
          replace h_38 := some_inj h_38
          subst h_38
          exact cut_mk () trivial rfl (pre_r rfl)
        · refine h_movb rfl hc_39 (wt rfl) ?_
          refine h_op (vI v_20.1) (wg rfl rfl rfl) rfl ?_
          refine h_op (vB (decide (v_20.1 > 100000))) (wg rfl rfl rfl) rfl ?_
          refine h_op (vB (decide (v_20.1 > 100000))) (wt rfl) rfl ?_
          obtain ⟨r_48, hr_49, h_38⟩ := bind_some h_38
          refine h_call0 (law_when_ok hr_49) rfl hb15 rfl rfl rfl rfl (wt rfl) ?_
          refine h_lit (([r_32, r_48] : List Int).map eI) es90 ez90 rfl rfl rfl rfl rfl (wt rfl) ?_
          obtain ⟨r_50, hr_51, h_38⟩ := bind_some h_38
          refine h_call0 (law_errs_ok hr_51) rfl hb14 rfl rfl rfl rfl (wt rfl) ?_
          refine h_op (vI r_32) (wt rfl) rfl ?_
          refine h_ldr 11 2 (.inr (by kernel_rfl)) (fun _ _ ag => trivial) sz49 ag49 rfl rfl (.d (.agg (Rect.enc r_6.1))) rfl (wt rfl) ?_
          obtain ⟨r_52, hr_53, h_38⟩ := bind_some h_38
          refine h_call0 (ref_RectFault_ok hr_53) rfl hb29 rfl rfl rfl rfl (wt rfl) ?_
          refine h_lit (([r_32, r_52] : List Int).map eI) es90 ez90 rfl rfl rfl rfl rfl (wt rfl) ?_
          obtain ⟨r_54, hr_55, h_38⟩ := bind_some h_38
          refine h_call0 (law_errs_ok hr_55) rfl hb14 rfl rfl rfl rfl (wt rfl) ?_
          refine h_op (vI r_50) (wt rfl) rfl ?_
          refine h_op (vI r_54) (wt rfl) rfl ?_
          refine h_nil ?_
          replace h_38 := some_inj h_38
          subst h_38
          exact cut_mk () trivial rfl (pre_r rfl)
      · rintro ⟨⟩ _ sl_ H_ hp_ hq_
        refine wH_at _ hp_ hq_ ?_
        refine wH_seq ?_
        refine wH_region ?_
        refine h_op (vS (⟨#[]⟩ : ByteArray)) (wt rfl) rfl ?_
        refine h_op (vB false) (wt rfl) rfl ?_
        refine h_nil ?_
        refine wH_seq ?_
        refine wH_seq ?_
        refine wH_region ?_
        refine h_op (vI v_37.1) (wt rfl) rfl ?_
        refine h_op (vB (v_37.1 == 0)) (wt rfl) rfl ?_
        refine h_nil ?_
        obtain ⟨v_56, h_57, hF⟩ := bind_some hF
        refine wH_join (β := Unit) (fun _ => ([(4, (.ref n_15 0 0)), (5, (.ref n_16 0 0)), (8, (vS r_26.1)), (9, (vB r_26.2.1)), (10, (vI r_26.2.2)), (11, (vL Rect.enc r_28.1)), (12, (vI r_28.2)), (13, (vL Patch.enc r_30.1)), (14, (vI r_30.2)), (15, (vI r_32)), (16, (vI v_37.1)), (17, (vI v_37.2)), (18, (vS v_56.1)), (19, (vB v_56.2))] : List (Nat × V))) (fun _ => ([(n_2, some (.cells 2 [(vL eI v_20.2.1), (vI v_20.2.2)])), (n_15, some (.cells 4 [(vS r_3.1.Key), (vI r_3.1.W), (vI r_3.1.H), (vL Screen.enc r_3.1.Screens)])), (n_16, some (.cells 4 [(vI r_6.1.X), (vI r_6.1.Y), (vI r_6.1.W), (vI r_6.1.H)]))] : Hp)) (fun _ => True) ?_ ?_
        · rcases cond_some h_57 with ⟨hc_58, h_57⟩ | ⟨hc_58, h_57⟩
          · refine wH_ift rfl hc_58 ?_
            refine wH_region ?_
            refine h_ldr 0 1 (.inl rfl) (fun _ _ _ => trivial) sz58 ag58 rfl rfl (.d (.agg (Wall.enc r_3.1))) rfl (wt rfl) ?_
            refine h_op (vI v_20.1) (wt rfl) rfl ?_
            refine h_op (vI r_12.1) (wt rfl) rfl ?_
            obtain ⟨r_59, hr_60, h_57⟩ := bind_some h_57
            refine h_call0 (ref_ScreenOf_ok hr_60) rfl hb30 rfl rfl rfl rfl (wt rfl) ?_
            refine h_op (.tup [(vS r_59.1), (vB r_59.2)]) (wt rfl) rfl ?_
            refine h_op (vS r_59.1) (wt rfl) rfl ?_
            refine h_op (vB r_59.2) (wt rfl) rfl ?_
            refine h_op (vS r_59.1) (wt rfl) rfl ?_
            refine h_op (vB r_59.2) (wt rfl) rfl ?_
            refine h_nil ?_
            replace h_57 := some_inj h_57
            subst h_57
            exact cut_mk () trivial rfl (pre_r rfl)
          · refine wH_iff rfl hc_58 ?_
            refine wH_skip ?_
            replace h_57 := some_inj h_57
            subst h_57
            exact cut_mk () trivial rfl (pre_r rfl)
        · rintro ⟨⟩ _ sl_ H_ hp_ hq_
          refine wH_at _ hp_ hq_ ?_
          refine wH_seq ?_
          refine wH_region ?_
          refine h_op .nil (wt rfl) rfl ?_
          refine h_nil ?_
          refine wH_seq ?_
          refine wH_seq ?_
          refine wH_region ?_
          refine h_op (vI r_32) (wt rfl) rfl ?_
          refine h_op (vB (r_32 == 0)) (wt rfl) rfl ?_
          refine h_nil ?_
          refine wH_nilL Rect.enc 20 rfl ?_
          obtain ⟨v_63, h_64, hF⟩ := bind_some hF
          refine wH_join (β := Unit) (fun _ => ([(4, (.ref n_15 0 0)), (5, (.ref n_16 0 0)), (8, (vS r_26.1)), (9, (vB r_26.2.1)), (10, (vI r_26.2.2)), (11, (vL Rect.enc r_28.1)), (12, (vI r_28.2)), (13, (vL Patch.enc r_30.1)), (14, (vI r_30.2)), (15, (vI r_32)), (16, (vI v_37.1)), (17, (vI v_37.2)), (18, (vS v_56.1)), (19, (vB v_56.2)), (20, (vL Rect.enc v_63))] : List (Nat × V))) (fun _ => ([(n_2, some (.cells 2 [(vL eI v_20.2.1), (vI v_20.2.2)])), (n_15, some (.cells 4 [(vS r_3.1.Key), (vI r_3.1.W), (vI r_3.1.H), (vL Screen.enc r_3.1.Screens)])), (n_16, some (.cells 4 [(vI r_6.1.X), (vI r_6.1.Y), (vI r_6.1.W), (vI r_6.1.H)]))] : Hp)) (fun _ => True) ?_ ?_
          · rcases cond_some h_64 with ⟨hc_65, h_64⟩ | ⟨hc_65, h_64⟩
            · refine wH_ift rfl hc_65 ?_
              refine wH_region ?_
              refine h_ldr 0 1 (.inl rfl) (fun _ _ _ => trivial) sz58 ag58 rfl rfl (.d (.agg (Wall.enc r_3.1))) rfl (wt rfl) ?_
              obtain ⟨r_66, hr_67, h_64⟩ := bind_some h_64
              refine h_call0 (ref_DarkOf_ok hr_67) rfl hb31 rfl rfl rfl rfl (wt rfl) ?_
              refine h_op (vL Rect.enc r_66) (wt rfl) rfl ?_
              refine h_nil ?_
              replace h_64 := some_inj h_64
              subst h_64
              exact cut_mk () trivial rfl (pre_r rfl)
            · refine wH_iff rfl hc_65 ?_
              refine wH_skip ?_
              replace h_64 := some_inj h_64
              subst h_64
              exact cut_mk () trivial rfl (pre_r rfl)
          · rintro ⟨⟩ _ sl_ H_ hp_ hq_
            refine wH_at _ hp_ hq_ ?_
            refine wH_seq ?_
            refine wH_region ?_
            refine h_op .nil (wt rfl) rfl ?_
            refine h_nil ?_
            refine wH_seq ?_
            refine wH_seq ?_
            refine wH_region ?_
            refine h_op (vI v_37.2) (wt rfl) rfl ?_
            refine h_op (vB (v_37.2 == 0)) (wt rfl) rfl ?_
            refine h_nil ?_
            refine wH_nilL Patch.enc 21 rfl ?_
            obtain ⟨v_70, h_71, hF⟩ := bind_some hF
            refine wH_join (β := Unit) (fun _ => ([(8, (vS r_26.1)), (9, (vB r_26.2.1)), (10, (vI r_26.2.2)), (11, (vL Rect.enc r_28.1)), (12, (vI r_28.2)), (13, (vL Patch.enc r_30.1)), (14, (vI r_30.2)), (15, (vI r_32)), (16, (vI v_37.1)), (17, (vI v_37.2)), (18, (vS v_56.1)), (19, (vB v_56.2)), (20, (vL Rect.enc v_63)), (21, (vL Patch.enc v_70))] : List (Nat × V))) (fun _ => ([(n_2, some (.cells 2 [(vL eI v_20.2.1), (vI v_20.2.2)])), (n_15, some (.cells 4 [(vS r_3.1.Key), (vI r_3.1.W), (vI r_3.1.H), (vL Screen.enc r_3.1.Screens)])), (n_16, some (.cells 4 [(vI r_6.1.X), (vI r_6.1.Y), (vI r_6.1.W), (vI r_6.1.H)]))] : Hp)) (fun _ => True) ?_ ?_
            · rcases cond_some h_71 with ⟨hc_72, h_71⟩ | ⟨hc_72, h_71⟩
              · refine wH_ift rfl hc_72 ?_
                refine wH_region ?_
                refine h_ldr 0 1 (.inl rfl) (fun _ _ _ => trivial) sz58 ag58 rfl rfl (.d (.agg (Wall.enc r_3.1))) rfl (wt rfl) ?_
                refine h_ldr 0 2 (.inl rfl) (fun _ _ _ => trivial) sz49 ag49 rfl rfl (.d (.agg (Rect.enc r_6.1))) rfl (wt rfl) ?_
                obtain ⟨r_73, hr_74, h_71⟩ := bind_some h_71
                refine h_call0 (ref_PartsOf_ok hr_74) rfl hb32 rfl rfl rfl rfl (wt rfl) ?_
                refine h_op (vL Patch.enc r_73) (wt rfl) rfl ?_
                refine h_nil ?_
                replace h_71 := some_inj h_71
                subst h_71
                exact cut_mk () trivial rfl (pre_r rfl)
              · refine wH_iff rfl hc_72 ?_
                refine wH_skip ?_
                replace h_71 := some_inj h_71
                subst h_71
                exact cut_mk () trivial rfl (pre_r rfl)
            · rintro ⟨⟩ _ sl_ H_ hp_ hq_
              refine wH_at _ hp_ hq_ ?_
              refine wH_seq ?_
              obtain ⟨v_75, h_76, hF⟩ := bind_some hF
              refine wH_join (β := Unit) (fun _ => ([(2, (vB v_75))] : List (Nat × V))) (fun _ => ([(n_2, some (.cells 2 [(vL eI v_20.2.1), (vI v_20.2.2)])), (n_15, some (.cells 4 [(vS r_3.1.Key), (vI r_3.1.W), (vI r_3.1.H), (vL Screen.enc r_3.1.Screens)])), (n_16, some (.cells 4 [(vI r_6.1.X), (vI r_6.1.Y), (vI r_6.1.W), (vI r_6.1.H)]))] : Hp)) (fun _ => True) ?_ ?_
              · refine wH_region ?_
                refine h_op (vI r_26.2.2) (wt rfl) rfl ?_
                refine h_op (vI v_37.1) (wt rfl) rfl ?_
                refine h_op (vB (r_26.2.2 == v_37.1)) (wt rfl) rfl ?_
                rcases cond_some h_76 with ⟨hc_77, h_76⟩ | ⟨hc_77, h_76⟩
                · refine h_movb rfl hc_77 (wt rfl) ?_
                  refine h_op (vS r_26.1) (wg rfl rfl rfl) rfl ?_
                  refine h_op (vS v_56.1) (wg rfl rfl rfl) rfl ?_
                  refine h_op (vB (sEq r_26.1 v_56.1)) (wg rfl rfl rfl) rfl ?_
                  refine h_op (vB (sEq r_26.1 v_56.1)) (wt rfl) rfl ?_
                  rcases cond_some h_76 with ⟨hc_78, h_76⟩ | ⟨hc_78, h_76⟩
                  · refine h_movb rfl hc_78 (wt rfl) ?_
                    refine h_op (vB r_26.2.1) (wg rfl rfl rfl) rfl ?_
                    refine h_op (vB v_56.2) (wg rfl rfl rfl) rfl ?_
                    refine h_beql un4 rfl rfl (wg rfl rfl rfl) ?_
                    refine h_op (vB (r_26.2.1 == v_56.2)) (wt rfl) rfl ?_
                    rcases cond_some h_76 with ⟨hc_79, h_76⟩ | ⟨hc_79, h_76⟩
                    · refine h_movb rfl hc_79 (wt rfl) ?_
                      refine h_op (vI r_28.2) (wg rfl rfl rfl) rfl ?_
                      refine h_op (vI r_32) (wg rfl rfl rfl) rfl ?_
                      refine h_op (vB (r_28.2 == r_32)) (wg rfl rfl rfl) rfl ?_
                      refine h_op (vB (r_28.2 == r_32)) (wt rfl) rfl ?_
                      rcases cond_some h_76 with ⟨hc_80, h_76⟩ | ⟨hc_80, h_76⟩
                      · refine h_movb rfl hc_80 (wt rfl) ?_
                        refine h_op (vL Rect.enc r_28.1) (wg rfl rfl rfl) rfl ?_
                        refine h_op (vL Rect.enc v_63) (wg rfl rfl rfl) rfl ?_
                        obtain ⟨r_81, hr_82, h_76⟩ := bind_some h_76
                        refine h_call0 (slices_Equal_api_Rect_api_Rect_ok hr_82) rfl hb33 rfl rfl rfl rfl (wg rfl rfl rfl) ?_
                        refine h_op (vB r_81) (wt rfl) rfl ?_
                        rcases cond_some h_76 with ⟨hc_83, h_76⟩ | ⟨hc_83, h_76⟩
                        · refine h_movb rfl hc_83 (wt rfl) ?_
                          refine h_op (vI r_30.2) (wg rfl rfl rfl) rfl ?_
                          refine h_op (vI v_37.2) (wg rfl rfl rfl) rfl ?_
                          refine h_op (vB (r_30.2 == v_37.2)) (wg rfl rfl rfl) rfl ?_
                          refine h_op (vB (r_30.2 == v_37.2)) (wt rfl) rfl ?_
                          rcases cond_some h_76 with ⟨hc_84, h_76⟩ | ⟨hc_84, h_76⟩
                          · refine h_movb rfl hc_84 (wt rfl) ?_
                            refine h_op (vL Patch.enc r_30.1) (wg rfl rfl rfl) rfl ?_
                            refine h_op (vL Patch.enc v_70) (wg rfl rfl rfl) rfl ?_
                            obtain ⟨r_85, hr_86, h_76⟩ := bind_some h_76
                            refine h_call0 (slices_Equal_api_Patch_api_Patch_ok hr_86) rfl hb34 rfl rfl rfl rfl (wg rfl rfl rfl) ?_
                            refine h_op (vB r_85) (wt rfl) rfl ?_
                            rcases cond_some h_76 with ⟨hc_87, h_76⟩ | ⟨hc_87, h_76⟩
                            · refine h_movb rfl hc_87 (wt rfl) ?_
                              obtain ⟨r_88, hr_89, h_76⟩ := bind_some h_76
                              refine h_call0 (law_lit_ok hr_89) rfl hb17 rfl rfl rfl rfl (wg rfl rfl rfl) ?_
                              refine h_op (vB r_88) (wt rfl) rfl ?_
                              refine h_op (vB r_88) (wt rfl) rfl ?_
                              refine h_nil ?_
                              replace h_76 := some_inj h_76
                              subst h_76
                              exact cut_mk () trivial rfl (pre_r rfl)
                            · refine h_movb rfl hc_87 (wt rfl) ?_
                              refine h_skip (wg rfl rfl rfl) ?_
                              refine h_op (vB false) (wt rfl) rfl ?_
                              refine h_op (vB false) (wt rfl) rfl ?_
                              refine h_nil ?_
                              replace h_76 := some_inj h_76
                              subst h_76
                              exact cut_mk () trivial rfl (pre_r rfl)
                          · refine h_movb rfl hc_84 (wt rfl) ?_
                            refine h_skip (wg rfl rfl rfl) ?_
                            refine h_skip (wg rfl rfl rfl) ?_
                            refine h_skip (wg rfl rfl rfl) ?_
                            refine h_op (vB false) (wt rfl) rfl ?_
                            refine h_op (vB false) (wt rfl) rfl ?_
                            refine h_skip (wg rfl rfl rfl) ?_
                            refine h_op (vB false) (wt rfl) rfl ?_
                            refine h_op (vB false) (wt rfl) rfl ?_
                            refine h_nil ?_
                            replace h_76 := some_inj h_76
                            subst h_76
                            exact cut_mk () trivial rfl (pre_r rfl)
                        · refine h_movb rfl hc_83 (wt rfl) ?_
                          refine h_skip (wg rfl rfl rfl) ?_
                          refine h_skip (wg rfl rfl rfl) ?_
                          refine h_skip (wg rfl rfl rfl) ?_
                          refine h_op (vB false) (wt rfl) rfl ?_
                          refine h_op (vB false) (wt rfl) rfl ?_
                          refine h_skip (wg rfl rfl rfl) ?_
                          refine h_skip (wg rfl rfl rfl) ?_
                          refine h_skip (wg rfl rfl rfl) ?_
                          refine h_op (vB false) (wt rfl) rfl ?_
                          refine h_op (vB false) (wt rfl) rfl ?_
                          refine h_skip (wg rfl rfl rfl) ?_
                          refine h_op (vB false) (wt rfl) rfl ?_
                          refine h_op (vB false) (wt rfl) rfl ?_
                          refine h_nil ?_
                          replace h_76 := some_inj h_76
                          subst h_76
                          exact cut_mk () trivial rfl (pre_r rfl)
                      · refine h_movb rfl hc_80 (wt rfl) ?_
                        refine h_skip (wg rfl rfl rfl) ?_
                        refine h_skip (wg rfl rfl rfl) ?_
                        refine h_skip (wg rfl rfl rfl) ?_
                        refine h_op (vB false) (wt rfl) rfl ?_
                        refine h_op (vB false) (wt rfl) rfl ?_
                        refine h_skip (wg rfl rfl rfl) ?_
                        refine h_skip (wg rfl rfl rfl) ?_
                        refine h_skip (wg rfl rfl rfl) ?_
                        refine h_op (vB false) (wt rfl) rfl ?_
                        refine h_op (vB false) (wt rfl) rfl ?_
                        refine h_skip (wg rfl rfl rfl) ?_
                        refine h_skip (wg rfl rfl rfl) ?_
                        refine h_skip (wg rfl rfl rfl) ?_
                        refine h_op (vB false) (wt rfl) rfl ?_
                        refine h_op (vB false) (wt rfl) rfl ?_
                        refine h_skip (wg rfl rfl rfl) ?_
                        refine h_op (vB false) (wt rfl) rfl ?_
                        refine h_op (vB false) (wt rfl) rfl ?_
                        refine h_nil ?_
                        replace h_76 := some_inj h_76
                        subst h_76
                        exact cut_mk () trivial rfl (pre_r rfl)
                    · refine h_movb rfl hc_79 (wt rfl) ?_
                      refine h_skip (wg rfl rfl rfl) ?_
                      refine h_skip (wg rfl rfl rfl) ?_
                      refine h_skip (wg rfl rfl rfl) ?_
                      refine h_op (vB false) (wt rfl) rfl ?_
                      refine h_op (vB false) (wt rfl) rfl ?_
                      refine h_skip (wg rfl rfl rfl) ?_
                      refine h_skip (wg rfl rfl rfl) ?_
                      refine h_skip (wg rfl rfl rfl) ?_
                      refine h_op (vB false) (wt rfl) rfl ?_
                      refine h_op (vB false) (wt rfl) rfl ?_
                      refine h_skip (wg rfl rfl rfl) ?_
                      refine h_skip (wg rfl rfl rfl) ?_
                      refine h_skip (wg rfl rfl rfl) ?_
                      refine h_op (vB false) (wt rfl) rfl ?_
                      refine h_op (vB false) (wt rfl) rfl ?_
                      refine h_skip (wg rfl rfl rfl) ?_
                      refine h_skip (wg rfl rfl rfl) ?_
                      refine h_skip (wg rfl rfl rfl) ?_
                      refine h_op (vB false) (wt rfl) rfl ?_
                      refine h_op (vB false) (wt rfl) rfl ?_
                      refine h_skip (wg rfl rfl rfl) ?_
                      refine h_op (vB false) (wt rfl) rfl ?_
                      refine h_op (vB false) (wt rfl) rfl ?_
                      refine h_nil ?_
                      replace h_76 := some_inj h_76
                      subst h_76
                      exact cut_mk () trivial rfl (pre_r rfl)
                  · refine h_movb rfl hc_78 (wt rfl) ?_
                    refine h_skip (wg rfl rfl rfl) ?_
                    refine h_skip (wg rfl rfl rfl) ?_
                    refine h_skip (wg rfl rfl rfl) ?_
                    refine h_op (vB false) (wt rfl) rfl ?_
                    refine h_op (vB false) (wt rfl) rfl ?_
                    refine h_skip (wg rfl rfl rfl) ?_
                    refine h_skip (wg rfl rfl rfl) ?_
                    refine h_skip (wg rfl rfl rfl) ?_
                    refine h_op (vB false) (wt rfl) rfl ?_
                    refine h_op (vB false) (wt rfl) rfl ?_
                    refine h_skip (wg rfl rfl rfl) ?_
                    refine h_skip (wg rfl rfl rfl) ?_
                    refine h_skip (wg rfl rfl rfl) ?_
                    refine h_op (vB false) (wt rfl) rfl ?_
                    refine h_op (vB false) (wt rfl) rfl ?_
                    refine h_skip (wg rfl rfl rfl) ?_
                    refine h_skip (wg rfl rfl rfl) ?_
                    refine h_skip (wg rfl rfl rfl) ?_
                    refine h_op (vB false) (wt rfl) rfl ?_
                    refine h_op (vB false) (wt rfl) rfl ?_
                    refine h_skip (wg rfl rfl rfl) ?_
                    refine h_skip (wg rfl rfl rfl) ?_
                    refine h_skip (wg rfl rfl rfl) ?_
                    refine h_op (vB false) (wt rfl) rfl ?_
                    refine h_op (vB false) (wt rfl) rfl ?_
                    refine h_skip (wg rfl rfl rfl) ?_
                    refine h_op (vB false) (wt rfl) rfl ?_
                    refine h_op (vB false) (wt rfl) rfl ?_
                    refine h_nil ?_
                    replace h_76 := some_inj h_76
                    subst h_76
                    exact cut_mk () trivial rfl (pre_r rfl)
                · refine h_movb rfl hc_77 (wt rfl) ?_
                  refine h_skip (wg rfl rfl rfl) ?_
                  refine h_skip (wg rfl rfl rfl) ?_
                  refine h_skip (wg rfl rfl rfl) ?_
                  refine h_op (vB false) (wt rfl) rfl ?_
                  refine h_op (vB false) (wt rfl) rfl ?_
                  refine h_skip (wg rfl rfl rfl) ?_
                  refine h_skip (wg rfl rfl rfl) ?_
                  refine h_skip (wg rfl rfl rfl) ?_
                  refine h_op (vB false) (wt rfl) rfl ?_
                  refine h_op (vB false) (wt rfl) rfl ?_
                  refine h_skip (wg rfl rfl rfl) ?_
                  refine h_skip (wg rfl rfl rfl) ?_
                  refine h_skip (wg rfl rfl rfl) ?_
                  refine h_op (vB false) (wt rfl) rfl ?_
                  refine h_op (vB false) (wt rfl) rfl ?_
                  refine h_skip (wg rfl rfl rfl) ?_
                  refine h_skip (wg rfl rfl rfl) ?_
                  refine h_skip (wg rfl rfl rfl) ?_
                  refine h_op (vB false) (wt rfl) rfl ?_
                  refine h_op (vB false) (wt rfl) rfl ?_
                  refine h_skip (wg rfl rfl rfl) ?_
                  refine h_skip (wg rfl rfl rfl) ?_
                  refine h_skip (wg rfl rfl rfl) ?_
                  refine h_op (vB false) (wt rfl) rfl ?_
                  refine h_op (vB false) (wt rfl) rfl ?_
                  refine h_skip (wg rfl rfl rfl) ?_
                  refine h_skip (wg rfl rfl rfl) ?_
                  refine h_skip (wg rfl rfl rfl) ?_
                  refine h_op (vB false) (wt rfl) rfl ?_
                  refine h_op (vB false) (wt rfl) rfl ?_
                  refine h_skip (wg rfl rfl rfl) ?_
                  refine h_op (vB false) (wt rfl) rfl ?_
                  refine h_op (vB false) (wt rfl) rfl ?_
                  refine h_nil ?_
                  replace h_76 := some_inj h_76
                  subst h_76
                  exact cut_mk () trivial rfl (pre_r rfl)
              · rintro ⟨⟩ _ sl_ H_ hp_ hq_
                refine wH_at _ hp_ hq_ ?_
                replace hF := some_inj hF
                subst hF
                refine wH_ret ?_
                exact fin0 (.inr rfl) [(vB v_75)] ⟨rfl, trivial⟩ rfl rfl rfl
end Go.Proofs.YtodfcleaapnklaaGreat.Law
