/-
  The machine computes these plain functions (written by a program of ours).
-/
import Derived.Test.YtodfcleaapnklaaFacts
import Derived.Test.YtodfcleaapnklaaDefs
import Derived.Test.YtodfcleaapnklaaPf3
open Go Go.Eng Go.Proofs
namespace Go.Proofs.Ytodfcleaapnklaa.Law
set_option maxRecDepth 100000
set_option linter.unusedVariables false
set_option maxHeartbeats 1000000
theorem law_RectsMeet_ok {l_1 : (List Int)} {r : Bool} (hF : law_RectsMeet l_1 = some r) :
    FnM Try.prog 6 [(vL eI l_1)] [] (vB r) [] := by
  refine FnM.of_wH ⟨Try.prog, 144, [], []⟩ rfl Try.func6 rfl rfl (Nat.le_of_ble_eq_true rfl) (by kernel_rfl) ?_
  unfold law_RectsMeet at hF
  refine wH_seq ?_
  refine wH_region ?_
  refine h_op (vB false) (wt rfl) rfl ?_
  refine h_nil ?_
  refine wH_seq ?_
  refine wH_region ?_
  refine h_op (vL eI l_1) (wt rfl) rfl ?_
  refine h_op (.d (.agg (Stream.enc (⟨l_1, 0⟩ : Stream)))) (wt rfl) (by kernel_rfl) ?_
  refine h_box 0 (.inl rfl) [(vL eI l_1), (vI 0)] rfl rfl (wt rfl) (fun n_2 => ?_)
  refine h_op (.ref n_2 0 0) (wt rfl) rfl ?_
  refine h_nil ?_
  refine wH_seq ?_
  refine wH_region ?_
  refine h_op (.ref n_2 0 0) (wt rfl) rfl ?_
  obtain ⟨r_3, hr_4, hF⟩ := bind_some hF
  refine h_callq 0 [0] (.inl rfl) (fun _ _ _ => trivial) (mk_Stream_Rect_ok hr_4) rfl hb51 rfl (by kernel_rfl) (by kernel_rfl) (by kernel_rfl) (by kernel_rfl) (by kernel_rfl) (by kernel_rfl) (by kernel_rfl) (by decide) (by kernel_rfl) (wt rfl) (.d (.agg (Rect.enc r_3.1))) (by kernel_rfl) ([(n_2, some (.cells 2 [(vL eI r_3.2.L), (vI r_3.2.f_at)]))] : Hp) (by kernel_rfl) ?_
  refine h_op (.ref n_2 0 0) (wt rfl) rfl ?_
  obtain ⟨r_6, hr_7, hF⟩ := bind_some hF
  refine h_callq 0 [0] (.inl rfl) (fun _ _ _ => trivial) (mk_Stream_Rect_ok hr_7) rfl hb51 rfl (by kernel_rfl) (by kernel_rfl) (by kernel_rfl) (by kernel_rfl) (by kernel_rfl) (by kernel_rfl) (by kernel_rfl) (by decide) (by kernel_rfl) (wt rfl) (.d (.agg (Rect.enc r_6.1))) (by kernel_rfl) ([(n_2, some (.cells 2 [(vL eI r_6.2.L), (vI r_6.2.f_at)]))] : Hp) (by kernel_rfl) ?_
  refine h_op (.ref n_2 0 0) (wt rfl) rfl ?_
  obtain ⟨r_9, hr_10, hF⟩ := bind_some hF
  refine h_callq 0 [0] (.inl rfl) (fun _ _ _ => trivial) (mk_Stream_Rects_ok hr_10) rfl hb52 rfl (by kernel_rfl) (by kernel_rfl) (by kernel_rfl) (by kernel_rfl) (by kernel_rfl) (by kernel_rfl) (by kernel_rfl) (by decide) (by kernel_rfl) (wt rfl) (vL Rect.enc r_9.1) (by kernel_rfl) ([(n_2, some (.cells 2 [(vL eI r_9.2.L), (vI r_9.2.f_at)]))] : Hp) (by kernel_rfl) ?_
  refine h_op (.ref n_2 0 0) (wt rfl) rfl ?_
  obtain ⟨r_12, hr_13, hF⟩ := bind_some hF
  refine h_callq 0 [0] (.inl rfl) (fun _ _ _ => trivial) (mk_Stream_Rects_ok hr_13) rfl hb52 rfl (by kernel_rfl) (by kernel_rfl) (by kernel_rfl) (by kernel_rfl) (by kernel_rfl) (by kernel_rfl) (by kernel_rfl) (by decide) (by kernel_rfl) (wt rfl) (vL Rect.enc r_12.1) (by kernel_rfl) ([(n_2, some (.cells 2 [(vL eI r_12.2.L), (vI r_12.2.f_at)]))] : Hp) (by kernel_rfl) ?_
  refine h_alloc 0 (.inl rfl) z92 rfl (wt rfl) (fun n_15 => ?_)
  refine h_alloc 0 (.inl rfl) z92 rfl (wt rfl) (fun n_16 => ?_)
  refine h_str 0 (.inl rfl) (fun _ _ _ => trivial) 1 sz92 rfl rfl [(vI r_3.1.X), (vI r_3.1.Y), (vI r_3.1.W), (vI r_3.1.H)] rfl (wt rfl) ?_
  refine h_str 0 (.inl rfl) (fun _ _ _ => trivial) 2 sz92 rfl rfl [(vI r_6.1.X), (vI r_6.1.Y), (vI r_6.1.W), (vI r_6.1.H)] rfl (wt rfl) ?_
  refine h_op (vL Rect.enc r_9.1) (wt rfl) rfl ?_
  refine h_op (vL Rect.enc r_12.1) (wt rfl) rfl ?_
  refine h_nil ?_
  refine wH_seq ?_
  refine wH_region ?_
  refine h_ldr 0 1 (.inl rfl) (fun _ _ _ => trivial) sz92 ag92 rfl rfl (.d (.agg (Rect.enc r_3.1))) rfl (wt rfl) ?_
  refine h_ldr 0 2 (.inl rfl) (fun _ _ _ => trivial) sz92 ag92 rfl rfl (.d (.agg (Rect.enc r_6.1))) rfl (wt rfl) ?_
  obtain ⟨r_17, hr_18, hF⟩ := bind_some hF
  refine h_call0 (screen_Meet_ok hr_18) rfl hb53 rfl rfl rfl rfl (wt rfl) ?_
  refine h_op (.tup [(.d (.agg (Rect.enc r_17.1))), (vB r_17.2.1), (vI r_17.2.2)]) (wt rfl) rfl ?_
  refine h_op (.d (.agg (Rect.enc r_17.1))) (wt rfl) rfl ?_
  refine h_op (vB r_17.2.1) (wt rfl) rfl ?_
  refine h_op (vI r_17.2.2) (wt rfl) rfl ?_
  refine h_alloc 0 (.inl rfl) z92 rfl (wt rfl) (fun n_19 => ?_)
  refine h_str 0 (.inl rfl) (fun _ _ _ => trivial) 3 sz92 rfl rfl [(vI r_17.1.X), (vI r_17.1.Y), (vI r_17.1.W), (vI r_17.1.H)] rfl (wt rfl) ?_
  refine h_op (vB r_17.2.1) (wt rfl) rfl ?_
  refine h_op (vI r_17.2.2) (wt rfl) rfl ?_
  refine h_nil ?_
  refine wH_at (H0 := ([(n_2, some (.cells 2 [(vL eI r_12.2.L), (vI r_12.2.f_at)])), (n_15, some (.cells 4 [(vI r_3.1.X), (vI r_3.1.Y), (vI r_3.1.W), (vI r_3.1.H)])), (n_16, some (.cells 4 [(vI r_6.1.X), (vI r_6.1.Y), (vI r_6.1.W), (vI r_6.1.H)])), (n_19, some (.cells 4 [(vI r_17.1.X), (vI r_17.1.Y), (vI r_17.1.W), (vI r_17.1.H)]))] : Hp)) ([(4, (.ref n_15 0 0)), (5, (.ref n_16 0 0)), (6, (vL Rect.enc r_9.1)), (7, (vL Rect.enc r_12.1)), (8, (.ref n_19 0 0)), (9, (vB r_17.2.1)), (10, (vI r_17.2.2))] : List (Nat × V)) (by kernel_rfl) (pre_mk (by kernel_rfl)) ?_
  refine wH_seq ?_
  refine wH_region ?_
  refine h_op (vL Rect.enc r_9.1) (wt rfl) rfl ?_
  obtain ⟨r_20, hr_21, hF⟩ := bind_some hF
  refine h_call0 (screen_Region_ok hr_21) rfl hb54 rfl rfl rfl rfl (wt rfl) ?_
  refine h_op (.tup [(vL Rect.enc r_20.1), (vI r_20.2)]) (wt rfl) rfl ?_
  refine h_op (vL Rect.enc r_20.1) (wt rfl) rfl ?_
  refine h_op (vI r_20.2) (wt rfl) rfl ?_
  refine h_op (vL Rect.enc r_20.1) (wt rfl) rfl ?_
  refine h_op (vI r_20.2) (wt rfl) rfl ?_
  refine h_nil ?_
  refine wH_seq ?_
  refine wH_region ?_
  refine h_op (vL Rect.enc r_9.1) (wt rfl) rfl ?_
  refine h_op (vL Rect.enc r_12.1) (wt rfl) rfl ?_
  obtain ⟨r_22, hr_23, hF⟩ := bind_some hF
  refine h_call0 (screen_Without_ok hr_23) rfl hb55 rfl rfl rfl rfl (wt rfl) ?_
  refine h_op (.tup [(vL Rect.enc r_22.1), (vI r_22.2)]) (wt rfl) rfl ?_
  refine h_op (vL Rect.enc r_22.1) (wt rfl) rfl ?_
  refine h_op (vI r_22.2) (wt rfl) rfl ?_
  refine h_op (vL Rect.enc r_22.1) (wt rfl) rfl ?_
  refine h_op (vI r_22.2) (wt rfl) rfl ?_
  refine h_nil ?_
  refine wH_seq ?_
  refine wH_region ?_
  refine h_op (vL Rect.enc r_9.1) (wt rfl) rfl ?_
  obtain ⟨r_24, hr_25, hF⟩ := bind_some hF
  refine h_call0 (screen_Area_ok hr_25) rfl hb56 rfl rfl rfl rfl (wt rfl) ?_
  refine h_op (.tup [(vI r_24.1), (vI r_24.2)]) (wt rfl) rfl ?_
  refine h_op (vI r_24.1) (wt rfl) rfl ?_
  refine h_op (vI r_24.2) (wt rfl) rfl ?_
  refine h_op (vI r_24.1) (wt rfl) rfl ?_
  refine h_op (vI r_24.2) (wt rfl) rfl ?_
  refine h_nil ?_
  refine wH_seq ?_
  refine wH_seq ?_
  refine wH_draws ?_
  refine h_ldr 0 1 (.inr (by kernel_rfl)) (fun _ _ ag => trivial) sz92 ag92 rfl rfl (.d (.agg (Rect.enc r_3.1))) rfl (wt rfl) ?_
  obtain ⟨r_26, hr_27, hF⟩ := bind_some hF
  refine h_call0 (screen_CheckRect_ok hr_27) rfl hb57 rfl rfl rfl rfl (wt rfl) ?_
  refine h_ldr 2 1 (.inr (by kernel_rfl)) (fun _ _ ag => ⟨.inl ⟨rfl, rfl⟩, trivial⟩) sz92 ag92 rfl rfl (.d (.agg (Rect.enc r_3.1))) rfl (wt rfl) ?_
  obtain ⟨r_28, hr_29, hF⟩ := bind_some hF
  refine h_call0 (ref_RectFault_ok hr_29) rfl hb58 rfl rfl rfl rfl (wt rfl) ?_
  refine h_op (vB (r_26 != r_28)) (wt rfl) rfl ?_
  refine h_nil ?_
  rcases cond_some hF with ⟨hc_30, hF⟩ | ⟨hc_30, hF⟩
  · refine wH_ift rfl hc_30 ?_
    refine wH_seq ?_
    refine wH_region ?_
    refine h_op (vB false) (wt rfl) rfl ?_
    refine h_nil ?_
    replace hF := some_inj hF
    subst hF
    refine wH_ret ?_
    exact fin0 (.inr rfl) [(vB false)] ⟨rfl, trivial⟩ rfl rfl rfl
  · refine wH_iff rfl hc_30 ?_
    refine wH_skip ?_
    refine wH_seq ?_
    refine wH_draws ?_
    refine h_ldr 0 1 (.inr (by kernel_rfl)) (fun _ _ ag => trivial) sz92 ag92 rfl rfl (.d (.agg (Rect.enc r_3.1))) rfl (wt rfl) ?_
    obtain ⟨r_31, hr_32, hF⟩ := bind_some hF
    refine h_call0 (ref_RectFault_ok hr_32) rfl hb58 rfl rfl rfl rfl (wt rfl) ?_
    refine h_ldr 2 2 (.inr (by kernel_rfl)) (fun _ _ ag => ⟨.inl ⟨rfl, rfl⟩, trivial⟩) sz92 ag92 rfl rfl (.d (.agg (Rect.enc r_6.1))) rfl (wt rfl) ?_
    obtain ⟨r_33, hr_34, hF⟩ := bind_some hF
    refine h_call0 (ref_RectFault_ok hr_34) rfl hb58 rfl rfl rfl rfl (wt rfl) ?_
    refine h_lit (([r_31, r_33] : List Int).map eI) es129 ez129 rfl rfl rfl rfl rfl (wt rfl) ?_
    obtain ⟨r_35, hr_36, hF⟩ := bind_some hF
    refine h_call0 (law_errs_ok hr_36) rfl hb16 rfl rfl rfl rfl (wt rfl) ?_
    refine h_op (vL Rect.enc r_9.1) (wt rfl) rfl ?_
    obtain ⟨r_37, hr_38, hF⟩ := bind_some hF
    refine h_call0 (ref_RectsFault_ok hr_38) rfl hb59 rfl rfl rfl rfl (wt rfl) ?_
    refine h_op (vL Rect.enc r_9.1) (wt rfl) rfl ?_
    obtain ⟨r_39, hr_40, hF⟩ := bind_some hF
    refine h_call0 (ref_RectsFault_ok hr_40) rfl hb59 rfl rfl rfl rfl (wt rfl) ?_
    refine h_op (vL Rect.enc r_12.1) (wt rfl) rfl ?_
    obtain ⟨r_41, hr_42, hF⟩ := bind_some hF
    refine h_call0 (ref_RectsFault_ok hr_42) rfl hb59 rfl rfl rfl rfl (wt rfl) ?_
    refine h_lit (([r_39, r_41] : List Int).map eI) es129 ez129 rfl rfl rfl rfl rfl (wt rfl) ?_
    obtain ⟨r_43, hr_44, hF⟩ := bind_some hF
    refine h_call0 (law_errs_ok hr_44) rfl hb16 rfl rfl rfl rfl (wt rfl) ?_
    refine h_op (vI r_35) (wt rfl) rfl ?_
    refine h_op (vI r_37) (wt rfl) rfl ?_
    refine h_op (vI r_43) (wt rfl) rfl ?_
    refine h_nil ?_
    refine wH_at (H0 := ([(n_2, some (.cells 2 [(vL eI r_12.2.L), (vI r_12.2.f_at)])), (n_15, some (.cells 4 [(vI r_3.1.X), (vI r_3.1.Y), (vI r_3.1.W), (vI r_3.1.H)])), (n_16, some (.cells 4 [(vI r_6.1.X), (vI r_6.1.Y), (vI r_6.1.W), (vI r_6.1.H)])), (n_19, some (.cells 4 [(vI r_17.1.X), (vI r_17.1.Y), (vI r_17.1.W), (vI r_17.1.H)]))] : Hp)) ([(4, (.ref n_15 0 0)), (5, (.ref n_16 0 0)), (6, (vL Rect.enc r_9.1)), (7, (vL Rect.enc r_12.1)), (8, (.ref n_19 0 0)), (9, (vB r_17.2.1)), (10, (vI r_17.2.2)), (11, (vL Rect.enc r_20.1)), (12, (vI r_20.2)), (13, (vL Rect.enc r_22.1)), (14, (vI r_22.2)), (15, (vI r_24.1)), (16, (vI r_24.2)), (17, (vI r_35)), (18, (vI r_37)), (19, (vI r_43))] : List (Nat × V)) (by kernel_rfl) (pre_mk (by kernel_rfl)) ?_
    refine wH_seq ?_
    refine wH_region ?_
    refine h_op (.d (.agg (Rect.enc (⟨0, 0, 0, 0⟩ : Rect)))) (wt rfl) (by kernel_rfl) ?_
    refine h_alloc 0 (.inl rfl) z92 rfl (wt rfl) (fun n_45 => ?_)
    refine h_str 0 (.inl rfl) (fun _ _ _ => trivial) 4 sz92 rfl rfl [(vI 0), (vI 0), (vI 0), (vI 0)] rfl (wt rfl) ?_
    refine h_op (vB false) (wt rfl) rfl ?_
    refine h_op (vI 0) (wt rfl) rfl ?_
    refine h_nil ?_
    refine wH_seq ?_
    refine wH_seq ?_
    refine wH_region ?_
    refine h_op (vI r_35) (wt rfl) rfl ?_
    refine h_op (vB (r_35 == 0)) (wt rfl) rfl ?_
    refine h_nil ?_
    obtain ⟨v_46, h_47, hF⟩ := bind_some hF
    refine wH_join (β := Unit) (fun _ => ([(6, (vL Rect.enc r_9.1)), (7, (vL Rect.enc r_12.1)), (8, (.ref n_19 0 0)), (9, (vB r_17.2.1)), (10, (vI r_17.2.2)), (11, (vL Rect.enc r_20.1)), (12, (vI r_20.2)), (13, (vL Rect.enc r_22.1)), (14, (vI r_22.2)), (15, (vI r_24.1)), (16, (vI r_24.2)), (17, (vI r_35)), (18, (vI r_37)), (19, (vI r_43)), (20, (.ref n_45 0 0)), (21, (vB v_46.1)), (22, (vI 0))] : List (Nat × V))) (fun _ => ([(n_2, some (.cells 2 [(vL eI r_12.2.L), (vI r_12.2.f_at)])), (n_15, some (.cells 4 [(vI r_3.1.X), (vI r_3.1.Y), (vI r_3.1.W), (vI r_3.1.H)])), (n_16, some (.cells 4 [(vI r_6.1.X), (vI r_6.1.Y), (vI r_6.1.W), (vI r_6.1.H)])), (n_19, some (.cells 4 [(vI r_17.1.X), (vI r_17.1.Y), (vI r_17.1.W), (vI r_17.1.H)])), (n_45, some (.cells 4 [(vI v_46.2.1), (vI v_46.2.2.1), (vI v_46.2.2.2.1), (vI v_46.2.2.2.2)]))] : Hp)) (fun _ => True) ?_ ?_
    · rcases cond_some h_47 with ⟨hc_48, h_47⟩ | ⟨hc_48, h_47⟩
      · refine wH_ift rfl hc_48 ?_
        refine wH_region ?_
        refine h_ldr 0 1 (.inl rfl) (fun _ _ _ => trivial) sz92 ag92 rfl rfl (.d (.agg (Rect.enc r_3.1))) rfl (wt rfl) ?_
        refine h_ldr 0 2 (.inl rfl) (fun _ _ _ => trivial) sz92 ag92 rfl rfl (.d (.agg (Rect.enc r_6.1))) rfl (wt rfl) ?_
        obtain ⟨r_49, hr_50, h_47⟩ := bind_some h_47
        refine h_call0 (ref_MeetOf_ok hr_50) rfl hb60 rfl rfl rfl rfl (wt rfl) ?_
        refine h_op (.tup [(.d (.agg (Rect.enc r_49.1))), (vB r_49.2)]) (wt rfl) rfl ?_
        refine h_op (.d (.agg (Rect.enc r_49.1))) (wt rfl) rfl ?_
        refine h_op (vB r_49.2) (wt rfl) rfl ?_
        refine h_str 0 (.inl rfl) (fun _ _ _ => trivial) 4 sz92 rfl rfl [(vI r_49.1.X), (vI r_49.1.Y), (vI r_49.1.W), (vI r_49.1.H)] rfl (wt rfl) ?_
        refine h_op (vB r_49.2) (wt rfl) rfl ?_
        refine h_nil ?_
        replace h_47 := some_inj h_47
        subst h_47
        exact cut_mk () trivial rfl (pre_r rfl)
      · refine wH_iff rfl hc_48 ?_
        refine wH_skip ?_
        replace h_47 := some_inj h_47
        subst h_47
        exact cut_mk () trivial rfl (pre_r rfl)
    · rintro ⟨⟩ _ sl_ H_ hp_ hq_
      refine wH_at _ hp_ hq_ ?_
      refine wH_seq ?_
      refine wH_region ?_
      refine h_op .nil (wt rfl) rfl ?_
      refine h_op .nil (wt rfl) rfl ?_
      refine h_nil ?_
      refine wH_seq ?_
      refine wH_seq ?_
      refine wH_region ?_
      refine h_op (vI r_37) (wt rfl) rfl ?_
      refine h_op (vB (r_37 == 0)) (wt rfl) rfl ?_
      refine h_nil ?_
      refine wH_nilL Rect.enc 23 rfl ?_
      obtain ⟨v_53, h_54, hF⟩ := bind_some hF
      refine wH_join (β := Unit) (fun _ => ([(6, (vL Rect.enc r_9.1)), (7, (vL Rect.enc r_12.1)), (8, (.ref n_19 0 0)), (9, (vB r_17.2.1)), (10, (vI r_17.2.2)), (11, (vL Rect.enc r_20.1)), (12, (vI r_20.2)), (13, (vL Rect.enc r_22.1)), (14, (vI r_22.2)), (15, (vI r_24.1)), (16, (vI r_24.2)), (17, (vI r_35)), (18, (vI r_37)), (19, (vI r_43)), (20, (.ref n_45 0 0)), (21, (vB v_46.1)), (22, (vI v_53.1)), (23, (vL Rect.enc v_53.2)), (24, .nil)] : List (Nat × V))) (fun _ => ([(n_2, some (.cells 2 [(vL eI r_12.2.L), (vI r_12.2.f_at)])), (n_15, some (.cells 4 [(vI r_3.1.X), (vI r_3.1.Y), (vI r_3.1.W), (vI r_3.1.H)])), (n_16, some (.cells 4 [(vI r_6.1.X), (vI r_6.1.Y), (vI r_6.1.W), (vI r_6.1.H)])), (n_19, some (.cells 4 [(vI r_17.1.X), (vI r_17.1.Y), (vI r_17.1.W), (vI r_17.1.H)])), (n_45, some (.cells 4 [(vI v_46.2.1), (vI v_46.2.2.1), (vI v_46.2.2.2.1), (vI v_46.2.2.2.2)]))] : Hp)) (fun _ => True) ?_ ?_
      · rcases cond_some h_54 with ⟨hc_55, h_54⟩ | ⟨hc_55, h_54⟩
        · refine wH_ift rfl hc_55 ?_
          refine wH_region ?_
          refine h_op (vL Rect.enc r_9.1) (wt rfl) rfl ?_
          obtain ⟨r_56, hr_57, h_54⟩ := bind_some h_54
          refine h_call0 (ref_RegionOf_ok hr_57) rfl hb61 rfl rfl rfl rfl (wt rfl) ?_
          refine h_op (vL Rect.enc r_9.1) (wt rfl) rfl ?_
          obtain ⟨r_58, hr_59, h_54⟩ := bind_some h_54
          refine h_call0 (ref_AreaOf_ok hr_59) rfl hb62 rfl rfl rfl rfl (wt rfl) ?_
          refine h_op (vL Rect.enc r_56) (wt rfl) rfl ?_
          refine h_op (vI r_58) (wt rfl) rfl ?_
          refine h_nil ?_
          replace h_54 := some_inj h_54
          subst h_54
          exact cut_mk () trivial rfl (pre_r rfl)
        · refine wH_iff rfl hc_55 ?_
          refine wH_skip ?_
          replace h_54 := some_inj h_54
          subst h_54
          exact cut_mk () trivial rfl (pre_r rfl)
      · rintro ⟨⟩ _ sl_ H_ hp_ hq_
        refine wH_at _ hp_ hq_ ?_
        refine wH_seq ?_
        refine wH_seq ?_
        refine wH_region ?_
        refine h_op (vI r_43) (wt rfl) rfl ?_
        refine h_op (vB (r_43 == 0)) (wt rfl) rfl ?_
        refine h_nil ?_
        refine wH_nilL Rect.enc 24 rfl ?_
        obtain ⟨v_62, h_63, hF⟩ := bind_some hF
        refine wH_join (β := Unit) (fun _ => ([(8, (.ref n_19 0 0)), (9, (vB r_17.2.1)), (10, (vI r_17.2.2)), (11, (vL Rect.enc r_20.1)), (12, (vI r_20.2)), (13, (vL Rect.enc r_22.1)), (14, (vI r_22.2)), (15, (vI r_24.1)), (16, (vI r_24.2)), (17, (vI r_35)), (18, (vI r_37)), (19, (vI r_43)), (20, (.ref n_45 0 0)), (21, (vB v_46.1)), (22, (vI v_53.1)), (23, (vL Rect.enc v_53.2)), (24, (vL Rect.enc v_62))] : List (Nat × V))) (fun _ => ([(n_2, some (.cells 2 [(vL eI r_12.2.L), (vI r_12.2.f_at)])), (n_15, some (.cells 4 [(vI r_3.1.X), (vI r_3.1.Y), (vI r_3.1.W), (vI r_3.1.H)])), (n_16, some (.cells 4 [(vI r_6.1.X), (vI r_6.1.Y), (vI r_6.1.W), (vI r_6.1.H)])), (n_19, some (.cells 4 [(vI r_17.1.X), (vI r_17.1.Y), (vI r_17.1.W), (vI r_17.1.H)])), (n_45, some (.cells 4 [(vI v_46.2.1), (vI v_46.2.2.1), (vI v_46.2.2.2.1), (vI v_46.2.2.2.2)]))] : Hp)) (fun _ => True) ?_ ?_
        · rcases cond_some h_63 with ⟨hc_64, h_63⟩ | ⟨hc_64, h_63⟩
          · refine wH_ift rfl hc_64 ?_
            refine wH_region ?_
            refine h_op (vL Rect.enc r_9.1) (wt rfl) rfl ?_
            refine h_op (vL Rect.enc r_12.1) (wt rfl) rfl ?_
            obtain ⟨r_65, hr_66, h_63⟩ := bind_some h_63
            refine h_call0 (ref_WithoutOf_ok hr_66) rfl hb63 rfl rfl rfl rfl (wt rfl) ?_
            refine h_op (vL Rect.enc r_65) (wt rfl) rfl ?_
            refine h_nil ?_
            replace h_63 := some_inj h_63
            subst h_63
            exact cut_mk () trivial rfl (pre_r rfl)
          · refine wH_iff rfl hc_64 ?_
            refine wH_skip ?_
            replace h_63 := some_inj h_63
            subst h_63
            exact cut_mk () trivial rfl (pre_r rfl)
        · rintro ⟨⟩ _ sl_ H_ hp_ hq_
          refine wH_at _ hp_ hq_ ?_
          refine wH_seq ?_
          obtain ⟨v_67, h_68, hF⟩ := bind_some hF
          refine wH_join (β := Unit) (fun _ => ([(2, (vB v_67))] : List (Nat × V))) (fun _ => ([(n_2, some (.cells 2 [(vL eI r_12.2.L), (vI r_12.2.f_at)])), (n_15, some (.cells 4 [(vI r_3.1.X), (vI r_3.1.Y), (vI r_3.1.W), (vI r_3.1.H)])), (n_16, some (.cells 4 [(vI r_6.1.X), (vI r_6.1.Y), (vI r_6.1.W), (vI r_6.1.H)])), (n_19, some (.cells 4 [(vI r_17.1.X), (vI r_17.1.Y), (vI r_17.1.W), (vI r_17.1.H)])), (n_45, some (.cells 4 [(vI v_46.2.1), (vI v_46.2.2.1), (vI v_46.2.2.2.1), (vI v_46.2.2.2.2)]))] : Hp)) (fun _ => True) ?_ ?_
          · refine wH_region ?_
            refine h_op (vI r_17.2.2) (wt rfl) rfl ?_
            refine h_op (vI r_35) (wt rfl) rfl ?_
            refine h_op (vB (r_17.2.2 == r_35)) (wt rfl) rfl ?_
            rcases cond_some h_68 with ⟨hc_69, h_68⟩ | ⟨hc_69, h_68⟩
            · refine h_movb rfl hc_69 (wt rfl) ?_
              refine h_ldr 0 3 (.inl rfl) (fun _ _ _ => trivial) sz92 ag92 rfl rfl (.d (.agg (Rect.enc r_17.1))) rfl (wg rfl rfl rfl) ?_
              refine h_ldr 0 4 (.inl rfl) (fun _ _ _ => trivial) sz92 ag92 rfl rfl (.d (.agg (Rect.enc (⟨v_46.2.1, v_46.2.2.1, v_46.2.2.2.1, v_46.2.2.2.2⟩ : Rect)))) rfl (wg rfl rfl rfl) ?_
              refine h_op (vB ((r_17.1.X == v_46.2.1) && ((r_17.1.Y == v_46.2.2.1) && ((r_17.1.W == v_46.2.2.2.1) && ((r_17.1.H == v_46.2.2.2.2) && true))))) (wg rfl rfl rfl) (by kernel_rfl) ?_
              refine h_op (vB ((r_17.1.X == v_46.2.1) && ((r_17.1.Y == v_46.2.2.1) && ((r_17.1.W == v_46.2.2.2.1) && ((r_17.1.H == v_46.2.2.2.2) && true))))) (wt rfl) rfl ?_
              rcases cond_some h_68 with ⟨hc_70, h_68⟩ | ⟨hc_70, h_68⟩
              · refine h_movb rfl hc_70 (wt rfl) ?_
                refine h_op (vB r_17.2.1) (wg rfl rfl rfl) rfl ?_
                refine h_op (vB v_46.1) (wg rfl rfl rfl) rfl ?_
                refine h_beql un4 rfl rfl (wg rfl rfl rfl) ?_
                refine h_op (vB (r_17.2.1 == v_46.1)) (wt rfl) rfl ?_
                rcases cond_some h_68 with ⟨hc_71, h_68⟩ | ⟨hc_71, h_68⟩
                · refine h_movb rfl hc_71 (wt rfl) ?_
                  refine h_op (vI r_20.2) (wg rfl rfl rfl) rfl ?_
                  refine h_op (vI r_37) (wg rfl rfl rfl) rfl ?_
                  refine h_op (vB (r_20.2 == r_37)) (wg rfl rfl rfl) rfl ?_
                  refine h_op (vB (r_20.2 == r_37)) (wt rfl) rfl ?_
                  rcases cond_some h_68 with ⟨hc_72, h_68⟩ | ⟨hc_72, h_68⟩
                  · refine h_movb rfl hc_72 (wt rfl) ?_
                    refine h_op (vL Rect.enc r_20.1) (wg rfl rfl rfl) rfl ?_
                    refine h_op (vL Rect.enc v_53.2) (wg rfl rfl rfl) rfl ?_
                    obtain ⟨r_73, hr_74, h_68⟩ := bind_some h_68
                    refine h_call0 (slices_Equal_api_Rect_api_Rect_ok hr_74) rfl hb64 rfl rfl rfl rfl (wg rfl rfl rfl) ?_
                    refine h_op (vB r_73) (wt rfl) rfl ?_
                    rcases cond_some h_68 with ⟨hc_75, h_68⟩ | ⟨hc_75, h_68⟩
                    · refine h_movb rfl hc_75 (wt rfl) ?_
                      refine h_op (vI r_24.2) (wg rfl rfl rfl) rfl ?_
                      refine h_op (vI r_37) (wg rfl rfl rfl) rfl ?_
                      refine h_op (vB (r_24.2 == r_37)) (wg rfl rfl rfl) rfl ?_
                      refine h_op (vB (r_24.2 == r_37)) (wt rfl) rfl ?_
                      rcases cond_some h_68 with ⟨hc_76, h_68⟩ | ⟨hc_76, h_68⟩
                      · refine h_movb rfl hc_76 (wt rfl) ?_
                        refine h_op (vI r_24.1) (wg rfl rfl rfl) rfl ?_
                        refine h_op (vI v_53.1) (wg rfl rfl rfl) rfl ?_
                        refine h_op (vB (r_24.1 == v_53.1)) (wg rfl rfl rfl) rfl ?_
                        refine h_op (vB (r_24.1 == v_53.1)) (wt rfl) rfl ?_
                        rcases cond_some h_68 with ⟨hc_77, h_68⟩ | ⟨hc_77, h_68⟩
                        · refine h_movb rfl hc_77 (wt rfl) ?_
                          refine h_op (vI r_22.2) (wg rfl rfl rfl) rfl ?_
                          refine h_op (vI r_43) (wg rfl rfl rfl) rfl ?_
                          refine h_op (vB (r_22.2 == r_43)) (wg rfl rfl rfl) rfl ?_
                          refine h_op (vB (r_22.2 == r_43)) (wt rfl) rfl ?_
                          rcases cond_some h_68 with ⟨hc_78, h_68⟩ | ⟨hc_78, h_68⟩
                          · refine h_movb rfl hc_78 (wt rfl) ?_
                            refine h_op (vL Rect.enc r_22.1) (wg rfl rfl rfl) rfl ?_
                            refine h_op (vL Rect.enc v_62) (wg rfl rfl rfl) rfl ?_
                            obtain ⟨r_79, hr_80, h_68⟩ := bind_some h_68
                            refine h_call0 (slices_Equal_api_Rect_api_Rect_ok hr_80) rfl hb64 rfl rfl rfl rfl (wg rfl rfl rfl) ?_
                            refine h_op (vB r_79) (wt rfl) rfl ?_
                            rcases cond_some h_68 with ⟨hc_81, h_68⟩ | ⟨hc_81, h_68⟩
                            · refine h_movb rfl hc_81 (wt rfl) ?_
                              obtain ⟨r_82, hr_83, h_68⟩ := bind_some h_68
                              refine h_call0 (law_lit_ok hr_83) rfl hb65 rfl rfl rfl rfl (wg rfl rfl rfl) ?_
                              refine h_op (vB r_82) (wt rfl) rfl ?_
                              refine h_op (vB r_82) (wt rfl) rfl ?_
                              refine h_nil ?_
                              replace h_68 := some_inj h_68
                              subst h_68
                              exact cut_mk () trivial rfl (pre_r rfl)
                            · refine h_movb rfl hc_81 (wt rfl) ?_
                              refine h_skip (wg rfl rfl rfl) ?_
                              refine h_op (vB false) (wt rfl) rfl ?_
                              refine h_op (vB false) (wt rfl) rfl ?_
                              refine h_nil ?_
                              replace h_68 := some_inj h_68
                              subst h_68
                              exact cut_mk () trivial rfl (pre_r rfl)
                          · refine h_movb rfl hc_78 (wt rfl) ?_
                            refine h_skip (wg rfl rfl rfl) ?_
                            refine h_skip (wg rfl rfl rfl) ?_
                            refine h_skip (wg rfl rfl rfl) ?_
                            refine h_op (vB false) (wt rfl) rfl ?_
                            refine h_op (vB false) (wt rfl) rfl ?_
                            refine h_skip (wg rfl rfl rfl) ?_
                            refine h_op (vB false) (wt rfl) rfl ?_
                            refine h_op (vB false) (wt rfl) rfl ?_
                            refine h_nil ?_
                            replace h_68 := some_inj h_68
                            subst h_68
                            exact cut_mk () trivial rfl (pre_r rfl)
                        · refine h_movb rfl hc_77 (wt rfl) ?_
                          refine h_skip (wg rfl rfl rfl) ?_
                          refine h_skip (wg rfl rfl rfl) ?_
                          refine h_skip (wg rfl rfl rfl) ?_
                          refine h_op (vB false) (wt rfl) rfl ?_
                          refine h_op (vB false) (wt rfl) rfl ?_
                          refine h_skip (wg rfl rfl rfl) ?_
                          refine h_skip (wg rfl rfl rfl) ?_
                          refine h_skip (wg rfl rfl rfl) ?_
                          refine h_op (vB false) (wt rfl) rfl ?_
                          refine h_op (vB false) (wt rfl) rfl ?_
                          refine h_skip (wg rfl rfl rfl) ?_
                          refine h_op (vB false) (wt rfl) rfl ?_
                          refine h_op (vB false) (wt rfl) rfl ?_
                          refine h_nil ?_
                          replace h_68 := some_inj h_68
                          subst h_68
                          exact cut_mk () trivial rfl (pre_r rfl)
                      · refine h_movb rfl hc_76 (wt rfl) ?_
                        refine h_skip (wg rfl rfl rfl) ?_
                        refine h_skip (wg rfl rfl rfl) ?_
                        refine h_skip (wg rfl rfl rfl) ?_
                        refine h_op (vB false) (wt rfl) rfl ?_
                        refine h_op (vB false) (wt rfl) rfl ?_
                        refine h_skip (wg rfl rfl rfl) ?_
                        refine h_skip (wg rfl rfl rfl) ?_
                        refine h_skip (wg rfl rfl rfl) ?_
                        refine h_op (vB false) (wt rfl) rfl ?_
                        refine h_op (vB false) (wt rfl) rfl ?_
                        refine h_skip (wg rfl rfl rfl) ?_
                        refine h_skip (wg rfl rfl rfl) ?_
                        refine h_skip (wg rfl rfl rfl) ?_
                        refine h_op (vB false) (wt rfl) rfl ?_
                        refine h_op (vB false) (wt rfl) rfl ?_
                        refine h_skip (wg rfl rfl rfl) ?_
                        refine h_op (vB false) (wt rfl) rfl ?_
                        refine h_op (vB false) (wt rfl) rfl ?_
                        refine h_nil ?_
                        replace h_68 := some_inj h_68
                        subst h_68
                        exact cut_mk () trivial rfl (pre_r rfl)
                    · refine h_movb rfl hc_75 (wt rfl) ?_
                      refine h_skip (wg rfl rfl rfl) ?_
                      refine h_skip (wg rfl rfl rfl) ?_
                      refine h_skip (wg rfl rfl rfl) ?_
                      refine h_op (vB false) (wt rfl) rfl ?_
                      refine h_op (vB false) (wt rfl) rfl ?_
                      refine h_skip (wg rfl rfl rfl) ?_
                      refine h_skip (wg rfl rfl rfl) ?_
                      refine h_skip (wg rfl rfl rfl) ?_
                      refine h_op (vB false) (wt rfl) rfl ?_
                      refine h_op (vB false) (wt rfl) rfl ?_
                      refine h_skip (wg rfl rfl rfl) ?_
                      refine h_skip (wg rfl rfl rfl) ?_
                      refine h_skip (wg rfl rfl rfl) ?_
                      refine h_op (vB false) (wt rfl) rfl ?_
                      refine h_op (vB false) (wt rfl) rfl ?_
                      refine h_skip (wg rfl rfl rfl) ?_
                      refine h_skip (wg rfl rfl rfl) ?_
                      refine h_skip (wg rfl rfl rfl) ?_
                      refine h_op (vB false) (wt rfl) rfl ?_
                      refine h_op (vB false) (wt rfl) rfl ?_
                      refine h_skip (wg rfl rfl rfl) ?_
                      refine h_op (vB false) (wt rfl) rfl ?_
                      refine h_op (vB false) (wt rfl) rfl ?_
                      refine h_nil ?_
                      replace h_68 := some_inj h_68
                      subst h_68
                      exact cut_mk () trivial rfl (pre_r rfl)
                  · refine h_movb rfl hc_72 (wt rfl) ?_
                    refine h_skip (wg rfl rfl rfl) ?_
                    refine h_skip (wg rfl rfl rfl) ?_
                    refine h_skip (wg rfl rfl rfl) ?_
                    refine h_op (vB false) (wt rfl) rfl ?_
                    refine h_op (vB false) (wt rfl) rfl ?_
                    refine h_skip (wg rfl rfl rfl) ?_
                    refine h_skip (wg rfl rfl rfl) ?_
                    refine h_skip (wg rfl rfl rfl) ?_
                    refine h_op (vB false) (wt rfl) rfl ?_
                    refine h_op (vB false) (wt rfl) rfl ?_
                    refine h_skip (wg rfl rfl rfl) ?_
                    refine h_skip (wg rfl rfl rfl) ?_
                    refine h_skip (wg rfl rfl rfl) ?_
                    refine h_op (vB false) (wt rfl) rfl ?_
                    refine h_op (vB false) (wt rfl) rfl ?_
                    refine h_skip (wg rfl rfl rfl) ?_
                    refine h_skip (wg rfl rfl rfl) ?_
                    refine h_skip (wg rfl rfl rfl) ?_
                    refine h_op (vB false) (wt rfl) rfl ?_
                    refine h_op (vB false) (wt rfl) rfl ?_
                    refine h_skip (wg rfl rfl rfl) ?_
                    refine h_skip (wg rfl rfl rfl) ?_
                    refine h_skip (wg rfl rfl rfl) ?_
                    refine h_op (vB false) (wt rfl) rfl ?_
                    refine h_op (vB false) (wt rfl) rfl ?_
                    refine h_skip (wg rfl rfl rfl) ?_
                    refine h_op (vB false) (wt rfl) rfl ?_
                    refine h_op (vB false) (wt rfl) rfl ?_
                    refine h_nil ?_
                    replace h_68 := some_inj h_68
                    subst h_68
                    exact cut_mk () trivial rfl (pre_r rfl)
                · refine h_movb rfl hc_71 (wt rfl) ?_
                  refine h_skip (wg rfl rfl rfl) ?_
                  refine h_skip (wg rfl rfl rfl) ?_
                  refine h_skip (wg rfl rfl rfl) ?_
                  refine h_op (vB false) (wt rfl) rfl ?_
                  refine h_op (vB false) (wt rfl) rfl ?_
                  refine h_skip (wg rfl rfl rfl) ?_
                  refine h_skip (wg rfl rfl rfl) ?_
                  refine h_skip (wg rfl rfl rfl) ?_
                  refine h_op (vB false) (wt rfl) rfl ?_
                  refine h_op (vB false) (wt rfl) rfl ?_
                  refine h_skip (wg rfl rfl rfl) ?_
                  refine h_skip (wg rfl rfl rfl) ?_
                  refine h_skip (wg rfl rfl rfl) ?_
                  refine h_op (vB false) (wt rfl) rfl ?_
                  refine h_op (vB false) (wt rfl) rfl ?_
                  refine h_skip (wg rfl rfl rfl) ?_
                  refine h_skip (wg rfl rfl rfl) ?_
                  refine h_skip (wg rfl rfl rfl) ?_
                  refine h_op (vB false) (wt rfl) rfl ?_
                  refine h_op (vB false) (wt rfl) rfl ?_
                  refine h_skip (wg rfl rfl rfl) ?_
                  refine h_skip (wg rfl rfl rfl) ?_
                  refine h_skip (wg rfl rfl rfl) ?_
                  refine h_op (vB false) (wt rfl) rfl ?_
                  refine h_op (vB false) (wt rfl) rfl ?_
                  refine h_skip (wg rfl rfl rfl) ?_
                  refine h_skip (wg rfl rfl rfl) ?_
                  refine h_skip (wg rfl rfl rfl) ?_
                  refine h_op (vB false) (wt rfl) rfl ?_
                  refine h_op (vB false) (wt rfl) rfl ?_
                  refine h_skip (wg rfl rfl rfl) ?_
                  refine h_op (vB false) (wt rfl) rfl ?_
                  refine h_op (vB false) (wt rfl) rfl ?_
                  refine h_nil ?_
                  replace h_68 := some_inj h_68
                  subst h_68
                  exact cut_mk () trivial rfl (pre_r rfl)
              · refine h_movb rfl hc_70 (wt rfl) ?_
                refine h_skip (wg rfl rfl rfl) ?_
                refine h_skip (wg rfl rfl rfl) ?_
                refine h_skip (wg rfl rfl rfl) ?_
                refine h_op (vB false) (wt rfl) rfl ?_
                refine h_op (vB false) (wt rfl) rfl ?_
                refine h_skip (wg rfl rfl rfl) ?_
                refine h_skip (wg rfl rfl rfl) ?_
                refine h_skip (wg rfl rfl rfl) ?_
                refine h_op (vB false) (wt rfl) rfl ?_
                refine h_op (vB false) (wt rfl) rfl ?_
                refine h_skip (wg rfl rfl rfl) ?_
                refine h_skip (wg rfl rfl rfl) ?_
                refine h_skip (wg rfl rfl rfl) ?_
                refine h_op (vB false) (wt rfl) rfl ?_
                refine h_op (vB false) (wt rfl) rfl ?_
                refine h_skip (wg rfl rfl rfl) ?_
                refine h_skip (wg rfl rfl rfl) ?_
                refine h_skip (wg rfl rfl rfl) ?_
                refine h_op (vB false) (wt rfl) rfl ?_
                refine h_op (vB false) (wt rfl) rfl ?_
                refine h_skip (wg rfl rfl rfl) ?_
                refine h_skip (wg rfl rfl rfl) ?_
                refine h_skip (wg rfl rfl rfl) ?_
                refine h_op (vB false) (wt rfl) rfl ?_
                refine h_op (vB false) (wt rfl) rfl ?_
                refine h_skip (wg rfl rfl rfl) ?_
                refine h_skip (wg rfl rfl rfl) ?_
                refine h_skip (wg rfl rfl rfl) ?_
                refine h_op (vB false) (wt rfl) rfl ?_
                refine h_op (vB false) (wt rfl) rfl ?_
                refine h_skip (wg rfl rfl rfl) ?_
                refine h_skip (wg rfl rfl rfl) ?_
                refine h_skip (wg rfl rfl rfl) ?_
                refine h_op (vB false) (wt rfl) rfl ?_
                refine h_op (vB false) (wt rfl) rfl ?_
                refine h_skip (wg rfl rfl rfl) ?_
                refine h_op (vB false) (wt rfl) rfl ?_
                refine h_op (vB false) (wt rfl) rfl ?_
                refine h_nil ?_
                replace h_68 := some_inj h_68
                subst h_68
                exact cut_mk () trivial rfl (pre_r rfl)
            · refine h_movb rfl hc_69 (wt rfl) ?_
              refine h_skip (wg rfl rfl rfl) ?_
              refine h_skip (wg rfl rfl rfl) ?_
              refine h_skip (wg rfl rfl rfl) ?_
              refine h_op (vB false) (wt rfl) rfl ?_
              refine h_op (vB false) (wt rfl) rfl ?_
              refine h_skip (wg rfl rfl rfl) ?_
              refine h_skip (wg rfl rfl rfl) ?_
              refine h_skip (wg rfl rfl rfl) ?_
              refine h_op (vB false) (wt rfl) rfl ?_
              refine h_op (vB false) (wt rfl) rfl ?_
              refine h_skip (wg rfl rfl rfl) ?_
              refine h_skip (wg rfl rfl rfl) ?_
              refine h_skip (wg rfl rfl rfl) ?_
              refine h_op (vB false) (wt rfl) rfl ?_
              refine h_op (vB false) (wt rfl) rfl ?_
              refine h_skip (wg rfl rfl rfl) ?_
              refine h_skip (wg rfl rfl rfl) ?_
              refine h_skip (wg rfl rfl rfl) ?_
              refine h_op (vB false) (wt rfl) rfl ?_
              refine h_op (vB false) (wt rfl) rfl ?_
              refine h_skip (wg rfl rfl rfl) ?_
              refine h_skip (wg rfl rfl rfl) ?_
              refine h_skip (wg rfl rfl rfl) ?_
              refine h_op (vB false) (wt rfl) rfl ?_
              refine h_op (vB false) (wt rfl) rfl ?_
              refine h_skip (wg rfl rfl rfl) ?_
              refine h_skip (wg rfl rfl rfl) ?_
              refine h_skip (wg rfl rfl rfl) ?_
              refine h_op (vB false) (wt rfl) rfl ?_
              refine h_op (vB false) (wt rfl) rfl ?_
              refine h_skip (wg rfl rfl rfl) ?_
              refine h_skip (wg rfl rfl rfl) ?_
              refine h_skip (wg rfl rfl rfl) ?_
              refine h_op (vB false) (wt rfl) rfl ?_
              refine h_op (vB false) (wt rfl) rfl ?_
              refine h_skip (wg rfl rfl rfl) ?_
              refine h_skip (wg rfl rfl rfl) ?_
              refine h_skip (wg rfl rfl rfl) ?_
              refine h_op (vB false) (wt rfl) rfl ?_
              refine h_op (vB false) (wt rfl) rfl ?_
              refine h_skip (wg rfl rfl rfl) ?_
              refine h_op (vB false) (wt rfl) rfl ?_
              refine h_op (vB false) (wt rfl) rfl ?_
              refine h_nil ?_
              replace h_68 := some_inj h_68
              subst h_68
              exact cut_mk () trivial rfl (pre_r rfl)
          · rintro ⟨⟩ _ sl_ H_ hp_ hq_
            refine wH_at _ hp_ hq_ ?_
            replace hF := some_inj hF
            subst hF
            refine wH_ret ?_
            exact fin0 (.inr rfl) [(vB v_67)] ⟨rfl, trivial⟩ rfl rfl rfl
end Go.Proofs.Ytodfcleaapnklaa.Law
