/-
  The machine computes these plain functions (written by a program of ours).
-/
import Derived.Test.YtodfcleaapnklaaFacts
import Derived.Test.YtodfcleaapnklaaDefs
import Derived.Test.YtodfcleaapnklaaPf2
open Go Go.Eng Go.Proofs
namespace Go.Proofs.Ytodfcleaapnklaa.Law
set_option maxRecDepth 100000
set_option linter.unusedVariables false
set_option maxHeartbeats 1000000
theorem law_proved_ok {r : Bool} (hF : law_proved  = some r) :
    FnM Try.prog 23 [] [] (vB r) [] := by
  refine FnM.of_wH ⟨Try.prog, 16, [], []⟩ rfl Try.func23 rfl rfl (Nat.le_of_ble_eq_true rfl) (by kernel_rfl) ?_
  unfold law_proved at hF
  refine wH_seq ?_
  refine wH_region ?_
  refine h_op (vB false) (wt rfl) rfl ?_
  refine h_nil ?_
  refine wH_seq ?_
  refine wH_region ?_
  refine h_op (.d (.agg (Beat.enc (⟨(⟨#[112]⟩ : ByteArray), 0, 100⟩ : Beat)))) (wt rfl) (by kernel_rfl) ?_
  refine h_op (.d (.agg (Beat.enc (⟨(⟨#[112]⟩ : ByteArray), 1000, 1300⟩ : Beat)))) (wt rfl) (by kernel_rfl) ?_
  refine h_lit (([(⟨(⟨#[112]⟩ : ByteArray), 0, 100⟩ : Beat), (⟨(⟨#[112]⟩ : ByteArray), 1000, 1300⟩ : Beat)] : List Beat).map Beat.enc) es26 ez26 rfl rfl rfl rfl rfl (wt rfl) ?_
  obtain ⟨r_1, hr_2, hF⟩ := bind_some hF
  refine h_call0 (proof_Right_ok hr_2) rfl hb11 rfl rfl rfl rfl (wt rfl) ?_
  refine h_op (.tup [(vI r_1.1), (vI r_1.2)]) (wt rfl) rfl ?_
  refine h_op (vI r_1.1) (wt rfl) rfl ?_
  refine h_op (vI r_1.2) (wt rfl) rfl ?_
  refine h_op (vI r_1.1) (wt rfl) rfl ?_
  refine h_op (vI r_1.2) (wt rfl) rfl ?_
  refine h_nil ?_
  refine wH_seq ?_
  obtain ⟨v_3, h_4, hF⟩ := bind_some hF
  refine wH_join (β := Unit) (fun _ => ([(0, (vB v_3))] : List (Nat × V))) (fun _ => ([] : Hp)) (fun _ => True) ?_ ?_
  · refine wH_region ?_
    refine h_op (vI r_1.2) (wt rfl) rfl ?_
    refine h_op (vB (r_1.2 == 0)) (wt rfl) rfl ?_
    rcases cond_some h_4 with ⟨hc_5, h_4⟩ | ⟨hc_5, h_4⟩
    · refine h_movb rfl hc_5 (wt rfl) ?_
      refine h_op (vI r_1.1) (wg rfl rfl rfl) rfl ?_
      refine h_op (vB (r_1.1 == 500)) (wg rfl rfl rfl) rfl ?_
      refine h_op (vB (r_1.1 == 500)) (wt rfl) rfl ?_
      refine h_op (vB (r_1.1 == 500)) (wt rfl) rfl ?_
      refine h_nil ?_
      replace h_4 := some_inj h_4
      subst h_4
      exact cut_mk () trivial rfl rfl
    · refine h_movb rfl hc_5 (wt rfl) ?_
      refine h_skip (wg rfl rfl rfl) ?_
      refine h_skip (wg rfl rfl rfl) ?_
      refine h_op (vB false) (wt rfl) rfl ?_
      refine h_op (vB false) (wt rfl) rfl ?_
      refine h_nil ?_
      replace h_4 := some_inj h_4
      subst h_4
      exact cut_mk () trivial rfl rfl
  · rintro ⟨⟩ _ sl_ H_ hp_ hq_
    refine wH_at _ hp_ hq_ ?_
    replace hF := some_inj hF
    subst hF
    refine wH_ret ?_
    exact fin0 (.inr rfl) [(vB v_3)] ⟨rfl, trivial⟩ rfl rfl rfl
theorem law_ClocksPutRight_ok {l_1 : (List Int)} {r : Bool} (hF : law_ClocksPutRight l_1 = some r) :
    FnM Try.prog 3 [(vL eI l_1)] [] (vB r) [] := by
  refine FnM.of_wH ⟨Try.prog, 140, [], []⟩ rfl Try.func3 rfl rfl (Nat.le_of_ble_eq_true rfl) (by kernel_rfl) ?_
  unfold law_ClocksPutRight at hF
  refine wH_seq ?_
  refine wH_region ?_
  refine h_op (vB false) (wt rfl) rfl ?_
  refine h_nil ?_
  refine wH_seq ?_
  refine wH_region ?_
  refine h_op (vL eI l_1) (wt rfl) rfl ?_
  refine h_op (.d (.agg (Stream.enc (⟨l_1, 0⟩ : Stream)))) (wt rfl) (by kernel_rfl) ?_
  refine h_box 0 (.inl rfl) [(vL eI l_1), (vI 0)] rfl rfl (wt rfl) (fun n_2 => ?_)
  refine h_op (.ref n_2 0 0) (wt rfl) rfl ?_
  refine h_nil ?_
  refine wH_seq ?_
  refine wH_region ?_
  refine h_op (.ref n_2 0 0) (wt rfl) rfl ?_
  obtain ⟨r_3, hr_4, hF⟩ := bind_some hF
  refine h_callq 0 [0] (.inl rfl) (fun _ _ _ => trivial) (mk_Stream_Beats_ok hr_4) rfl hb8 rfl (by kernel_rfl) (by kernel_rfl) (by kernel_rfl) (by kernel_rfl) (by kernel_rfl) (by kernel_rfl) (by kernel_rfl) (by decide) (by kernel_rfl) (wt rfl) (vL Beat.enc r_3.1) (by kernel_rfl) ([(n_2, some (.cells 2 [(vL eI r_3.2.L), (vI r_3.2.f_at)]))] : Hp) (by kernel_rfl) ?_
  refine h_op (.ref n_2 0 0) (wt rfl) rfl ?_
  refine h_lit (([(⟨#[112, 97]⟩ : ByteArray), (⟨#[112, 97]⟩ : ByteArray), (⟨#[112, 98]⟩ : ByteArray), (⟨#[112, 122]⟩ : ByteArray), (⟨#[]⟩ : ByteArray)] : List ByteArray).map eS) es46 ez46 rfl rfl rfl rfl rfl (wt rfl) ?_
  obtain ⟨r_6, hr_7, hF⟩ := bind_some hF
  refine h_callq 0 [0] (.inl rfl) (fun _ _ _ => trivial) (mk_Stream_Some_ok hr_7) rfl hb9 rfl (by kernel_rfl) (by kernel_rfl) (by kernel_rfl) (by kernel_rfl) (by kernel_rfl) (by kernel_rfl) (by kernel_rfl) (by decide) (by kernel_rfl) (wt rfl) (vS r_6.1) (by kernel_rfl) ([(n_2, some (.cells 2 [(vL eI r_6.2.L), (vI r_6.2.f_at)]))] : Hp) (by kernel_rfl) ?_
  refine h_op (.ref n_2 0 0) (wt rfl) rfl ?_
  refine h_lit (([0, 50, 100, 130, 500, 1500, 2678400000, 5184000000, (-1), 345686399999, 345686400000] : List Int).map eI) es22 ez22 rfl rfl rfl rfl rfl (wt rfl) ?_
  obtain ⟨r_9, hr_10, hF⟩ := bind_some hF
  refine h_callq 0 [0] (.inl rfl) (fun _ _ _ => trivial) (mk_Stream_Pick_ok hr_10) rfl hb10 rfl (by kernel_rfl) (by kernel_rfl) (by kernel_rfl) (by kernel_rfl) (by kernel_rfl) (by kernel_rfl) (by kernel_rfl) (by decide) (by kernel_rfl) (wt rfl) (vI r_9.1) (by kernel_rfl) ([(n_2, some (.cells 2 [(vL eI r_9.2.L), (vI r_9.2.f_at)]))] : Hp) (by kernel_rfl) ?_
  refine h_op (vL Beat.enc r_3.1) (wt rfl) rfl ?_
  refine h_op (vS r_6.1) (wt rfl) rfl ?_
  refine h_op (vI r_9.1) (wt rfl) rfl ?_
  refine h_nil ?_
  refine wH_seq ?_
  refine wH_region ?_
  refine h_op (vL Beat.enc r_3.1) (wt rfl) rfl ?_
  refine h_op (vS r_6.1) (wt rfl) rfl ?_
  refine h_op (vI r_9.1) (wt rfl) rfl ?_
  obtain ⟨r_12, hr_13, hF⟩ := bind_some hF
  refine h_call0 (proof_Right_ok hr_13) rfl hb11 rfl rfl rfl rfl (wt rfl) ?_
  refine h_op (.tup [(vI r_12.1), (vI r_12.2)]) (wt rfl) rfl ?_
  refine h_op (vI r_12.1) (wt rfl) rfl ?_
  refine h_op (vI r_12.2) (wt rfl) rfl ?_
  refine h_op (vI r_12.1) (wt rfl) rfl ?_
  refine h_op (vI r_12.2) (wt rfl) rfl ?_
  refine h_nil ?_
  refine wH_seq ?_
  refine wH_region ?_
  refine h_op (vL Beat.enc r_3.1) (wt rfl) rfl ?_
  refine h_op (vS r_6.1) (wt rfl) rfl ?_
  refine h_op (vI r_9.1) (wt rfl) rfl ?_
  obtain ⟨r_14, hr_15, hF⟩ := bind_some hF
  refine h_call0 (proof_Shown_ok hr_15) rfl hb12 rfl rfl rfl rfl (wt rfl) ?_
  refine h_op (.tup [(vI r_14.1), (vI r_14.2)]) (wt rfl) rfl ?_
  refine h_op (vI r_14.1) (wt rfl) rfl ?_
  refine h_op (vI r_14.2) (wt rfl) rfl ?_
  refine h_op (vI r_14.1) (wt rfl) rfl ?_
  refine h_op (vI r_14.2) (wt rfl) rfl ?_
  refine h_nil ?_
  refine wH_seq ?_
  refine wH_region ?_
  refine h_op (vL Beat.enc r_3.1) (wt rfl) rfl ?_
  refine h_op (vS r_6.1) (wt rfl) rfl ?_
  obtain ⟨r_16, hr_17, hF⟩ := bind_some hF
  refine h_call0 (proof_Drift_ok hr_17) rfl hb13 rfl rfl rfl rfl (wt rfl) ?_
  refine h_op (.tup [(.d (.agg (Fraction.enc r_16.1))), (vI r_16.2)]) (wt rfl) rfl ?_
  refine h_op (.d (.agg (Fraction.enc r_16.1))) (wt rfl) rfl ?_
  refine h_op (vI r_16.2) (wt rfl) rfl ?_
  refine h_alloc 0 (.inl rfl) z34 rfl (wt rfl) (fun n_18 => ?_)
  refine h_str 0 (.inl rfl) (fun _ _ _ => trivial) 1 sz34 rfl rfl [(vI r_16.1.Num), (vI r_16.1.Den)] rfl (wt rfl) ?_
  refine h_op (vI r_16.2) (wt rfl) rfl ?_
  refine h_nil ?_
  refine wH_seq ?_
  refine wH_region ?_
  refine h_op (vL Beat.enc r_3.1) (wt rfl) rfl ?_
  obtain ⟨r_19, hr_20, hF⟩ := bind_some hF
  refine h_call0 (ref_BeatsFault_ok hr_20) rfl hb14 rfl rfl rfl rfl (wt rfl) ?_
  refine h_op (vI r_19) (wt rfl) rfl ?_
  refine h_nil ?_
  refine wH_seq ?_
  refine wH_seq ?_
  refine wH_region ?_
  refine h_op (vL Beat.enc r_3.1) (wt rfl) rfl ?_
  obtain ⟨r_21, hr_22, hF⟩ := bind_some hF
  refine h_call0 (proof_CheckBeats_ok hr_22) rfl hb15 rfl rfl rfl rfl (wt rfl) ?_
  refine h_op (vI r_19) (wt rfl) rfl ?_
  refine h_op (vB (r_21 != r_19)) (wt rfl) rfl ?_
  refine h_nil ?_
  rcases cond_some hF with ⟨hc_23, hF⟩ | ⟨hc_23, hF⟩
  · refine wH_ift rfl hc_23 ?_
    refine wH_seq ?_
    refine wH_region ?_
    refine h_op (vB false) (wt rfl) rfl ?_
    refine h_nil ?_
    replace hF := some_inj hF
    subst hF
    refine wH_ret ?_
    exact fin0 (.inr rfl) [(vB false)] ⟨rfl, trivial⟩ rfl rfl rfl
  · refine wH_iff rfl hc_23 ?_
    refine wH_skip ?_
    refine wH_seq ?_
    refine wH_region ?_
    refine h_op (vI r_19) (wt rfl) rfl ?_
    refine h_op (vS r_6.1) (wt rfl) rfl ?_
    obtain ⟨r_24, hr_25, hF⟩ := bind_some hF
    refine h_call0 (ref_Key_ok hr_25) rfl hb18 rfl rfl rfl rfl (wt rfl) ?_
    refine h_op (vB (!r_24)) (wt rfl) rfl ?_
    obtain ⟨r_26, hr_27, hF⟩ := bind_some hF
    refine h_call0 (law_when_ok hr_27) rfl hb17 rfl rfl rfl rfl (wt rfl) ?_
    refine h_lit (([r_19, r_26] : List Int).map eI) es129 ez129 rfl rfl rfl rfl rfl (wt rfl) ?_
    obtain ⟨r_28, hr_29, hF⟩ := bind_some hF
    refine h_call0 (law_errs_ok hr_29) rfl hb16 rfl rfl rfl rfl (wt rfl) ?_
    refine h_op (vI r_28) (wt rfl) rfl ?_
    refine h_nil ?_
    refine wH_seq ?_
    refine wH_region ?_
    refine h_op (vI r_28) (wt rfl) rfl ?_
    refine h_op (vI r_9.1) (wt rfl) rfl ?_
    obtain ⟨r_30, hr_31, hF⟩ := bind_some hF
    refine h_call0 (law_momentFault_ok hr_31) rfl hb19 rfl rfl rfl rfl (wt rfl) ?_
    refine h_lit (([r_28, r_30] : List Int).map eI) es129 ez129 rfl rfl rfl rfl rfl (wt rfl) ?_
    obtain ⟨r_32, hr_33, hF⟩ := bind_some hF
    refine h_call0 (law_errs_ok hr_33) rfl hb16 rfl rfl rfl rfl (wt rfl) ?_
    refine h_op (vI r_28) (wt rfl) rfl ?_
    refine h_op (vI r_9.1) (wt rfl) rfl ?_
    obtain ⟨r_34, hr_35, hF⟩ := bind_some hF
    refine h_call0 (law_momentFault_ok hr_35) rfl hb19 rfl rfl rfl rfl (wt rfl) ?_
    refine h_lit (([r_28, r_34] : List Int).map eI) es129 ez129 rfl rfl rfl rfl rfl (wt rfl) ?_
    obtain ⟨r_36, hr_37, hF⟩ := bind_some hF
    refine h_call0 (law_errs_ok hr_37) rfl hb16 rfl rfl rfl rfl (wt rfl) ?_
    refine h_op (vI r_28) (wt rfl) rfl ?_
    refine h_op (vI r_32) (wt rfl) rfl ?_
    refine h_op (vI r_36) (wt rfl) rfl ?_
    refine h_op (vI r_28) (wt rfl) rfl ?_
    refine h_nil ?_
    refine wH_seq ?_
    refine wH_region ?_
    refine h_op (.d (.agg (Fraction.enc (⟨0, 0⟩ : Fraction)))) (wt rfl) (by kernel_rfl) ?_
    refine h_alloc 0 (.inl rfl) z34 rfl (wt rfl) (fun n_38 => ?_)
    refine h_op (vI 0) (wt rfl) rfl ?_
    refine h_op (vI 0) (wt rfl) rfl ?_
    refine h_str 0 (.inl rfl) (fun _ _ _ => trivial) 2 sz34 rfl rfl [(vI 0), (vI 0)] rfl (wt rfl) ?_
    refine h_nil ?_
    refine wH_seq ?_
    refine wH_seq ?_
    refine wH_region ?_
    refine h_op (vI r_32) (wt rfl) rfl ?_
    refine h_op (vB (r_32 == 0)) (wt rfl) rfl ?_
    refine h_nil ?_
    obtain ⟨v_39, h_40, hF⟩ := bind_some hF
    refine wH_join (β := Unit) (fun _ => ([(4, (vL Beat.enc r_3.1)), (5, (vS r_6.1)), (6, (vI r_9.1)), (7, (vI r_12.1)), (8, (vI r_12.2)), (9, (vI r_14.1)), (10, (vI r_14.2)), (11, (.ref n_18 0 0)), (12, (vI r_16.2)), (15, (vI v_39.1)), (16, (vI r_36)), (17, (vI r_28)), (18, (vI v_39.2)), (19, (vI 0)), (20, (.ref n_38 0 0))] : List (Nat × V))) (fun _ => ([(n_2, some (.cells 2 [(vL eI r_9.2.L), (vI r_9.2.f_at)])), (n_18, some (.cells 2 [(vI r_16.1.Num), (vI r_16.1.Den)])), (n_38, some (.cells 2 [(vI 0), (vI 0)]))] : Hp)) (fun _ => True) ?_ ?_
    · rcases cond_some h_40 with ⟨hc_41, h_40⟩ | ⟨hc_41, h_40⟩
      · refine wH_ift rfl hc_41 ?_
        refine wH_region ?_
        refine h_op (vL Beat.enc r_3.1) (wt rfl) rfl ?_
        refine h_op (vS r_6.1) (wt rfl) rfl ?_
        refine h_op (vI r_9.1) (wt rfl) rfl ?_
        obtain ⟨r_42, hr_43, h_40⟩ := bind_some h_40
        refine h_call0 (ref_RightOf_ok hr_43) rfl hb20 rfl rfl rfl rfl (wt rfl) ?_
        refine h_op (.tup [(vI r_42.1), (vI r_42.2)]) (wt rfl) rfl ?_
        refine h_op (vI r_42.1) (wt rfl) rfl ?_
        refine h_op (vI r_42.2) (wt rfl) rfl ?_
        refine h_op (vI r_42.1) (wt rfl) rfl ?_
        refine h_op (vI r_42.2) (wt rfl) rfl ?_
        refine h_nil ?_
        replace h_40 := some_inj h_40
        subst h_40
        exact cut_mk () trivial rfl rfl
      · refine wH_iff rfl hc_41 ?_
        refine wH_skip ?_
        replace h_40 := some_inj h_40
        subst h_40
        exact cut_mk () trivial rfl rfl
    · rintro ⟨⟩ _ sl_ H_ hp_ hq_
      refine wH_at _ hp_ hq_ ?_
      refine wH_seq ?_
      refine wH_seq ?_
      refine wH_region ?_
      refine h_op (vI r_36) (wt rfl) rfl ?_
      refine h_op (vB (r_36 == 0)) (wt rfl) rfl ?_
      refine h_nil ?_
      obtain ⟨v_44, h_45, hF⟩ := bind_some hF
      refine wH_join (β := Unit) (fun _ => ([(4, (vL Beat.enc r_3.1)), (5, (vS r_6.1)), (7, (vI r_12.1)), (8, (vI r_12.2)), (9, (vI r_14.1)), (10, (vI r_14.2)), (11, (.ref n_18 0 0)), (12, (vI r_16.2)), (15, (vI v_39.1)), (16, (vI v_44.1)), (17, (vI r_28)), (18, (vI v_39.2)), (19, (vI v_44.2)), (20, (.ref n_38 0 0))] : List (Nat × V))) (fun _ => ([(n_2, some (.cells 2 [(vL eI r_9.2.L), (vI r_9.2.f_at)])), (n_18, some (.cells 2 [(vI r_16.1.Num), (vI r_16.1.Den)])), (n_38, some (.cells 2 [(vI 0), (vI 0)]))] : Hp)) (fun _ => True) ?_ ?_
      · rcases cond_some h_45 with ⟨hc_46, h_45⟩ | ⟨hc_46, h_45⟩
        · refine wH_ift rfl hc_46 ?_
          refine wH_region ?_
          refine h_op (vL Beat.enc r_3.1) (wt rfl) rfl ?_
          refine h_op (vS r_6.1) (wt rfl) rfl ?_
          refine h_op (vI r_9.1) (wt rfl) rfl ?_
          obtain ⟨r_47, hr_48, h_45⟩ := bind_some h_45
          refine h_call0 (ref_ShownOf_ok hr_48) rfl hb21 rfl rfl rfl rfl (wt rfl) ?_
          refine h_op (.tup [(vI r_47.1), (vI r_47.2)]) (wt rfl) rfl ?_
          refine h_op (vI r_47.1) (wt rfl) rfl ?_
          refine h_op (vI r_47.2) (wt rfl) rfl ?_
          refine h_op (vI r_47.1) (wt rfl) rfl ?_
          refine h_op (vI r_47.2) (wt rfl) rfl ?_
          refine h_nil ?_
          replace h_45 := some_inj h_45
          subst h_45
          exact cut_mk () trivial rfl rfl
        · refine wH_iff rfl hc_46 ?_
          refine wH_skip ?_
          replace h_45 := some_inj h_45
          subst h_45
          exact cut_mk () trivial rfl rfl
      · rintro ⟨⟩ _ sl_ H_ hp_ hq_
        refine wH_at _ hp_ hq_ ?_
        refine wH_seq ?_
        refine wH_seq ?_
        refine wH_region ?_
        refine h_op (vI r_28) (wt rfl) rfl ?_
        refine h_op (vB (r_28 == 0)) (wt rfl) rfl ?_
        refine h_nil ?_
        obtain ⟨v_49, h_50, hF⟩ := bind_some hF
        refine wH_join (β := Unit) (fun _ => ([(7, (vI r_12.1)), (8, (vI r_12.2)), (9, (vI r_14.1)), (10, (vI r_14.2)), (11, (.ref n_18 0 0)), (12, (vI r_16.2)), (15, (vI v_39.1)), (16, (vI v_44.1)), (17, (vI v_49.1)), (18, (vI v_39.2)), (19, (vI v_44.2)), (20, (.ref n_38 0 0))] : List (Nat × V))) (fun _ => ([(n_2, some (.cells 2 [(vL eI r_9.2.L), (vI r_9.2.f_at)])), (n_18, some (.cells 2 [(vI r_16.1.Num), (vI r_16.1.Den)])), (n_38, some (.cells 2 [(vI v_49.2.1), (vI v_49.2.2)]))] : Hp)) (fun _ => True) ?_ ?_
        · rcases cond_some h_50 with ⟨hc_51, h_50⟩ | ⟨hc_51, h_50⟩
          · refine wH_ift rfl hc_51 ?_
            refine wH_seq ?_
            refine wH_region ?_
            refine h_op (vL Beat.enc r_3.1) (wt rfl) rfl ?_
            refine h_op (vS r_6.1) (wt rfl) rfl ?_
            obtain ⟨r_52, hr_53, h_50⟩ := bind_some h_50
            refine h_call0 (ref_DriftOf_ok hr_53) rfl hb22 rfl rfl rfl rfl (wt rfl) ?_
            refine h_op (.tup [(.d (.agg (Fraction.enc r_52.1))), (vB r_52.2)]) (wt rfl) rfl ?_
            refine h_op (.d (.agg (Fraction.enc r_52.1))) (wt rfl) rfl ?_
            refine h_op (vB r_52.2) (wt rfl) rfl ?_
            refine h_alloc 0 (.inl rfl) z34 rfl (wt rfl) (fun n_54 => ?_)
            refine h_str 0 (.inl rfl) (fun _ _ _ => trivial) 3 sz34 rfl rfl [(vI r_52.1.Num), (vI r_52.1.Den)] rfl (wt rfl) ?_
            refine h_op (vB r_52.2) (wt rfl) rfl ?_
            refine h_nil ?_
            refine wH_draws ?_
            refine h_ldr 0 3 (.inr (by kernel_rfl)) (fun _ _ ag => trivial) sz34 ag34 rfl rfl (.d (.agg (Fraction.enc r_52.1))) rfl (wt rfl) ?_
            refine h_op (vB r_52.2) (wt rfl) rfl ?_
            refine h_op (vB (!r_52.2)) (wt rfl) rfl ?_
            obtain ⟨r_55, hr_56, h_50⟩ := bind_some h_50
            refine h_call0 (law_when_ok hr_56) rfl hb17 rfl rfl rfl rfl (wt rfl) ?_
            refine h_str 4 (.inr (by kernel_rfl)) (fun _ _ ag => ⟨.inr (.inr (by kernel_rfl)), trivial⟩) 2 sz34 rfl rfl [(vI r_52.1.Num), (vI r_52.1.Den)] rfl (wt rfl) ?_
            refine h_op (vI r_55) (wt rfl) rfl ?_
            refine h_nil ?_
            replace h_50 := some_inj h_50
            subst h_50
            exact cut_mk () trivial rfl rfl
          · refine wH_iff rfl hc_51 ?_
            refine wH_skip ?_
            replace h_50 := some_inj h_50
            subst h_50
            exact cut_mk () trivial rfl rfl
        · rintro ⟨⟩ _ sl_ H_ hp_ hq_
          refine wH_at _ hp_ hq_ ?_
          refine wH_seq ?_
          obtain ⟨v_57, h_58, hF⟩ := bind_some hF
          refine wH_join (β := Unit) (fun _ => ([(2, (vB v_57))] : List (Nat × V))) (fun _ => ([(n_2, some (.cells 2 [(vL eI r_9.2.L), (vI r_9.2.f_at)])), (n_18, some (.cells 2 [(vI r_16.1.Num), (vI r_16.1.Den)])), (n_38, some (.cells 2 [(vI v_49.2.1), (vI v_49.2.2)]))] : Hp)) (fun _ => True) ?_ ?_
          · refine wH_region ?_
            refine h_op (vI r_12.2) (wt rfl) rfl ?_
            refine h_op (vI v_39.1) (wt rfl) rfl ?_
            refine h_op (vB (r_12.2 == v_39.1)) (wt rfl) rfl ?_
            rcases cond_some h_58 with ⟨hc_59, h_58⟩ | ⟨hc_59, h_58⟩
            · refine h_movb rfl hc_59 (wt rfl) ?_
              refine h_op (vI r_12.1) (wg rfl rfl rfl) rfl ?_
              refine h_op (vI v_39.2) (wg rfl rfl rfl) rfl ?_
              refine h_op (vB (r_12.1 == v_39.2)) (wg rfl rfl rfl) rfl ?_
              refine h_op (vB (r_12.1 == v_39.2)) (wt rfl) rfl ?_
              rcases cond_some h_58 with ⟨hc_60, h_58⟩ | ⟨hc_60, h_58⟩
              · refine h_movb rfl hc_60 (wt rfl) ?_
                refine h_op (vI r_14.2) (wg rfl rfl rfl) rfl ?_
                refine h_op (vI v_44.1) (wg rfl rfl rfl) rfl ?_
                refine h_op (vB (r_14.2 == v_44.1)) (wg rfl rfl rfl) rfl ?_
                refine h_op (vB (r_14.2 == v_44.1)) (wt rfl) rfl ?_
                rcases cond_some h_58 with ⟨hc_61, h_58⟩ | ⟨hc_61, h_58⟩
                · refine h_movb rfl hc_61 (wt rfl) ?_
                  refine h_op (vI r_14.1) (wg rfl rfl rfl) rfl ?_
                  refine h_op (vI v_44.2) (wg rfl rfl rfl) rfl ?_
                  refine h_op (vB (r_14.1 == v_44.2)) (wg rfl rfl rfl) rfl ?_
                  refine h_op (vB (r_14.1 == v_44.2)) (wt rfl) rfl ?_
                  rcases cond_some h_58 with ⟨hc_62, h_58⟩ | ⟨hc_62, h_58⟩
                  · refine h_movb rfl hc_62 (wt rfl) ?_
                    refine h_op (vI r_16.2) (wg rfl rfl rfl) rfl ?_
                    refine h_op (vI v_49.1) (wg rfl rfl rfl) rfl ?_
                    refine h_op (vB (r_16.2 == v_49.1)) (wg rfl rfl rfl) rfl ?_
                    refine h_op (vB (r_16.2 == v_49.1)) (wt rfl) rfl ?_
                    rcases cond_some h_58 with ⟨hc_63, h_58⟩ | ⟨hc_63, h_58⟩
                    · refine h_movb rfl hc_63 (wt rfl) ?_
                      refine h_ldr 0 1 (.inl rfl) (fun _ _ _ => trivial) sz34 ag34 rfl rfl (.d (.agg (Fraction.enc r_16.1))) rfl (wg rfl rfl rfl) ?_
                      refine h_ldr 0 2 (.inl rfl) (fun _ _ _ => trivial) sz34 ag34 rfl rfl (.d (.agg (Fraction.enc (⟨v_49.2.1, v_49.2.2⟩ : Fraction)))) rfl (wg rfl rfl rfl) ?_
                      refine h_op (vB ((r_16.1.Num == v_49.2.1) && ((r_16.1.Den == v_49.2.2) && true))) (wg rfl rfl rfl) (by kernel_rfl) ?_
                      refine h_op (vB ((r_16.1.Num == v_49.2.1) && ((r_16.1.Den == v_49.2.2) && true))) (wt rfl) rfl ?_
                      rcases cond_some h_58 with ⟨hc_64, h_58⟩ | ⟨hc_64, h_58⟩
                      · refine h_movb rfl hc_64 (wt rfl) ?_
                        obtain ⟨r_65, hr_66, h_58⟩ := bind_some h_58
                        refine h_call0 (law_proved_ok hr_66) rfl hb23 rfl rfl rfl rfl (wg rfl rfl rfl) ?_
                        refine h_op (vB r_65) (wt rfl) rfl ?_
                        refine h_op (vB r_65) (wt rfl) rfl ?_
                        refine h_nil ?_
                        replace h_58 := some_inj h_58
                        subst h_58
                        exact cut_mk () trivial rfl rfl
                      · refine h_movb rfl hc_64 (wt rfl) ?_
                        refine h_skip (wg rfl rfl rfl) ?_
                        refine h_op (vB false) (wt rfl) rfl ?_
                        refine h_op (vB false) (wt rfl) rfl ?_
                        refine h_nil ?_
                        replace h_58 := some_inj h_58
                        subst h_58
                        exact cut_mk () trivial rfl rfl
                    · refine h_movb rfl hc_63 (wt rfl) ?_
                      refine h_skip (wg rfl rfl rfl) ?_
                      refine h_skip (wg rfl rfl rfl) ?_
                      refine h_skip (wg rfl rfl rfl) ?_
                      refine h_op (vB false) (wt rfl) rfl ?_
                      refine h_op (vB false) (wt rfl) rfl ?_
                      refine h_skip (wg rfl rfl rfl) ?_
                      refine h_op (vB false) (wt rfl) rfl ?_
                      refine h_op (vB false) (wt rfl) rfl ?_
                      refine h_nil ?_
                      replace h_58 := some_inj h_58
                      subst h_58
                      exact cut_mk () trivial rfl rfl
                  · refine h_movb rfl hc_62 (wt rfl) ?_
                    refine h_skip (wg rfl rfl rfl) ?_
                    refine h_skip (wg rfl rfl rfl) ?_
                    refine h_skip (wg rfl rfl rfl) ?_
                    refine h_op (vB false) (wt rfl) rfl ?_
                    refine h_op (vB false) (wt rfl) rfl ?_
                    refine h_skip (wg rfl rfl rfl) ?_
                    refine h_skip (wg rfl rfl rfl) ?_
                    refine h_skip (wg rfl rfl rfl) ?_
                    refine h_op (vB false) (wt rfl) rfl ?_
                    refine h_op (vB false) (wt rfl) rfl ?_
                    refine h_skip (wg rfl rfl rfl) ?_
                    refine h_op (vB false) (wt rfl) rfl ?_
                    refine h_op (vB false) (wt rfl) rfl ?_
                    refine h_nil ?_
                    replace h_58 := some_inj h_58
                    subst h_58
                    exact cut_mk () trivial rfl rfl
                · refine h_movb rfl hc_61 (wt rfl) ?_
                  refine h_skip (wg rfl rfl rfl) ?_
                  refine h_skip (wg rfl rfl rfl) ?_
                  refine h_skip (wg rfl rfl rfl) ?_
                  refine h_op (vB false) (wt rfl) rfl ?_
                  refine h_op (vB false) (wt rfl) rfl ?_
                  refine h_skip (wg rfl rfl rfl) ?_
                  refine h_skip (wg rfl rfl rfl) ?_
                  refine h_skip (wg rfl rfl rfl) ?_
                  refine h_op (vB false) (wt rfl) rfl ?_
                  refine h_op (vB false) (wt rfl) rfl ?_
                  refine h_skip (wg rfl rfl rfl) ?_
                  refine h_skip (wg rfl rfl rfl) ?_
                  refine h_skip (wg rfl rfl rfl) ?_
                  refine h_op (vB false) (wt rfl) rfl ?_
                  refine h_op (vB false) (wt rfl) rfl ?_
                  refine h_skip (wg rfl rfl rfl) ?_
                  refine h_op (vB false) (wt rfl) rfl ?_
                  refine h_op (vB false) (wt rfl) rfl ?_
                  refine h_nil ?_
                  replace h_58 := some_inj h_58
                  subst h_58
                  exact cut_mk () trivial rfl rfl
              · refine h_movb rfl hc_60 (wt rfl) ?_
                refine h_skip (wg rfl rfl rfl) ?_
                refine h_skip (wg rfl rfl rfl) ?_
                refine h_skip (wg rfl rfl rfl) ?_
                refine h_op (vB false) (wt rfl) rfl ?_
                refine h_op (vB false) (wt rfl) rfl ?_
                refine h_skip (wg rfl rfl rfl) ?_
                refine h_skip (wg rfl rfl rfl) ?_
                refine h_skip (wg rfl rfl rfl) ?_
                refine h_op (vB false) (wt rfl) rfl ?_
                refine h_op (vB false) (wt rfl) rfl ?_
                refine h_skip (wg rfl rfl rfl) ?_
                refine h_skip (wg rfl rfl rfl) ?_
                refine h_skip (wg rfl rfl rfl) ?_
                refine h_op (vB false) (wt rfl) rfl ?_
                refine h_op (vB false) (wt rfl) rfl ?_
                refine h_skip (wg rfl rfl rfl) ?_
                refine h_skip (wg rfl rfl rfl) ?_
                refine h_skip (wg rfl rfl rfl) ?_
                refine h_op (vB false) (wt rfl) rfl ?_
                refine h_op (vB false) (wt rfl) rfl ?_
                refine h_skip (wg rfl rfl rfl) ?_
                refine h_op (vB false) (wt rfl) rfl ?_
                refine h_op (vB false) (wt rfl) rfl ?_
                refine h_nil ?_
                replace h_58 := some_inj h_58
                subst h_58
                exact cut_mk () trivial rfl rfl
            · refine h_movb rfl hc_59 (wt rfl) ?_
              refine h_skip (wg rfl rfl rfl) ?_
              refine h_skip (wg rfl rfl rfl) ?_
              refine h_skip (wg rfl rfl rfl) ?_
              refine h_op (vB false) (wt rfl) rfl ?_
              refine h_op (vB false) (wt rfl) rfl ?_
              refine h_skip (wg rfl rfl rfl) ?_
              refine h_skip (wg rfl rfl rfl) ?_
              refine h_skip (wg rfl rfl rfl) ?_
              refine h_op (vB false) (wt rfl) rfl ?_
              refine h_op (vB false) (wt rfl) rfl ?_
              refine h_skip (wg rfl rfl rfl) ?_
              refine h_skip (wg rfl rfl rfl) ?_
              refine h_skip (wg rfl rfl rfl) ?_
              refine h_op (vB false) (wt rfl) rfl ?_
              refine h_op (vB false) (wt rfl) rfl ?_
              refine h_skip (wg rfl rfl rfl) ?_
              refine h_skip (wg rfl rfl rfl) ?_
              refine h_skip (wg rfl rfl rfl) ?_
              refine h_op (vB false) (wt rfl) rfl ?_
              refine h_op (vB false) (wt rfl) rfl ?_
              refine h_skip (wg rfl rfl rfl) ?_
              refine h_skip (wg rfl rfl rfl) ?_
              refine h_skip (wg rfl rfl rfl) ?_
              refine h_op (vB false) (wt rfl) rfl ?_
              refine h_op (vB false) (wt rfl) rfl ?_
              refine h_skip (wg rfl rfl rfl) ?_
              refine h_op (vB false) (wt rfl) rfl ?_
              refine h_op (vB false) (wt rfl) rfl ?_
              refine h_nil ?_
              replace h_58 := some_inj h_58
              subst h_58
              exact cut_mk () trivial rfl rfl
          · rintro ⟨⟩ _ sl_ H_ hp_ hq_
            refine wH_at _ hp_ hq_ ?_
            replace hF := some_inj hF
            subst hF
            refine wH_ret ?_
            exact fin0 (.inr rfl) [(vB v_57)] ⟨rfl, trivial⟩ rfl rfl rfl
end Go.Proofs.Ytodfcleaapnklaa.Law
