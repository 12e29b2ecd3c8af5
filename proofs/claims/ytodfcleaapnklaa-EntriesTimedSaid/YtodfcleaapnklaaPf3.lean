/-
  The machine computes these plain functions (written by a program of ours).
-/
import Derived.Test.YtodfcleaapnklaaFacts
import Derived.Test.YtodfcleaapnklaaDefs
import Derived.Test.YtodfcleaapnklaaPf2
open Go Go.Eng Go.Proofs
namespace Go.Proofs.Ytodfcleaapnklaa.Law
set_option maxRecDepth 100000
set_option linter.unusedVariables false
set_option maxHeartbeats 1000000
theorem schedule_isDay_ok {e_1 : Entry} {d_2 : Int} {r : Bool} (hF : schedule_isDay e_1 d_2 = some r) :
    FnM Try.prog 155 [(.d (.agg (Entry.enc e_1))), (vI d_2)] [] (vB r) [] := by
  refine FnM.of_wH ⟨Try.prog, 41, [], []⟩ rfl Try.func155 rfl rfl (Nat.le_of_ble_eq_true rfl) (by kernel_rfl) ?_
  unfold schedule_isDay at hF
  refine wH_seq ?_
  refine wH_region ?_
  refine h_box 0 (.inl rfl) [(vS e_1.Key), (vS e_1.Item), (vI e_1.Version), (vI e_1.First), (vI e_1.Last), (vI e_1.Every), (vI e_1.Days), (vL eI e_1.Except), (vI e_1.From), (vI e_1.To), (vI e_1.Prio), (vL eS e_1.Tags), (vB e_1.Gone)] rfl rfl (wt rfl) (fun n_3 => ?_)
  refine h_op (vB false) (wt rfl) rfl ?_
  refine h_nil ?_
  refine wH_seq ?_
  refine wH_seq ?_
  obtain ⟨v_4, h_5, hF⟩ := bind_some hF
  refine wH_join (β := Unit) (fun _ => ([(1, (vI d_2)), (2, (.ref n_3 0 0)), (31, (vB v_4))] : List (Nat × V))) (fun _ => ([(n_3, some (.cells 13 [(vS e_1.Key), (vS e_1.Item), (vI e_1.Version), (vI e_1.First), (vI e_1.Last), (vI e_1.Every), (vI e_1.Days), (vL eI e_1.Except), (vI e_1.From), (vI e_1.To), (vI e_1.Prio), (vL eS e_1.Tags), (vB e_1.Gone)]))] : Hp)) (fun _ => True) ?_ ?_
  · refine wH_draws ?_
    refine h_op (vI d_2) (wt rfl) rfl ?_
    refine h_far pl56_3 rfl 3 rfl (wt rfl) ?_
    refine h_ldr 2 0 (.inr (by kernel_rfl)) (fun _ _ ag => trivial) sz3 ag3 rfl rfl (vI e_1.First) rfl (wt rfl) ?_
    refine h_far pl56_4 rfl 4 rfl (wt rfl) ?_
    refine h_ldr 4 0 (.inr (by kernel_rfl)) (fun _ _ ag => ⟨.inl ⟨rfl, rfl⟩, trivial⟩) sz3 ag3 rfl rfl (vI e_1.Last) rfl (wt rfl) ?_
    obtain ⟨r_6, hr_7, h_5⟩ := bind_some h_5
    refine h_call0 (kit_Outside_ok hr_7) rfl hb82 rfl rfl rfl rfl (wt rfl) ?_
    rcases cond_some h_5 with ⟨hc_8, h_5⟩ | ⟨hc_8, h_5⟩
    · refine h_movb rfl hc_8 (wt rfl) ?_
      refine h_skip (wg rfl rfl rfl) ?_
      refine h_skip (wg rfl rfl rfl) ?_
      refine h_skip (wg rfl rfl rfl) ?_
      refine h_skip (wg rfl rfl rfl) ?_
      refine h_skip (wg rfl rfl rfl) ?_
      refine h_skip (wg rfl rfl rfl) ?_
      refine h_skip (wg rfl rfl rfl) ?_
      refine h_skip (wg rfl rfl rfl) ?_
      refine h_op (vB true) (wt rfl) rfl ?_
      refine h_op (vB true) (wt rfl) rfl ?_
      refine h_skip (wg rfl rfl rfl) ?_
      refine h_skip (wg rfl rfl rfl) ?_
      refine h_skip (wg rfl rfl rfl) ?_
      refine h_skip (wg rfl rfl rfl) ?_
      refine h_skip (wg rfl rfl rfl) ?_
      refine h_skip (wg rfl rfl rfl) ?_
      refine h_skip (wg rfl rfl rfl) ?_
      refine h_op (vB true) (wt rfl) rfl ?_
      refine h_nil ?_
      replace h_5 := some_inj h_5
      subst h_5
      exact cut_mk () trivial rfl rfl
    · refine h_movb rfl hc_8 (wt rfl) ?_
      refine h_op (vI d_2) (wg rfl rfl rfl) rfl ?_
      refine h_far pl56_3 rfl 3 rfl (wg rfl rfl rfl) ?_
      refine h_ldr 9 0 (.inr (by kernel_rfl)) (fun _ _ ag => ⟨.inl ⟨rfl, rfl⟩, ⟨.inl ⟨rfl, rfl⟩, trivial⟩⟩) sz3 ag3 rfl rfl (vI e_1.First) rfl (wg rfl rfl rfl) ?_
      refine h_op (vI (w64 (d_2 - e_1.First))) (wg rfl rfl rfl) rfl ?_
      refine h_far pl56_5 rfl 5 rfl (wg rfl rfl rfl) ?_
      refine h_ldr 12 0 (.inr (by kernel_rfl)) (fun _ _ ag => ⟨.inl ⟨rfl, rfl⟩, ⟨.inl ⟨rfl, rfl⟩, ⟨.inl ⟨rfl, rfl⟩, trivial⟩⟩⟩) sz3 ag3 rfl rfl (vI e_1.Every) rfl (wg rfl rfl rfl) ?_
      obtain ⟨q_9, hz_10, h_5⟩ := bind_some h_5
      refine h_rem rfl rfl hz_10 (wg rfl rfl rfl) ?_
      refine h_op (vB (q_9 != 0)) (wg rfl rfl rfl) rfl ?_
      refine h_op (vB (q_9 != 0)) (wt rfl) rfl ?_
      rcases cond_some h_5 with ⟨hc_11, h_5⟩ | ⟨hc_11, h_5⟩
      · refine h_movb rfl hc_11 (wt rfl) ?_
        refine h_skip (wg rfl rfl rfl) ?_
        refine h_skip (wg rfl rfl rfl) ?_
        refine h_skip (wg rfl rfl rfl) ?_
        refine h_skip (wg rfl rfl rfl) ?_
        refine h_skip (wg rfl rfl rfl) ?_
        refine h_skip (wg rfl rfl rfl) ?_
        refine h_skip (wg rfl rfl rfl) ?_
        refine h_op (vB true) (wt rfl) rfl ?_
        refine h_nil ?_
        replace h_5 := some_inj h_5
        subst h_5
        exact cut_mk () trivial rfl rfl
      · refine h_movb rfl hc_11 (wt rfl) ?_
        refine h_far pl56_6 rfl 6 rfl (wg rfl rfl rfl) ?_
        refine h_ldr 18 0 (.inr (by kernel_rfl)) (fun _ _ ag => ⟨.inl ⟨rfl, rfl⟩, ⟨.inl ⟨rfl, rfl⟩, ⟨.inl ⟨rfl, rfl⟩, ⟨.inl ⟨rfl, rfl⟩, trivial⟩⟩⟩⟩) sz3 ag3 rfl rfl (vI e_1.Days) rfl (wg rfl rfl rfl) ?_
        refine h_op (vI d_2) (wg rfl rfl rfl) rfl ?_
        refine h_op (vI (d_2.tmod 7)) (wg rfl rfl rfl) rfl ?_
        obtain ⟨q_12, hz_13, h_5⟩ := bind_some h_5
        refine h_shl rfl rfl hz_13 (wg rfl rfl rfl) ?_
        refine h_op (vI (andI .i64 e_1.Days q_12)) (wg rfl rfl rfl) rfl ?_
        refine h_op (vB ((andI .i64 e_1.Days q_12) == 0)) (wg rfl rfl rfl) rfl ?_
        refine h_op (vB ((andI .i64 e_1.Days q_12) == 0)) (wt rfl) rfl ?_
        refine h_nil ?_
        replace h_5 := some_inj h_5
        subst h_5
        exact cut_mk () trivial rfl rfl
  · rintro ⟨⟩ _ sl_ H_ hp_ hq_
    refine wH_at _ hp_ hq_ ?_
    rcases cond_some hF with ⟨hc_14, hF⟩ | ⟨hc_14, hF⟩
    · refine wH_ift rfl hc_14 ?_
      refine wH_seq ?_
      refine wH_region ?_
      refine h_op (vB false) (wt rfl) rfl ?_
      refine h_nil ?_
      replace hF := some_inj hF
      subst hF
      refine wH_ret ?_
      exact fin0 (.inr rfl) [(vB false)] ⟨rfl, trivial⟩ rfl rfl rfl
    · refine wH_iff rfl hc_14 ?_
      refine wH_skip ?_
      refine wH_seq ?_
      refine wH_region ?_
      refine h_far pl56_7 rfl 7 rfl (wt rfl) ?_
      refine h_ldr 0 0 (.inl rfl) (fun _ _ _ => trivial) sz22 ag22 rfl rfl (vL eI e_1.Except) rfl (wt rfl) ?_
      refine h_op (vI d_2) (wt rfl) rfl ?_
      obtain ⟨r_15, hr_16, hF⟩ := bind_some hF
      refine h_call0 (slices_BinarySearch_int_int_ok hr_16) rfl hb186 rfl rfl rfl rfl (wt rfl) ?_
      refine h_op (.tup [(vI r_15.1), (vB r_15.2)]) (wt rfl) rfl ?_
      refine h_op (vI r_15.1) (wt rfl) rfl ?_
      refine h_op (vB r_15.2) (wt rfl) rfl ?_
      refine h_op (vI r_15.1) (wt rfl) rfl ?_
      refine h_op (vB r_15.2) (wt rfl) rfl ?_
      refine h_nil ?_
      refine wH_seq ?_
      refine wH_region ?_
      refine h_op (vB r_15.2) (wt rfl) rfl ?_
      refine h_op (vB (!r_15.2)) (wt rfl) rfl ?_
      refine h_op (vB (!r_15.2)) (wt rfl) rfl ?_
      refine h_nil ?_
      replace hF := some_inj hF
      subst hF
      refine wH_ret ?_
      exact fin0 (.inr rfl) [(vB (!r_15.2))] ⟨rfl, trivial⟩ rfl rfl rfl
theorem schedule_timeOf_ok {e_1 : Entry} {zone_2 : Int} {d_3 : Int} {r : Window} (hF : schedule_timeOf e_1 zone_2 d_3 = some r) :
    FnM Try.prog 156 [(.d (.agg (Entry.enc e_1))), (vI zone_2), (vI d_3)] [] (.d (.agg (Window.enc r))) [] := by
  refine FnM.of_wH ⟨Try.prog, 32, [], []⟩ rfl Try.func156 rfl rfl (Nat.le_of_ble_eq_true rfl) (by kernel_rfl) ?_
  unfold schedule_timeOf at hF
  refine wH_seq ?_
  refine wH_region ?_
  refine h_box 0 (.inl rfl) [(vS e_1.Key), (vS e_1.Item), (vI e_1.Version), (vI e_1.First), (vI e_1.Last), (vI e_1.Every), (vI e_1.Days), (vL eI e_1.Except), (vI e_1.From), (vI e_1.To), (vI e_1.Prio), (vL eS e_1.Tags), (vB e_1.Gone)] rfl rfl (wt rfl) (fun n_4 => ?_)
  refine h_alloc 0 (.inl rfl) z51 rfl (wt rfl) (fun n_5 => ?_)
  refine h_nil ?_
  refine wH_seq ?_
  refine wH_region ?_
  refine h_far pl56_9 rfl 9 rfl (wt rfl) ?_
  refine h_ldr 0 0 (.inl rfl) (fun _ _ _ => trivial) sz3 ag3 rfl rfl (vI e_1.To) rfl (wt rfl) ?_
  refine h_far pl56_8 rfl 8 rfl (wt rfl) ?_
  refine h_ldr 0 0 (.inl rfl) (fun _ _ _ => trivial) sz3 ag3 rfl rfl (vI e_1.From) rfl (wt rfl) ?_
  refine h_op (vI (w64 (e_1.To - e_1.From))) (wt rfl) rfl ?_
  refine h_op (vI (w64 (e_1.To - e_1.From))) (wt rfl) rfl ?_
  refine h_nil ?_
  refine wH_seq ?_
  refine wH_seq ?_
  refine wH_region ?_
  refine h_op (vI (w64 (e_1.To - e_1.From))) (wt rfl) rfl ?_
  refine h_op (vB (decide ((w64 (e_1.To - e_1.From)) ≤ 0))) (wt rfl) rfl ?_
  refine h_nil ?_
  obtain ⟨v_6, h_7, hF⟩ := bind_some hF
  refine wH_join (β := Unit) (fun _ => ([(1, (vI zone_2)), (2, (vI d_3)), (3, (.ref n_4 0 0)), (6, (.ref n_5 0 0)), (7, (vI v_6))] : List (Nat × V))) (fun _ => ([(n_4, some (.cells 13 [(vS e_1.Key), (vS e_1.Item), (vI e_1.Version), (vI e_1.First), (vI e_1.Last), (vI e_1.Every), (vI e_1.Days), (vL eI e_1.Except), (vI e_1.From), (vI e_1.To), (vI e_1.Prio), (vL eS e_1.Tags), (vB e_1.Gone)])), (n_5, some (.cells 2 [(vI 0), (vI 0)]))] : Hp)) (fun _ => True) ?_ ?_
  · rcases cond_some h_7 with ⟨hc_8, h_7⟩ | ⟨hc_8, h_7⟩
    · refine wH_ift rfl hc_8 ?_
      refine wH_region ?_
      refine h_op (vI (w64 (e_1.To - e_1.From))) (wt rfl) rfl ?_
      refine h_op (vI (w64 ((w64 (e_1.To - e_1.From)) + 1440))) (wt rfl) rfl ?_
      refine h_op (vI (w64 ((w64 (e_1.To - e_1.From)) + 1440))) (wt rfl) rfl ?_
      refine h_nil ?_
      replace h_7 := some_inj h_7
      subst h_7
      exact cut_mk () trivial rfl rfl
    · refine wH_iff rfl hc_8 ?_
      refine wH_skip ?_
      replace h_7 := some_inj h_7
      subst h_7
      exact cut_mk () trivial rfl rfl
  · rintro ⟨⟩ _ sl_ H_ hp_ hq_
    refine wH_at _ hp_ hq_ ?_
    refine wH_seq ?_
    refine wH_region ?_
    refine h_op (vI d_3) (wt rfl) rfl ?_
    refine h_op (vI (w64 (d_3 * 1440))) (wt rfl) rfl ?_
    refine h_far pl56_8 rfl 8 rfl (wt rfl) ?_
    refine h_ldr 0 0 (.inl rfl) (fun _ _ _ => trivial) sz3 ag3 rfl rfl (vI e_1.From) rfl (wt rfl) ?_
    refine h_op (vI (w64 ((w64 (d_3 * 1440)) + e_1.From))) (wt rfl) rfl ?_
    refine h_op (vI zone_2) (wt rfl) rfl ?_
    refine h_op (vI (w64 ((w64 ((w64 (d_3 * 1440)) + e_1.From)) - zone_2))) (wt rfl) rfl ?_
    refine h_op (vI (w64 ((w64 ((w64 ((w64 (d_3 * 1440)) + e_1.From)) - zone_2)) * 60000))) (wt rfl) rfl ?_
    refine h_op (vI (w64 ((w64 ((w64 ((w64 (d_3 * 1440)) + e_1.From)) - zone_2)) * 60000))) (wt rfl) rfl ?_
    refine h_nil ?_
    refine wH_seq ?_
    refine wH_region ?_
    refine h_op (vI (w64 ((w64 ((w64 ((w64 (d_3 * 1440)) + e_1.From)) - zone_2)) * 60000))) (wt rfl) rfl ?_
    refine h_op (vI (w64 ((w64 ((w64 ((w64 (d_3 * 1440)) + e_1.From)) - zone_2)) * 60000))) (wt rfl) rfl ?_
    refine h_op (vI v_6) (wt rfl) rfl ?_
    refine h_op (vI (w64 (v_6 * 60000))) (wt rfl) rfl ?_
    refine h_op (vI (w64 ((w64 ((w64 ((w64 ((w64 (d_3 * 1440)) + e_1.From)) - zone_2)) * 60000)) + (w64 (v_6 * 60000))))) (wt rfl) rfl ?_
    refine h_op (.d (.agg (Window.enc (⟨(w64 ((w64 ((w64 ((w64 (d_3 * 1440)) + e_1.From)) - zone_2)) * 60000)), (w64 ((w64 ((w64 ((w64 ((w64 (d_3 * 1440)) + e_1.From)) - zone_2)) * 60000)) + (w64 (v_6 * 60000))))⟩ : Window)))) (wt rfl) (by kernel_rfl) ?_
    refine h_str 0 (.inl rfl) (fun _ _ _ => trivial) 1 sz51 rfl rfl [(vI (w64 ((w64 ((w64 ((w64 (d_3 * 1440)) + e_1.From)) - zone_2)) * 60000))), (vI (w64 ((w64 ((w64 ((w64 ((w64 (d_3 * 1440)) + e_1.From)) - zone_2)) * 60000)) + (w64 (v_6 * 60000)))))] rfl (wt rfl) ?_
    refine h_nil ?_
    replace hF := some_inj hF
    subst hF
    refine wH_ret ?_
    exact fin0 (.inr rfl) [(.d (.agg (Window.enc (⟨(w64 ((w64 ((w64 ((w64 (d_3 * 1440)) + e_1.From)) - zone_2)) * 60000)), (w64 ((w64 ((w64 ((w64 ((w64 (d_3 * 1440)) + e_1.From)) - zone_2)) * 60000)) + (w64 (v_6 * 60000))))⟩ : Window))))] ⟨⟨1, _, _, _, _, _, _, _, rfl, rfl, sz51, ag51, rfl⟩, trivial⟩ rfl rfl rfl
theorem schedule_times_ok {e_1 : Entry} {zone_2 : Int} {wv_3 : Window} {r : (List Window)} (hF : schedule_times e_1 zone_2 wv_3 = some r) :
    FnM Try.prog 94 [(.d (.agg (Entry.enc e_1))), (vI zone_2), (.d (.agg (Window.enc wv_3)))] [] (vL Window.enc r) [] := by
  refine FnM.of_wH ⟨Try.prog, 72, [], []⟩ rfl Try.func94 rfl rfl (Nat.le_of_ble_eq_true rfl) (by kernel_rfl) ?_
  unfold schedule_times at hF
  refine wH_seq ?_
  refine wH_region ?_
  refine h_box 0 (.inl rfl) [(vS e_1.Key), (vS e_1.Item), (vI e_1.Version), (vI e_1.First), (vI e_1.Last), (vI e_1.Every), (vI e_1.Days), (vL eI e_1.Except), (vI e_1.From), (vI e_1.To), (vI e_1.Prio), (vL eS e_1.Tags), (vB e_1.Gone)] rfl rfl (wt rfl) (fun n_4 => ?_)
  refine h_box 0 (.inl rfl) [(vI wv_3.From), (vI wv_3.To)] rfl rfl (wt rfl) (fun n_5 => ?_)
  refine h_op .nil (wt rfl) rfl ?_
  refine h_nil ?_
  refine wH_seq ?_
  refine wH_region ?_
  refine h_op .nil (wt rfl) rfl ?_
  refine h_nil ?_
  refine wH_seq ?_
  refine wH_seq ?_
  obtain ⟨v_6, h_7, hF⟩ := bind_some hF
  refine wH_join (β := Unit) (fun _ => ([(1, (vI zone_2)), (3, (.ref n_4 0 0)), (5, (.ref n_5 0 0)), (7, .nil), (20, (vB v_6))] : List (Nat × V))) (fun _ => ([(n_4, some (.cells 13 [(vS e_1.Key), (vS e_1.Item), (vI e_1.Version), (vI e_1.First), (vI e_1.Last), (vI e_1.Every), (vI e_1.Days), (vL eI e_1.Except), (vI e_1.From), (vI e_1.To), (vI e_1.Prio), (vL eS e_1.Tags), (vB e_1.Gone)])), (n_5, some (.cells 2 [(vI wv_3.From), (vI wv_3.To)]))] : Hp)) (fun _ => True) ?_ ?_
  · refine wH_region ?_
    refine h_far pl56_12 rfl 12 rfl (wt rfl) ?_
    refine h_ldr 0 0 (.inl rfl) (fun _ _ _ => trivial) sz4 ag4 rfl rfl (vB e_1.Gone) rfl (wt rfl) ?_
    rcases cond_some h_7 with ⟨hc_8, h_7⟩ | ⟨hc_8, h_7⟩
    · refine h_movb rfl hc_8 (wt rfl) ?_
      refine h_skip (wg rfl rfl rfl) ?_
      refine h_skip (wg rfl rfl rfl) ?_
      refine h_skip (wg rfl rfl rfl) ?_
      refine h_skip (wg rfl rfl rfl) ?_
      refine h_skip (wg rfl rfl rfl) ?_
      refine h_op (vB true) (wt rfl) rfl ?_
      refine h_nil ?_
      replace h_7 := some_inj h_7
      subst h_7
      exact cut_mk () trivial rfl rfl
    · refine h_movb rfl hc_8 (wt rfl) ?_
      refine h_far pl51_0 rfl 0 rfl (wg rfl rfl rfl) ?_
      refine h_ldr 0 1 (.inl rfl) (fun _ _ _ => trivial) sz3 ag3 rfl rfl (vI wv_3.From) rfl (wg rfl rfl rfl) ?_
      refine h_far pl51_1 rfl 1 rfl (wg rfl rfl rfl) ?_
      refine h_ldr 0 1 (.inl rfl) (fun _ _ _ => trivial) sz3 ag3 rfl rfl (vI wv_3.To) rfl (wg rfl rfl rfl) ?_
      refine h_op (vB (decide (wv_3.From ≥ wv_3.To))) (wg rfl rfl rfl) rfl ?_
      refine h_op (vB (decide (wv_3.From ≥ wv_3.To))) (wt rfl) rfl ?_
      refine h_nil ?_
      replace h_7 := some_inj h_7
      subst h_7
      exact cut_mk () trivial rfl rfl
  · rintro ⟨⟩ _ sl_ H_ hp_ hq_
    refine wH_at _ hp_ hq_ ?_
    rcases cond_some hF with ⟨hc_9, hF⟩ | ⟨hc_9, hF⟩
    · refine wH_ift rfl hc_9 ?_
      refine wH_seq ?_
      refine wH_region ?_
      refine h_op .nil (wt rfl) rfl ?_
      refine h_nil ?_
      replace hF := some_inj hF
      subst hF
      refine wH_ret ?_
      exact fin0 (.inr rfl) [.nil] ⟨rfl, trivial⟩ rfl rfl rfl
    · refine wH_iff rfl hc_9 ?_
      refine wH_skip ?_
      refine wH_seq ?_
      refine wH_region ?_
      refine h_far pl51_0 rfl 0 rfl (wt rfl) ?_
      refine h_ldr 0 1 (.inl rfl) (fun _ _ _ => trivial) sz3 ag3 rfl rfl (vI wv_3.From) rfl (wt rfl) ?_
      refine h_op (vI zone_2) (wt rfl) rfl ?_
      refine h_op (vI (w64 (zone_2 * 60000))) (wt rfl) rfl ?_
      refine h_op (vI (w64 (wv_3.From + (w64 (zone_2 * 60000))))) (wt rfl) rfl ?_
      refine h_op (vI (w64 ((w64 (wv_3.From + (w64 (zone_2 * 60000)))).tdiv 86400000))) (wt rfl) rfl ?_
      refine h_op (vI (w64 ((w64 ((w64 (wv_3.From + (w64 (zone_2 * 60000)))).tdiv 86400000)) - 2))) (wt rfl) rfl ?_
      refine h_op (vI (w64 ((w64 ((w64 (wv_3.From + (w64 (zone_2 * 60000)))).tdiv 86400000)) - 2))) (wt rfl) rfl ?_
      refine h_nil ?_
      refine wH_seq ?_
      refine wH_region ?_
      refine h_far pl51_1 rfl 1 rfl (wt rfl) ?_
      refine h_ldr 0 1 (.inl rfl) (fun _ _ _ => trivial) sz3 ag3 rfl rfl (vI wv_3.To) rfl (wt rfl) ?_
      refine h_op (vI zone_2) (wt rfl) rfl ?_
      refine h_op (vI (w64 (zone_2 * 60000))) (wt rfl) rfl ?_
      refine h_op (vI (w64 (wv_3.To + (w64 (zone_2 * 60000))))) (wt rfl) rfl ?_
      refine h_op (vI (w64 ((w64 (wv_3.To + (w64 (zone_2 * 60000)))).tdiv 86400000))) (wt rfl) rfl ?_
      refine h_op (vI (w64 ((w64 ((w64 (wv_3.To + (w64 (zone_2 * 60000)))).tdiv 86400000)) + 1))) (wt rfl) rfl ?_
      refine h_op (vI (w64 ((w64 ((w64 (wv_3.To + (w64 (zone_2 * 60000)))).tdiv 86400000)) + 1))) (wt rfl) rfl ?_
      refine h_nil ?_
      refine wH_seq ?_
      refine wH_seq ?_
      refine wH_region ?_
      refine h_op (vI (w64 ((w64 ((w64 (wv_3.From + (w64 (zone_2 * 60000)))).tdiv 86400000)) - 2))) (wt rfl) rfl ?_
      refine h_far pl56_3 rfl 3 rfl (wt rfl) ?_
      refine h_ldr 0 0 (.inl rfl) (fun _ _ _ => trivial) sz3 ag3 rfl rfl (vI e_1.First) rfl (wt rfl) ?_
      refine h_minmax (vI (maxI (w64 ((w64 ((w64 (wv_3.From + (w64 (zone_2 * 60000)))).tdiv 86400000)) - 2)) e_1.First)) rfl (.inr rfl) (wt rfl) ?_
      refine h_op (vI (maxI (w64 ((w64 ((w64 (wv_3.From + (w64 (zone_2 * 60000)))).tdiv 86400000)) - 2)) e_1.First)) (wt rfl) rfl ?_
      refine h_nil ?_
      refine wH_new (fun n_16 => ?_)
      obtain ⟨o_21, hj_22, hF⟩ := bind_some hF
      obtain ⟨nq_40, hj_22⟩ := loopO_iter hj_22
      refine wH_join (β := ((List Window) × Int) × Nm) (fun p => (fun (s_15 : (List Window) × Int) (n_18 : Nm) => ([(7, (gV n_18 2 s_15.1))] : List (Nat × V))) p.1 p.2) (fun p => (fun (s_15 : (List Window) × Int) (n_18 : Nm) => ([(n_4, some (.cells 13 [(vS e_1.Key), (vS e_1.Item), (vI e_1.Version), (vI e_1.First), (vI e_1.Last), (vI e_1.Every), (vI e_1.Days), (vL eI e_1.Except), (vI e_1.From), (vI e_1.To), (vI e_1.Prio), (vL eS e_1.Tags), (vB e_1.Gone)])), (n_5, some (.cells 2 [(vI wv_3.From), (vI wv_3.To)])), (n_18, gB 2 Window.enc s_15.1)] : Hp)) p.1 p.2) (fun p => o_21 = .go p.1) ?_ ?_
      · refine wH_block ?_
        refine wH_loop (β := Nat × ((List Window) × Int) × Nm) (fun p => (fun (k_10 : Nat) (s_15 : (List Window) × Int) (n_18 : Nm) => ([(1, (vI zone_2)), (3, (.ref n_4 0 0)), (5, (.ref n_5 0 0)), (7, (gV n_18 2 s_15.1)), (9, (vI (w64 ((w64 ((w64 (wv_3.To + (w64 (zone_2 * 60000)))).tdiv 86400000)) + 1)))), (10, (vI s_15.2))] : List (Nat × V))) p.1 p.2.1 p.2.2) (fun p => (fun (k_10 : Nat) (s_15 : (List Window) × Int) (n_18 : Nm) => ([(n_4, some (.cells 13 [(vS e_1.Key), (vS e_1.Item), (vI e_1.Version), (vI e_1.First), (vI e_1.Last), (vI e_1.Every), (vI e_1.Days), (vL eI e_1.Except), (vI e_1.From), (vI e_1.To), (vI e_1.Prio), (vL eS e_1.Tags), (vB e_1.Gone)])), (n_5, some (.cells 2 [(vI wv_3.From), (vI wv_3.To)])), (n_18, gB 2 Window.enc s_15.1)] : Hp)) p.1 p.2.1 p.2.2) (fun p => iterN (fun s => schedule_times_L1 wv_3 zone_2 e_1 s) p.1 p.2.1 = some o_21) (fun p => p.1) (nq_40, (([] : List Window), (maxI (w64 ((w64 ((w64 (wv_3.From + (w64 (zone_2 * 60000)))).tdiv 86400000)) - 2)) e_1.First)), n_16) hj_22 rfl rfl ?_
        rintro ⟨k_10, s_15, n_18⟩ hL_20
        dsimp only at hL_20
        cases k_10 with
        | zero => cases hL_20
        | succ k_10 =>
          obtain ⟨c_, hc_19, hL_20⟩ := bind_some hL_20
          unfold schedule_times_L1 at hc_19
          refine wH_seq ?_
          refine wH_seq ?_
          refine wH_region ?_
          refine h_op (vI s_15.2) (wt rfl) rfl ?_
          refine h_op (vI (w64 ((w64 ((w64 (wv_3.To + (w64 (zone_2 * 60000)))).tdiv 86400000)) + 1))) (wt rfl) rfl ?_
          refine h_far pl56_4 rfl 4 rfl (wt rfl) ?_
          refine h_ldr 0 0 (.inl rfl) (fun _ _ _ => trivial) sz3 ag3 rfl rfl (vI e_1.Last) rfl (wt rfl) ?_
          refine h_minmax (vI (minI (w64 ((w64 ((w64 (wv_3.To + (w64 (zone_2 * 60000)))).tdiv 86400000)) + 1)) e_1.Last)) rfl (.inl rfl) (wt rfl) ?_
          refine h_op (vB (decide (s_15.2 ≤ (minI (w64 ((w64 ((w64 (wv_3.To + (w64 (zone_2 * 60000)))).tdiv 86400000)) + 1)) e_1.Last)))) (wt rfl) rfl ?_
          refine h_nil ?_
          rcases cond_some hc_19 with ⟨hc_23, hc_19⟩ | ⟨hc_23, hc_19⟩
          · refine wH_ift rfl hc_23 ?_
            refine wH_skip ?_
            refine wH_seq ?_
            refine wH_block ?_
            refine wH_seq ?_
            refine wH_seq ?_
            refine wH_region ?_
            refine h_ldr 0 0 (.inl rfl) (fun _ _ _ => trivial) sz56 ag56 rfl rfl (.d (.agg (Entry.enc e_1))) rfl (wt rfl) ?_
            refine h_op (vI s_15.2) (wt rfl) rfl ?_
            obtain ⟨r_24, hr_25, hc_19⟩ := bind_some hc_19
            refine h_call0 (schedule_isDay_ok hr_25) rfl hb155 rfl rfl rfl rfl (wt rfl) ?_
            refine h_op (vB (!r_24)) (wt rfl) rfl ?_
            refine h_nil ?_
            rcases cond_some hc_19 with ⟨hc_26, hc_19⟩ | ⟨hc_26, hc_19⟩
            · refine wH_ift rfl hc_26 ?_
              refine wH_exit ?_
              refine wH_region ?_
              refine h_op (vI s_15.2) (wt rfl) rfl ?_
              refine h_op (vI (w64 (s_15.2 + 1))) (wt rfl) rfl ?_
              refine h_op (vI (w64 (s_15.2 + 1))) (wt rfl) rfl ?_
              refine h_nil ?_
              replace hc_19 := some_inj hc_19
              subst hc_19
              exact loop_mk (k_10, (s_15.1, (w64 (s_15.2 + 1))), n_18) hL_20 (Nat.lt_succ_self _) rfl rfl
            · refine wH_iff rfl hc_26 ?_
              refine wH_skip ?_
              refine wH_seq ?_
              refine wH_region ?_
              refine h_ldr 0 0 (.inl rfl) (fun _ _ _ => trivial) sz56 ag56 rfl rfl (.d (.agg (Entry.enc e_1))) rfl (wt rfl) ?_
              refine h_op (vI zone_2) (wt rfl) rfl ?_
              refine h_op (vI s_15.2) (wt rfl) rfl ?_
              obtain ⟨r_27, hr_28, hc_19⟩ := bind_some hc_19
              refine h_call0 (schedule_timeOf_ok hr_28) rfl hb156 rfl rfl rfl rfl (wt rfl) ?_
              refine h_alloc 0 (.inl rfl) z51 rfl (wt rfl) (fun n_29 => ?_)
              refine h_str 0 (.inl rfl) (fun _ _ _ => trivial) 3 sz51 rfl rfl [(vI r_27.From), (vI r_27.To)] rfl (wt rfl) ?_
              refine h_nil ?_
              refine wH_seq ?_
              obtain ⟨v_30, h_31, hc_19⟩ := bind_some hc_19
              refine wH_join (β := Unit) (fun _ => ([(1, (vI zone_2)), (3, (.ref n_4 0 0)), (5, (.ref n_5 0 0)), (7, (gV n_18 2 s_15.1)), (9, (vI (w64 ((w64 ((w64 (wv_3.To + (w64 (zone_2 * 60000)))).tdiv 86400000)) + 1)))), (10, (vI s_15.2)), (11, (.ref n_29 0 0)), (66, (vB v_30))] : List (Nat × V))) (fun _ => ([(n_4, some (.cells 13 [(vS e_1.Key), (vS e_1.Item), (vI e_1.Version), (vI e_1.First), (vI e_1.Last), (vI e_1.Every), (vI e_1.Days), (vL eI e_1.Except), (vI e_1.From), (vI e_1.To), (vI e_1.Prio), (vL eS e_1.Tags), (vB e_1.Gone)])), (n_5, some (.cells 2 [(vI wv_3.From), (vI wv_3.To)])), (n_18, gB 2 Window.enc s_15.1), (n_29, some (.cells 2 [(vI r_27.From), (vI r_27.To)]))] : Hp)) (fun _ => True) ?_ ?_
              · refine wH_region ?_
                refine h_far pl51_0 rfl 0 rfl (wt rfl) ?_
                refine h_ldr 0 3 (.inl rfl) (fun _ _ _ => trivial) sz3 ag3 rfl rfl (vI r_27.From) rfl (wt rfl) ?_
                refine h_far pl51_1 rfl 1 rfl (wt rfl) ?_
                refine h_ldr 0 1 (.inl rfl) (fun _ _ _ => trivial) sz3 ag3 rfl rfl (vI wv_3.To) rfl (wt rfl) ?_
                refine h_op (vB (decide (r_27.From < wv_3.To))) (wt rfl) rfl ?_
                rcases cond_some h_31 with ⟨hc_32, h_31⟩ | ⟨hc_32, h_31⟩
                · refine h_movb rfl hc_32 (wt rfl) ?_
                  refine h_far pl51_1 rfl 1 rfl (wg rfl rfl rfl) ?_
                  refine h_ldr 0 3 (.inl rfl) (fun _ _ _ => trivial) sz3 ag3 rfl rfl (vI r_27.To) rfl (wg rfl rfl rfl) ?_
                  refine h_far pl51_0 rfl 0 rfl (wg rfl rfl rfl) ?_
                  refine h_ldr 0 1 (.inl rfl) (fun _ _ _ => trivial) sz3 ag3 rfl rfl (vI wv_3.From) rfl (wg rfl rfl rfl) ?_
                  refine h_op (vB (decide (r_27.To > wv_3.From))) (wg rfl rfl rfl) rfl ?_
                  refine h_op (vB (decide (r_27.To > wv_3.From))) (wt rfl) rfl ?_
                  refine h_nil ?_
                  replace h_31 := some_inj h_31
                  subst h_31
                  exact cut_mk () trivial rfl rfl
                · refine h_movb rfl hc_32 (wt rfl) ?_
                  refine h_skip (wg rfl rfl rfl) ?_
                  refine h_skip (wg rfl rfl rfl) ?_
                  refine h_skip (wg rfl rfl rfl) ?_
                  refine h_skip (wg rfl rfl rfl) ?_
                  refine h_skip (wg rfl rfl rfl) ?_
                  refine h_op (vB false) (wt rfl) rfl ?_
                  refine h_nil ?_
                  replace h_31 := some_inj h_31
                  subst h_31
                  exact cut_mk () trivial rfl rfl
              · rintro ⟨⟩ _ sl_ H_ hp_ hq_
                refine wH_at _ hp_ hq_ ?_
                obtain ⟨v_33, h_34, hc_19⟩ := bind_some hc_19
                refine wH_join (β := Nm) (fun (n_35 : Nm) => ([(1, (vI zone_2)), (3, (.ref n_4 0 0)), (5, (.ref n_5 0 0)), (7, (gV n_35 2 v_33)), (9, (vI (w64 ((w64 ((w64 (wv_3.To + (w64 (zone_2 * 60000)))).tdiv 86400000)) + 1)))), (10, (vI s_15.2))] : List (Nat × V))) (fun (n_35 : Nm) => ([(n_4, some (.cells 13 [(vS e_1.Key), (vS e_1.Item), (vI e_1.Version), (vI e_1.First), (vI e_1.Last), (vI e_1.Every), (vI e_1.Days), (vL eI e_1.Except), (vI e_1.From), (vI e_1.To), (vI e_1.Prio), (vL eS e_1.Tags), (vB e_1.Gone)])), (n_5, some (.cells 2 [(vI wv_3.From), (vI wv_3.To)])), (n_35, gB 2 Window.enc v_33), (n_29, some (.cells 2 [(vI r_27.From), (vI r_27.To)]))] : Hp)) (fun _ => True) ?_ ?_
                · rcases cond_some h_34 with ⟨hc_36, h_34⟩ | ⟨hc_36, h_34⟩
                  · refine wH_ift rfl hc_36 ?_
                    refine wH_region ?_
                    refine h_op (gV n_18 2 s_15.1) (wt rfl) rfl ?_
                    refine h_ldr 0 3 (.inl rfl) (fun _ _ _ => trivial) sz51 ag51 rfl rfl (.d (.agg (Window.enc r_27))) rfl (wt rfl) ?_
                    refine h_lit (([r_27] : List Window).map Window.enc) es57 ez57 rfl rfl rfl rfl rfl (wt rfl) ?_
                    obtain ⟨a_37, hz_38, h_34⟩ := bind_some h_34
                    refine h_appg 0 (.inl rfl) (fun _ _ _ => trivial) (i := 2) el57 el57 sz51 z51 rfl (by decide) by51 (by decide) (fun _ => rfl) rfl rfl rfl hz_38 (wt rfl) (fun n_39 => ?_)
                    refine h_op (gV n_39 2 a_37) (wt rfl) rfl ?_
                    refine h_nil ?_
                    replace h_34 := some_inj h_34
                    subst h_34
                    exact cut_mk n_39 trivial rfl rfl
                  · refine wH_iff rfl hc_36 ?_
                    refine wH_skip ?_
                    replace h_34 := some_inj h_34
                    subst h_34
                    exact cut_mk n_18 trivial rfl rfl
                · rintro n_35 _ sl_ H_ hp_ hq_
                  refine wH_at _ hp_ hq_ ?_
                  refine wH_region ?_
                  refine h_op (vI s_15.2) (wt rfl) rfl ?_
                  refine h_op (vI (w64 (s_15.2 + 1))) (wt rfl) rfl ?_
                  refine h_op (vI (w64 (s_15.2 + 1))) (wt rfl) rfl ?_
                  refine h_nil ?_
                  replace hc_19 := some_inj hc_19
                  subst hc_19
                  exact loop_mk (k_10, (v_33, (w64 (s_15.2 + 1))), n_35) hL_20 (Nat.lt_succ_self _) rfl rfl
          · refine wH_iff rfl hc_23 ?_
            refine wH_exit ?_
            replace hc_19 := some_inj hc_19
            subst hc_19
            replace hL_20 := some_inj hL_20
            subst hL_20
            exact cut_mk ((s_15.1, s_15.2), n_18) rfl rfl rfl
      · rintro ⟨s_15, n_18⟩ ho_ sl_ H_ hp_ hq_
        subst ho_
        refine wH_at _ hp_ hq_ ?_
        refine wH_seq ?_
        refine wH_region ?_
        refine h_op (gV n_18 2 s_15.1) (wt rfl) rfl ?_
        refine h_op (gV n_18 2 s_15.1) (wt rfl) rfl ?_
        refine h_nil ?_
        refine wH_frozg 2 rfl ?_
        refine wH_cog 6 2 rfl rfl ?_
        refine wH_cog 7 2 rfl rfl ?_
        refine wH_cog 71 2 rfl rfl ?_
        replace hF := some_inj hF
        subst hF
        refine wH_ret ?_
        exact fin0 (.inr rfl) [(vL Window.enc s_15.1)] ⟨rfl, trivial⟩ rfl rfl rfl
theorem schedule_cut_ok {t_1 : Window} {wv_2 : Window} {r : Window} (hF : schedule_cut t_1 wv_2 = some r) :
    FnM Try.prog 95 [(.d (.agg (Window.enc t_1))), (.d (.agg (Window.enc wv_2)))] [] (.d (.agg (Window.enc r))) [] := by
  refine FnM.of_wH ⟨Try.prog, 16, [], []⟩ rfl Try.func95 rfl rfl (Nat.le_of_ble_eq_true rfl) (by kernel_rfl) ?_
  unfold schedule_cut at hF
  refine wH_seq ?_
  refine wH_region ?_
  refine h_box 0 (.inl rfl) [(vI t_1.From), (vI t_1.To)] rfl rfl (wt rfl) (fun n_3 => ?_)
  refine h_box 0 (.inl rfl) [(vI wv_2.From), (vI wv_2.To)] rfl rfl (wt rfl) (fun n_4 => ?_)
  refine h_alloc 0 (.inl rfl) z51 rfl (wt rfl) (fun n_5 => ?_)
  refine h_nil ?_
  refine wH_seq ?_
  refine wH_region ?_
  refine h_far pl51_0 rfl 0 rfl (wt rfl) ?_
  refine h_ldr 0 0 (.inl rfl) (fun _ _ _ => trivial) sz3 ag3 rfl rfl (vI t_1.From) rfl (wt rfl) ?_
  refine h_far pl51_0 rfl 0 rfl (wt rfl) ?_
  refine h_ldr 0 1 (.inl rfl) (fun _ _ _ => trivial) sz3 ag3 rfl rfl (vI wv_2.From) rfl (wt rfl) ?_
  refine h_minmax (vI (maxI t_1.From wv_2.From)) rfl (.inr rfl) (wt rfl) ?_
  refine h_far pl51_1 rfl 1 rfl (wt rfl) ?_
  refine h_ldr 0 0 (.inl rfl) (fun _ _ _ => trivial) sz3 ag3 rfl rfl (vI t_1.To) rfl (wt rfl) ?_
  refine h_far pl51_1 rfl 1 rfl (wt rfl) ?_
  refine h_ldr 0 1 (.inl rfl) (fun _ _ _ => trivial) sz3 ag3 rfl rfl (vI wv_2.To) rfl (wt rfl) ?_
  refine h_minmax (vI (minI t_1.To wv_2.To)) rfl (.inl rfl) (wt rfl) ?_
  refine h_op (.d (.agg (Window.enc (⟨(maxI t_1.From wv_2.From), (minI t_1.To wv_2.To)⟩ : Window)))) (wt rfl) (by kernel_rfl) ?_
  refine h_str 0 (.inl rfl) (fun _ _ _ => trivial) 2 sz51 rfl rfl [(vI (maxI t_1.From wv_2.From)), (vI (minI t_1.To wv_2.To))] rfl (wt rfl) ?_
  refine h_nil ?_
  replace hF := some_inj hF
  subst hF
  refine wH_ret ?_
  exact fin0 (.inr rfl) [(.d (.agg (Window.enc (⟨(maxI t_1.From wv_2.From), (minI t_1.To wv_2.To)⟩ : Window))))] ⟨⟨2, _, _, _, _, _, _, _, rfl, rfl, sz51, ag51, rfl⟩, trivial⟩ rfl rfl rfl
theorem schedule_times_okb {e_1 : Entry} {zone_2 : Int} {wv_3 : Window} {r : (List Window)} (hF : schedule_times e_1 zone_2 wv_3 = some r) :
    FnM Try.prog 94 [(.d (.agg (Entry.enc e_1))), (vI zone_2), (.d (.agg (Window.enc wv_3)))] [] (gV (extN 0) 2 r) (([] : List Box).map some ++ gO 2 Window.enc r) := by
  refine FnM.of_wH ⟨Try.prog, 72, [], []⟩ rfl Try.func94 rfl rfl (Nat.le_of_ble_eq_true rfl) (by kernel_rfl) ?_
  unfold schedule_times at hF
  refine wH_seq ?_
  refine wH_region ?_
  refine h_box 0 (.inl rfl) [(vS e_1.Key), (vS e_1.Item), (vI e_1.Version), (vI e_1.First), (vI e_1.Last), (vI e_1.Every), (vI e_1.Days), (vL eI e_1.Except), (vI e_1.From), (vI e_1.To), (vI e_1.Prio), (vL eS e_1.Tags), (vB e_1.Gone)] rfl rfl (wt rfl) (fun n_4 => ?_)
  refine h_box 0 (.inl rfl) [(vI wv_3.From), (vI wv_3.To)] rfl rfl (wt rfl) (fun n_5 => ?_)
  refine h_op .nil (wt rfl) rfl ?_
  refine h_nil ?_
  refine wH_seq ?_
  refine wH_region ?_
  refine h_op .nil (wt rfl) rfl ?_
  refine h_nil ?_
  refine wH_seq ?_
  refine wH_seq ?_
  obtain ⟨v_6, h_7, hF⟩ := bind_some hF
  refine wH_join (β := Unit) (fun _ => ([(1, (vI zone_2)), (3, (.ref n_4 0 0)), (5, (.ref n_5 0 0)), (7, .nil), (20, (vB v_6))] : List (Nat × V))) (fun _ => ([(n_4, some (.cells 13 [(vS e_1.Key), (vS e_1.Item), (vI e_1.Version), (vI e_1.First), (vI e_1.Last), (vI e_1.Every), (vI e_1.Days), (vL eI e_1.Except), (vI e_1.From), (vI e_1.To), (vI e_1.Prio), (vL eS e_1.Tags), (vB e_1.Gone)])), (n_5, some (.cells 2 [(vI wv_3.From), (vI wv_3.To)]))] : Hp)) (fun _ => True) ?_ ?_
  · refine wH_region ?_
    refine h_far pl56_12 rfl 12 rfl (wt rfl) ?_
    refine h_ldr 0 0 (.inl rfl) (fun _ _ _ => trivial) sz4 ag4 rfl rfl (vB e_1.Gone) rfl (wt rfl) ?_
    rcases cond_some h_7 with ⟨hc_8, h_7⟩ | ⟨hc_8, h_7⟩
    · refine h_movb rfl hc_8 (wt rfl) ?_
      refine h_skip (wg rfl rfl rfl) ?_
      refine h_skip (wg rfl rfl rfl) ?_
      refine h_skip (wg rfl rfl rfl) ?_
      refine h_skip (wg rfl rfl rfl) ?_
      refine h_skip (wg rfl rfl rfl) ?_
      refine h_op (vB true) (wt rfl) rfl ?_
      refine h_nil ?_
      replace h_7 := some_inj h_7
      subst h_7
      exact cut_mk () trivial rfl rfl
    · refine h_movb rfl hc_8 (wt rfl) ?_
      refine h_far pl51_0 rfl 0 rfl (wg rfl rfl rfl) ?_
      refine h_ldr 0 1 (.inl rfl) (fun _ _ _ => trivial) sz3 ag3 rfl rfl (vI wv_3.From) rfl (wg rfl rfl rfl) ?_
      refine h_far pl51_1 rfl 1 rfl (wg rfl rfl rfl) ?_
      refine h_ldr 0 1 (.inl rfl) (fun _ _ _ => trivial) sz3 ag3 rfl rfl (vI wv_3.To) rfl (wg rfl rfl rfl) ?_
      refine h_op (vB (decide (wv_3.From ≥ wv_3.To))) (wg rfl rfl rfl) rfl ?_
      refine h_op (vB (decide (wv_3.From ≥ wv_3.To))) (wt rfl) rfl ?_
      refine h_nil ?_
      replace h_7 := some_inj h_7
      subst h_7
      exact cut_mk () trivial rfl rfl
  · rintro ⟨⟩ _ sl_ H_ hp_ hq_
    refine wH_at _ hp_ hq_ ?_
    rcases cond_some hF with ⟨hc_9, hF⟩ | ⟨hc_9, hF⟩
    · refine wH_ift rfl hc_9 ?_
      refine wH_seq ?_
      refine wH_region ?_
      refine h_op .nil (wt rfl) rfl ?_
      refine h_nil ?_
      refine wH_new (fun n_10 => ?_)
      replace hF := some_inj hF
      subst hF
      refine wH_ret ?_
      exact finG (outs := []) (.inr rfl) 2 rfl rfl rfl (by kernel_rfl) (by kernel_rfl)
    · refine wH_iff rfl hc_9 ?_
      refine wH_skip ?_
      refine wH_seq ?_
      refine wH_region ?_
      refine h_far pl51_0 rfl 0 rfl (wt rfl) ?_
      refine h_ldr 0 1 (.inl rfl) (fun _ _ _ => trivial) sz3 ag3 rfl rfl (vI wv_3.From) rfl (wt rfl) ?_
      refine h_op (vI zone_2) (wt rfl) rfl ?_
      refine h_op (vI (w64 (zone_2 * 60000))) (wt rfl) rfl ?_
      refine h_op (vI (w64 (wv_3.From + (w64 (zone_2 * 60000))))) (wt rfl) rfl ?_
      refine h_op (vI (w64 ((w64 (wv_3.From + (w64 (zone_2 * 60000)))).tdiv 86400000))) (wt rfl) rfl ?_
      refine h_op (vI (w64 ((w64 ((w64 (wv_3.From + (w64 (zone_2 * 60000)))).tdiv 86400000)) - 2))) (wt rfl) rfl ?_
      refine h_op (vI (w64 ((w64 ((w64 (wv_3.From + (w64 (zone_2 * 60000)))).tdiv 86400000)) - 2))) (wt rfl) rfl ?_
      refine h_nil ?_
      refine wH_seq ?_
      refine wH_region ?_
      refine h_far pl51_1 rfl 1 rfl (wt rfl) ?_
      refine h_ldr 0 1 (.inl rfl) (fun _ _ _ => trivial) sz3 ag3 rfl rfl (vI wv_3.To) rfl (wt rfl) ?_
      refine h_op (vI zone_2) (wt rfl) rfl ?_
      refine h_op (vI (w64 (zone_2 * 60000))) (wt rfl) rfl ?_
      refine h_op (vI (w64 (wv_3.To + (w64 (zone_2 * 60000))))) (wt rfl) rfl ?_
      refine h_op (vI (w64 ((w64 (wv_3.To + (w64 (zone_2 * 60000)))).tdiv 86400000))) (wt rfl) rfl ?_
      refine h_op (vI (w64 ((w64 ((w64 (wv_3.To + (w64 (zone_2 * 60000)))).tdiv 86400000)) + 1))) (wt rfl) rfl ?_
      refine h_op (vI (w64 ((w64 ((w64 (wv_3.To + (w64 (zone_2 * 60000)))).tdiv 86400000)) + 1))) (wt rfl) rfl ?_
      refine h_nil ?_
      refine wH_seq ?_
      refine wH_seq ?_
      refine wH_region ?_
      refine h_op (vI (w64 ((w64 ((w64 (wv_3.From + (w64 (zone_2 * 60000)))).tdiv 86400000)) - 2))) (wt rfl) rfl ?_
      refine h_far pl56_3 rfl 3 rfl (wt rfl) ?_
      refine h_ldr 0 0 (.inl rfl) (fun _ _ _ => trivial) sz3 ag3 rfl rfl (vI e_1.First) rfl (wt rfl) ?_
      refine h_minmax (vI (maxI (w64 ((w64 ((w64 (wv_3.From + (w64 (zone_2 * 60000)))).tdiv 86400000)) - 2)) e_1.First)) rfl (.inr rfl) (wt rfl) ?_
      refine h_op (vI (maxI (w64 ((w64 ((w64 (wv_3.From + (w64 (zone_2 * 60000)))).tdiv 86400000)) - 2)) e_1.First)) (wt rfl) rfl ?_
      refine h_nil ?_
      refine wH_new (fun n_17 => ?_)
      obtain ⟨o_22, hj_23, hF⟩ := bind_some hF
      obtain ⟨nq_41, hj_23⟩ := loopO_iter hj_23
      refine wH_join (β := ((List Window) × Int) × Nm) (fun p => (fun (s_16 : (List Window) × Int) (n_19 : Nm) => ([(7, (gV n_19 2 s_16.1))] : List (Nat × V))) p.1 p.2) (fun p => (fun (s_16 : (List Window) × Int) (n_19 : Nm) => ([(n_4, some (.cells 13 [(vS e_1.Key), (vS e_1.Item), (vI e_1.Version), (vI e_1.First), (vI e_1.Last), (vI e_1.Every), (vI e_1.Days), (vL eI e_1.Except), (vI e_1.From), (vI e_1.To), (vI e_1.Prio), (vL eS e_1.Tags), (vB e_1.Gone)])), (n_5, some (.cells 2 [(vI wv_3.From), (vI wv_3.To)])), (n_19, gB 2 Window.enc s_16.1)] : Hp)) p.1 p.2) (fun p => o_22 = .go p.1) ?_ ?_
      · refine wH_block ?_
        refine wH_loop (β := Nat × ((List Window) × Int) × Nm) (fun p => (fun (k_11 : Nat) (s_16 : (List Window) × Int) (n_19 : Nm) => ([(1, (vI zone_2)), (3, (.ref n_4 0 0)), (5, (.ref n_5 0 0)), (7, (gV n_19 2 s_16.1)), (9, (vI (w64 ((w64 ((w64 (wv_3.To + (w64 (zone_2 * 60000)))).tdiv 86400000)) + 1)))), (10, (vI s_16.2))] : List (Nat × V))) p.1 p.2.1 p.2.2) (fun p => (fun (k_11 : Nat) (s_16 : (List Window) × Int) (n_19 : Nm) => ([(n_4, some (.cells 13 [(vS e_1.Key), (vS e_1.Item), (vI e_1.Version), (vI e_1.First), (vI e_1.Last), (vI e_1.Every), (vI e_1.Days), (vL eI e_1.Except), (vI e_1.From), (vI e_1.To), (vI e_1.Prio), (vL eS e_1.Tags), (vB e_1.Gone)])), (n_5, some (.cells 2 [(vI wv_3.From), (vI wv_3.To)])), (n_19, gB 2 Window.enc s_16.1)] : Hp)) p.1 p.2.1 p.2.2) (fun p => iterN (fun s => schedule_times_L1 wv_3 zone_2 e_1 s) p.1 p.2.1 = some o_22) (fun p => p.1) (nq_41, (([] : List Window), (maxI (w64 ((w64 ((w64 (wv_3.From + (w64 (zone_2 * 60000)))).tdiv 86400000)) - 2)) e_1.First)), n_17) hj_23 rfl rfl ?_
        rintro ⟨k_11, s_16, n_19⟩ hL_21
        dsimp only at hL_21
        cases k_11 with
        | zero => cases hL_21
        | succ k_11 =>
          obtain ⟨c_, hc_20, hL_21⟩ := bind_some hL_21
          unfold schedule_times_L1 at hc_20
          refine wH_seq ?_
          refine wH_seq ?_
          refine wH_region ?_
          refine h_op (vI s_16.2) (wt rfl) rfl ?_
          refine h_op (vI (w64 ((w64 ((w64 (wv_3.To + (w64 (zone_2 * 60000)))).tdiv 86400000)) + 1))) (wt rfl) rfl ?_
          refine h_far pl56_4 rfl 4 rfl (wt rfl) ?_
          refine h_ldr 0 0 (.inl rfl) (fun _ _ _ => trivial) sz3 ag3 rfl rfl (vI e_1.Last) rfl (wt rfl) ?_
          refine h_minmax (vI (minI (w64 ((w64 ((w64 (wv_3.To + (w64 (zone_2 * 60000)))).tdiv 86400000)) + 1)) e_1.Last)) rfl (.inl rfl) (wt rfl) ?_
          refine h_op (vB (decide (s_16.2 ≤ (minI (w64 ((w64 ((w64 (wv_3.To + (w64 (zone_2 * 60000)))).tdiv 86400000)) + 1)) e_1.Last)))) (wt rfl) rfl ?_
          refine h_nil ?_
          rcases cond_some hc_20 with ⟨hc_24, hc_20⟩ | ⟨hc_24, hc_20⟩
          · refine wH_ift rfl hc_24 ?_
            refine wH_skip ?_
            refine wH_seq ?_
            refine wH_block ?_
            refine wH_seq ?_
            refine wH_seq ?_
            refine wH_region ?_
            refine h_ldr 0 0 (.inl rfl) (fun _ _ _ => trivial) sz56 ag56 rfl rfl (.d (.agg (Entry.enc e_1))) rfl (wt rfl) ?_
            refine h_op (vI s_16.2) (wt rfl) rfl ?_
            obtain ⟨r_25, hr_26, hc_20⟩ := bind_some hc_20
            refine h_call0 (schedule_isDay_ok hr_26) rfl hb155 rfl rfl rfl rfl (wt rfl) ?_
            refine h_op (vB (!r_25)) (wt rfl) rfl ?_
            refine h_nil ?_
            rcases cond_some hc_20 with ⟨hc_27, hc_20⟩ | ⟨hc_27, hc_20⟩
            · refine wH_ift rfl hc_27 ?_
              refine wH_exit ?_
              refine wH_region ?_
              refine h_op (vI s_16.2) (wt rfl) rfl ?_
              refine h_op (vI (w64 (s_16.2 + 1))) (wt rfl) rfl ?_
              refine h_op (vI (w64 (s_16.2 + 1))) (wt rfl) rfl ?_
              refine h_nil ?_
              replace hc_20 := some_inj hc_20
              subst hc_20
              exact loop_mk (k_11, (s_16.1, (w64 (s_16.2 + 1))), n_19) hL_21 (Nat.lt_succ_self _) rfl rfl
            · refine wH_iff rfl hc_27 ?_
              refine wH_skip ?_
              refine wH_seq ?_
              refine wH_region ?_
              refine h_ldr 0 0 (.inl rfl) (fun _ _ _ => trivial) sz56 ag56 rfl rfl (.d (.agg (Entry.enc e_1))) rfl (wt rfl) ?_
              refine h_op (vI zone_2) (wt rfl) rfl ?_
              refine h_op (vI s_16.2) (wt rfl) rfl ?_
              obtain ⟨r_28, hr_29, hc_20⟩ := bind_some hc_20
              refine h_call0 (schedule_timeOf_ok hr_29) rfl hb156 rfl rfl rfl rfl (wt rfl) ?_
              refine h_alloc 0 (.inl rfl) z51 rfl (wt rfl) (fun n_30 => ?_)
              refine h_str 0 (.inl rfl) (fun _ _ _ => trivial) 3 sz51 rfl rfl [(vI r_28.From), (vI r_28.To)] rfl (wt rfl) ?_
              refine h_nil ?_
              refine wH_seq ?_
              obtain ⟨v_31, h_32, hc_20⟩ := bind_some hc_20
              refine wH_join (β := Unit) (fun _ => ([(1, (vI zone_2)), (3, (.ref n_4 0 0)), (5, (.ref n_5 0 0)), (7, (gV n_19 2 s_16.1)), (9, (vI (w64 ((w64 ((w64 (wv_3.To + (w64 (zone_2 * 60000)))).tdiv 86400000)) + 1)))), (10, (vI s_16.2)), (11, (.ref n_30 0 0)), (66, (vB v_31))] : List (Nat × V))) (fun _ => ([(n_4, some (.cells 13 [(vS e_1.Key), (vS e_1.Item), (vI e_1.Version), (vI e_1.First), (vI e_1.Last), (vI e_1.Every), (vI e_1.Days), (vL eI e_1.Except), (vI e_1.From), (vI e_1.To), (vI e_1.Prio), (vL eS e_1.Tags), (vB e_1.Gone)])), (n_5, some (.cells 2 [(vI wv_3.From), (vI wv_3.To)])), (n_19, gB 2 Window.enc s_16.1), (n_30, some (.cells 2 [(vI r_28.From), (vI r_28.To)]))] : Hp)) (fun _ => True) ?_ ?_
              · refine wH_region ?_
                refine h_far pl51_0 rfl 0 rfl (wt rfl) ?_
                refine h_ldr 0 3 (.inl rfl) (fun _ _ _ => trivial) sz3 ag3 rfl rfl (vI r_28.From) rfl (wt rfl) ?_
                refine h_far pl51_1 rfl 1 rfl (wt rfl) ?_
                refine h_ldr 0 1 (.inl rfl) (fun _ _ _ => trivial) sz3 ag3 rfl rfl (vI wv_3.To) rfl (wt rfl) ?_
                refine h_op (vB (decide (r_28.From < wv_3.To))) (wt rfl) rfl ?_
                rcases cond_some h_32 with ⟨hc_33, h_32⟩ | ⟨hc_33, h_32⟩
                · refine h_movb rfl hc_33 (wt rfl) ?_
                  refine h_far pl51_1 rfl 1 rfl (wg rfl rfl rfl) ?_
                  refine h_ldr 0 3 (.inl rfl) (fun _ _ _ => trivial) sz3 ag3 rfl rfl (vI r_28.To) rfl (wg rfl rfl rfl) ?_
                  refine h_far pl51_0 rfl 0 rfl (wg rfl rfl rfl) ?_
                  refine h_ldr 0 1 (.inl rfl) (fun _ _ _ => trivial) sz3 ag3 rfl rfl (vI wv_3.From) rfl (wg rfl rfl rfl) ?_
                  refine h_op (vB (decide (r_28.To > wv_3.From))) (wg rfl rfl rfl) rfl ?_
                  refine h_op (vB (decide (r_28.To > wv_3.From))) (wt rfl) rfl ?_
                  refine h_nil ?_
                  replace h_32 := some_inj h_32
                  subst h_32
                  exact cut_mk () trivial rfl rfl
                · refine h_movb rfl hc_33 (wt rfl) ?_
                  refine h_skip (wg rfl rfl rfl) ?_
                  refine h_skip (wg rfl rfl rfl) ?_
                  refine h_skip (wg rfl rfl rfl) ?_
                  refine h_skip (wg rfl rfl rfl) ?_
                  refine h_skip (wg rfl rfl rfl) ?_
                  refine h_op (vB false) (wt rfl) rfl ?_
                  refine h_nil ?_
                  replace h_32 := some_inj h_32
                  subst h_32
                  exact cut_mk () trivial rfl rfl
              · rintro ⟨⟩ _ sl_ H_ hp_ hq_
                refine wH_at _ hp_ hq_ ?_
                obtain ⟨v_34, h_35, hc_20⟩ := bind_some hc_20
                refine wH_join (β := Nm) (fun (n_36 : Nm) => ([(1, (vI zone_2)), (3, (.ref n_4 0 0)), (5, (.ref n_5 0 0)), (7, (gV n_36 2 v_34)), (9, (vI (w64 ((w64 ((w64 (wv_3.To + (w64 (zone_2 * 60000)))).tdiv 86400000)) + 1)))), (10, (vI s_16.2))] : List (Nat × V))) (fun (n_36 : Nm) => ([(n_4, some (.cells 13 [(vS e_1.Key), (vS e_1.Item), (vI e_1.Version), (vI e_1.First), (vI e_1.Last), (vI e_1.Every), (vI e_1.Days), (vL eI e_1.Except), (vI e_1.From), (vI e_1.To), (vI e_1.Prio), (vL eS e_1.Tags), (vB e_1.Gone)])), (n_5, some (.cells 2 [(vI wv_3.From), (vI wv_3.To)])), (n_36, gB 2 Window.enc v_34), (n_30, some (.cells 2 [(vI r_28.From), (vI r_28.To)]))] : Hp)) (fun _ => True) ?_ ?_
                · rcases cond_some h_35 with ⟨hc_37, h_35⟩ | ⟨hc_37, h_35⟩
                  · refine wH_ift rfl hc_37 ?_
                    refine wH_region ?_
                    refine h_op (gV n_19 2 s_16.1) (wt rfl) rfl ?_
                    refine h_ldr 0 3 (.inl rfl) (fun _ _ _ => trivial) sz51 ag51 rfl rfl (.d (.agg (Window.enc r_28))) rfl (wt rfl) ?_
                    refine h_lit (([r_28] : List Window).map Window.enc) es57 ez57 rfl rfl rfl rfl rfl (wt rfl) ?_
                    obtain ⟨a_38, hz_39, h_35⟩ := bind_some h_35
                    refine h_appg 0 (.inl rfl) (fun _ _ _ => trivial) (i := 2) el57 el57 sz51 z51 rfl (by decide) by51 (by decide) (fun _ => rfl) rfl rfl rfl hz_39 (wt rfl) (fun n_40 => ?_)
                    refine h_op (gV n_40 2 a_38) (wt rfl) rfl ?_
                    refine h_nil ?_
                    replace h_35 := some_inj h_35
                    subst h_35
                    exact cut_mk n_40 trivial rfl rfl
                  · refine wH_iff rfl hc_37 ?_
                    refine wH_skip ?_
                    replace h_35 := some_inj h_35
                    subst h_35
                    exact cut_mk n_19 trivial rfl rfl
                · rintro n_36 _ sl_ H_ hp_ hq_
                  refine wH_at _ hp_ hq_ ?_
                  refine wH_region ?_
                  refine h_op (vI s_16.2) (wt rfl) rfl ?_
                  refine h_op (vI (w64 (s_16.2 + 1))) (wt rfl) rfl ?_
                  refine h_op (vI (w64 (s_16.2 + 1))) (wt rfl) rfl ?_
                  refine h_nil ?_
                  replace hc_20 := some_inj hc_20
                  subst hc_20
                  exact loop_mk (k_11, (v_34, (w64 (s_16.2 + 1))), n_36) hL_21 (Nat.lt_succ_self _) rfl rfl
          · refine wH_iff rfl hc_24 ?_
            refine wH_exit ?_
            replace hc_20 := some_inj hc_20
            subst hc_20
            replace hL_21 := some_inj hL_21
            subst hL_21
            exact cut_mk ((s_16.1, s_16.2), n_19) rfl rfl rfl
      · rintro ⟨s_16, n_19⟩ ho_ sl_ H_ hp_ hq_
        subst ho_
        refine wH_at _ hp_ hq_ ?_
        refine wH_seq ?_
        refine wH_region ?_
        refine h_op (gV n_19 2 s_16.1) (wt rfl) rfl ?_
        refine h_op (gV n_19 2 s_16.1) (wt rfl) rfl ?_
        refine h_nil ?_
        replace hF := some_inj hF
        subst hF
        refine wH_ret ?_
        exact finG (outs := []) (.inr rfl) 2 rfl rfl rfl (by kernel_rfl) (by kernel_rfl)
theorem schedule_Times_ok {e_1 : Entry} {zone_2 : Int} {wv_3 : Window} {r : (List Window) × Int} (hF : schedule_Times e_1 zone_2 wv_3 = some r) :
    FnM Try.prog 27 [(.d (.agg (Entry.enc e_1))), (vI zone_2), (.d (.agg (Window.enc wv_3)))] [] (.tup [(vL Window.enc r.1), (vI r.2)]) [] := by
  refine FnM.of_wH ⟨Try.prog, 45, [], []⟩ rfl Try.func27 rfl rfl (Nat.le_of_ble_eq_true rfl) (by kernel_rfl) ?_
  unfold schedule_Times at hF
  refine wH_seq ?_
  refine wH_region ?_
  refine h_box 0 (.inl rfl) [(vS e_1.Key), (vS e_1.Item), (vI e_1.Version), (vI e_1.First), (vI e_1.Last), (vI e_1.Every), (vI e_1.Days), (vL eI e_1.Except), (vI e_1.From), (vI e_1.To), (vI e_1.Prio), (vL eS e_1.Tags), (vB e_1.Gone)] rfl rfl (wt rfl) (fun n_4 => ?_)
  refine h_box 0 (.inl rfl) [(vI wv_3.From), (vI wv_3.To)] rfl rfl (wt rfl) (fun n_5 => ?_)
  refine h_op .nil (wt rfl) rfl ?_
  refine h_op (vI 0) (wt rfl) rfl ?_
  refine h_nil ?_
  refine wH_seq ?_
  refine wH_seq ?_
  refine wH_region ?_
  refine h_ldr 0 0 (.inl rfl) (fun _ _ _ => trivial) sz56 ag56 rfl rfl (.d (.agg (Entry.enc e_1))) rfl (wt rfl) ?_
  refine h_lit (([e_1] : List Entry).map Entry.enc) es53 ez53 rfl rfl rfl rfl rfl (wt rfl) ?_
  obtain ⟨r_6, hr_7, hF⟩ := bind_some hF
  refine h_call0 (schedule_CheckEntries_ok hr_7) rfl hb92 rfl rfl rfl rfl (wt rfl) ?_
  refine h_op (vI r_6) (wt rfl) rfl ?_
  refine h_nil ?_
  refine wH_seq ?_
  refine wH_region ?_
  refine h_op (vI r_6) (wt rfl) rfl ?_
  refine h_op (vB (r_6 != 0)) (wt rfl) rfl ?_
  refine h_nil ?_
  rcases cond_some hF with ⟨hc_8, hF⟩ | ⟨hc_8, hF⟩
  · refine wH_ift rfl hc_8 ?_
    refine wH_seq ?_
    refine wH_region ?_
    refine h_op (vI r_6) (wt rfl) rfl ?_
    refine h_op .nil (wt rfl) rfl ?_
    refine h_op (vI r_6) (wt rfl) rfl ?_
    refine h_nil ?_
    replace hF := some_inj hF
    subst hF
    refine wH_ret ?_
    exact fin0 (.inr rfl) [.nil, (vI r_6)] ⟨rfl, ⟨rfl, trivial⟩⟩ rfl rfl rfl
  · refine wH_iff rfl hc_8 ?_
    refine wH_skip ?_
    refine wH_seq ?_
    refine wH_seq ?_
    refine wH_region ?_
    refine h_op (vI zone_2) (wt rfl) rfl ?_
    obtain ⟨r_9, hr_10, hF⟩ := bind_some hF
    refine h_call0 (kit_Outside_ok hr_10) rfl hb82 rfl rfl rfl rfl (wt rfl) ?_
    refine h_nil ?_
    rcases cond_some hF with ⟨hc_11, hF⟩ | ⟨hc_11, hF⟩
    · refine wH_ift rfl hc_11 ?_
      refine wH_seq ?_
      refine wH_region ?_
      refine h_op .nil (wt rfl) rfl ?_
      refine h_op (vI 1) (wt rfl) rfl ?_
      refine h_nil ?_
      replace hF := some_inj hF
      subst hF
      refine wH_ret ?_
      exact fin0 (.inr rfl) [.nil, (vI 1)] ⟨rfl, ⟨rfl, trivial⟩⟩ rfl rfl rfl
    · refine wH_iff rfl hc_11 ?_
      refine wH_skip ?_
      refine wH_seq ?_
      refine wH_seq ?_
      refine wH_region ?_
      refine h_ldr 0 1 (.inl rfl) (fun _ _ _ => trivial) sz51 ag51 rfl rfl (.d (.agg (Window.enc wv_3))) rfl (wt rfl) ?_
      obtain ⟨r_12, hr_13, hF⟩ := bind_some hF
      refine h_call0 (schedule_windowFault_ok hr_13) rfl hb93 rfl rfl rfl rfl (wt rfl) ?_
      refine h_op (vI r_12) (wt rfl) rfl ?_
      refine h_nil ?_
      refine wH_seq ?_
      refine wH_region ?_
      refine h_op (vI r_12) (wt rfl) rfl ?_
      refine h_op (vB (r_12 != 0)) (wt rfl) rfl ?_
      refine h_nil ?_
      rcases cond_some hF with ⟨hc_14, hF⟩ | ⟨hc_14, hF⟩
      · refine wH_ift rfl hc_14 ?_
        refine wH_seq ?_
        refine wH_region ?_
        refine h_op (vI r_12) (wt rfl) rfl ?_
        refine h_op .nil (wt rfl) rfl ?_
        refine h_op (vI r_12) (wt rfl) rfl ?_
        refine h_nil ?_
        replace hF := some_inj hF
        subst hF
        refine wH_ret ?_
        exact fin0 (.inr rfl) [.nil, (vI r_12)] ⟨rfl, ⟨rfl, trivial⟩⟩ rfl rfl rfl
      · refine wH_iff rfl hc_14 ?_
        refine wH_skip ?_
        refine wH_seq ?_
        refine wH_region ?_
        refine h_ldr 0 0 (.inl rfl) (fun _ _ _ => trivial) sz56 ag56 rfl rfl (.d (.agg (Entry.enc e_1))) rfl (wt rfl) ?_
        refine h_op (vI zone_2) (wt rfl) rfl ?_
        refine h_ldr 0 1 (.inl rfl) (fun _ _ _ => trivial) sz51 ag51 rfl rfl (.d (.agg (Window.enc wv_3))) rfl (wt rfl) ?_
        obtain ⟨r_15, hr_16, hF⟩ := bind_some hF
        refine h_callg [] (schedule_times_okb hr_16) rfl hb94 rfl (by kernel_rfl) (by kernel_rfl) (by kernel_rfl) (by kernel_rfl) (by kernel_rfl) rfl (by decide) (by kernel_rfl) (wt rfl) ([(n_4, some (.cells 13 [(vS e_1.Key), (vS e_1.Item), (vI e_1.Version), (vI e_1.First), (vI e_1.Last), (vI e_1.Every), (vI e_1.Days), (vL eI e_1.Except), (vI e_1.From), (vI e_1.To), (vI e_1.Prio), (vL eS e_1.Tags), (vB e_1.Gone)])), (n_5, some (.cells 2 [(vI wv_3.From), (vI wv_3.To)]))] : Hp) (fun _ => by kernel_rfl) (fun n_18 => ?_)
        refine h_op (gV n_18 2 r_15) (wt rfl) rfl ?_
        refine h_nil ?_
        refine wH_seq ?_
        refine wH_seq ?_
        refine wH_region ?_
        refine h_op (gV n_18 2 r_15) (wt rfl) rfl ?_
        refine h_leng un57 rfl (wt rfl) ?_
        refine h_op (vI 0) (wt rfl) rfl ?_
        refine h_nil ?_
        obtain ⟨o_27, hj_28, hF⟩ := bind_some hF
        obtain ⟨hn_23, hj_28⟩ := forL_some hj_28
        refine wH_join (β := ((List Window))) (fun (s_24 : (List Window)) => ([(10, (gV n_18 2 s_24))] : List (Nat × V))) (fun (s_24 : (List Window)) => ([(n_4, some (.cells 13 [(vS e_1.Key), (vS e_1.Item), (vI e_1.Version), (vI e_1.First), (vI e_1.Last), (vI e_1.Every), (vI e_1.Days), (vL eI e_1.Except), (vI e_1.From), (vI e_1.To), (vI e_1.Prio), (vL eS e_1.Tags), (vB e_1.Gone)])), (n_5, some (.cells 2 [(vI wv_3.From), (vI wv_3.To)])), (n_18, gB 2 Window.enc s_24)] : Hp)) (fun p => o_27 = .go p) ?_ ?_
        · refine wH_block ?_
          refine wH_loop (β := Nat × (List Nat) × ((List Window))) (fun p => (fun (k_19 : Nat) (l_20 : List Nat) (s_24 : (List Window)) => ([(5, (.ref n_5 0 0)), (10, (gV n_18 2 s_24)), (30, (gV n_18 2 s_24)), (31, (vI (r_15.length : Int))), (32, (vI (k_19 : Int)))] : List (Nat × V))) p.1 p.2.1 p.2.2) (fun p => (fun (k_19 : Nat) (l_20 : List Nat) (s_24 : (List Window)) => ([(n_4, some (.cells 13 [(vS e_1.Key), (vS e_1.Item), (vI e_1.Version), (vI e_1.First), (vI e_1.Last), (vI e_1.Every), (vI e_1.Days), (vL eI e_1.Except), (vI e_1.From), (vI e_1.To), (vI e_1.Prio), (vL eS e_1.Tags), (vB e_1.Gone)])), (n_5, some (.cells 2 [(vI wv_3.From), (vI wv_3.To)])), (n_18, gB 2 Window.enc s_24)] : Hp)) p.1 p.2.1 p.2.2) (fun p => forR (fun k x s => schedule_Times_L1 wv_3 k x s) p.2.1 p.1 p.2.2 = some o_27 ∧ ((List.range ((r_15.length : Int)).toNat)).drop p.1 = p.2.1) (fun p => p.2.1.length) (0, (List.range ((r_15.length : Int)).toNat), r_15) ⟨hj_28, rfl⟩ rfl rfl ?_
          rintro ⟨k_19, l_20, s_24⟩ ⟨hL_26, hD_22⟩
          dsimp only at hL_26 hD_22
          cases l_20 with
          | nil =>
            replace hL_26 := some_inj hL_26
            subst hL_26
            refine wH_seq (wH_region (h_op (vB (decide ((k_19 : Int) < (r_15.length : Int)))) (wt rfl) rfl (h_nil ?_)))
            refine wH_seq (wH_iff rfl (range_nil hD_22) (wH_exit ?_))
            exact cut_mk (s_24) rfl rfl rfl
          | cons x_21 l_20 =>
            obtain ⟨c_, hc_25, hL_26⟩ := bind_some hL_26
            refine wH_seq (wH_region (h_op (vB (decide ((k_19 : Int) < (r_15.length : Int)))) (wt rfl) rfl (h_nil ?_)))
            refine wH_seq (wH_ift rfl (range_cons hD_22) (wH_skip ?_))
            unfold schedule_Times_L1 at hc_25
            refine wH_seq ?_
            refine wH_block ?_
            refine wH_seq ?_
            refine wH_region ?_
            refine h_op (vI (k_19 : Int)) (wt rfl) rfl ?_
            obtain ⟨_, hi_29, hc_25⟩ := bind_some hc_25
            refine h_iavg es57 rfl rfl (inR_0 hi_29) (inR_lt hi_29) (wt rfl) ?_
            obtain ⟨e_30, hy_31, hc_25⟩ := bind_some hc_25
            refine h_ldvg 0 2 (.inl rfl) (fun _ _ _ => trivial) sz51 ag51 rfl rfl hy_31 (.d (.agg (Window.enc e_30))) rfl (wt rfl) ?_
            refine h_alloc 0 (.inl rfl) z51 rfl (wt rfl) (fun n_32 => ?_)
            refine h_op (vI (k_19 : Int)) (wt rfl) rfl ?_
            refine h_str 0 (.inl rfl) (fun _ _ _ => trivial) 3 sz51 rfl rfl [(vI e_30.From), (vI e_30.To)] rfl (wt rfl) ?_
            refine h_nil ?_
            refine wH_region ?_
            refine h_op (gV n_18 2 s_24) (wt rfl) rfl ?_
            refine h_op (vI (k_19 : Int)) (wt rfl) rfl ?_
            refine h_ldr 0 3 (.inl rfl) (fun _ _ _ => trivial) sz51 ag51 rfl rfl (.d (.agg (Window.enc e_30))) rfl (wt rfl) ?_
            refine h_ldr 0 1 (.inl rfl) (fun _ _ _ => trivial) sz51 ag51 rfl rfl (.d (.agg (Window.enc wv_3))) rfl (wt rfl) ?_
            obtain ⟨r_33, hr_34, hc_25⟩ := bind_some hc_25
            refine h_call0 (schedule_cut_ok hr_34) rfl hb95 rfl rfl rfl rfl (wt rfl) ?_
            obtain ⟨_, hi_35, hc_25⟩ := bind_some hc_25
            refine h_iavg es57 rfl rfl (inR_0 hi_35) (inR_lt hi_35) (wt rfl) ?_
            obtain ⟨e_36, hy_37, hc_25⟩ := bind_some hc_25
            refine h_stvg 0 (.inl rfl) (fun _ _ _ => trivial) 2 sz51 rfl rfl hy_37 r_33 rfl (wt rfl) ?_
            refine h_re (v' := (gV n_18 2 (s_24.set (0 + ((k_19 : Int)).toNat) r_33))) 10 rfl (gV_len (by simp)) ?_
            refine h_re (v' := (gV n_18 2 (s_24.set (0 + ((k_19 : Int)).toNat) r_33))) 30 rfl (gV_len (by simp)) ?_
            refine h_re (v' := (gV n_18 2 (s_24.set (0 + ((k_19 : Int)).toNat) r_33))) 37 rfl (gV_len (by simp)) ?_
            refine h_nil ?_
            refine wH_region ?_
            refine h_opw (w64_nextr hD_22 hn_23) (wt rfl) rfl ?_
            refine h_op (vI ((k_19 + 1 : Nat) : Int)) (wt rfl) rfl ?_
            refine h_nil ?_
            replace hc_25 := some_inj hc_25
            subst hc_25
            exact loop_mk (k_19 + 1, l_20, (s_24.set (0 + ((k_19 : Int)).toNat) r_33)) ⟨hL_26, drop_next hD_22⟩ (Nat.lt_succ_self _) rfl rfl
        · rintro s_24 ho_ sl_ H_ hp_ hq_
          subst ho_
          refine wH_at _ hp_ hq_ ?_
          refine wH_seq ?_
          refine wH_region ?_
          refine h_op (gV n_18 2 s_24) (wt rfl) rfl ?_
          refine h_op (gV n_18 2 s_24) (wt rfl) rfl ?_
          refine h_op (vI 0) (wt rfl) rfl ?_
          refine h_nil ?_
          refine wH_frozg 2 rfl ?_
          refine wH_cog 6 2 rfl rfl ?_
          refine wH_cog 10 2 rfl rfl ?_
          refine wH_cog 44 2 rfl rfl ?_
          replace hF := some_inj hF
          subst hF
          refine wH_ret ?_
          exact fin0 (.inr rfl) [(vL Window.enc s_24), (vI 0)] ⟨rfl, ⟨rfl, trivial⟩⟩ rfl rfl rfl
theorem schedule_CheckPlayer_ok {p_1 : Player} {r : Int} (hF : schedule_CheckPlayer p_1 = some r) :
    FnM Try.prog 96 [(.d (.agg (Player.enc p_1)))] [] (vI r) [] := by
  refine FnM.of_wH ⟨Try.prog, 19, [], []⟩ rfl Try.func96 rfl rfl (Nat.le_of_ble_eq_true rfl) (by kernel_rfl) ?_
  unfold schedule_CheckPlayer at hF
  refine wH_seq ?_
  refine wH_region ?_
  refine h_box 0 (.inl rfl) [(vS p_1.Key), (vS p_1.Screen), (vI p_1.Zone), (vL eS p_1.Tags)] rfl rfl (wt rfl) (fun n_2 => ?_)
  refine h_op (vI 0) (wt rfl) rfl ?_
  refine h_nil ?_
  refine wH_seq ?_
  refine wH_seq ?_
  obtain ⟨v_3, h_4, hF⟩ := bind_some hF
  refine wH_join (β := Unit) (fun _ => ([(1, (.ref n_2 0 0)), (12, (vB v_3))] : List (Nat × V))) (fun _ => ([(n_2, some (.cells 4 [(vS p_1.Key), (vS p_1.Screen), (vI p_1.Zone), (vL eS p_1.Tags)]))] : Hp)) (fun _ => True) ?_ ?_
  · refine wH_region ?_
    refine h_far pl48_0 rfl 0 rfl (wt rfl) ?_
    refine h_ldr 0 0 (.inl rfl) (fun _ _ _ => trivial) sz9 ag9 rfl rfl (vS p_1.Key) rfl (wt rfl) ?_
    obtain ⟨r_5, hr_6, h_4⟩ := bind_some h_4
    refine h_call0 (kit_IsKey_ok hr_6) rfl hb77 rfl rfl rfl rfl (wt rfl) ?_
    refine h_op (vB (!r_5)) (wt rfl) rfl ?_
    rcases cond_some h_4 with ⟨hc_7, h_4⟩ | ⟨hc_7, h_4⟩
    · refine h_movb rfl hc_7 (wt rfl) ?_
      refine h_skip (wg rfl rfl rfl) ?_
      refine h_skip (wg rfl rfl rfl) ?_
      refine h_skip (wg rfl rfl rfl) ?_
      refine h_skip (wg rfl rfl rfl) ?_
      refine h_op (vB true) (wt rfl) rfl ?_
      refine h_nil ?_
      replace h_4 := some_inj h_4
      subst h_4
      exact cut_mk () trivial rfl rfl
    · refine h_movb rfl hc_7 (wt rfl) ?_
      refine h_far pl48_1 rfl 1 rfl (wg rfl rfl rfl) ?_
      refine h_ldr 0 0 (.inl rfl) (fun _ _ _ => trivial) sz9 ag9 rfl rfl (vS p_1.Screen) rfl (wg rfl rfl rfl) ?_
      obtain ⟨r_8, hr_9, h_4⟩ := bind_some h_4
      refine h_call0 (kit_IsKey_ok hr_9) rfl hb77 rfl rfl rfl rfl (wg rfl rfl rfl) ?_
      refine h_op (vB (!r_8)) (wg rfl rfl rfl) rfl ?_
      refine h_op (vB (!r_8)) (wt rfl) rfl ?_
      refine h_nil ?_
      replace h_4 := some_inj h_4
      subst h_4
      exact cut_mk () trivial rfl rfl
  · rintro ⟨⟩ _ sl_ H_ hp_ hq_
    refine wH_at _ hp_ hq_ ?_
    rcases cond_some hF with ⟨hc_10, hF⟩ | ⟨hc_10, hF⟩
    · refine wH_ift rfl hc_10 ?_
      refine wH_seq ?_
      refine wH_region ?_
      refine h_op (vI 5) (wt rfl) rfl ?_
      refine h_nil ?_
      replace hF := some_inj hF
      subst hF
      refine wH_ret ?_
      exact fin0 (.inr rfl) [(vI 5)] ⟨rfl, trivial⟩ rfl rfl rfl
    · refine wH_iff rfl hc_10 ?_
      refine wH_skip ?_
      refine wH_seq ?_
      refine wH_seq ?_
      refine wH_region ?_
      refine h_far pl48_2 rfl 2 rfl (wt rfl) ?_
      refine h_ldr 0 0 (.inl rfl) (fun _ _ _ => trivial) sz3 ag3 rfl rfl (vI p_1.Zone) rfl (wt rfl) ?_
      obtain ⟨r_11, hr_12, hF⟩ := bind_some hF
      refine h_call0 (kit_Outside_ok hr_12) rfl hb82 rfl rfl rfl rfl (wt rfl) ?_
      refine h_nil ?_
      rcases cond_some hF with ⟨hc_13, hF⟩ | ⟨hc_13, hF⟩
      · refine wH_ift rfl hc_13 ?_
        refine wH_seq ?_
        refine wH_region ?_
        refine h_op (vI 1) (wt rfl) rfl ?_
        refine h_nil ?_
        replace hF := some_inj hF
        subst hF
        refine wH_ret ?_
        exact fin0 (.inr rfl) [(vI 1)] ⟨rfl, trivial⟩ rfl rfl rfl
      · refine wH_iff rfl hc_13 ?_
        refine wH_skip ?_
        refine wH_seq ?_
        refine wH_region ?_
        refine h_far pl48_3 rfl 3 rfl (wt rfl) ?_
        refine h_ldr 0 0 (.inl rfl) (fun _ _ _ => trivial) sz46 ag46 rfl rfl (vL eS p_1.Tags) rfl (wt rfl) ?_
        obtain ⟨r_14, hr_15, hF⟩ := bind_some hF
        refine h_call0 (schedule_tagsFault_ok hr_15) rfl hb157 rfl rfl rfl rfl (wt rfl) ?_
        refine h_op (vI r_14) (wt rfl) rfl ?_
        refine h_nil ?_
        replace hF := some_inj hF
        subst hF
        refine wH_ret ?_
        exact fin0 (.inr rfl) [(vI r_14)] ⟨rfl, trivial⟩ rfl rfl rfl
theorem cmp_isNaN_string_ok {x_1 : ByteArray} {r : Bool} (hF : cmp_isNaN_string x_1 = some r) :
    FnM Try.prog 201 [(vS x_1)] [] (vB r) [] := by
  refine FnM.of_wH ⟨Try.prog, 6, [], []⟩ rfl Try.func201 rfl rfl (Nat.le_of_ble_eq_true rfl) (by kernel_rfl) ?_
  unfold cmp_isNaN_string at hF
  refine wH_seq ?_
  refine wH_region ?_
  refine h_op (vB false) (wt rfl) rfl ?_
  refine h_nil ?_
  refine wH_seq ?_
  refine wH_region ?_
  refine h_op (vS x_1) (wt rfl) rfl ?_
  refine h_op (vS x_1) (wt rfl) rfl ?_
  refine h_op (vB (sNe x_1 x_1)) (wt rfl) rfl ?_
  refine h_op (vB (sNe x_1 x_1)) (wt rfl) rfl ?_
  refine h_nil ?_
  replace hF := some_inj hF
  subst hF
  refine wH_ret ?_
  exact fin0 (.inr rfl) [(vB (sNe x_1 x_1))] ⟨rfl, trivial⟩ rfl rfl rfl
theorem cmp_Less_string_ok {x_1 : ByteArray} {y_2 : ByteArray} {r : Bool} (hF : cmp_Less_string x_1 y_2 = some r) :
    FnM Try.prog 188 [(vS x_1), (vS y_2)] [] (vB r) [] := by
  refine FnM.of_wH ⟨Try.prog, 17, [], []⟩ rfl Try.func188 rfl rfl (Nat.le_of_ble_eq_true rfl) (by kernel_rfl) ?_
  unfold cmp_Less_string at hF
  refine wH_seq ?_
  refine wH_region ?_
  refine h_op (vB false) (wt rfl) rfl ?_
  refine h_nil ?_
  refine wH_seq ?_
  obtain ⟨v_3, h_4, hF⟩ := bind_some hF
  refine wH_join (β := Unit) (fun _ => ([(4, (vB v_3))] : List (Nat × V))) (fun _ => ([] : Hp)) (fun _ => True) ?_ ?_
  · refine wH_region ?_
    refine h_op (vS x_1) (wt rfl) rfl ?_
    obtain ⟨r_5, hr_6, h_4⟩ := bind_some h_4
    refine h_call0 (cmp_isNaN_string_ok hr_6) rfl hb201 rfl rfl rfl rfl (wt rfl) ?_
    rcases cond_some h_4 with ⟨hc_7, h_4⟩ | ⟨hc_7, h_4⟩
    · refine h_movb rfl hc_7 (wt rfl) ?_
      refine h_op (vS y_2) (wg rfl rfl rfl) rfl ?_
      obtain ⟨r_8, hr_9, h_4⟩ := bind_some h_4
      refine h_call0 (cmp_isNaN_string_ok hr_9) rfl hb201 rfl rfl rfl rfl (wg rfl rfl rfl) ?_
      refine h_op (vB (!r_8)) (wg rfl rfl rfl) rfl ?_
      refine h_op (vB (!r_8)) (wt rfl) rfl ?_
      rcases cond_some h_4 with ⟨hc_10, h_4⟩ | ⟨hc_10, h_4⟩
      · refine h_movb rfl hc_10 (wt rfl) ?_
        refine h_skip (wg rfl rfl rfl) ?_
        refine h_skip (wg rfl rfl rfl) ?_
        refine h_skip (wg rfl rfl rfl) ?_
        refine h_op (vB true) (wt rfl) rfl ?_
        refine h_op (vB true) (wt rfl) rfl ?_
        refine h_nil ?_
        replace h_4 := some_inj h_4
        subst h_4
        exact cut_mk () trivial rfl rfl
      · refine h_movb rfl hc_10 (wt rfl) ?_
        refine h_op (vS x_1) (wg rfl rfl rfl) rfl ?_
        refine h_op (vS y_2) (wg rfl rfl rfl) rfl ?_
        refine h_op (vB (sLt x_1 y_2)) (wg rfl rfl rfl) rfl ?_
        refine h_op (vB (sLt x_1 y_2)) (wt rfl) rfl ?_
        refine h_op (vB (sLt x_1 y_2)) (wt rfl) rfl ?_
        refine h_nil ?_
        replace h_4 := some_inj h_4
        subst h_4
        exact cut_mk () trivial rfl rfl
    · refine h_movb rfl hc_7 (wt rfl) ?_
      refine h_skip (wg rfl rfl rfl) ?_
      refine h_skip (wg rfl rfl rfl) ?_
      refine h_skip (wg rfl rfl rfl) ?_
      refine h_op (vB false) (wt rfl) rfl ?_
      refine h_op (vB false) (wt rfl) rfl ?_
      refine h_op (vS x_1) (wg rfl rfl rfl) rfl ?_
      refine h_op (vS y_2) (wg rfl rfl rfl) rfl ?_
      refine h_op (vB (sLt x_1 y_2)) (wg rfl rfl rfl) rfl ?_
      refine h_op (vB (sLt x_1 y_2)) (wt rfl) rfl ?_
      refine h_op (vB (sLt x_1 y_2)) (wt rfl) rfl ?_
      refine h_nil ?_
      replace h_4 := some_inj h_4
      subst h_4
      exact cut_mk () trivial rfl rfl
  · rintro ⟨⟩ _ sl_ H_ hp_ hq_
    refine wH_at _ hp_ hq_ ?_
    replace hF := some_inj hF
    subst hF
    refine wH_ret ?_
    exact fin0 (.inr rfl) [(vB v_3)] ⟨rfl, trivial⟩ rfl rfl rfl
theorem slices_isNaN_string_ok {x_1 : ByteArray} {r : Bool} (hF : slices_isNaN_string x_1 = some r) :
    FnM Try.prog 189 [(vS x_1)] [] (vB r) [] := by
  refine FnM.of_wH ⟨Try.prog, 6, [], []⟩ rfl Try.func189 rfl rfl (Nat.le_of_ble_eq_true rfl) (by kernel_rfl) ?_
  unfold slices_isNaN_string at hF
  refine wH_seq ?_
  refine wH_region ?_
  refine h_op (vB false) (wt rfl) rfl ?_
  refine h_nil ?_
  refine wH_seq ?_
  refine wH_region ?_
  refine h_op (vS x_1) (wt rfl) rfl ?_
  refine h_op (vS x_1) (wt rfl) rfl ?_
  refine h_op (vB (sNe x_1 x_1)) (wt rfl) rfl ?_
  refine h_op (vB (sNe x_1 x_1)) (wt rfl) rfl ?_
  refine h_nil ?_
  replace hF := some_inj hF
  subst hF
  refine wH_ret ?_
  exact fin0 (.inr rfl) [(vB (sNe x_1 x_1))] ⟨rfl, trivial⟩ rfl rfl rfl
theorem slices_BinarySearch_string_string_ok {x_1 : (List ByteArray)} {target_2 : ByteArray} {r : Int × Bool} (hF : slices_BinarySearch_string_string x_1 target_2 = some r) :
    FnM Try.prog 158 [(vL eS x_1), (vS target_2)] [] (.tup [(vI r.1), (vB r.2)]) [] := by
  refine FnM.of_wH ⟨Try.prog, 54, [], []⟩ rfl Try.func158 rfl rfl (Nat.le_of_ble_eq_true rfl) (by kernel_rfl) ?_
  unfold slices_BinarySearch_string_string at hF
  refine wH_seq ?_
  refine wH_region ?_
  refine h_op (vI 0) (wt rfl) rfl ?_
  refine h_op (vB false) (wt rfl) rfl ?_
  refine h_nil ?_
  refine wH_seq ?_
  refine wH_region ?_
  refine h_op (vL eS x_1) (wt rfl) rfl ?_
  refine h_len un46 rfl (wt rfl) ?_
  refine h_op (vI (x_1.length : Int)) (wt rfl) rfl ?_
  refine h_nil ?_
  refine wH_seq ?_
  refine wH_region ?_
  refine h_op (vI (x_1.length : Int)) (wt rfl) rfl ?_
  refine h_op (vI 0) (wt rfl) rfl ?_
  refine h_op (vI (x_1.length : Int)) (wt rfl) rfl ?_
  refine h_nil ?_
  refine wH_seq ?_
  obtain ⟨o_11, hj_12, hF⟩ := bind_some hF
  obtain ⟨nq_34, hj_12⟩ := loopO_iter hj_12
  refine wH_join (β := (Int × Int)) (fun (s_8 : Int × Int) => ([(0, (vL eS x_1)), (1, (vS target_2)), (6, (vI (x_1.length : Int))), (7, (vI s_8.1))] : List (Nat × V))) (fun (s_8 : Int × Int) => ([] : Hp)) (fun p => o_11 = .go p) ?_ ?_
  · refine wH_block ?_
    refine wH_loop (β := Nat × (Int × Int)) (fun p => (fun (k_3 : Nat) (s_8 : Int × Int) => ([(0, (vL eS x_1)), (1, (vS target_2)), (6, (vI (x_1.length : Int))), (7, (vI s_8.1)), (8, (vI s_8.2))] : List (Nat × V))) p.1 p.2) (fun p => (fun (k_3 : Nat) (s_8 : Int × Int) => ([] : Hp)) p.1 p.2) (fun p => iterN (fun s => slices_BinarySearch_string_string_L1 x_1 target_2 s) p.1 p.2 = some o_11) (fun p => p.1) (nq_34, (0, (x_1.length : Int))) hj_12 rfl rfl ?_
    rintro ⟨k_3, s_8⟩ hL_10
    dsimp only at hL_10
    cases k_3 with
    | zero => cases hL_10
    | succ k_3 =>
      obtain ⟨c_, hc_9, hL_10⟩ := bind_some hL_10
      unfold slices_BinarySearch_string_string_L1 at hc_9
      refine wH_seq ?_
      refine wH_seq ?_
      refine wH_region ?_
      refine h_op (vI s_8.1) (wt rfl) rfl ?_
      refine h_op (vI s_8.2) (wt rfl) rfl ?_
      refine h_op (vB (decide (s_8.1 < s_8.2))) (wt rfl) rfl ?_
      refine h_nil ?_
      rcases cond_some hc_9 with ⟨hc_13, hc_9⟩ | ⟨hc_13, hc_9⟩
      · refine wH_ift rfl hc_13 ?_
        refine wH_skip ?_
        refine wH_block ?_
        refine wH_seq ?_
        refine wH_region ?_
        refine h_op (vI s_8.1) (wt rfl) rfl ?_
        refine h_op (vI s_8.2) (wt rfl) rfl ?_
        refine h_op (vI (w64 (s_8.1 + s_8.2))) (wt rfl) rfl ?_
        refine h_conv un3 un180 rfl (wt rfl) ?_
        obtain ⟨q_14, hz_15, hc_9⟩ := bind_some hc_9
        refine h_shr rfl rfl hz_15 (wt rfl) ?_
        refine h_conv un180 un3 rfl (wt rfl) ?_
        refine h_op (vI (w64 q_14)) (wt rfl) rfl ?_
        refine h_nil ?_
        refine wH_seq ?_
        refine wH_region ?_
        refine h_op (vL eS x_1) (wt rfl) rfl ?_
        refine h_op (vI (w64 q_14)) (wt rfl) rfl ?_
        obtain ⟨y_16, hy_17, hc_9⟩ := bind_some hc_9
        refine h_ia es46 rfl rfl hy_17 rfl (wt rfl) ?_
        refine h_ldc sz9 ag9 rfl (vS y_16) rfl (wt rfl) ?_
        refine h_op (vS target_2) (wt rfl) rfl ?_
        obtain ⟨r_18, hr_19, hc_9⟩ := bind_some hc_9
        refine h_call0 (cmp_Less_string_ok hr_19) rfl hb188 rfl rfl rfl rfl (wt rfl) ?_
        refine h_nil ?_
        rcases cond_some hc_9 with ⟨hc_20, hc_9⟩ | ⟨hc_20, hc_9⟩
        · refine wH_ift rfl hc_20 ?_
          refine wH_region ?_
          refine h_op (vI (w64 q_14)) (wt rfl) rfl ?_
          refine h_op (vI (w64 ((w64 q_14) + 1))) (wt rfl) rfl ?_
          refine h_op (vI (w64 ((w64 q_14) + 1))) (wt rfl) rfl ?_
          refine h_nil ?_
          replace hc_9 := some_inj hc_9
          subst hc_9
          exact loop_mk (k_3, ((w64 ((w64 q_14) + 1)), s_8.2)) hL_10 (Nat.lt_succ_self _) rfl rfl
        · refine wH_iff rfl hc_20 ?_
          refine wH_region ?_
          refine h_op (vI (w64 q_14)) (wt rfl) rfl ?_
          refine h_op (vI (w64 q_14)) (wt rfl) rfl ?_
          refine h_nil ?_
          replace hc_9 := some_inj hc_9
          subst hc_9
          exact loop_mk (k_3, (s_8.1, (w64 q_14))) hL_10 (Nat.lt_succ_self _) rfl rfl
      · refine wH_iff rfl hc_13 ?_
        refine wH_exit ?_
        replace hc_9 := some_inj hc_9
        subst hc_9
        replace hL_10 := some_inj hL_10
        subst hL_10
        exact cut_mk ((s_8.1, s_8.2)) rfl rfl rfl
  · rintro s_8 ho_ sl_ H_ hp_ hq_
    subst ho_
    refine wH_at _ hp_ hq_ ?_
    refine wH_seq ?_
    obtain ⟨v_21, h_22, hF⟩ := bind_some hF
    refine wH_join (β := Unit) (fun _ => ([(4, (vI s_8.1)), (5, (vB v_21))] : List (Nat × V))) (fun _ => ([] : Hp)) (fun _ => True) ?_ ?_
    · refine wH_region ?_
      refine h_op (vI s_8.1) (wt rfl) rfl ?_
      refine h_op (vI s_8.1) (wt rfl) rfl ?_
      refine h_op (vI (x_1.length : Int)) (wt rfl) rfl ?_
      refine h_op (vB (decide (s_8.1 < (x_1.length : Int)))) (wt rfl) rfl ?_
      rcases cond_some h_22 with ⟨hc_23, h_22⟩ | ⟨hc_23, h_22⟩
      · refine h_movb rfl hc_23 (wt rfl) ?_
        refine h_op (vL eS x_1) (wg rfl rfl rfl) rfl ?_
        refine h_op (vI s_8.1) (wg rfl rfl rfl) rfl ?_
        obtain ⟨y_24, hy_25, h_22⟩ := bind_some h_22
        refine h_ia es46 rfl rfl hy_25 rfl (wg rfl rfl rfl) ?_
        refine h_ldc sz9 ag9 rfl (vS y_24) rfl (wg rfl rfl rfl) ?_
        refine h_op (vS target_2) (wg rfl rfl rfl) rfl ?_
        refine h_op (vB (sEq y_24 target_2)) (wg rfl rfl rfl) rfl ?_
        rcases cond_some h_22 with ⟨hc_26, h_22⟩ | ⟨hc_26, h_22⟩
        · refine h_movb rfl hc_26 (wg rfl rfl rfl) ?_
          refine h_skip (wg rfl rfl rfl) ?_
          refine h_skip (wg rfl rfl rfl) ?_
          refine h_skip (wg rfl rfl rfl) ?_
          refine h_skip (wg rfl rfl rfl) ?_
          refine h_skip (wg rfl rfl rfl) ?_
          refine h_skip (wg rfl rfl rfl) ?_
          refine h_skip (wn rfl rfl) ?_
          refine h_skip (wn rfl rfl) ?_
          refine h_skip (wg rfl rfl rfl) ?_
          refine h_op (vB true) (wg rfl rfl rfl) rfl ?_
          refine h_op (vB true) (wt rfl) rfl ?_
          refine h_op (vI s_8.1) (wt rfl) rfl ?_
          refine h_op (vB true) (wt rfl) rfl ?_
          refine h_nil ?_
          replace h_22 := some_inj h_22
          subst h_22
          exact cut_mk () trivial rfl rfl
        · refine h_movb rfl hc_26 (wg rfl rfl rfl) ?_
          refine h_op (vL eS x_1) (wg rfl rfl rfl) rfl ?_
          refine h_op (vI s_8.1) (wg rfl rfl rfl) rfl ?_
          obtain ⟨y_27, hy_28, h_22⟩ := bind_some h_22
          refine h_ia es46 rfl rfl hy_28 rfl (wg rfl rfl rfl) ?_
          refine h_ldc sz9 ag9 rfl (vS y_27) rfl (wg rfl rfl rfl) ?_
          obtain ⟨r_29, hr_30, h_22⟩ := bind_some h_22
          refine h_call0 (slices_isNaN_string_ok hr_30) rfl hb189 rfl rfl rfl rfl (wg rfl rfl rfl) ?_
          rcases cond_some h_22 with ⟨hc_31, h_22⟩ | ⟨hc_31, h_22⟩
          · refine h_movb rfl hc_31 (wg rfl rfl rfl) ?_
            refine h_op (vS target_2) (wg rfl rfl rfl) rfl ?_
            obtain ⟨r_32, hr_33, h_22⟩ := bind_some h_22
            refine h_call0 (slices_isNaN_string_ok hr_33) rfl hb189 rfl rfl rfl rfl (wg rfl rfl rfl) ?_
            refine h_op (vB r_32) (wg rfl rfl rfl) rfl ?_
            refine h_op (vB r_32) (wg rfl rfl rfl) rfl ?_
            refine h_op (vB r_32) (wt rfl) rfl ?_
            refine h_op (vI s_8.1) (wt rfl) rfl ?_
            refine h_op (vB r_32) (wt rfl) rfl ?_
            refine h_nil ?_
            replace h_22 := some_inj h_22
            subst h_22
            exact cut_mk () trivial rfl rfl
          · refine h_movb rfl hc_31 (wg rfl rfl rfl) ?_
            refine h_skip (wg rfl rfl rfl) ?_
            refine h_skip (wg rfl rfl rfl) ?_
            refine h_op (vB false) (wg rfl rfl rfl) rfl ?_
            refine h_op (vB false) (wg rfl rfl rfl) rfl ?_
            refine h_op (vB false) (wt rfl) rfl ?_
            refine h_op (vI s_8.1) (wt rfl) rfl ?_
            refine h_op (vB false) (wt rfl) rfl ?_
            refine h_nil ?_
            replace h_22 := some_inj h_22
            subst h_22
            exact cut_mk () trivial rfl rfl
      · refine h_movb rfl hc_23 (wt rfl) ?_
        refine h_skip (wg rfl rfl rfl) ?_
        refine h_skip (wg rfl rfl rfl) ?_
        refine h_skip (wg rfl rfl rfl) ?_
        refine h_skip (wg rfl rfl rfl) ?_
        refine h_skip (wg rfl rfl rfl) ?_
        refine h_skip (wg rfl rfl rfl) ?_
        refine h_skip (wg rfl rfl rfl) ?_
        refine h_skip (wn rfl rfl) ?_
        refine h_skip (wn rfl rfl) ?_
        refine h_skip (wn rfl rfl) ?_
        refine h_skip (wn rfl rfl) ?_
        refine h_skip (wn rfl rfl) ?_
        refine h_skip (wn rfl rfl) ?_
        refine h_skip (wn rfl rfl) ?_
        refine h_skip (wn rfl rfl) ?_
        refine h_skip (wn rfl rfl) ?_
        refine h_skip (wg rfl rfl rfl) ?_
        refine h_op (vB false) (wt rfl) rfl ?_
        refine h_op (vI s_8.1) (wt rfl) rfl ?_
        refine h_op (vB false) (wt rfl) rfl ?_
        refine h_nil ?_
        replace h_22 := some_inj h_22
        subst h_22
        exact cut_mk () trivial rfl rfl
    · rintro ⟨⟩ _ sl_ H_ hp_ hq_
      refine wH_at _ hp_ hq_ ?_
      replace hF := some_inj hF
      subst hF
      refine wH_ret ?_
      exact fin0 (.inr rfl) [(vI s_8.1), (vB v_21)] ⟨rfl, ⟨rfl, trivial⟩⟩ rfl rfl rfl
theorem schedule_fits_ok {e_1 : Entry} {p_2 : Player} {r : Bool} (hF : schedule_fits e_1 p_2 = some r) :
    FnM Try.prog 97 [(.d (.agg (Entry.enc e_1))), (.d (.agg (Player.enc p_2)))] [] (vB r) [] := by
  refine FnM.of_wH ⟨Try.prog, 26, [], []⟩ rfl Try.func97 rfl rfl (Nat.le_of_ble_eq_true rfl) (by kernel_rfl) ?_
  unfold schedule_fits at hF
  refine wH_seq ?_
  refine wH_region ?_
  refine h_box 0 (.inl rfl) [(vS e_1.Key), (vS e_1.Item), (vI e_1.Version), (vI e_1.First), (vI e_1.Last), (vI e_1.Every), (vI e_1.Days), (vL eI e_1.Except), (vI e_1.From), (vI e_1.To), (vI e_1.Prio), (vL eS e_1.Tags), (vB e_1.Gone)] rfl rfl (wt rfl) (fun n_3 => ?_)
  refine h_box 0 (.inl rfl) [(vS p_2.Key), (vS p_2.Screen), (vI p_2.Zone), (vL eS p_2.Tags)] rfl rfl (wt rfl) (fun n_4 => ?_)
  refine h_op (vB false) (wt rfl) rfl ?_
  refine h_nil ?_
  refine wH_seq ?_
  refine wH_seq ?_
  refine wH_region ?_
  refine h_far pl56_11 rfl 11 rfl (wt rfl) ?_
  refine h_ldr 0 0 (.inl rfl) (fun _ _ _ => trivial) sz46 ag46 rfl rfl (vL eS e_1.Tags) rfl (wt rfl) ?_
  refine h_len un46 rfl (wt rfl) ?_
  refine h_op (vI 0) (wt rfl) rfl ?_
  refine h_nil ?_
  obtain ⟨o_13, hj_14, hF⟩ := bind_some hF
  obtain ⟨hn_9, hj_14⟩ := forL_some hj_14
  refine wH_join (β := (Unit)) (fun (s_10 : Unit) => ([] : List (Nat × V))) (fun (s_10 : Unit) => ([(n_3, some (.cells 13 [(vS e_1.Key), (vS e_1.Item), (vI e_1.Version), (vI e_1.First), (vI e_1.Last), (vI e_1.Every), (vI e_1.Days), (vL eI e_1.Except), (vI e_1.From), (vI e_1.To), (vI e_1.Prio), (vL eS e_1.Tags), (vB e_1.Gone)])), (n_4, some (.cells 4 [(vS p_2.Key), (vS p_2.Screen), (vI p_2.Zone), (vL eS p_2.Tags)]))] : Hp)) (fun p => o_13 = .go p) ?_ ?_
  · refine wH_block ?_
    refine wH_loop (β := Nat × (List ByteArray) × (Unit)) (fun p => (fun (k_5 : Nat) (l_6 : List ByteArray) (s_10 : Unit) => ([(3, (.ref n_4 0 0)), (10, (vL eS e_1.Tags)), (11, (vI (e_1.Tags.length : Int))), (12, (vI (k_5 : Int)))] : List (Nat × V))) p.1 p.2.1 p.2.2) (fun p => (fun (k_5 : Nat) (l_6 : List ByteArray) (s_10 : Unit) => ([(n_3, some (.cells 13 [(vS e_1.Key), (vS e_1.Item), (vI e_1.Version), (vI e_1.First), (vI e_1.Last), (vI e_1.Every), (vI e_1.Days), (vL eI e_1.Except), (vI e_1.From), (vI e_1.To), (vI e_1.Prio), (vL eS e_1.Tags), (vB e_1.Gone)])), (n_4, some (.cells 4 [(vS p_2.Key), (vS p_2.Screen), (vI p_2.Zone), (vL eS p_2.Tags)]))] : Hp)) p.1 p.2.1 p.2.2) (fun p => forR (fun k x s => schedule_fits_L1 p_2 k x s) p.2.1 p.1 p.2.2 = some o_13 ∧ (e_1.Tags).drop p.1 = p.2.1) (fun p => p.2.1.length) (0, e_1.Tags, ()) ⟨hj_14, rfl⟩ rfl rfl ?_
    rintro ⟨k_5, l_6, s_10⟩ ⟨hL_12, hD_8⟩
    dsimp only at hL_12 hD_8
    cases l_6 with
    | nil =>
      replace hL_12 := some_inj hL_12
      subst hL_12
      refine wH_seq (wH_region (h_op (vB (decide ((k_5 : Int) < (e_1.Tags.length : Int)))) (wt rfl) rfl (h_nil ?_)))
      refine wH_seq (wH_iff rfl (drop_nil hD_8) (wH_exit ?_))
      exact cut_mk (s_10) rfl rfl rfl
    | cons x_7 l_6 =>
      obtain ⟨c_, hc_11, hL_12⟩ := bind_some hL_12
      refine wH_seq (wH_region (h_op (vB (decide ((k_5 : Int) < (e_1.Tags.length : Int)))) (wt rfl) rfl (h_nil ?_)))
      refine wH_seq (wH_ift rfl (drop_cons hD_8) (wH_skip ?_))
      unfold schedule_fits_L1 at hc_11
      refine wH_seq ?_
      refine wH_block ?_
      refine wH_seq ?_
      refine wH_region ?_
      refine h_ia es46 rfl rfl (drop_idx hD_8) rfl (wt rfl) ?_
      refine h_ldc sz9 ag9 rfl (vS x_7) rfl (wt rfl) ?_
      refine h_op (vS x_7) (wt rfl) rfl ?_
      refine h_nil ?_
      refine wH_seq ?_
      refine wH_region ?_
      refine h_far pl48_3 rfl 3 rfl (wt rfl) ?_
      refine h_ldr 0 1 (.inl rfl) (fun _ _ _ => trivial) sz46 ag46 rfl rfl (vL eS p_2.Tags) rfl (wt rfl) ?_
      refine h_op (vS x_7) (wt rfl) rfl ?_
      obtain ⟨r_15, hr_16, hc_11⟩ := bind_some hc_11
      refine h_call0 (slices_BinarySearch_string_string_ok hr_16) rfl hb158 rfl rfl rfl rfl (wt rfl) ?_
      refine h_op (.tup [(vI r_15.1), (vB r_15.2)]) (wt rfl) rfl ?_
      refine h_op (vI r_15.1) (wt rfl) rfl ?_
      refine h_op (vB r_15.2) (wt rfl) rfl ?_
      refine h_op (vI r_15.1) (wt rfl) rfl ?_
      refine h_op (vB r_15.2) (wt rfl) rfl ?_
      refine h_nil ?_
      refine wH_seq ?_
      refine wH_region ?_
      refine h_op (vB r_15.2) (wt rfl) rfl ?_
      refine h_op (vB (!r_15.2)) (wt rfl) rfl ?_
      refine h_nil ?_
      rcases cond_some hc_11 with ⟨hc_17, hc_11⟩ | ⟨hc_17, hc_11⟩
      · refine wH_ift rfl hc_17 ?_
        refine wH_seq ?_
        refine wH_region ?_
        refine h_op (vB false) (wt rfl) rfl ?_
        refine h_nil ?_
        replace hc_11 := some_inj hc_11
        subst hc_11
        replace hL_12 := some_inj hL_12
        subst hL_12
        replace hF := some_inj hF
        subst hF
        refine wH_ret ?_
        exact fin0 (.inr rfl) [(vB false)] ⟨rfl, trivial⟩ rfl rfl rfl
      · refine wH_iff rfl hc_17 ?_
        refine wH_skip ?_
        refine wH_region ?_
        refine h_opw (w64_next hD_8 hn_9) (wt rfl) rfl ?_
        refine h_op (vI ((k_5 + 1 : Nat) : Int)) (wt rfl) rfl ?_
        refine h_nil ?_
        replace hc_11 := some_inj hc_11
        subst hc_11
        exact loop_mk (k_5 + 1, l_6, ()) ⟨hL_12, drop_next hD_8⟩ (Nat.lt_succ_self _) rfl rfl
  · rintro s_10 ho_ sl_ H_ hp_ hq_
    subst ho_
    refine wH_at _ hp_ hq_ ?_
    refine wH_seq ?_
    refine wH_region ?_
    refine h_op (vB true) (wt rfl) rfl ?_
    refine h_nil ?_
    replace hF := some_inj hF
    subst hF
    refine wH_ret ?_
    exact fin0 (.inr rfl) [(vB true)] ⟨rfl, trivial⟩ rfl rfl rfl
theorem schedule_Fits_ok {e_1 : Entry} {p_2 : Player} {r : Bool × Int} (hF : schedule_Fits e_1 p_2 = some r) :
    FnM Try.prog 28 [(.d (.agg (Entry.enc e_1))), (.d (.agg (Player.enc p_2)))] [] (.tup [(vB r.1), (vI r.2)]) [] := by
  refine FnM.of_wH ⟨Try.prog, 22, [], []⟩ rfl Try.func28 rfl rfl (Nat.le_of_ble_eq_true rfl) (by kernel_rfl) ?_
  unfold schedule_Fits at hF
  refine wH_seq ?_
  refine wH_region ?_
  refine h_box 0 (.inl rfl) [(vS e_1.Key), (vS e_1.Item), (vI e_1.Version), (vI e_1.First), (vI e_1.Last), (vI e_1.Every), (vI e_1.Days), (vL eI e_1.Except), (vI e_1.From), (vI e_1.To), (vI e_1.Prio), (vL eS e_1.Tags), (vB e_1.Gone)] rfl rfl (wt rfl) (fun n_3 => ?_)
  refine h_box 0 (.inl rfl) [(vS p_2.Key), (vS p_2.Screen), (vI p_2.Zone), (vL eS p_2.Tags)] rfl rfl (wt rfl) (fun n_4 => ?_)
  refine h_op (vB false) (wt rfl) rfl ?_
  refine h_op (vI 0) (wt rfl) rfl ?_
  refine h_nil ?_
  refine wH_seq ?_
  refine wH_seq ?_
  refine wH_region ?_
  refine h_ldr 0 0 (.inl rfl) (fun _ _ _ => trivial) sz56 ag56 rfl rfl (.d (.agg (Entry.enc e_1))) rfl (wt rfl) ?_
  refine h_lit (([e_1] : List Entry).map Entry.enc) es53 ez53 rfl rfl rfl rfl rfl (wt rfl) ?_
  obtain ⟨r_5, hr_6, hF⟩ := bind_some hF
  refine h_call0 (schedule_CheckEntries_ok hr_6) rfl hb92 rfl rfl rfl rfl (wt rfl) ?_
  refine h_op (vI r_5) (wt rfl) rfl ?_
  refine h_nil ?_
  refine wH_seq ?_
  refine wH_region ?_
  refine h_op (vI r_5) (wt rfl) rfl ?_
  refine h_op (vB (r_5 != 0)) (wt rfl) rfl ?_
  refine h_nil ?_
  rcases cond_some hF with ⟨hc_7, hF⟩ | ⟨hc_7, hF⟩
  · refine wH_ift rfl hc_7 ?_
    refine wH_seq ?_
    refine wH_region ?_
    refine h_op (vI r_5) (wt rfl) rfl ?_
    refine h_op (vB false) (wt rfl) rfl ?_
    refine h_op (vI r_5) (wt rfl) rfl ?_
    refine h_nil ?_
    replace hF := some_inj hF
    subst hF
    refine wH_ret ?_
    exact fin0 (.inr rfl) [(vB false), (vI r_5)] ⟨rfl, ⟨rfl, trivial⟩⟩ rfl rfl rfl
  · refine wH_iff rfl hc_7 ?_
    refine wH_skip ?_
    refine wH_seq ?_
    refine wH_seq ?_
    refine wH_region ?_
    refine h_ldr 0 1 (.inl rfl) (fun _ _ _ => trivial) sz48 ag48 rfl rfl (.d (.agg (Player.enc p_2))) rfl (wt rfl) ?_
    obtain ⟨r_8, hr_9, hF⟩ := bind_some hF
    refine h_call0 (schedule_CheckPlayer_ok hr_9) rfl hb96 rfl rfl rfl rfl (wt rfl) ?_
    refine h_op (vI r_8) (wt rfl) rfl ?_
    refine h_nil ?_
    refine wH_seq ?_
    refine wH_region ?_
    refine h_op (vI r_8) (wt rfl) rfl ?_
    refine h_op (vB (r_8 != 0)) (wt rfl) rfl ?_
    refine h_nil ?_
    rcases cond_some hF with ⟨hc_10, hF⟩ | ⟨hc_10, hF⟩
    · refine wH_ift rfl hc_10 ?_
      refine wH_seq ?_
      refine wH_region ?_
      refine h_op (vI r_8) (wt rfl) rfl ?_
      refine h_op (vB false) (wt rfl) rfl ?_
      refine h_op (vI r_8) (wt rfl) rfl ?_
      refine h_nil ?_
      replace hF := some_inj hF
      subst hF
      refine wH_ret ?_
      exact fin0 (.inr rfl) [(vB false), (vI r_8)] ⟨rfl, ⟨rfl, trivial⟩⟩ rfl rfl rfl
    · refine wH_iff rfl hc_10 ?_
      refine wH_skip ?_
      refine wH_seq ?_
      refine wH_region ?_
      refine h_ldr 0 0 (.inl rfl) (fun _ _ _ => trivial) sz56 ag56 rfl rfl (.d (.agg (Entry.enc e_1))) rfl (wt rfl) ?_
      refine h_ldr 0 1 (.inl rfl) (fun _ _ _ => trivial) sz48 ag48 rfl rfl (.d (.agg (Player.enc p_2))) rfl (wt rfl) ?_
      obtain ⟨r_11, hr_12, hF⟩ := bind_some hF
      refine h_call0 (schedule_fits_ok hr_12) rfl hb97 rfl rfl rfl rfl (wt rfl) ?_
      refine h_op (vB r_11) (wt rfl) rfl ?_
      refine h_op (vI 0) (wt rfl) rfl ?_
      refine h_nil ?_
      replace hF := some_inj hF
      subst hF
      refine wH_ret ?_
      exact fin0 (.inr rfl) [(vB r_11), (vI 0)] ⟨rfl, ⟨rfl, trivial⟩⟩ rfl rfl rfl
theorem ref_risingFault_ok {l_1 : (List ByteArray)} {r : Int} (hF : ref_risingFault l_1 = some r) :
    FnM Try.prog 159 [(vL eS l_1)] [] (vI r) [] := by
  refine FnM.of_wH ⟨Try.prog, 27, [], []⟩ rfl Try.func159 rfl rfl (Nat.le_of_ble_eq_true rfl) (by kernel_rfl) ?_
  unfold ref_risingFault at hF
  refine wH_seq ?_
  refine wH_region ?_
  refine h_op (vI 0) (wt rfl) rfl ?_
  refine h_nil ?_
  refine wH_seq ?_
  refine wH_seq ?_
  refine wH_region ?_
  refine h_op (vL eS l_1) (wt rfl) rfl ?_
  refine h_len un46 rfl (wt rfl) ?_
  refine h_op (vI 0) (wt rfl) rfl ?_
  refine h_nil ?_
  obtain ⟨o_10, hj_11, hF⟩ := bind_some hF
  obtain ⟨hn_6, hj_11⟩ := forL_some hj_11
  refine wH_join (β := (Unit)) (fun (s_7 : Unit) => ([] : List (Nat × V))) (fun (s_7 : Unit) => ([] : Hp)) (fun p => o_10 = .go p) ?_ ?_
  · refine wH_block ?_
    refine wH_loop (β := Nat × (List ByteArray) × (Unit)) (fun p => (fun (k_2 : Nat) (l_3 : List ByteArray) (s_7 : Unit) => ([(0, (vL eS l_1)), (5, (vL eS l_1)), (6, (vI (l_1.length : Int))), (7, (vI (k_2 : Int)))] : List (Nat × V))) p.1 p.2.1 p.2.2) (fun p => (fun (k_2 : Nat) (l_3 : List ByteArray) (s_7 : Unit) => ([] : Hp)) p.1 p.2.1 p.2.2) (fun p => forR (fun k x s => ref_risingFault_L1 l_1 k x s) p.2.1 p.1 p.2.2 = some o_10 ∧ (l_1).drop p.1 = p.2.1) (fun p => p.2.1.length) (0, l_1, ()) ⟨hj_11, rfl⟩ rfl rfl ?_
    rintro ⟨k_2, l_3, s_7⟩ ⟨hL_9, hD_5⟩
    dsimp only at hL_9 hD_5
    cases l_3 with
    | nil =>
      replace hL_9 := some_inj hL_9
      subst hL_9
      refine wH_seq (wH_region (h_op (vB (decide ((k_2 : Int) < (l_1.length : Int)))) (wt rfl) rfl (h_nil ?_)))
      refine wH_seq (wH_iff rfl (drop_nil hD_5) (wH_exit ?_))
      exact cut_mk (s_7) rfl rfl rfl
    | cons x_4 l_3 =>
      obtain ⟨c_, hc_8, hL_9⟩ := bind_some hL_9
      refine wH_seq (wH_region (h_op (vB (decide ((k_2 : Int) < (l_1.length : Int)))) (wt rfl) rfl (h_nil ?_)))
      refine wH_seq (wH_ift rfl (drop_cons hD_5) (wH_skip ?_))
      unfold ref_risingFault_L1 at hc_8
      refine wH_seq ?_
      refine wH_block ?_
      refine wH_seq ?_
      refine wH_region ?_
      refine h_op (vI (k_2 : Int)) (wt rfl) rfl ?_
      refine h_ia es46 rfl rfl (drop_idx hD_5) rfl (wt rfl) ?_
      refine h_ldc sz9 ag9 rfl (vS x_4) rfl (wt rfl) ?_
      refine h_op (vI (k_2 : Int)) (wt rfl) rfl ?_
      refine h_op (vS x_4) (wt rfl) rfl ?_
      refine h_nil ?_
      refine wH_seq ?_
      refine wH_seq ?_
      refine wH_region ?_
      refine h_op (vS x_4) (wt rfl) rfl ?_
      obtain ⟨r_12, hr_13, hc_8⟩ := bind_some hc_8
      refine h_call0 (ref_Key_ok hr_13) rfl hb18 rfl rfl rfl rfl (wt rfl) ?_
      refine h_op (vB (!r_12)) (wt rfl) rfl ?_
      refine h_nil ?_
      rcases cond_some hc_8 with ⟨hc_14, hc_8⟩ | ⟨hc_14, hc_8⟩
      · refine wH_ift rfl hc_14 ?_
        refine wH_seq ?_
        refine wH_region ?_
        refine h_op (vI 5) (wt rfl) rfl ?_
        refine h_nil ?_
        replace hc_8 := some_inj hc_8
        subst hc_8
        replace hL_9 := some_inj hL_9
        subst hL_9
        replace hF := some_inj hF
        subst hF
        refine wH_ret ?_
        exact fin0 (.inr rfl) [(vI 5)] ⟨rfl, trivial⟩ rfl rfl rfl
      · refine wH_iff rfl hc_14 ?_
        refine wH_skip ?_
        refine wH_seq ?_
        obtain ⟨v_15, h_16, hc_8⟩ := bind_some hc_8
        refine wH_join (β := Unit) (fun _ => ([(0, (vL eS l_1)), (5, (vL eS l_1)), (6, (vI (l_1.length : Int))), (7, (vI (k_2 : Int))), (25, (vB v_15))] : List (Nat × V))) (fun _ => ([] : Hp)) (fun _ => True) ?_ ?_
        · refine wH_region ?_
          refine h_op (vI (k_2 : Int)) (wt rfl) rfl ?_
          refine h_op (vB (decide ((k_2 : Int) > 0))) (wt rfl) rfl ?_
          rcases cond_some h_16 with ⟨hc_17, h_16⟩ | ⟨hc_17, h_16⟩
          · refine h_movb rfl hc_17 (wt rfl) ?_
            refine h_op (vS x_4) (wg rfl rfl rfl) rfl ?_
            refine h_op (vL eS l_1) (wg rfl rfl rfl) rfl ?_
            refine h_op (vI (k_2 : Int)) (wg rfl rfl rfl) rfl ?_
            refine h_op (vI (w64 ((k_2 : Int) - 1))) (wg rfl rfl rfl) rfl ?_
            obtain ⟨y_18, hy_19, h_16⟩ := bind_some h_16
            refine h_ia es46 rfl rfl hy_19 rfl (wg rfl rfl rfl) ?_
            refine h_ldc sz9 ag9 rfl (vS y_18) rfl (wg rfl rfl rfl) ?_
            refine h_op (vB (sLe x_4 y_18)) (wg rfl rfl rfl) rfl ?_
            refine h_op (vB (sLe x_4 y_18)) (wt rfl) rfl ?_
            refine h_nil ?_
            replace h_16 := some_inj h_16
            subst h_16
            exact cut_mk () trivial rfl rfl
          · refine h_movb rfl hc_17 (wt rfl) ?_
            refine h_skip (wg rfl rfl rfl) ?_
            refine h_skip (wg rfl rfl rfl) ?_
            refine h_skip (wg rfl rfl rfl) ?_
            refine h_skip (wg rfl rfl rfl) ?_
            refine h_skip (wg rfl rfl rfl) ?_
            refine h_skip (wg rfl rfl rfl) ?_
            refine h_skip (wg rfl rfl rfl) ?_
            refine h_op (vB false) (wt rfl) rfl ?_
            refine h_nil ?_
            replace h_16 := some_inj h_16
            subst h_16
            exact cut_mk () trivial rfl rfl
        · rintro ⟨⟩ _ sl_ H_ hp_ hq_
          refine wH_at _ hp_ hq_ ?_
          rcases cond_some hc_8 with ⟨hc_20, hc_8⟩ | ⟨hc_20, hc_8⟩
          · refine wH_ift rfl hc_20 ?_
            refine wH_seq ?_
            refine wH_region ?_
            refine h_op (vI 7) (wt rfl) rfl ?_
            refine h_nil ?_
            replace hc_8 := some_inj hc_8
            subst hc_8
            replace hL_9 := some_inj hL_9
            subst hL_9
            replace hF := some_inj hF
            subst hF
            refine wH_ret ?_
            exact fin0 (.inr rfl) [(vI 7)] ⟨rfl, trivial⟩ rfl rfl rfl
          · refine wH_iff rfl hc_20 ?_
            refine wH_skip ?_
            refine wH_region ?_
            refine h_opw (w64_next hD_5 hn_6) (wt rfl) rfl ?_
            refine h_op (vI ((k_2 + 1 : Nat) : Int)) (wt rfl) rfl ?_
            refine h_nil ?_
            replace hc_8 := some_inj hc_8
            subst hc_8
            exact loop_mk (k_2 + 1, l_3, ()) ⟨hL_9, drop_next hD_5⟩ (Nat.lt_succ_self _) rfl rfl
  · rintro s_7 ho_ sl_ H_ hp_ hq_
    subst ho_
    refine wH_at _ hp_ hq_ ?_
    refine wH_seq ?_
    refine wH_region ?_
    refine h_op (vI 0) (wt rfl) rfl ?_
    refine h_nil ?_
    replace hF := some_inj hF
    subst hF
    refine wH_ret ?_
    exact fin0 (.inr rfl) [(vI 0)] ⟨rfl, trivial⟩ rfl rfl rfl
theorem ref_TagsFault_ok {l_1 : (List ByteArray)} {r : Int} (hF : ref_TagsFault l_1 = some r) :
    FnM Try.prog 99 [(vL eS l_1)] [] (vI r) [] := by
  refine FnM.of_wH ⟨Try.prog, 8, [], []⟩ rfl Try.func99 rfl rfl (Nat.le_of_ble_eq_true rfl) (by kernel_rfl) ?_
  unfold ref_TagsFault at hF
  refine wH_seq ?_
  refine wH_region ?_
  refine h_op (vI 0) (wt rfl) rfl ?_
  refine h_nil ?_
  refine wH_seq ?_
  refine wH_seq ?_
  refine wH_region ?_
  refine h_op (vL eS l_1) (wt rfl) rfl ?_
  refine h_len un46 rfl (wt rfl) ?_
  refine h_op (vB (decide ((l_1.length : Int) > 20))) (wt rfl) rfl ?_
  refine h_nil ?_
  rcases cond_some hF with ⟨hc_2, hF⟩ | ⟨hc_2, hF⟩
  · refine wH_ift rfl hc_2 ?_
    refine wH_seq ?_
    refine wH_region ?_
    refine h_op (vI 2) (wt rfl) rfl ?_
    refine h_nil ?_
    replace hF := some_inj hF
    subst hF
    refine wH_ret ?_
    exact fin0 (.inr rfl) [(vI 2)] ⟨rfl, trivial⟩ rfl rfl rfl
  · refine wH_iff rfl hc_2 ?_
    refine wH_skip ?_
    refine wH_seq ?_
    refine wH_region ?_
    refine h_op (vL eS l_1) (wt rfl) rfl ?_
    obtain ⟨r_3, hr_4, hF⟩ := bind_some hF
    refine h_call0 (ref_risingFault_ok hr_4) rfl hb159 rfl rfl rfl rfl (wt rfl) ?_
    refine h_op (vI r_3) (wt rfl) rfl ?_
    refine h_nil ?_
    replace hF := some_inj hF
    subst hF
    refine wH_ret ?_
    exact fin0 (.inr rfl) [(vI r_3)] ⟨rfl, trivial⟩ rfl rfl rfl
theorem ref_entryFault_ok {e_1 : Entry} {r : Int} (hF : ref_entryFault e_1 = some r) :
    FnM Try.prog 98 [(.d (.agg (Entry.enc e_1)))] [] (vI r) [] := by
  refine FnM.of_wH ⟨Try.prog, 94, [], []⟩ rfl Try.func98 rfl rfl (Nat.le_of_ble_eq_true rfl) (by kernel_rfl) ?_
  unfold ref_entryFault at hF
  refine wH_seq ?_
  refine wH_region ?_
  refine h_box 0 (.inl rfl) [(vS e_1.Key), (vS e_1.Item), (vI e_1.Version), (vI e_1.First), (vI e_1.Last), (vI e_1.Every), (vI e_1.Days), (vL eI e_1.Except), (vI e_1.From), (vI e_1.To), (vI e_1.Prio), (vL eS e_1.Tags), (vB e_1.Gone)] rfl rfl (wt rfl) (fun n_2 => ?_)
  refine h_op (vI 0) (wt rfl) rfl ?_
  refine h_nil ?_
  refine wH_seq ?_
  refine wH_block ?_
  refine wH_seq ?_
  obtain ⟨v_3, h_4, hF⟩ := bind_some hF
  refine wH_join (β := Unit) (fun _ => ([(1, (.ref n_2 0 0)), (5, (vB v_3))] : List (Nat × V))) (fun _ => ([(n_2, some (.cells 13 [(vS e_1.Key), (vS e_1.Item), (vI e_1.Version), (vI e_1.First), (vI e_1.Last), (vI e_1.Every), (vI e_1.Days), (vL eI e_1.Except), (vI e_1.From), (vI e_1.To), (vI e_1.Prio), (vL eS e_1.Tags), (vB e_1.Gone)]))] : Hp)) (fun _ => True) ?_ ?_
  · refine wH_region ?_
    refine h_far pl56_0 rfl 0 rfl (wt rfl) ?_
    refine h_ldr 0 0 (.inl rfl) (fun _ _ _ => trivial) sz9 ag9 rfl rfl (vS e_1.Key) rfl (wt rfl) ?_
    obtain ⟨r_5, hr_6, h_4⟩ := bind_some h_4
    refine h_call0 (ref_Key_ok hr_6) rfl hb18 rfl rfl rfl rfl (wt rfl) ?_
    refine h_op (vB (!r_5)) (wt rfl) rfl ?_
    rcases cond_some h_4 with ⟨hc_7, h_4⟩ | ⟨hc_7, h_4⟩
    · refine h_movb rfl hc_7 (wt rfl) ?_
      refine h_skip (wg rfl rfl rfl) ?_
      refine h_skip (wg rfl rfl rfl) ?_
      refine h_skip (wg rfl rfl rfl) ?_
      refine h_skip (wg rfl rfl rfl) ?_
      refine h_op (vB true) (wt rfl) rfl ?_
      refine h_op (vB true) (wt rfl) rfl ?_
      refine h_nil ?_
      replace h_4 := some_inj h_4
      subst h_4
      exact cut_mk () trivial rfl rfl
    · refine h_movb rfl hc_7 (wt rfl) ?_
      refine h_far pl56_1 rfl 1 rfl (wg rfl rfl rfl) ?_
      refine h_ldr 0 0 (.inl rfl) (fun _ _ _ => trivial) sz9 ag9 rfl rfl (vS e_1.Item) rfl (wg rfl rfl rfl) ?_
      obtain ⟨r_8, hr_9, h_4⟩ := bind_some h_4
      refine h_call0 (ref_Key_ok hr_9) rfl hb18 rfl rfl rfl rfl (wg rfl rfl rfl) ?_
      refine h_op (vB (!r_8)) (wg rfl rfl rfl) rfl ?_
      refine h_op (vB (!r_8)) (wt rfl) rfl ?_
      refine h_op (vB (!r_8)) (wt rfl) rfl ?_
      refine h_nil ?_
      replace h_4 := some_inj h_4
      subst h_4
      exact cut_mk () trivial rfl rfl
  · rintro ⟨⟩ _ sl_ H_ hp_ hq_
    refine wH_at _ hp_ hq_ ?_
    rcases cond_some hF with ⟨hc_10, hF⟩ | ⟨hc_10, hF⟩
    · refine wH_ift rfl hc_10 ?_
      refine wH_seq ?_
      refine wH_region ?_
      refine h_op (vI 5) (wt rfl) rfl ?_
      refine h_nil ?_
      replace hF := some_inj hF
      subst hF
      refine wH_ret ?_
      exact fin0 (.inr rfl) [(vI 5)] ⟨rfl, trivial⟩ rfl rfl rfl
    · refine wH_iff rfl hc_10 ?_
      refine wH_seq ?_
      obtain ⟨v_11, h_12, hF⟩ := bind_some hF
      refine wH_join (β := Unit) (fun _ => ([(1, (.ref n_2 0 0)), (16, (vB v_11))] : List (Nat × V))) (fun _ => ([(n_2, some (.cells 13 [(vS e_1.Key), (vS e_1.Item), (vI e_1.Version), (vI e_1.First), (vI e_1.Last), (vI e_1.Every), (vI e_1.Days), (vL eI e_1.Except), (vI e_1.From), (vI e_1.To), (vI e_1.Prio), (vL eS e_1.Tags), (vB e_1.Gone)]))] : Hp)) (fun _ => True) ?_ ?_
      · refine wH_region ?_
        refine h_far pl56_2 rfl 2 rfl (wt rfl) ?_
        refine h_ldr 0 0 (.inl rfl) (fun _ _ _ => trivial) sz3 ag3 rfl rfl (vI e_1.Version) rfl (wt rfl) ?_
        obtain ⟨r_13, hr_14, h_12⟩ := bind_some h_12
        refine h_call0 (ref_in_ok hr_14) rfl hb84 rfl rfl rfl rfl (wt rfl) ?_
        refine h_op (vB (!r_13)) (wt rfl) rfl ?_
        rcases cond_some h_12 with ⟨hc_15, h_12⟩ | ⟨hc_15, h_12⟩
        · refine h_movb rfl hc_15 (wt rfl) ?_
          refine h_skip (wg rfl rfl rfl) ?_
          refine h_skip (wg rfl rfl rfl) ?_
          refine h_skip (wg rfl rfl rfl) ?_
          refine h_skip (wg rfl rfl rfl) ?_
          refine h_skip (wg rfl rfl rfl) ?_
          refine h_skip (wg rfl rfl rfl) ?_
          refine h_op (vB true) (wt rfl) rfl ?_
          refine h_op (vB true) (wt rfl) rfl ?_
          refine h_skip (wg rfl rfl rfl) ?_
          refine h_skip (wg rfl rfl rfl) ?_
          refine h_skip (wg rfl rfl rfl) ?_
          refine h_op (vB true) (wt rfl) rfl ?_
          refine h_op (vB true) (wt rfl) rfl ?_
          refine h_skip (wg rfl rfl rfl) ?_
          refine h_skip (wg rfl rfl rfl) ?_
          refine h_skip (wg rfl rfl rfl) ?_
          refine h_skip (wg rfl rfl rfl) ?_
          refine h_op (vB true) (wt rfl) rfl ?_
          refine h_op (vB true) (wt rfl) rfl ?_
          refine h_skip (wg rfl rfl rfl) ?_
          refine h_skip (wg rfl rfl rfl) ?_
          refine h_skip (wg rfl rfl rfl) ?_
          refine h_skip (wg rfl rfl rfl) ?_
          refine h_op (vB true) (wt rfl) rfl ?_
          refine h_op (vB true) (wt rfl) rfl ?_
          refine h_nil ?_
          replace h_12 := some_inj h_12
          subst h_12
          exact cut_mk () trivial rfl rfl
        · refine h_movb rfl hc_15 (wt rfl) ?_
          refine h_far pl56_3 rfl 3 rfl (wg rfl rfl rfl) ?_
          refine h_ldr 0 0 (.inl rfl) (fun _ _ _ => trivial) sz3 ag3 rfl rfl (vI e_1.First) rfl (wg rfl rfl rfl) ?_
          refine h_far pl56_4 rfl 4 rfl (wg rfl rfl rfl) ?_
          refine h_ldr 0 0 (.inl rfl) (fun _ _ _ => trivial) sz3 ag3 rfl rfl (vI e_1.Last) rfl (wg rfl rfl rfl) ?_
          obtain ⟨r_16, hr_17, h_12⟩ := bind_some h_12
          refine h_call0 (ref_in_ok hr_17) rfl hb84 rfl rfl rfl rfl (wg rfl rfl rfl) ?_
          refine h_op (vB (!r_16)) (wg rfl rfl rfl) rfl ?_
          refine h_op (vB (!r_16)) (wt rfl) rfl ?_
          rcases cond_some h_12 with ⟨hc_18, h_12⟩ | ⟨hc_18, h_12⟩
          · refine h_movb rfl hc_18 (wt rfl) ?_
            refine h_skip (wg rfl rfl rfl) ?_
            refine h_skip (wg rfl rfl rfl) ?_
            refine h_skip (wg rfl rfl rfl) ?_
            refine h_op (vB true) (wt rfl) rfl ?_
            refine h_op (vB true) (wt rfl) rfl ?_
            refine h_skip (wg rfl rfl rfl) ?_
            refine h_skip (wg rfl rfl rfl) ?_
            refine h_skip (wg rfl rfl rfl) ?_
            refine h_skip (wg rfl rfl rfl) ?_
            refine h_op (vB true) (wt rfl) rfl ?_
            refine h_op (vB true) (wt rfl) rfl ?_
            refine h_skip (wg rfl rfl rfl) ?_
            refine h_skip (wg rfl rfl rfl) ?_
            refine h_skip (wg rfl rfl rfl) ?_
            refine h_skip (wg rfl rfl rfl) ?_
            refine h_op (vB true) (wt rfl) rfl ?_
            refine h_op (vB true) (wt rfl) rfl ?_
            refine h_nil ?_
            replace h_12 := some_inj h_12
            subst h_12
            exact cut_mk () trivial rfl rfl
          · refine h_movb rfl hc_18 (wt rfl) ?_
            refine h_far pl56_4 rfl 4 rfl (wg rfl rfl rfl) ?_
            refine h_ldr 0 0 (.inl rfl) (fun _ _ _ => trivial) sz3 ag3 rfl rfl (vI e_1.Last) rfl (wg rfl rfl rfl) ?_
            refine h_op (vB (decide (e_1.Last > 4000))) (wg rfl rfl rfl) rfl ?_
            refine h_op (vB (decide (e_1.Last > 4000))) (wt rfl) rfl ?_
            rcases cond_some h_12 with ⟨hc_19, h_12⟩ | ⟨hc_19, h_12⟩
            · refine h_movb rfl hc_19 (wt rfl) ?_
              refine h_skip (wg rfl rfl rfl) ?_
              refine h_skip (wg rfl rfl rfl) ?_
              refine h_skip (wg rfl rfl rfl) ?_
              refine h_skip (wg rfl rfl rfl) ?_
              refine h_op (vB true) (wt rfl) rfl ?_
              refine h_op (vB true) (wt rfl) rfl ?_
              refine h_skip (wg rfl rfl rfl) ?_
              refine h_skip (wg rfl rfl rfl) ?_
              refine h_skip (wg rfl rfl rfl) ?_
              refine h_skip (wg rfl rfl rfl) ?_
              refine h_op (vB true) (wt rfl) rfl ?_
              refine h_op (vB true) (wt rfl) rfl ?_
              refine h_nil ?_
              replace h_12 := some_inj h_12
              subst h_12
              exact cut_mk () trivial rfl rfl
            · refine h_movb rfl hc_19 (wt rfl) ?_
              refine h_far pl56_5 rfl 5 rfl (wg rfl rfl rfl) ?_
              refine h_ldr 0 0 (.inl rfl) (fun _ _ _ => trivial) sz3 ag3 rfl rfl (vI e_1.Every) rfl (wg rfl rfl rfl) ?_
              obtain ⟨r_20, hr_21, h_12⟩ := bind_some h_12
              refine h_call0 (ref_in_ok hr_21) rfl hb84 rfl rfl rfl rfl (wg rfl rfl rfl) ?_
              refine h_op (vB (!r_20)) (wg rfl rfl rfl) rfl ?_
              refine h_op (vB (!r_20)) (wt rfl) rfl ?_
              rcases cond_some h_12 with ⟨hc_22, h_12⟩ | ⟨hc_22, h_12⟩
              · refine h_movb rfl hc_22 (wt rfl) ?_
                refine h_skip (wg rfl rfl rfl) ?_
                refine h_skip (wg rfl rfl rfl) ?_
                refine h_skip (wg rfl rfl rfl) ?_
                refine h_skip (wg rfl rfl rfl) ?_
                refine h_op (vB true) (wt rfl) rfl ?_
                refine h_op (vB true) (wt rfl) rfl ?_
                refine h_nil ?_
                replace h_12 := some_inj h_12
                subst h_12
                exact cut_mk () trivial rfl rfl
              · refine h_movb rfl hc_22 (wt rfl) ?_
                refine h_far pl56_6 rfl 6 rfl (wg rfl rfl rfl) ?_
                refine h_ldr 0 0 (.inl rfl) (fun _ _ _ => trivial) sz3 ag3 rfl rfl (vI e_1.Days) rfl (wg rfl rfl rfl) ?_
                obtain ⟨r_23, hr_24, h_12⟩ := bind_some h_12
                refine h_call0 (ref_in_ok hr_24) rfl hb84 rfl rfl rfl rfl (wg rfl rfl rfl) ?_
                refine h_op (vB (!r_23)) (wg rfl rfl rfl) rfl ?_
                refine h_op (vB (!r_23)) (wt rfl) rfl ?_
                refine h_op (vB (!r_23)) (wt rfl) rfl ?_
                refine h_nil ?_
                replace h_12 := some_inj h_12
                subst h_12
                exact cut_mk () trivial rfl rfl
      · rintro ⟨⟩ _ sl_ H_ hp_ hq_
        refine wH_at _ hp_ hq_ ?_
        rcases cond_some hF with ⟨hc_25, hF⟩ | ⟨hc_25, hF⟩
        · refine wH_ift rfl hc_25 ?_
          refine wH_seq ?_
          refine wH_region ?_
          refine h_op (vI 1) (wt rfl) rfl ?_
          refine h_nil ?_
          replace hF := some_inj hF
          subst hF
          refine wH_ret ?_
          exact fin0 (.inr rfl) [(vI 1)] ⟨rfl, trivial⟩ rfl rfl rfl
        · refine wH_iff rfl hc_25 ?_
          refine wH_seq ?_
          refine wH_region ?_
          refine h_far pl56_7 rfl 7 rfl (wt rfl) ?_
          refine h_ldr 0 0 (.inl rfl) (fun _ _ _ => trivial) sz22 ag22 rfl rfl (vL eI e_1.Except) rfl (wt rfl) ?_
          refine h_len un22 rfl (wt rfl) ?_
          refine h_op (vB (decide ((e_1.Except.length : Int) > 100))) (wt rfl) rfl ?_
          refine h_op (vB (decide ((e_1.Except.length : Int) > 100))) (wt rfl) rfl ?_
          refine h_nil ?_
          rcases cond_some hF with ⟨hc_26, hF⟩ | ⟨hc_26, hF⟩
          · refine wH_ift rfl hc_26 ?_
            refine wH_seq ?_
            refine wH_region ?_
            refine h_op (vI 2) (wt rfl) rfl ?_
            refine h_nil ?_
            replace hF := some_inj hF
            subst hF
            refine wH_ret ?_
            exact fin0 (.inr rfl) [(vI 2)] ⟨rfl, trivial⟩ rfl rfl rfl
          · refine wH_iff rfl hc_26 ?_
            refine wH_skip ?_
            refine wH_seq ?_
            refine wH_seq ?_
            refine wH_region ?_
            refine h_far pl56_7 rfl 7 rfl (wt rfl) ?_
            refine h_ldr 0 0 (.inl rfl) (fun _ _ _ => trivial) sz22 ag22 rfl rfl (vL eI e_1.Except) rfl (wt rfl) ?_
            refine h_len un22 rfl (wt rfl) ?_
            refine h_op (vI 0) (wt rfl) rfl ?_
            refine h_nil ?_
            obtain ⟨o_35, hj_36, hF⟩ := bind_some hF
            obtain ⟨hn_31, hj_36⟩ := forL_some hj_36
            refine wH_join (β := (Unit)) (fun (s_32 : Unit) => ([(1, (.ref n_2 0 0))] : List (Nat × V))) (fun (s_32 : Unit) => ([(n_2, some (.cells 13 [(vS e_1.Key), (vS e_1.Item), (vI e_1.Version), (vI e_1.First), (vI e_1.Last), (vI e_1.Every), (vI e_1.Days), (vL eI e_1.Except), (vI e_1.From), (vI e_1.To), (vI e_1.Prio), (vL eS e_1.Tags), (vB e_1.Gone)]))] : Hp)) (fun p => o_35 = .go p) ?_ ?_
            · refine wH_block ?_
              refine wH_loop (β := Nat × (List Int) × (Unit)) (fun p => (fun (k_27 : Nat) (l_28 : List Int) (s_32 : Unit) => ([(1, (.ref n_2 0 0)), (52, (vL eI e_1.Except)), (53, (vI (e_1.Except.length : Int))), (54, (vI (k_27 : Int)))] : List (Nat × V))) p.1 p.2.1 p.2.2) (fun p => (fun (k_27 : Nat) (l_28 : List Int) (s_32 : Unit) => ([(n_2, some (.cells 13 [(vS e_1.Key), (vS e_1.Item), (vI e_1.Version), (vI e_1.First), (vI e_1.Last), (vI e_1.Every), (vI e_1.Days), (vL eI e_1.Except), (vI e_1.From), (vI e_1.To), (vI e_1.Prio), (vL eS e_1.Tags), (vB e_1.Gone)]))] : Hp)) p.1 p.2.1 p.2.2) (fun p => forR (fun k x s => ref_entryFault_L1 e_1 k x s) p.2.1 p.1 p.2.2 = some o_35 ∧ (e_1.Except).drop p.1 = p.2.1) (fun p => p.2.1.length) (0, e_1.Except, ()) ⟨hj_36, rfl⟩ rfl rfl ?_
              rintro ⟨k_27, l_28, s_32⟩ ⟨hL_34, hD_30⟩
              dsimp only at hL_34 hD_30
              cases l_28 with
              | nil =>
                replace hL_34 := some_inj hL_34
                subst hL_34
                refine wH_seq (wH_region (h_op (vB (decide ((k_27 : Int) < (e_1.Except.length : Int)))) (wt rfl) rfl (h_nil ?_)))
                refine wH_seq (wH_iff rfl (drop_nil hD_30) (wH_exit ?_))
                exact cut_mk (s_32) rfl rfl rfl
              | cons x_29 l_28 =>
                obtain ⟨c_, hc_33, hL_34⟩ := bind_some hL_34
                refine wH_seq (wH_region (h_op (vB (decide ((k_27 : Int) < (e_1.Except.length : Int)))) (wt rfl) rfl (h_nil ?_)))
                refine wH_seq (wH_ift rfl (drop_cons hD_30) (wH_skip ?_))
                unfold ref_entryFault_L1 at hc_33
                refine wH_seq ?_
                refine wH_block ?_
                refine wH_seq ?_
                refine wH_region ?_
                refine h_op (vI (k_27 : Int)) (wt rfl) rfl ?_
                refine h_ia es22 rfl rfl (drop_idx hD_30) rfl (wt rfl) ?_
                refine h_ldc sz3 ag3 rfl (vI x_29) rfl (wt rfl) ?_
                refine h_op (vI (k_27 : Int)) (wt rfl) rfl ?_
                refine h_op (vI x_29) (wt rfl) rfl ?_
                refine h_nil ?_
                refine wH_seq ?_
                refine wH_seq ?_
                refine wH_region ?_
                refine h_op (vI x_29) (wt rfl) rfl ?_
                obtain ⟨r_37, hr_38, hc_33⟩ := bind_some hc_33
                refine h_call0 (ref_in_ok hr_38) rfl hb84 rfl rfl rfl rfl (wt rfl) ?_
                refine h_op (vB (!r_37)) (wt rfl) rfl ?_
                refine h_nil ?_
                rcases cond_some hc_33 with ⟨hc_39, hc_33⟩ | ⟨hc_39, hc_33⟩
                · refine wH_ift rfl hc_39 ?_
                  refine wH_seq ?_
                  refine wH_region ?_
                  refine h_op (vI 1) (wt rfl) rfl ?_
                  refine h_nil ?_
                  replace hc_33 := some_inj hc_33
                  subst hc_33
                  replace hL_34 := some_inj hL_34
                  subst hL_34
                  replace hF := some_inj hF
                  subst hF
                  refine wH_ret ?_
                  exact fin0 (.inr rfl) [(vI 1)] ⟨rfl, trivial⟩ rfl rfl rfl
                · refine wH_iff rfl hc_39 ?_
                  refine wH_skip ?_
                  refine wH_seq ?_
                  obtain ⟨v_40, h_41, hc_33⟩ := bind_some hc_33
                  refine wH_join (β := Unit) (fun _ => ([(1, (.ref n_2 0 0)), (52, (vL eI e_1.Except)), (53, (vI (e_1.Except.length : Int))), (54, (vI (k_27 : Int))), (73, (vB v_40))] : List (Nat × V))) (fun _ => ([(n_2, some (.cells 13 [(vS e_1.Key), (vS e_1.Item), (vI e_1.Version), (vI e_1.First), (vI e_1.Last), (vI e_1.Every), (vI e_1.Days), (vL eI e_1.Except), (vI e_1.From), (vI e_1.To), (vI e_1.Prio), (vL eS e_1.Tags), (vB e_1.Gone)]))] : Hp)) (fun _ => True) ?_ ?_
                  · refine wH_region ?_
                    refine h_op (vI (k_27 : Int)) (wt rfl) rfl ?_
                    refine h_op (vB (decide ((k_27 : Int) > 0))) (wt rfl) rfl ?_
                    rcases cond_some h_41 with ⟨hc_42, h_41⟩ | ⟨hc_42, h_41⟩
                    · refine h_movb rfl hc_42 (wt rfl) ?_
                      refine h_op (vI x_29) (wg rfl rfl rfl) rfl ?_
                      refine h_far pl56_7 rfl 7 rfl (wg rfl rfl rfl) ?_
                      refine h_ldr 0 0 (.inl rfl) (fun _ _ _ => trivial) sz22 ag22 rfl rfl (vL eI e_1.Except) rfl (wg rfl rfl rfl) ?_
                      refine h_op (vI (k_27 : Int)) (wg rfl rfl rfl) rfl ?_
                      refine h_op (vI (w64 ((k_27 : Int) - 1))) (wg rfl rfl rfl) rfl ?_
                      obtain ⟨y_43, hy_44, h_41⟩ := bind_some h_41
                      refine h_ia es22 rfl rfl hy_44 rfl (wg rfl rfl rfl) ?_
                      refine h_ldc sz3 ag3 rfl (vI y_43) rfl (wg rfl rfl rfl) ?_
                      refine h_op (vB (decide (x_29 ≤ y_43))) (wg rfl rfl rfl) rfl ?_
                      refine h_op (vB (decide (x_29 ≤ y_43))) (wt rfl) rfl ?_
                      refine h_nil ?_
                      replace h_41 := some_inj h_41
                      subst h_41
                      exact cut_mk () trivial rfl rfl
                    · refine h_movb rfl hc_42 (wt rfl) ?_
                      refine h_skip (wg rfl rfl rfl) ?_
                      refine h_skip (wg rfl rfl rfl) ?_
                      refine h_skip (wg rfl rfl rfl) ?_
                      refine h_skip (wg rfl rfl rfl) ?_
                      refine h_skip (wg rfl rfl rfl) ?_
                      refine h_skip (wg rfl rfl rfl) ?_
                      refine h_skip (wg rfl rfl rfl) ?_
                      refine h_skip (wg rfl rfl rfl) ?_
                      refine h_op (vB false) (wt rfl) rfl ?_
                      refine h_nil ?_
                      replace h_41 := some_inj h_41
                      subst h_41
                      exact cut_mk () trivial rfl rfl
                  · rintro ⟨⟩ _ sl_ H_ hp_ hq_
                    refine wH_at _ hp_ hq_ ?_
                    rcases cond_some hc_33 with ⟨hc_45, hc_33⟩ | ⟨hc_45, hc_33⟩
                    · refine wH_ift rfl hc_45 ?_
                      refine wH_seq ?_
                      refine wH_region ?_
                      refine h_op (vI 7) (wt rfl) rfl ?_
                      refine h_nil ?_
                      replace hc_33 := some_inj hc_33
                      subst hc_33
                      replace hL_34 := some_inj hL_34
                      subst hL_34
                      replace hF := some_inj hF
                      subst hF
                      refine wH_ret ?_
                      exact fin0 (.inr rfl) [(vI 7)] ⟨rfl, trivial⟩ rfl rfl rfl
                    · refine wH_iff rfl hc_45 ?_
                      refine wH_skip ?_
                      refine wH_region ?_
                      refine h_opw (w64_next hD_30 hn_31) (wt rfl) rfl ?_
                      refine h_op (vI ((k_27 + 1 : Nat) : Int)) (wt rfl) rfl ?_
                      refine h_nil ?_
                      replace hc_33 := some_inj hc_33
                      subst hc_33
                      exact loop_mk (k_27 + 1, l_28, ()) ⟨hL_34, drop_next hD_30⟩ (Nat.lt_succ_self _) rfl rfl
            · rintro s_32 ho_ sl_ H_ hp_ hq_
              subst ho_
              refine wH_at _ hp_ hq_ ?_
              refine wH_seq ?_
              refine wH_seq ?_
              obtain ⟨v_46, h_47, hF⟩ := bind_some hF
              refine wH_join (β := Unit) (fun _ => ([(1, (.ref n_2 0 0)), (90, (vB v_46))] : List (Nat × V))) (fun _ => ([(n_2, some (.cells 13 [(vS e_1.Key), (vS e_1.Item), (vI e_1.Version), (vI e_1.First), (vI e_1.Last), (vI e_1.Every), (vI e_1.Days), (vL eI e_1.Except), (vI e_1.From), (vI e_1.To), (vI e_1.Prio), (vL eS e_1.Tags), (vB e_1.Gone)]))] : Hp)) (fun _ => True) ?_ ?_
              · refine wH_region ?_
                refine h_far pl56_8 rfl 8 rfl (wt rfl) ?_
                refine h_ldr 0 0 (.inl rfl) (fun _ _ _ => trivial) sz3 ag3 rfl rfl (vI e_1.From) rfl (wt rfl) ?_
                obtain ⟨r_48, hr_49, h_47⟩ := bind_some h_47
                refine h_call0 (ref_in_ok hr_49) rfl hb84 rfl rfl rfl rfl (wt rfl) ?_
                refine h_op (vB (!r_48)) (wt rfl) rfl ?_
                rcases cond_some h_47 with ⟨hc_50, h_47⟩ | ⟨hc_50, h_47⟩
                · refine h_movb rfl hc_50 (wt rfl) ?_
                  refine h_skip (wg rfl rfl rfl) ?_
                  refine h_skip (wg rfl rfl rfl) ?_
                  refine h_skip (wg rfl rfl rfl) ?_
                  refine h_skip (wg rfl rfl rfl) ?_
                  refine h_op (vB true) (wt rfl) rfl ?_
                  refine h_op (vB true) (wt rfl) rfl ?_
                  refine h_skip (wg rfl rfl rfl) ?_
                  refine h_skip (wg rfl rfl rfl) ?_
                  refine h_skip (wg rfl rfl rfl) ?_
                  refine h_skip (wg rfl rfl rfl) ?_
                  refine h_op (vB true) (wt rfl) rfl ?_
                  refine h_nil ?_
                  replace h_47 := some_inj h_47
                  subst h_47
                  exact cut_mk () trivial rfl rfl
                · refine h_movb rfl hc_50 (wt rfl) ?_
                  refine h_far pl56_9 rfl 9 rfl (wg rfl rfl rfl) ?_
                  refine h_ldr 0 0 (.inl rfl) (fun _ _ _ => trivial) sz3 ag3 rfl rfl (vI e_1.To) rfl (wg rfl rfl rfl) ?_
                  obtain ⟨r_51, hr_52, h_47⟩ := bind_some h_47
                  refine h_call0 (ref_in_ok hr_52) rfl hb84 rfl rfl rfl rfl (wg rfl rfl rfl) ?_
                  refine h_op (vB (!r_51)) (wg rfl rfl rfl) rfl ?_
                  refine h_op (vB (!r_51)) (wt rfl) rfl ?_
                  rcases cond_some h_47 with ⟨hc_53, h_47⟩ | ⟨hc_53, h_47⟩
                  · refine h_movb rfl hc_53 (wt rfl) ?_
                    refine h_skip (wg rfl rfl rfl) ?_
                    refine h_skip (wg rfl rfl rfl) ?_
                    refine h_skip (wg rfl rfl rfl) ?_
                    refine h_skip (wg rfl rfl rfl) ?_
                    refine h_op (vB true) (wt rfl) rfl ?_
                    refine h_nil ?_
                    replace h_47 := some_inj h_47
                    subst h_47
                    exact cut_mk () trivial rfl rfl
                  · refine h_movb rfl hc_53 (wt rfl) ?_
                    refine h_far pl56_10 rfl 10 rfl (wg rfl rfl rfl) ?_
                    refine h_ldr 0 0 (.inl rfl) (fun _ _ _ => trivial) sz3 ag3 rfl rfl (vI e_1.Prio) rfl (wg rfl rfl rfl) ?_
                    obtain ⟨r_54, hr_55, h_47⟩ := bind_some h_47
                    refine h_call0 (ref_in_ok hr_55) rfl hb84 rfl rfl rfl rfl (wg rfl rfl rfl) ?_
                    refine h_op (vB (!r_54)) (wg rfl rfl rfl) rfl ?_
                    refine h_op (vB (!r_54)) (wt rfl) rfl ?_
                    refine h_nil ?_
                    replace h_47 := some_inj h_47
                    subst h_47
                    exact cut_mk () trivial rfl rfl
              · rintro ⟨⟩ _ sl_ H_ hp_ hq_
                refine wH_at _ hp_ hq_ ?_
                rcases cond_some hF with ⟨hc_56, hF⟩ | ⟨hc_56, hF⟩
                · refine wH_ift rfl hc_56 ?_
                  refine wH_seq ?_
                  refine wH_region ?_
                  refine h_op (vI 1) (wt rfl) rfl ?_
                  refine h_nil ?_
                  replace hF := some_inj hF
                  subst hF
                  refine wH_ret ?_
                  exact fin0 (.inr rfl) [(vI 1)] ⟨rfl, trivial⟩ rfl rfl rfl
                · refine wH_iff rfl hc_56 ?_
                  refine wH_skip ?_
                  refine wH_seq ?_
                  refine wH_region ?_
                  refine h_far pl56_11 rfl 11 rfl (wt rfl) ?_
                  refine h_ldr 0 0 (.inl rfl) (fun _ _ _ => trivial) sz46 ag46 rfl rfl (vL eS e_1.Tags) rfl (wt rfl) ?_
                  obtain ⟨r_57, hr_58, hF⟩ := bind_some hF
                  refine h_call0 (ref_TagsFault_ok hr_58) rfl hb99 rfl rfl rfl rfl (wt rfl) ?_
                  refine h_op (vI r_57) (wt rfl) rfl ?_
                  refine h_nil ?_
                  replace hF := some_inj hF
                  subst hF
                  refine wH_ret ?_
                  exact fin0 (.inr rfl) [(vI r_57)] ⟨rfl, trivial⟩ rfl rfl rfl
theorem ref_EntriesFault_ok {l_1 : (List Entry)} {r : Int} (hF : ref_EntriesFault l_1 = some r) :
    FnM Try.prog 29 [(vL Entry.enc l_1)] [] (vI r) [] := by
  refine FnM.of_wH ⟨Try.prog, 28, [], []⟩ rfl Try.func29 rfl rfl (Nat.le_of_ble_eq_true rfl) (by kernel_rfl) ?_
  unfold ref_EntriesFault at hF
  refine wH_seq ?_
  refine wH_region ?_
  refine h_op (vI 0) (wt rfl) rfl ?_
  refine h_nil ?_
  refine wH_seq ?_
  refine wH_seq ?_
  refine wH_region ?_
  refine h_op (vL Entry.enc l_1) (wt rfl) rfl ?_
  refine h_len un53 rfl (wt rfl) ?_
  refine h_op (vB (decide ((l_1.length : Int) > 200))) (wt rfl) rfl ?_
  refine h_nil ?_
  rcases cond_some hF with ⟨hc_2, hF⟩ | ⟨hc_2, hF⟩
  · refine wH_ift rfl hc_2 ?_
    refine wH_seq ?_
    refine wH_region ?_
    refine h_op (vI 2) (wt rfl) rfl ?_
    refine h_nil ?_
    replace hF := some_inj hF
    subst hF
    refine wH_ret ?_
    exact fin0 (.inr rfl) [(vI 2)] ⟨rfl, trivial⟩ rfl rfl rfl
  · refine wH_iff rfl hc_2 ?_
    refine wH_skip ?_
    refine wH_seq ?_
    refine wH_region ?_
    refine h_op (vS (⟨#[]⟩ : ByteArray)) (wt rfl) rfl ?_
    refine h_nil ?_
    refine wH_seq ?_
    refine wH_seq ?_
    refine wH_region ?_
    refine h_op (vL Entry.enc l_1) (wt rfl) rfl ?_
    refine h_len un53 rfl (wt rfl) ?_
    refine h_op (vI 0) (wt rfl) rfl ?_
    refine h_nil ?_
    obtain ⟨o_11, hj_12, hF⟩ := bind_some hF
    obtain ⟨hn_7, hj_12⟩ := forL_some hj_12
    refine wH_join (β := (ByteArray)) (fun (s_8 : ByteArray) => ([] : List (Nat × V))) (fun (s_8 : ByteArray) => ([] : Hp)) (fun p => o_11 = .go p) ?_ ?_
    · refine wH_block ?_
      refine wH_loop (β := Nat × (List Entry) × (ByteArray)) (fun p => (fun (k_3 : Nat) (l_4 : List Entry) (s_8 : ByteArray) => ([(3, (vS s_8)), (10, (vL Entry.enc l_1)), (11, (vI (l_1.length : Int))), (12, (vI (k_3 : Int)))] : List (Nat × V))) p.1 p.2.1 p.2.2) (fun p => (fun (k_3 : Nat) (l_4 : List Entry) (s_8 : ByteArray) => ([] : Hp)) p.1 p.2.1 p.2.2) (fun p => forR (fun k x s => ref_EntriesFault_L1 k x s) p.2.1 p.1 p.2.2 = some o_11 ∧ (l_1).drop p.1 = p.2.1) (fun p => p.2.1.length) (0, l_1, (⟨#[]⟩ : ByteArray)) ⟨hj_12, rfl⟩ rfl rfl ?_
      rintro ⟨k_3, l_4, s_8⟩ ⟨hL_10, hD_6⟩
      dsimp only at hL_10 hD_6
      cases l_4 with
      | nil =>
        replace hL_10 := some_inj hL_10
        subst hL_10
        refine wH_seq (wH_region (h_op (vB (decide ((k_3 : Int) < (l_1.length : Int)))) (wt rfl) rfl (h_nil ?_)))
        refine wH_seq (wH_iff rfl (drop_nil hD_6) (wH_exit ?_))
        exact cut_mk (s_8) rfl rfl rfl
      | cons x_5 l_4 =>
        obtain ⟨c_, hc_9, hL_10⟩ := bind_some hL_10
        refine wH_seq (wH_region (h_op (vB (decide ((k_3 : Int) < (l_1.length : Int)))) (wt rfl) rfl (h_nil ?_)))
        refine wH_seq (wH_ift rfl (drop_cons hD_6) (wH_skip ?_))
        unfold ref_EntriesFault_L1 at hc_9
        refine wH_seq ?_
        refine wH_block ?_
        refine wH_seq ?_
        refine wH_region ?_
        refine h_ia es53 rfl rfl (drop_idx hD_6) rfl (wt rfl) ?_
        refine h_ldc sz56 ag56 rfl (.d (.agg (Entry.enc x_5))) rfl (wt rfl) ?_
        refine h_alloc 0 (.inl rfl) z56 rfl (wt rfl) (fun n_13 => ?_)
        refine h_str 0 (.inl rfl) (fun _ _ _ => trivial) 0 sz56 rfl rfl [(vS x_5.Key), (vS x_5.Item), (vI x_5.Version), (vI x_5.First), (vI x_5.Last), (vI x_5.Every), (vI x_5.Days), (vL eI x_5.Except), (vI x_5.From), (vI x_5.To), (vI x_5.Prio), (vL eS x_5.Tags), (vB x_5.Gone)] rfl (wt rfl) ?_
        refine h_nil ?_
        refine wH_seq ?_
        refine wH_seq ?_
        refine wH_region ?_
        refine h_ldr 0 0 (.inl rfl) (fun _ _ _ => trivial) sz56 ag56 rfl rfl (.d (.agg (Entry.enc x_5))) rfl (wt rfl) ?_
        obtain ⟨r_14, hr_15, hc_9⟩ := bind_some hc_9
        refine h_call0 (ref_entryFault_ok hr_15) rfl hb98 rfl rfl rfl rfl (wt rfl) ?_
        refine h_op (vI r_14) (wt rfl) rfl ?_
        refine h_nil ?_
        refine wH_seq ?_
        refine wH_region ?_
        refine h_op (vI r_14) (wt rfl) rfl ?_
        refine h_op (vB (r_14 != 0)) (wt rfl) rfl ?_
        refine h_nil ?_
        rcases cond_some hc_9 with ⟨hc_16, hc_9⟩ | ⟨hc_16, hc_9⟩
        · refine wH_ift rfl hc_16 ?_
          refine wH_seq ?_
          refine wH_region ?_
          refine h_op (vI r_14) (wt rfl) rfl ?_
          refine h_op (vI r_14) (wt rfl) rfl ?_
          refine h_nil ?_
          replace hc_9 := some_inj hc_9
          subst hc_9
          replace hL_10 := some_inj hL_10
          subst hL_10
          replace hF := some_inj hF
          subst hF
          refine wH_ret ?_
          exact fin0 (.inr rfl) [(vI r_14)] ⟨rfl, trivial⟩ rfl rfl rfl
        · refine wH_iff rfl hc_16 ?_
          refine wH_skip ?_
          refine wH_seq ?_
          refine wH_seq ?_
          refine wH_region ?_
          refine h_far pl56_0 rfl 0 rfl (wt rfl) ?_
          refine h_ldr 0 0 (.inl rfl) (fun _ _ _ => trivial) sz9 ag9 rfl rfl (vS x_5.Key) rfl (wt rfl) ?_
          refine h_op (vS s_8) (wt rfl) rfl ?_
          refine h_op (vB (sLe x_5.Key s_8)) (wt rfl) rfl ?_
          refine h_nil ?_
          rcases cond_some hc_9 with ⟨hc_17, hc_9⟩ | ⟨hc_17, hc_9⟩
          · refine wH_ift rfl hc_17 ?_
            refine wH_seq ?_
            refine wH_region ?_
            refine h_op (vI 7) (wt rfl) rfl ?_
            refine h_nil ?_
            replace hc_9 := some_inj hc_9
            subst hc_9
            replace hL_10 := some_inj hL_10
            subst hL_10
            replace hF := some_inj hF
            subst hF
            refine wH_ret ?_
            exact fin0 (.inr rfl) [(vI 7)] ⟨rfl, trivial⟩ rfl rfl rfl
          · refine wH_iff rfl hc_17 ?_
            refine wH_skip ?_
            refine wH_region ?_
            refine h_far pl56_0 rfl 0 rfl (wt rfl) ?_
            refine h_ldr 0 0 (.inl rfl) (fun _ _ _ => trivial) sz9 ag9 rfl rfl (vS x_5.Key) rfl (wt rfl) ?_
            refine h_op (vS x_5.Key) (wt rfl) rfl ?_
            refine h_nil ?_
            refine wH_region ?_
            refine h_opw (w64_next hD_6 hn_7) (wt rfl) rfl ?_
            refine h_op (vI ((k_3 + 1 : Nat) : Int)) (wt rfl) rfl ?_
            refine h_nil ?_
            replace hc_9 := some_inj hc_9
            subst hc_9
            exact loop_mk (k_3 + 1, l_4, x_5.Key) ⟨hL_10, drop_next hD_6⟩ (Nat.lt_succ_self _) rfl rfl
    · rintro s_8 ho_ sl_ H_ hp_ hq_
      subst ho_
      refine wH_at _ hp_ hq_ ?_
      refine wH_seq ?_
      refine wH_region ?_
      refine h_op (vI 0) (wt rfl) rfl ?_
      refine h_nil ?_
      replace hF := some_inj hF
      subst hF
      refine wH_ret ?_
      exact fin0 (.inr rfl) [(vI 0)] ⟨rfl, trivial⟩ rfl rfl rfl
theorem ref_WindowFault_ok {wv_1 : Window} {r : Int} (hF : ref_WindowFault wv_1 = some r) :
    FnM Try.prog 44 [(.d (.agg (Window.enc wv_1)))] [] (vI r) [] := by
  refine FnM.of_wH ⟨Try.prog, 14, [], []⟩ rfl Try.func44 rfl rfl (Nat.le_of_ble_eq_true rfl) (by kernel_rfl) ?_
  unfold ref_WindowFault at hF
  refine wH_seq ?_
  refine wH_region ?_
  refine h_box 0 (.inl rfl) [(vI wv_1.From), (vI wv_1.To)] rfl rfl (wt rfl) (fun n_2 => ?_)
  refine h_op (vI 0) (wt rfl) rfl ?_
  refine h_nil ?_
  refine wH_seq ?_
  refine wH_seq ?_
  obtain ⟨v_3, h_4, hF⟩ := bind_some hF
  refine wH_join (β := Unit) (fun _ => ([(13, (vB v_3))] : List (Nat × V))) (fun _ => ([(n_2, some (.cells 2 [(vI wv_1.From), (vI wv_1.To)]))] : Hp)) (fun _ => True) ?_ ?_
  · refine wH_region ?_
    refine h_far pl51_0 rfl 0 rfl (wt rfl) ?_
    refine h_ldr 0 0 (.inl rfl) (fun _ _ _ => trivial) sz3 ag3 rfl rfl (vI wv_1.From) rfl (wt rfl) ?_
    refine h_far pl51_1 rfl 1 rfl (wt rfl) ?_
    refine h_ldr 0 0 (.inl rfl) (fun _ _ _ => trivial) sz3 ag3 rfl rfl (vI wv_1.To) rfl (wt rfl) ?_
    obtain ⟨r_5, hr_6, h_4⟩ := bind_some h_4
    refine h_call0 (ref_in_ok hr_6) rfl hb84 rfl rfl rfl rfl (wt rfl) ?_
    refine h_op (vB (!r_5)) (wt rfl) rfl ?_
    rcases cond_some h_4 with ⟨hc_7, h_4⟩ | ⟨hc_7, h_4⟩
    · refine h_movb rfl hc_7 (wt rfl) ?_
      refine h_skip (wg rfl rfl rfl) ?_
      refine h_skip (wg rfl rfl rfl) ?_
      refine h_skip (wg rfl rfl rfl) ?_
      refine h_op (vB true) (wt rfl) rfl ?_
      refine h_nil ?_
      replace h_4 := some_inj h_4
      subst h_4
      exact cut_mk () trivial rfl rfl
    · refine h_movb rfl hc_7 (wt rfl) ?_
      refine h_far pl51_1 rfl 1 rfl (wg rfl rfl rfl) ?_
      refine h_ldr 0 0 (.inl rfl) (fun _ _ _ => trivial) sz3 ag3 rfl rfl (vI wv_1.To) rfl (wg rfl rfl rfl) ?_
      refine h_op (vB (decide (wv_1.To > 345686400000))) (wg rfl rfl rfl) rfl ?_
      refine h_op (vB (decide (wv_1.To > 345686400000))) (wt rfl) rfl ?_
      refine h_nil ?_
      replace h_4 := some_inj h_4
      subst h_4
      exact cut_mk () trivial rfl rfl
  · rintro ⟨⟩ _ sl_ H_ hp_ hq_
    refine wH_at _ hp_ hq_ ?_
    rcases cond_some hF with ⟨hc_8, hF⟩ | ⟨hc_8, hF⟩
    · refine wH_ift rfl hc_8 ?_
      refine wH_seq ?_
      refine wH_region ?_
      refine h_op (vI 1) (wt rfl) rfl ?_
      refine h_nil ?_
      replace hF := some_inj hF
      subst hF
      refine wH_ret ?_
      exact fin0 (.inr rfl) [(vI 1)] ⟨rfl, trivial⟩ rfl rfl rfl
    · refine wH_iff rfl hc_8 ?_
      refine wH_skip ?_
      refine wH_seq ?_
      refine wH_region ?_
      refine h_op (vI 0) (wt rfl) rfl ?_
      refine h_nil ?_
      replace hF := some_inj hF
      subst hF
      refine wH_ret ?_
      exact fin0 (.inr rfl) [(vI 0)] ⟨rfl, trivial⟩ rfl rfl rfl
theorem ref_SpanFault_ok {wv_1 : Window} {r : Int} (hF : ref_SpanFault wv_1 = some r) :
    FnM Try.prog 30 [(.d (.agg (Window.enc wv_1)))] [] (vI r) [] := by
  refine FnM.of_wH ⟨Try.prog, 15, [], []⟩ rfl Try.func30 rfl rfl (Nat.le_of_ble_eq_true rfl) (by kernel_rfl) ?_
  unfold ref_SpanFault at hF
  refine wH_seq ?_
  refine wH_region ?_
  refine h_box 0 (.inl rfl) [(vI wv_1.From), (vI wv_1.To)] rfl rfl (wt rfl) (fun n_2 => ?_)
  refine h_op (vI 0) (wt rfl) rfl ?_
  refine h_nil ?_
  refine wH_seq ?_
  refine wH_seq ?_
  refine wH_region ?_
  refine h_ldr 0 0 (.inl rfl) (fun _ _ _ => trivial) sz51 ag51 rfl rfl (.d (.agg (Window.enc wv_1))) rfl (wt rfl) ?_
  obtain ⟨r_3, hr_4, hF⟩ := bind_some hF
  refine h_call0 (ref_WindowFault_ok hr_4) rfl hb44 rfl rfl rfl rfl (wt rfl) ?_
  refine h_op (vI r_3) (wt rfl) rfl ?_
  refine h_nil ?_
  refine wH_seq ?_
  refine wH_region ?_
  refine h_op (vI r_3) (wt rfl) rfl ?_
  refine h_op (vB (r_3 != 0)) (wt rfl) rfl ?_
  refine h_nil ?_
  rcases cond_some hF with ⟨hc_5, hF⟩ | ⟨hc_5, hF⟩
  · refine wH_ift rfl hc_5 ?_
    refine wH_seq ?_
    refine wH_region ?_
    refine h_op (vI r_3) (wt rfl) rfl ?_
    refine h_op (vI r_3) (wt rfl) rfl ?_
    refine h_nil ?_
    replace hF := some_inj hF
    subst hF
    refine wH_ret ?_
    exact fin0 (.inr rfl) [(vI r_3)] ⟨rfl, trivial⟩ rfl rfl rfl
  · refine wH_iff rfl hc_5 ?_
    refine wH_skip ?_
    refine wH_seq ?_
    refine wH_seq ?_
    refine wH_region ?_
    refine h_far pl51_1 rfl 1 rfl (wt rfl) ?_
    refine h_ldr 0 0 (.inl rfl) (fun _ _ _ => trivial) sz3 ag3 rfl rfl (vI wv_1.To) rfl (wt rfl) ?_
    refine h_far pl51_0 rfl 0 rfl (wt rfl) ?_
    refine h_ldr 0 0 (.inl rfl) (fun _ _ _ => trivial) sz3 ag3 rfl rfl (vI wv_1.From) rfl (wt rfl) ?_
    refine h_op (vI (w64 (wv_1.To - wv_1.From))) (wt rfl) rfl ?_
    refine h_op (vB (decide ((w64 (wv_1.To - wv_1.From)) > 34560000000))) (wt rfl) rfl ?_
    refine h_nil ?_
    rcases cond_some hF with ⟨hc_6, hF⟩ | ⟨hc_6, hF⟩
    · refine wH_ift rfl hc_6 ?_
      refine wH_seq ?_
      refine wH_region ?_
      refine h_op (vI 2) (wt rfl) rfl ?_
      refine h_nil ?_
      replace hF := some_inj hF
      subst hF
      refine wH_ret ?_
      exact fin0 (.inr rfl) [(vI 2)] ⟨rfl, trivial⟩ rfl rfl rfl
    · refine wH_iff rfl hc_6 ?_
      refine wH_skip ?_
      refine wH_seq ?_
      refine wH_region ?_
      refine h_op (vI 0) (wt rfl) rfl ?_
      refine h_nil ?_
      replace hF := some_inj hF
      subst hF
      refine wH_ret ?_
      exact fin0 (.inr rfl) [(vI 0)] ⟨rfl, trivial⟩ rfl rfl rfl
end Go.Proofs.Ytodfcleaapnklaa.Law
