/-
 The machine computes these plain functions (written by a program of ours).
-/
import Derived.Test.YtpojeclokolkaaaGreatDoorFacts
import Derived.Test.YtpojeclokolkaaaGreatDoorDefs
import Derived.Test.YtpojeclokolkaaaGreatDoorPf2
open Go Go.Eng Go.Proofs
namespace Go.Proofs.YtpojeclokolkaaaGreatDoor.Law
set_option maxRecDepth 100000
set_option linter.unusedVariables false
set_option maxHeartbeats 1000000
theorem schedule_isDay_ok {e_1 : Entry} {d_2 : Int} {r : Bool} (hF : schedule_isDay e_1 d_2 = some r) :
  FnM Tryz.prog 211 [(.d (.agg (Entry.enc e_1))), (vI d_2)] [] (vB r) [] := by
 refine FnM.of_wH ⟨Tryz.prog, 41, [], []⟩ rfl Tryz.func211 rfl rfl (Nat.le_of_ble_eq_true rfl) (by kernel_rfl) ?_
 unfold schedule_isDay at hF
 refine wH_seq (wH_region (h_box 0 (.inl rfl) [(vS e_1.Key), (vS e_1.Item), (vI e_1.Version), (vI e_1.First), (vI e_1.Last), (vI e_1.Every), (vI e_1.Days), (vL eI e_1.Except), (vI e_1.From), (vI e_1.To), (vI e_1.Prio), (vL eS e_1.Tags), (vB e_1.Gone)] rfl rfl wz (fun n_3 => h_op (vB false) wz rfl (h_nil (wH_seq (wH_seq ?_))))))
 obtain ⟨v_4, h_5, hF⟩ := bind_some hF
 refine wH_join (β := Unit) (fun _ => ([(1, (vI d_2)), (2, (.ref n_3 0 0)), (31, (vB v_4))] : List (Nat × V))) (fun _ => ([(n_3, some (.cells 13 [(vS e_1.Key), (vS e_1.Item), (vI e_1.Version), (vI e_1.First), (vI e_1.Last), (vI e_1.Every), (vI e_1.Days), (vL eI e_1.Except), (vI e_1.From), (vI e_1.To), (vI e_1.Prio), (vL eS e_1.Tags), (vB e_1.Gone)]))] : Hp)) (fun _ => True) ?_ ?_
 ·refine wH_draws (h_op (vI d_2) wz rfl (h_far pl170_3 rfl 3 rfl wz (h_ldr 2 0 (.inr (by kernel_rfl)) (fun _ _ ag => trivial) sz3 ag3 rfl rfl (vI e_1.First) rfl wz (h_far pl170_4 rfl 4 rfl wz (h_ldr 4 0 (.inr (by kernel_rfl)) (fun _ _ ag => ⟨.inl ⟨rfl, rfl⟩, trivial⟩) sz3 ag3 rfl rfl (vI e_1.Last) rfl wz ?_)))))
  obtain ⟨r_6, hr_7, h_5⟩ := bind_some h_5
  refine h_call0 (kit_Outside_ok hr_7) rfl hb86 rfl rfl rfl rfl wz ?_
  rcases cond_some h_5 with ⟨hc_8, h_5⟩ | ⟨hc_8, h_5⟩
  ·refine h_movb rfl hc_8 wz (h_skip wa (h_skip wa (h_skip wa (h_skip wa (h_skip wa (h_skip wa (h_skip wa (h_skip wa (h_op (vB true) wz rfl (h_op (vB true) wz rfl (h_skip wa (h_skip wa (h_skip wa (h_skip wa (h_skip wa (h_skip wa (h_skip wa (h_op (vB true) wz rfl (h_nil ?_)))))))))))))))))))
   obtain rfl := some_inj h_5
   exact cu
  ·refine h_movb rfl hc_8 wz (h_op (vI d_2) wa rfl (h_far pl170_3 rfl 3 rfl wa (h_ldr 9 0 (.inr (by kernel_rfl)) (fun _ _ ag => ⟨.inl ⟨rfl, rfl⟩, ⟨.inl ⟨rfl, rfl⟩, trivial⟩⟩) sz3 ag3 rfl rfl (vI e_1.First) rfl wa (h_op (vI (w64 (d_2 - e_1.First))) wa rfl (h_far pl170_5 rfl 5 rfl wa (h_ldr 12 0 (.inr (by kernel_rfl)) (fun _ _ ag => ⟨.inl ⟨rfl, rfl⟩, ⟨.inl ⟨rfl, rfl⟩, ⟨.inl ⟨rfl, rfl⟩, trivial⟩⟩⟩) sz3 ag3 rfl rfl (vI e_1.Every) rfl wa ?_))))))
   obtain ⟨q_9, hz_10, h_5⟩ := bind_some h_5
   refine h_rem rfl rfl hz_10 wa (h_op (vB (q_9 != 0)) wa rfl (h_op (vB (q_9 != 0)) wz rfl ?_))
   rcases cond_some h_5 with ⟨hc_11, h_5⟩ | ⟨hc_11, h_5⟩
   ·refine h_movb rfl hc_11 wz (h_skip wa (h_skip wa (h_skip wa (h_skip wa (h_skip wa (h_skip wa (h_skip wa (h_op (vB true) wz rfl (h_nil ?_)))))))))
    obtain rfl := some_inj h_5
    exact cu
   ·refine h_movb rfl hc_11 wz (h_far pl170_6 rfl 6 rfl wa (h_ldr 18 0 (.inr (by kernel_rfl)) (fun _ _ ag => ⟨.inl ⟨rfl, rfl⟩, ⟨.inl ⟨rfl, rfl⟩, ⟨.inl ⟨rfl, rfl⟩, ⟨.inl ⟨rfl, rfl⟩, trivial⟩⟩⟩⟩) sz3 ag3 rfl rfl (vI e_1.Days) rfl wa (h_op (vI d_2) wa rfl (h_op (vI (d_2.tmod 7)) wa rfl ?_))))
    obtain ⟨q_12, hz_13, h_5⟩ := bind_some h_5
    refine h_shl rfl rfl hz_13 wa (h_op (vI (andI .i64 e_1.Days q_12)) wa rfl (h_op (vB ((andI .i64 e_1.Days q_12) == 0)) wa rfl (h_op (vB ((andI .i64 e_1.Days q_12) == 0)) wz rfl (h_nil ?_))))
    obtain rfl := some_inj h_5
    exact cu
 ·rintro ⟨⟩ _ sl_ H_ hp_ hq_
  refine wH_at _ hp_ hq_ ?_
  rcases cond_some hF with ⟨hc_14, hF⟩ | ⟨hc_14, hF⟩
  ·refine wH_ift rfl hc_14 (wH_seq (wH_region (h_op (vB false) wz rfl (h_nil ?_))))
   obtain rfl := some_inj hF
   exact wH_ret (fin0 (.inr rfl) [(vB false)] ⟨rfl, trivial⟩ rfl rfl rfl)
  ·refine wH_iff rfl hc_14 (wH_skip (wH_seq (wH_region (h_far pl170_7 rfl 7 rfl wz (h_ldr 0 0 il ft sz22 ag22 rfl rfl (vL eI e_1.Except) rfl wz (h_op (vI d_2) wz rfl ?_))))))
   obtain ⟨r_15, hr_16, hF⟩ := bind_some hF
   refine h_call0 (slices_BinarySearch_int_int_ok hr_16) rfl hb264 rfl rfl rfl rfl wz (h_op (.tup [(vI r_15.1), (vB r_15.2)]) wz rfl (h_op (vI r_15.1) wz rfl (h_op (vB r_15.2) wz rfl (h_op (vI r_15.1) wz rfl (h_op (vB r_15.2) wz rfl (h_nil (wH_seq (wH_region (h_op (vB r_15.2) wz rfl (h_op (vB (!r_15.2)) wz rfl (h_op (vB (!r_15.2)) wz rfl (h_nil ?_))))))))))))
   obtain rfl := some_inj hF
   exact wH_ret (fin0 (.inr rfl) [(vB (!r_15.2))] ⟨rfl, trivial⟩ rfl rfl rfl)
theorem schedule_timeOf_ok {e_1 : Entry} {zone_2 : Int} {d_3 : Int} {r : Window} (hF : schedule_timeOf e_1 zone_2 d_3 = some r) :
  FnM Tryz.prog 212 [(.d (.agg (Entry.enc e_1))), (vI zone_2), (vI d_3)] [] (.d (.agg (Window.enc r))) [] := by
 refine FnM.of_wH ⟨Tryz.prog, 32, [], []⟩ rfl Tryz.func212 rfl rfl (Nat.le_of_ble_eq_true rfl) (by kernel_rfl) ?_
 unfold schedule_timeOf at hF
 refine wH_seq (wH_region (h_box 0 (.inl rfl) [(vS e_1.Key), (vS e_1.Item), (vI e_1.Version), (vI e_1.First), (vI e_1.Last), (vI e_1.Every), (vI e_1.Days), (vL eI e_1.Except), (vI e_1.From), (vI e_1.To), (vI e_1.Prio), (vL eS e_1.Tags), (vB e_1.Gone)] rfl rfl wz (fun n_4 => h_alloc 0 (.inl rfl) z109 rfl wz (fun n_5 => h_nil (wH_seq (wH_region (h_far pl170_9 rfl 9 rfl wz (h_ldr 0 0 il ft sz3 ag3 rfl rfl (vI e_1.To) rfl wz (h_far pl170_8 rfl 8 rfl wz (h_ldr 0 0 il ft sz3 ag3 rfl rfl (vI e_1.From) rfl wz (h_op (vI (w64 (e_1.To - e_1.From))) wz rfl (h_op (vI (w64 (e_1.To - e_1.From))) wz rfl (h_nil (wH_seq (wH_seq (wH_region (h_op (vI (w64 (e_1.To - e_1.From))) wz rfl (h_op (vB (decide ((w64 (e_1.To - e_1.From)) ≤ 0))) wz rfl (h_nil ?_)))))))))))))))))))
 obtain ⟨v_6, h_7, hF⟩ := bind_some hF
 refine wH_join (β := Unit) (fun _ => ([(1, (vI zone_2)), (2, (vI d_3)), (3, (.ref n_4 0 0)), (6, (.ref n_5 0 0)), (7, (vI v_6))] : List (Nat × V))) (fun _ => ([(n_4, some (.cells 13 [(vS e_1.Key), (vS e_1.Item), (vI e_1.Version), (vI e_1.First), (vI e_1.Last), (vI e_1.Every), (vI e_1.Days), (vL eI e_1.Except), (vI e_1.From), (vI e_1.To), (vI e_1.Prio), (vL eS e_1.Tags), (vB e_1.Gone)])), (n_5, some (.cells 2 [(vI 0), (vI 0)]))] : Hp)) (fun _ => True) ?_ ?_
 ·rcases cond_some h_7 with ⟨hc_8, h_7⟩ | ⟨hc_8, h_7⟩
  ·refine wH_ift rfl hc_8 (wH_region (h_op (vI (w64 (e_1.To - e_1.From))) wz rfl (h_op (vI (w64 ((w64 (e_1.To - e_1.From)) + 1440))) wz rfl (h_op (vI (w64 ((w64 (e_1.To - e_1.From)) + 1440))) wz rfl (h_nil ?_)))))
   obtain rfl := some_inj h_7
   exact cu
  ·refine wH_iff rfl hc_8 (wH_skip ?_)
   obtain rfl := some_inj h_7
   exact cu
 ·rintro ⟨⟩ _ sl_ H_ hp_ hq_
  refine wH_at _ hp_ hq_ (wH_seq (wH_region (h_op (vI d_3) wz rfl (h_op (vI (w64 (d_3 * 1440))) wz rfl (h_far pl170_8 rfl 8 rfl wz (h_ldr 0 0 il ft sz3 ag3 rfl rfl (vI e_1.From) rfl wz (h_op (vI (w64 ((w64 (d_3 * 1440)) + e_1.From))) wz rfl (h_op (vI zone_2) wz rfl (h_op (vI (w64 ((w64 ((w64 (d_3 * 1440)) + e_1.From)) - zone_2))) wz rfl (h_op (vI (w64 ((w64 ((w64 ((w64 (d_3 * 1440)) + e_1.From)) - zone_2)) * 60000))) wz rfl (h_op (vI (w64 ((w64 ((w64 ((w64 (d_3 * 1440)) + e_1.From)) - zone_2)) * 60000))) wz rfl (h_nil (wH_seq (wH_region (h_op (vI (w64 ((w64 ((w64 ((w64 (d_3 * 1440)) + e_1.From)) - zone_2)) * 60000))) wz rfl (h_op (vI (w64 ((w64 ((w64 ((w64 (d_3 * 1440)) + e_1.From)) - zone_2)) * 60000))) wz rfl (h_op (vI v_6) wz rfl (h_op (vI (w64 (v_6 * 60000))) wz rfl (h_op (vI (w64 ((w64 ((w64 ((w64 ((w64 (d_3 * 1440)) + e_1.From)) - zone_2)) * 60000)) + (w64 (v_6 * 60000))))) wz rfl (h_op (.d (.agg (Window.enc (⟨(w64 ((w64 ((w64 ((w64 (d_3 * 1440)) + e_1.From)) - zone_2)) * 60000)), (w64 ((w64 ((w64 ((w64 ((w64 (d_3 * 1440)) + e_1.From)) - zone_2)) * 60000)) + (w64 (v_6 * 60000))))⟩ : Window)))) wz (by kernel_rfl) (h_str 0 il ft 1 sz109 rfl rfl [(vI (w64 ((w64 ((w64 ((w64 (d_3 * 1440)) + e_1.From)) - zone_2)) * 60000))), (vI (w64 ((w64 ((w64 ((w64 ((w64 (d_3 * 1440)) + e_1.From)) - zone_2)) * 60000)) + (w64 (v_6 * 60000)))))] rfl wz (h_nil ?_))))))))))))))))))))))
  obtain rfl := some_inj hF
  exact wH_ret (fin0 (.inr rfl) [(.d (.agg (Window.enc (⟨(w64 ((w64 ((w64 ((w64 (d_3 * 1440)) + e_1.From)) - zone_2)) * 60000)), (w64 ((w64 ((w64 ((w64 ((w64 (d_3 * 1440)) + e_1.From)) - zone_2)) * 60000)) + (w64 (v_6 * 60000))))⟩ : Window))))] ⟨⟨1, _, _, _, _, _, _, _, rfl, rfl, sz109, ag109, rfl⟩, trivial⟩ rfl rfl rfl)
theorem schedule_cut_ok {t_1 : Window} {wv_2 : Window} {r : Window} (hF : schedule_cut t_1 wv_2 = some r) :
  FnM Tryz.prog 172 [(.d (.agg (Window.enc t_1))), (.d (.agg (Window.enc wv_2)))] [] (.d (.agg (Window.enc r))) [] := by
 refine FnM.of_wH ⟨Tryz.prog, 16, [], []⟩ rfl Tryz.func172 rfl rfl (Nat.le_of_ble_eq_true rfl) (by kernel_rfl) ?_
 unfold schedule_cut at hF
 refine wH_seq (wH_region (h_box 0 (.inl rfl) [(vI t_1.From), (vI t_1.To)] rfl rfl wz (fun n_3 => h_box 0 (.inl rfl) [(vI wv_2.From), (vI wv_2.To)] rfl rfl wz (fun n_4 => h_alloc 0 (.inl rfl) z109 rfl wz (fun n_5 => h_nil (wH_seq (wH_region (h_far pl109_0 rfl 0 rfl wz (h_ldr 0 0 il ft sz3 ag3 rfl rfl (vI t_1.From) rfl wz (h_far pl109_0 rfl 0 rfl wz (h_ldr 0 1 il ft sz3 ag3 rfl rfl (vI wv_2.From) rfl wz (h_minmax (vI (maxI t_1.From wv_2.From)) rfl (.inr rfl) wz (h_far pl109_1 rfl 1 rfl wz (h_ldr 0 0 il ft sz3 ag3 rfl rfl (vI t_1.To) rfl wz (h_far pl109_1 rfl 1 rfl wz (h_ldr 0 1 il ft sz3 ag3 rfl rfl (vI wv_2.To) rfl wz (h_minmax (vI (minI t_1.To wv_2.To)) rfl (.inl rfl) wz (h_op (.d (.agg (Window.enc (⟨(maxI t_1.From wv_2.From), (minI t_1.To wv_2.To)⟩ : Window)))) wz (by kernel_rfl) (h_str 0 il ft 2 sz109 rfl rfl [(vI (maxI t_1.From wv_2.From)), (vI (minI t_1.To wv_2.To))] rfl wz (h_nil ?_))))))))))))))))))))
 obtain rfl := some_inj hF
 exact wH_ret (fin0 (.inr rfl) [(.d (.agg (Window.enc (⟨(maxI t_1.From wv_2.From), (minI t_1.To wv_2.To)⟩ : Window))))] ⟨⟨2, _, _, _, _, _, _, _, rfl, rfl, sz109, ag109, rfl⟩, trivial⟩ rfl rfl rfl)
theorem schedule_times_okb {e_1 : Entry} {zone_2 : Int} {wv_3 : Window} {r : (List Window)} (hF : schedule_times e_1 zone_2 wv_3 = some r) :
  FnM Tryz.prog 171 [(.d (.agg (Entry.enc e_1))), (vI zone_2), (.d (.agg (Window.enc wv_3)))] [] (gV (extN 0) 2 r) (([] : List Box).map some ++ gO 2 Window.enc r) := by
 refine FnM.of_wH ⟨Tryz.prog, 72, [], []⟩ rfl Tryz.func171 rfl rfl (Nat.le_of_ble_eq_true rfl) (by kernel_rfl) ?_
 unfold schedule_times at hF
 refine wH_seq (wH_region (h_box 0 (.inl rfl) [(vS e_1.Key), (vS e_1.Item), (vI e_1.Version), (vI e_1.First), (vI e_1.Last), (vI e_1.Every), (vI e_1.Days), (vL eI e_1.Except), (vI e_1.From), (vI e_1.To), (vI e_1.Prio), (vL eS e_1.Tags), (vB e_1.Gone)] rfl rfl wz (fun n_4 => h_box 0 (.inl rfl) [(vI wv_3.From), (vI wv_3.To)] rfl rfl wz (fun n_5 => h_op .nil wz rfl (h_nil (wH_seq (wH_region (h_op .nil wz rfl (h_nil (wH_seq (wH_seq ?_)))))))))))
 obtain ⟨v_6, h_7, hF⟩ := bind_some hF
 refine wH_join (β := Unit) (fun _ => ([(1, (vI zone_2)), (3, (.ref n_4 0 0)), (5, (.ref n_5 0 0)), (7, .nil), (20, (vB v_6))] : List (Nat × V))) (fun _ => ([(n_4, some (.cells 13 [(vS e_1.Key), (vS e_1.Item), (vI e_1.Version), (vI e_1.First), (vI e_1.Last), (vI e_1.Every), (vI e_1.Days), (vL eI e_1.Except), (vI e_1.From), (vI e_1.To), (vI e_1.Prio), (vL eS e_1.Tags), (vB e_1.Gone)])), (n_5, some (.cells 2 [(vI wv_3.From), (vI wv_3.To)]))] : Hp)) (fun _ => True) ?_ ?_
 ·refine wH_region (h_far pl170_12 rfl 12 rfl wz (h_ldr 0 0 il ft sz4 ag4 rfl rfl (vB e_1.Gone) rfl wz ?_))
  rcases cond_some h_7 with ⟨hc_8, h_7⟩ | ⟨hc_8, h_7⟩
  ·refine h_movb rfl hc_8 wz (h_skip wa (h_skip wa (h_skip wa (h_skip wa (h_skip wa (h_op (vB true) wz rfl (h_nil ?_)))))))
   obtain rfl := some_inj h_7
   exact cu
  ·refine h_movb rfl hc_8 wz (h_far pl109_0 rfl 0 rfl wa (h_ldr 0 1 il ft sz3 ag3 rfl rfl (vI wv_3.From) rfl wa (h_far pl109_1 rfl 1 rfl wa (h_ldr 0 1 il ft sz3 ag3 rfl rfl (vI wv_3.To) rfl wa (h_op (vB (decide (wv_3.From ≥ wv_3.To))) wa rfl (h_op (vB (decide (wv_3.From ≥ wv_3.To))) wz rfl (h_nil ?_)))))))
   obtain rfl := some_inj h_7
   exact cu
 ·rintro ⟨⟩ _ sl_ H_ hp_ hq_
  refine wH_at _ hp_ hq_ ?_
  rcases cond_some hF with ⟨hc_9, hF⟩ | ⟨hc_9, hF⟩
  ·refine wH_ift rfl hc_9 (wH_seq (wH_region (h_op .nil wz rfl (h_nil (wH_new (fun n_10 => ?_))))))
   obtain rfl := some_inj hF
   exact wH_ret (finG (outs := ([] : List Box)) (.inr rfl) 2 rfl rfl rfl (by kernel_rfl) (by kernel_rfl))
  ·refine wH_iff rfl hc_9 (wH_skip (wH_seq (wH_region (h_far pl109_0 rfl 0 rfl wz (h_ldr 0 1 il ft sz3 ag3 rfl rfl (vI wv_3.From) rfl wz (h_op (vI zone_2) wz rfl (h_op (vI (w64 (zone_2 * 60000))) wz rfl (h_op (vI (w64 (wv_3.From + (w64 (zone_2 * 60000))))) wz rfl (h_op (vI (w64 ((w64 (wv_3.From + (w64 (zone_2 * 60000)))).tdiv 86400000))) wz rfl (h_op (vI (w64 ((w64 ((w64 (wv_3.From + (w64 (zone_2 * 60000)))).tdiv 86400000)) - 2))) wz rfl (h_op (vI (w64 ((w64 ((w64 (wv_3.From + (w64 (zone_2 * 60000)))).tdiv 86400000)) - 2))) wz rfl (h_nil (wH_seq (wH_region (h_far pl109_1 rfl 1 rfl wz (h_ldr 0 1 il ft sz3 ag3 rfl rfl (vI wv_3.To) rfl wz (h_op (vI zone_2) wz rfl (h_op (vI (w64 (zone_2 * 60000))) wz rfl (h_op (vI (w64 (wv_3.To + (w64 (zone_2 * 60000))))) wz rfl (h_op (vI (w64 ((w64 (wv_3.To + (w64 (zone_2 * 60000)))).tdiv 86400000))) wz rfl (h_op (vI (w64 ((w64 ((w64 (wv_3.To + (w64 (zone_2 * 60000)))).tdiv 86400000)) + 1))) wz rfl (h_op (vI (w64 ((w64 ((w64 (wv_3.To + (w64 (zone_2 * 60000)))).tdiv 86400000)) + 1))) wz rfl (h_nil ?_)))))))))))))))))))))))
   refine wH_seq (wH_seq (wH_region (h_op (vI (w64 ((w64 ((w64 (wv_3.From + (w64 (zone_2 * 60000)))).tdiv 86400000)) - 2))) wz rfl (h_far pl170_3 rfl 3 rfl wz (h_ldr 0 0 il ft sz3 ag3 rfl rfl (vI e_1.First) rfl wz (h_minmax (vI (maxI (w64 ((w64 ((w64 (wv_3.From + (w64 (zone_2 * 60000)))).tdiv 86400000)) - 2)) e_1.First)) rfl (.inr rfl) wz (h_op (vI (maxI (w64 ((w64 ((w64 (wv_3.From + (w64 (zone_2 * 60000)))).tdiv 86400000)) - 2)) e_1.First)) wz rfl (h_nil (wH_new (fun n_17 => ?_))))))))))
   obtain ⟨o_22, hj_23, hF⟩ := bind_some hF
   obtain ⟨nq_41, hj_23⟩ := loopO_iter hj_23
   refine wH_join (β := ((List Window) × Int) × Nm) (fun p => (fun (s_16 : (List Window) × Int) (n_19 : Nm) => ([(7, (gV n_19 2 s_16.1))] : List (Nat × V))) p.1 p.2) (fun p => (fun (s_16 : (List Window) × Int) (n_19 : Nm) => ([(n_4, some (.cells 13 [(vS e_1.Key), (vS e_1.Item), (vI e_1.Version), (vI e_1.First), (vI e_1.Last), (vI e_1.Every), (vI e_1.Days), (vL eI e_1.Except), (vI e_1.From), (vI e_1.To), (vI e_1.Prio), (vL eS e_1.Tags), (vB e_1.Gone)])), (n_5, some (.cells 2 [(vI wv_3.From), (vI wv_3.To)])), (n_19, gB 2 Window.enc s_16.1)] : Hp)) p.1 p.2) (fun p => o_22 = .go p.1) ?_ ?_
   ·refine wH_block (wH_loop (β := Nat × ((List Window) × Int) × Nm) (fun p => (fun (k_11 : Nat) (s_16 : (List Window) × Int) (n_19 : Nm) => ([(1, (vI zone_2)), (3, (.ref n_4 0 0)), (5, (.ref n_5 0 0)), (7, (gV n_19 2 s_16.1)), (9, (vI (w64 ((w64 ((w64 (wv_3.To + (w64 (zone_2 * 60000)))).tdiv 86400000)) + 1)))), (10, (vI s_16.2))] : List (Nat × V))) p.1 p.2.1 p.2.2) (fun p => (fun (k_11 : Nat) (s_16 : (List Window) × Int) (n_19 : Nm) => ([(n_4, some (.cells 13 [(vS e_1.Key), (vS e_1.Item), (vI e_1.Version), (vI e_1.First), (vI e_1.Last), (vI e_1.Every), (vI e_1.Days), (vL eI e_1.Except), (vI e_1.From), (vI e_1.To), (vI e_1.Prio), (vL eS e_1.Tags), (vB e_1.Gone)])), (n_5, some (.cells 2 [(vI wv_3.From), (vI wv_3.To)])), (n_19, gB 2 Window.enc s_16.1)] : Hp)) p.1 p.2.1 p.2.2) (fun p => iterN (fun s => schedule_times_L1 wv_3 zone_2 e_1 s) p.1 p.2.1 = some o_22) (fun p => p.1) (nq_41, (([] : List Window), (maxI (w64 ((w64 ((w64 (wv_3.From + (w64 (zone_2 * 60000)))).tdiv 86400000)) - 2)) e_1.First)), n_17) hj_23 rfl (pre_r rfl) ?_)
    rintro ⟨k_11, s_16, n_19⟩ hL_21
    dsimp only at hL_21
    cases k_11 with
    | zero => cases hL_21
    | succ k_11 =>
     obtain ⟨c_, hc_20, hL_21⟩ := bind_some hL_21
     unfold schedule_times_L1 at hc_20
     refine wH_seq (wH_seq (wH_region (h_op (vI s_16.2) wz rfl (h_op (vI (w64 ((w64 ((w64 (wv_3.To + (w64 (zone_2 * 60000)))).tdiv 86400000)) + 1))) wz rfl (h_far pl170_4 rfl 4 rfl wz (h_ldr 0 0 il ft sz3 ag3 rfl rfl (vI e_1.Last) rfl wz (h_minmax (vI (minI (w64 ((w64 ((w64 (wv_3.To + (w64 (zone_2 * 60000)))).tdiv 86400000)) + 1)) e_1.Last)) rfl (.inl rfl) wz (h_op (vB (decide (s_16.2 ≤ (minI (w64 ((w64 ((w64 (wv_3.To + (w64 (zone_2 * 60000)))).tdiv 86400000)) + 1)) e_1.Last)))) wz rfl (h_nil ?_)))))))))
     rcases cond_some hc_20 with ⟨hc_24, hc_20⟩ | ⟨hc_24, hc_20⟩
     ·refine wH_ift rfl hc_24 (wH_skip (wH_seq (wH_block (wH_seq (wH_seq (wH_region (h_ldr 0 0 il ft sz170 ag170 rfl rfl (.d (.agg (Entry.enc e_1))) rfl wz (h_op (vI s_16.2) wz rfl ?_))))))))
      obtain ⟨r_25, hr_26, hc_20⟩ := bind_some hc_20
      refine h_call0 (schedule_isDay_ok hr_26) rfl hb211 rfl rfl rfl rfl wz (h_op (vB (!r_25)) wz rfl (h_nil ?_))
      rcases cond_some hc_20 with ⟨hc_27, hc_20⟩ | ⟨hc_27, hc_20⟩
      ·refine wH_ift rfl hc_27 (wH_exit (wH_region (h_op (vI s_16.2) wz rfl (h_op (vI (w64 (s_16.2 + 1))) wz rfl (h_op (vI (w64 (s_16.2 + 1))) wz rfl (h_nil ?_))))))
       obtain rfl := some_inj hc_20
       exact loop_mk (k_11, (s_16.1, (w64 (s_16.2 + 1))), n_19) hL_21 (Nat.lt_succ_self _) rfl (pre_r rfl)
      ·refine wH_iff rfl hc_27 (wH_skip (wH_seq (wH_region (h_ldr 0 0 il ft sz170 ag170 rfl rfl (.d (.agg (Entry.enc e_1))) rfl wz (h_op (vI zone_2) wz rfl (h_op (vI s_16.2) wz rfl ?_))))))
       obtain ⟨r_28, hr_29, hc_20⟩ := bind_some hc_20
       refine h_call0 (schedule_timeOf_ok hr_29) rfl hb212 rfl rfl rfl rfl wz (h_alloc 0 (.inl rfl) z109 rfl wz (fun n_30 => h_str 0 il ft 3 sz109 rfl rfl [(vI r_28.From), (vI r_28.To)] rfl wz (h_nil (wH_seq ?_))))
       obtain ⟨v_31, h_32, hc_20⟩ := bind_some hc_20
       refine wH_join (β := Unit) (fun _ => ([(1, (vI zone_2)), (3, (.ref n_4 0 0)), (5, (.ref n_5 0 0)), (7, (gV n_19 2 s_16.1)), (9, (vI (w64 ((w64 ((w64 (wv_3.To + (w64 (zone_2 * 60000)))).tdiv 86400000)) + 1)))), (10, (vI s_16.2)), (11, (.ref n_30 0 0)), (66, (vB v_31))] : List (Nat × V))) (fun _ => ([(n_4, some (.cells 13 [(vS e_1.Key), (vS e_1.Item), (vI e_1.Version), (vI e_1.First), (vI e_1.Last), (vI e_1.Every), (vI e_1.Days), (vL eI e_1.Except), (vI e_1.From), (vI e_1.To), (vI e_1.Prio), (vL eS e_1.Tags), (vB e_1.Gone)])), (n_5, some (.cells 2 [(vI wv_3.From), (vI wv_3.To)])), (n_19, gB 2 Window.enc s_16.1), (n_30, some (.cells 2 [(vI r_28.From), (vI r_28.To)]))] : Hp)) (fun _ => True) ?_ ?_
       ·refine wH_region (h_far pl109_0 rfl 0 rfl wz (h_ldr 0 3 il ft sz3 ag3 rfl rfl (vI r_28.From) rfl wz (h_far pl109_1 rfl 1 rfl wz (h_ldr 0 1 il ft sz3 ag3 rfl rfl (vI wv_3.To) rfl wz (h_op (vB (decide (r_28.From < wv_3.To))) wz rfl ?_)))))
        rcases cond_some h_32 with ⟨hc_33, h_32⟩ | ⟨hc_33, h_32⟩
        ·refine h_movb rfl hc_33 wz (h_far pl109_1 rfl 1 rfl wa (h_ldr 0 3 il ft sz3 ag3 rfl rfl (vI r_28.To) rfl wa (h_far pl109_0 rfl 0 rfl wa (h_ldr 0 1 il ft sz3 ag3 rfl rfl (vI wv_3.From) rfl wa (h_op (vB (decide (r_28.To > wv_3.From))) wa rfl (h_op (vB (decide (r_28.To > wv_3.From))) wz rfl (h_nil ?_)))))))
         obtain rfl := some_inj h_32
         exact cu
        ·refine h_movb rfl hc_33 wz (h_skip wa (h_skip wa (h_skip wa (h_skip wa (h_skip wa (h_op (vB false) wz rfl (h_nil ?_)))))))
         obtain rfl := some_inj h_32
         exact cu
       ·rintro ⟨⟩ _ sl_ H_ hp_ hq_
        refine wH_at _ hp_ hq_ ?_
        obtain ⟨v_34, h_35, hc_20⟩ := bind_some hc_20
        refine wH_join (β := Nm) (fun (n_36 : Nm) => ([(1, (vI zone_2)), (3, (.ref n_4 0 0)), (5, (.ref n_5 0 0)), (7, (gV n_36 2 v_34)), (9, (vI (w64 ((w64 ((w64 (wv_3.To + (w64 (zone_2 * 60000)))).tdiv 86400000)) + 1)))), (10, (vI s_16.2))] : List (Nat × V))) (fun (n_36 : Nm) => ([(n_4, some (.cells 13 [(vS e_1.Key), (vS e_1.Item), (vI e_1.Version), (vI e_1.First), (vI e_1.Last), (vI e_1.Every), (vI e_1.Days), (vL eI e_1.Except), (vI e_1.From), (vI e_1.To), (vI e_1.Prio), (vL eS e_1.Tags), (vB e_1.Gone)])), (n_5, some (.cells 2 [(vI wv_3.From), (vI wv_3.To)])), (n_36, gB 2 Window.enc v_34), (n_30, some (.cells 2 [(vI r_28.From), (vI r_28.To)]))] : Hp)) (fun _ => True) ?_ ?_
        ·rcases cond_some h_35 with ⟨hc_37, h_35⟩ | ⟨hc_37, h_35⟩
         ·refine wH_ift rfl hc_37 (wH_region (h_op (gV n_19 2 s_16.1) wz rfl (h_ldr 0 3 il ft sz109 ag109 rfl rfl (.d (.agg (Window.enc r_28))) rfl wz (h_lit (([r_28] : List Window).map Window.enc) es166 ez166 rfl rfl rfl rfl rfl wz ?_))))
          obtain ⟨a_38, hz_39, h_35⟩ := bind_some h_35
          refine h_appg 0 il ft (i := 2) el166 el166 sz109 z109 rfl (by decide) by109 (by decide) (fun _ => rfl) rfl rfl rfl hz_39 wz (fun n_40 => h_op (gV n_40 2 a_38) wz rfl (h_nil ?_))
          obtain rfl := some_inj h_35
          exact cut_mk n_40 trivial rfl (pre_r rfl)
         ·refine wH_iff rfl hc_37 (wH_skip ?_)
          obtain rfl := some_inj h_35
          exact cut_mk n_19 trivial rfl (pre_r rfl)
        ·rintro n_36 _ sl_ H_ hp_ hq_
         refine wH_at _ hp_ hq_ (wH_region (h_op (vI s_16.2) wz rfl (h_op (vI (w64 (s_16.2 + 1))) wz rfl (h_op (vI (w64 (s_16.2 + 1))) wz rfl (h_nil ?_)))))
         obtain rfl := some_inj hc_20
         exact loop_mk (k_11, (v_34, (w64 (s_16.2 + 1))), n_36) hL_21 (Nat.lt_succ_self _) rfl (pre_r rfl)
     ·refine wH_iff rfl hc_24 (wH_exit ?_)
      obtain rfl := some_inj hc_20
      obtain rfl := some_inj hL_21
      exact cut_mk ((s_16.1, s_16.2), n_19) rfl rfl (pre_r rfl)
   ·rintro ⟨s_16, n_19⟩ ho_ sl_ H_ hp_ hq_
    subst ho_
    refine wH_at _ hp_ hq_ (wH_seq (wH_region (h_op (gV n_19 2 s_16.1) wz rfl (h_op (gV n_19 2 s_16.1) wz rfl (h_nil ?_)))))
    obtain rfl := some_inj hF
    exact wH_ret (finG (outs := ([] : List Box)) (.inr rfl) 2 rfl rfl rfl (by kernel_rfl) (by kernel_rfl))
theorem schedule_Times_ok {e_1 : Entry} {zone_2 : Int} {wv_3 : Window} {r : (List Window) × Int} (hF : schedule_Times e_1 zone_2 wv_3 = some r) :
  FnM Tryz.prog 90 [(.d (.agg (Entry.enc e_1))), (vI zone_2), (.d (.agg (Window.enc wv_3)))] [] (.tup [(vL Window.enc r.1), (vI r.2)]) [] := by
 refine FnM.of_wH ⟨Tryz.prog, 45, [], []⟩ rfl Tryz.func90 rfl rfl (Nat.le_of_ble_eq_true rfl) (by kernel_rfl) ?_
 unfold schedule_Times at hF
 refine wH_seq (wH_region (h_box 0 (.inl rfl) [(vS e_1.Key), (vS e_1.Item), (vI e_1.Version), (vI e_1.First), (vI e_1.Last), (vI e_1.Every), (vI e_1.Days), (vL eI e_1.Except), (vI e_1.From), (vI e_1.To), (vI e_1.Prio), (vL eS e_1.Tags), (vB e_1.Gone)] rfl rfl wz (fun n_4 => h_box 0 (.inl rfl) [(vI wv_3.From), (vI wv_3.To)] rfl rfl wz (fun n_5 => h_op .nil wz rfl (h_op (vI 0) wz rfl (h_nil (wH_seq (wH_seq (wH_region (h_ldr 0 0 il ft sz170 ag170 rfl rfl (.d (.agg (Entry.enc e_1))) rfl wz (h_lit (([e_1] : List Entry).map Entry.enc) es248 ez248 rfl rfl rfl rfl rfl wz ?_)))))))))))
 obtain ⟨r_6, hr_7, hF⟩ := bind_some hF
 refine h_call0 (schedule_CheckEntries_ok hr_7) rfl hb169 rfl rfl rfl rfl wz (h_op (vI r_6) wz rfl (h_nil (wH_seq (wH_region (h_op (vI r_6) wz rfl (h_op (vB (r_6 != 0)) wz rfl (h_nil ?_)))))))
 rcases cond_some hF with ⟨hc_8, hF⟩ | ⟨hc_8, hF⟩
 ·refine wH_ift rfl hc_8 (wH_seq (wH_region (h_op (vI r_6) wz rfl (h_op .nil wz rfl (h_op (vI r_6) wz rfl (h_nil ?_))))))
  obtain rfl := some_inj hF
  exact wH_ret (fin0 (.inr rfl) [.nil, (vI r_6)] ⟨rfl, ⟨rfl, trivial⟩⟩ rfl rfl rfl)
 ·refine wH_iff rfl hc_8 (wH_skip (wH_seq (wH_seq (wH_region (h_op (vI zone_2) wz rfl ?_)))))
  obtain ⟨r_9, hr_10, hF⟩ := bind_some hF
  refine h_call0 (kit_Outside_ok hr_10) rfl hb86 rfl rfl rfl rfl wz (h_nil ?_)
  rcases cond_some hF with ⟨hc_11, hF⟩ | ⟨hc_11, hF⟩
  ·refine wH_ift rfl hc_11 (wH_seq (wH_region (h_op .nil wz rfl (h_op (vI 1) wz rfl (h_nil ?_)))))
   obtain rfl := some_inj hF
   exact wH_ret (fin0 (.inr rfl) [.nil, (vI 1)] ⟨rfl, ⟨rfl, trivial⟩⟩ rfl rfl rfl)
  ·refine wH_iff rfl hc_11 (wH_skip (wH_seq (wH_seq (wH_region (h_ldr 0 1 il ft sz109 ag109 rfl rfl (.d (.agg (Window.enc wv_3))) rfl wz ?_)))))
   obtain ⟨r_12, hr_13, hF⟩ := bind_some hF
   refine h_call0 (schedule_windowFault_ok hr_13) rfl hb170 rfl rfl rfl rfl wz (h_op (vI r_12) wz rfl (h_nil (wH_seq (wH_region (h_op (vI r_12) wz rfl (h_op (vB (r_12 != 0)) wz rfl (h_nil ?_)))))))
   rcases cond_some hF with ⟨hc_14, hF⟩ | ⟨hc_14, hF⟩
   ·refine wH_ift rfl hc_14 (wH_seq (wH_region (h_op (vI r_12) wz rfl (h_op .nil wz rfl (h_op (vI r_12) wz rfl (h_nil ?_))))))
    obtain rfl := some_inj hF
    exact wH_ret (fin0 (.inr rfl) [.nil, (vI r_12)] ⟨rfl, ⟨rfl, trivial⟩⟩ rfl rfl rfl)
   ·refine wH_iff rfl hc_14 (wH_skip (wH_seq (wH_region (h_ldr 0 0 il ft sz170 ag170 rfl rfl (.d (.agg (Entry.enc e_1))) rfl wz (h_op (vI zone_2) wz rfl (h_ldr 0 1 il ft sz109 ag109 rfl rfl (.d (.agg (Window.enc wv_3))) rfl wz ?_))))))
    obtain ⟨r_15, hr_16, hF⟩ := bind_some hF
    refine h_callg [] (schedule_times_okb hr_16) rfl hb171 rfl (by kernel_rfl) (by kernel_rfl) (by kernel_rfl) (by kernel_rfl) (by kernel_rfl) rfl (by decide) (by kernel_rfl) wz ([(n_4, some (.cells 13 [(vS e_1.Key), (vS e_1.Item), (vI e_1.Version), (vI e_1.First), (vI e_1.Last), (vI e_1.Every), (vI e_1.Days), (vL eI e_1.Except), (vI e_1.From), (vI e_1.To), (vI e_1.Prio), (vL eS e_1.Tags), (vB e_1.Gone)])), (n_5, some (.cells 2 [(vI wv_3.From), (vI wv_3.To)]))] : Hp) (fun _ => by kernel_rfl) (fun n_18 => h_op (gV n_18 2 r_15) wz rfl (h_nil (wH_seq (wH_seq (wH_region (h_op (gV n_18 2 r_15) wz rfl (h_leng un166 rfl wz (h_op (vI 0) wz rfl (h_nil ?_)))))))))
    obtain ⟨o_27, hj_28, hF⟩ := bind_some hF
    obtain ⟨hn_23, hj_28⟩ := forL_some hj_28
    refine wH_join (β := ((List Window))) (fun (s_24 : (List Window)) => ([(10, (gV n_18 2 s_24))] : List (Nat × V))) (fun (s_24 : (List Window)) => ([(n_4, some (.cells 13 [(vS e_1.Key), (vS e_1.Item), (vI e_1.Version), (vI e_1.First), (vI e_1.Last), (vI e_1.Every), (vI e_1.Days), (vL eI e_1.Except), (vI e_1.From), (vI e_1.To), (vI e_1.Prio), (vL eS e_1.Tags), (vB e_1.Gone)])), (n_5, some (.cells 2 [(vI wv_3.From), (vI wv_3.To)])), (n_18, gB 2 Window.enc s_24)] : Hp)) (fun p => o_27 = .go p) ?_ ?_
    ·refine wH_block (wH_loop (β := Nat × (List Nat) × ((List Window))) (fun p => (fun (k_19 : Nat) (l_20 : List Nat) (s_24 : (List Window)) => ([(5, (.ref n_5 0 0)), (10, (gV n_18 2 s_24)), (30, (gV n_18 2 s_24)), (31, (vI (r_15.length : Int))), (32, (vI (k_19 : Int)))] : List (Nat × V))) p.1 p.2.1 p.2.2) (fun p => (fun (k_19 : Nat) (l_20 : List Nat) (s_24 : (List Window)) => ([(n_4, some (.cells 13 [(vS e_1.Key), (vS e_1.Item), (vI e_1.Version), (vI e_1.First), (vI e_1.Last), (vI e_1.Every), (vI e_1.Days), (vL eI e_1.Except), (vI e_1.From), (vI e_1.To), (vI e_1.Prio), (vL eS e_1.Tags), (vB e_1.Gone)])), (n_5, some (.cells 2 [(vI wv_3.From), (vI wv_3.To)])), (n_18, gB 2 Window.enc s_24)] : Hp)) p.1 p.2.1 p.2.2) (fun p => forR (fun k x s => schedule_Times_L1 wv_3 k x s) p.2.1 p.1 p.2.2 = some o_27 ∧ ((List.range ((r_15.length : Int)).toNat)).drop p.1 = p.2.1) (fun p => p.2.1.length) (0, (List.range ((r_15.length : Int)).toNat), r_15) ⟨hj_28, rfl⟩ rfl (pre_r rfl) ?_)
     rintro ⟨k_19, l_20, s_24⟩ ⟨hL_26, hD_22⟩
     dsimp only at hL_26 hD_22
     cases l_20 with
     | nil =>
      obtain rfl := some_inj hL_26
      refine wH_seq (wH_region (h_op (vB (decide ((k_19 : Int) < (r_15.length : Int)))) wz rfl (h_nil ?_)))
      refine wH_seq (wH_iff rfl (range_nil hD_22) (wH_exit ?_))
      exact cut_mk (s_24) rfl rfl (pre_r rfl)
     | cons x_21 l_20 =>
      obtain ⟨c_, hc_25, hL_26⟩ := bind_some hL_26
      refine wH_seq (wH_region (h_op (vB (decide ((k_19 : Int) < (r_15.length : Int)))) wz rfl (h_nil ?_)))
      refine wH_seq (wH_ift rfl (range_cons hD_22) (wH_skip ?_))
      unfold schedule_Times_L1 at hc_25
      refine wH_seq (wH_block (wH_seq (wH_region (h_op (vI (k_19 : Int)) wz rfl ?_))))
      obtain ⟨_, hi_29, hc_25⟩ := bind_some hc_25
      refine h_iavg es166 rfl rfl (inR_0 hi_29) (inR_lt hi_29) wz ?_
      obtain ⟨e_30, hy_31, hc_25⟩ := bind_some hc_25
      refine h_ldvg 0 2 il ft sz109 ag109 rfl rfl hy_31 (.d (.agg (Window.enc e_30))) rfl wz (h_alloc 0 (.inl rfl) z109 rfl wz (fun n_32 => h_op (vI (k_19 : Int)) wz rfl (h_str 0 il ft 3 sz109 rfl rfl [(vI e_30.From), (vI e_30.To)] rfl wz (h_nil (wH_region (h_op (gV n_18 2 s_24) wz rfl (h_op (vI (k_19 : Int)) wz rfl (h_ldr 0 3 il ft sz109 ag109 rfl rfl (.d (.agg (Window.enc e_30))) rfl wz (h_ldr 0 1 il ft sz109 ag109 rfl rfl (.d (.agg (Window.enc wv_3))) rfl wz ?_)))))))))
      obtain ⟨r_33, hr_34, hc_25⟩ := bind_some hc_25
      refine h_call0 (schedule_cut_ok hr_34) rfl hb172 rfl rfl rfl rfl wz ?_
      obtain ⟨_, hi_35, hc_25⟩ := bind_some hc_25
      refine h_iavg es166 rfl rfl (inR_0 hi_35) (inR_lt hi_35) wz ?_
      obtain ⟨e_36, hy_37, hc_25⟩ := bind_some hc_25
      refine h_stvg 0 il ft 2 sz109 rfl rfl hy_37 r_33 rfl wz (h_re (v' := (gV n_18 2 (s_24.set (0 + ((k_19 : Int)).toNat) r_33))) 10 rfl (gV_len (by simp)) (h_re (v' := (gV n_18 2 (s_24.set (0 + ((k_19 : Int)).toNat) r_33))) 30 rfl (gV_len (by simp)) (h_re (v' := (gV n_18 2 (s_24.set (0 + ((k_19 : Int)).toNat) r_33))) 37 rfl (gV_len (by simp)) (h_nil (wH_region (h_opw (w64_nextr hD_22 hn_23) wz rfl (h_op (vI ((k_19 + 1 : Nat) : Int)) wz rfl (h_nil ?_))))))))
      obtain rfl := some_inj hc_25
      exact loop_mk (k_19 + 1, l_20, (s_24.set (0 + ((k_19 : Int)).toNat) r_33)) ⟨hL_26, drop_next hD_22⟩ (Nat.lt_succ_self _) rfl (pre_r rfl)
    ·rintro s_24 ho_ sl_ H_ hp_ hq_
     subst ho_
     refine wH_at _ hp_ hq_ (wH_seq (wH_region (h_op (gV n_18 2 s_24) wz rfl (h_op (gV n_18 2 s_24) wz rfl (h_op (vI 0) wz rfl (h_nil (wH_frozg 2 rfl (wH_cog 6 2 rfl rfl (wH_cog 10 2 rfl rfl (wH_cog 44 2 rfl rfl ?_))))))))))
     obtain rfl := some_inj hF
     exact wH_ret (fin0 (.inr rfl) [(vL Window.enc s_24), (vI 0)] ⟨rfl, ⟨rfl, trivial⟩⟩ rfl rfl rfl)
theorem booking_isTime_ok {wv_1 : Window} {r : Bool} (hF : booking_isTime wv_1 = some r) :
  FnM Tryz.prog 213 [(.d (.agg (Window.enc wv_1)))] [] (vB r) [] := by
 refine FnM.of_wH ⟨Tryz.prog, 18, [], []⟩ rfl Tryz.func213 rfl rfl (Nat.le_of_ble_eq_true rfl) (by kernel_rfl) ?_
 unfold booking_isTime at hF
 refine wH_seq (wH_region (h_box 0 (.inl rfl) [(vI wv_1.From), (vI wv_1.To)] rfl rfl wz (fun n_2 => h_op (vB false) wz rfl (h_nil (wH_seq ?_)))))
 obtain ⟨v_3, h_4, hF⟩ := bind_some hF
 refine wH_join (β := Unit) (fun _ => ([(2, (vB v_3))] : List (Nat × V))) (fun _ => ([(n_2, some (.cells 2 [(vI wv_1.From), (vI wv_1.To)]))] : Hp)) (fun _ => True) ?_ ?_
 ·refine wH_region (h_far pl109_0 rfl 0 rfl wz (h_ldr 0 0 il ft sz3 ag3 rfl rfl (vI wv_1.From) rfl wz (h_op (vB (decide (wv_1.From ≥ 0))) wz rfl ?_)))
  rcases cond_some h_4 with ⟨hc_5, h_4⟩ | ⟨hc_5, h_4⟩
  ·refine h_movb rfl hc_5 wz (h_far pl109_0 rfl 0 rfl wa (h_ldr 0 0 il ft sz3 ag3 rfl rfl (vI wv_1.From) rfl wa (h_far pl109_1 rfl 1 rfl wa (h_ldr 0 0 il ft sz3 ag3 rfl rfl (vI wv_1.To) rfl wa (h_op (vB (decide (wv_1.From < wv_1.To))) wa rfl (h_op (vB (decide (wv_1.From < wv_1.To))) wz rfl ?_))))))
   rcases cond_some h_4 with ⟨hc_6, h_4⟩ | ⟨hc_6, h_4⟩
   ·refine h_movb rfl hc_6 wz (h_far pl109_1 rfl 1 rfl wa (h_ldr 0 0 il ft sz3 ag3 rfl rfl (vI wv_1.To) rfl wa (h_op (vB (decide (wv_1.To ≤ 345686400000))) wa rfl (h_op (vB (decide (wv_1.To ≤ 345686400000))) wz rfl (h_op (vB (decide (wv_1.To ≤ 345686400000))) wz rfl (h_nil ?_))))))
    obtain rfl := some_inj h_4
    exact cu
   ·refine h_movb rfl hc_6 wz (h_skip wa (h_skip wa (h_skip wa (h_op (vB false) wz rfl (h_op (vB false) wz rfl (h_nil ?_))))))
    obtain rfl := some_inj h_4
    exact cu
  ·refine h_movb rfl hc_5 wz (h_skip wa (h_skip wa (h_skip wa (h_skip wa (h_skip wa (h_op (vB false) wz rfl (h_op (vB false) wz rfl (h_skip wa (h_skip wa (h_skip wa (h_op (vB false) wz rfl (h_op (vB false) wz rfl (h_nil ?_)))))))))))))
   obtain rfl := some_inj h_4
   exact cu
 ·rintro ⟨⟩ _ sl_ H_ hp_ hq_
  refine wH_at _ hp_ hq_ ?_
  obtain rfl := some_inj hF
  exact wH_ret (fin0 (.inr rfl) [(vB v_3)] ⟨rfl, trivial⟩ rfl rfl rfl)
theorem booking_tagsFault_ok {l_1 : (List ByteArray)} {r : Int} (hF : booking_tagsFault l_1 = some r) :
  FnM Tryz.prog 214 [(vL eS l_1)] [] (vI r) [] := by
 refine FnM.of_wH ⟨Tryz.prog, 8, [], []⟩ rfl Tryz.func214 rfl rfl (Nat.le_of_ble_eq_true rfl) (by kernel_rfl) ?_
 unfold booking_tagsFault at hF
 refine wH_seq (wH_region (h_op (vI 0) wz rfl (h_nil (wH_seq (wH_seq (wH_region (h_op (vL eS l_1) wz rfl (h_len un80 rfl wz (h_op (vB (decide ((l_1.length : Int) > 20))) wz rfl (h_nil ?_))))))))))
 rcases cond_some hF with ⟨hc_2, hF⟩ | ⟨hc_2, hF⟩
 ·refine wH_ift rfl hc_2 (wH_seq (wH_region (h_op (vI 2) wz rfl (h_nil ?_))))
  obtain rfl := some_inj hF
  exact wH_ret (fin0 (.inr rfl) [(vI 2)] ⟨rfl, trivial⟩ rfl rfl rfl)
 ·refine wH_iff rfl hc_2 (wH_skip (wH_seq (wH_region (h_op (vL eS l_1) wz rfl ?_))))
  obtain ⟨r_3, hr_4, hF⟩ := bind_some hF
  refine h_call0 (kit_RisingFault_ok hr_4) rfl hb265 rfl rfl rfl rfl wz (h_op (vI r_3) wz rfl (h_nil ?_))
  obtain rfl := some_inj hF
  exact wH_ret (fin0 (.inr rfl) [(vI r_3)] ⟨rfl, trivial⟩ rfl rfl rfl)
theorem booking_CheckCampaigns_ok {l_1 : (List Campaign)} {r : Int} (hF : booking_CheckCampaigns l_1 = some r) :
  FnM Tryz.prog 173 [(vL Campaign.enc l_1)] [] (vI r) [] := by
 refine FnM.of_wH ⟨Tryz.prog, 73, [], []⟩ rfl Tryz.func173 rfl rfl (Nat.le_of_ble_eq_true rfl) (by kernel_rfl) ?_
 unfold booking_CheckCampaigns at hF
 refine wH_seq (wH_region (h_op (vI 0) wz rfl (h_nil (wH_seq (wH_seq (wH_region (h_op (vL Campaign.enc l_1) wz rfl (h_len un253 rfl wz (h_op (vB (decide ((l_1.length : Int) > 30))) wz rfl (h_nil ?_))))))))))
 rcases cond_some hF with ⟨hc_2, hF⟩ | ⟨hc_2, hF⟩
 ·refine wH_ift rfl hc_2 (wH_seq (wH_region (h_op (vI 2) wz rfl (h_nil ?_))))
  obtain rfl := some_inj hF
  exact wH_ret (fin0 (.inr rfl) [(vI 2)] ⟨rfl, trivial⟩ rfl rfl rfl)
 ·refine wH_iff rfl hc_2 (wH_skip (wH_seq (wH_seq (wH_region (h_op (vL Campaign.enc l_1) wz rfl (h_len un253 rfl wz (h_op (vI 0) wz rfl (h_nil ?_))))))))
  obtain ⟨o_11, hj_12, hF⟩ := bind_some hF
  obtain ⟨hn_7, hj_12⟩ := forL_some hj_12
  refine wH_join (β := (Unit)) (fun (s_8 : Unit) => ([] : List (Nat × V))) (fun (s_8 : Unit) => ([] : Hp)) (fun p => o_11 = .go p) ?_ ?_
  ·refine wH_block (wH_loop (β := Nat × (List Campaign) × (Unit)) (fun p => (fun (k_3 : Nat) (l_4 : List Campaign) (s_8 : Unit) => ([(0, (vL Campaign.enc l_1)), (9, (vL Campaign.enc l_1)), (10, (vI (l_1.length : Int))), (11, (vI (k_3 : Int)))] : List (Nat × V))) p.1 p.2.1 p.2.2) (fun p => (fun (k_3 : Nat) (l_4 : List Campaign) (s_8 : Unit) => ([] : Hp)) p.1 p.2.1 p.2.2) (fun p => forR (fun k x s => booking_CheckCampaigns_L1 l_1 k x s) p.2.1 p.1 p.2.2 = some o_11 ∧ (l_1).drop p.1 = p.2.1) (fun p => p.2.1.length) (0, l_1, ()) ⟨hj_12, rfl⟩ rfl (pre_r rfl) ?_)
   rintro ⟨k_3, l_4, s_8⟩ ⟨hL_10, hD_6⟩
   dsimp only at hL_10 hD_6
   cases l_4 with
   | nil =>
    obtain rfl := some_inj hL_10
    refine wH_seq (wH_region (h_op (vB (decide ((k_3 : Int) < (l_1.length : Int)))) wz rfl (h_nil ?_)))
    refine wH_seq (wH_iff rfl (drop_nil hD_6) (wH_exit ?_))
    exact cut_mk (s_8) rfl rfl (pre_r rfl)
   | cons x_5 l_4 =>
    obtain ⟨c_, hc_9, hL_10⟩ := bind_some hL_10
    refine wH_seq (wH_region (h_op (vB (decide ((k_3 : Int) < (l_1.length : Int)))) wz rfl (h_nil ?_)))
    refine wH_seq (wH_ift rfl (drop_cons hD_6) (wH_skip ?_))
    unfold booking_CheckCampaigns_L1 at hc_9
    refine wH_seq (wH_block (wH_seq (wH_region (h_op (vI (k_3 : Int)) wz rfl (h_ia es253 rfl rfl (drop_idx hD_6) rfl wz (h_ldc sz173 ag173 rfl (.d (.agg (Campaign.enc x_5))) rfl wz (h_alloc 0 (.inl rfl) z173 rfl wz (fun n_13 => h_op (vI (k_3 : Int)) wz rfl (h_str 0 il ft 0 sz173 rfl rfl [(vS x_5.Key), (vS x_5.Class), (vI x_5.Time.From), (vI x_5.Time.To), (vL eS x_5.Tags), (vI x_5.Goal), (vI x_5.Most), (vI x_5.Cents)] rfl wz (h_nil (wH_seq (wH_block (wH_seq ?_)))))))))))))
    obtain ⟨v_14, h_15, hc_9⟩ := bind_some hc_9
    refine wH_join (β := Unit) (fun _ => ([(0, (vL Campaign.enc l_1)), (3, (vI (k_3 : Int))), (4, (.ref n_13 0 0)), (9, (vL Campaign.enc l_1)), (10, (vI (l_1.length : Int))), (11, (vI (k_3 : Int))), (16, (vB v_14))] : List (Nat × V))) (fun _ => ([(n_13, some (.cells 8 [(vS x_5.Key), (vS x_5.Class), (vI x_5.Time.From), (vI x_5.Time.To), (vL eS x_5.Tags), (vI x_5.Goal), (vI x_5.Most), (vI x_5.Cents)]))] : Hp)) (fun _ => True) ?_ ?_
    ·refine wH_region (h_far pl173_0 rfl 0 rfl wz (h_ldr 0 0 il ft sz9 ag9 rfl rfl (vS x_5.Key) rfl wz ?_))
     obtain ⟨r_16, hr_17, h_15⟩ := bind_some h_15
     refine h_call0 (kit_IsKey_ok hr_17) rfl hb124 rfl rfl rfl rfl wz (h_op (vB (!r_16)) wz rfl ?_)
     rcases cond_some h_15 with ⟨hc_18, h_15⟩ | ⟨hc_18, h_15⟩
     ·refine h_movb rfl hc_18 wz (h_skip wa (h_skip wa (h_skip wa (h_skip wa (h_skip (wn rfl rfl) (h_skip (wn rfl rfl) (h_skip (wn rfl rfl) (h_skip (wn rfl rfl) (h_skip wa (h_op (vB true) wz rfl (h_op (vB true) wz rfl (h_nil ?_))))))))))))
      obtain rfl := some_inj h_15
      exact cu
     ·refine h_movb rfl hc_18 wz (h_far pl173_1 rfl 1 rfl wa (h_ldr 0 0 il ft sz9 ag9 rfl rfl (vS x_5.Class) rfl wa (h_op (vB (sNe x_5.Class (⟨#[]⟩ : ByteArray))) wa rfl ?_)))
      rcases cond_some h_15 with ⟨hc_19, h_15⟩ | ⟨hc_19, h_15⟩
      ·refine h_movb rfl hc_19 wa (h_far pl173_1 rfl 1 rfl wa (h_ldr 0 0 il ft sz9 ag9 rfl rfl (vS x_5.Class) rfl wa ?_))
       obtain ⟨r_20, hr_21, h_15⟩ := bind_some h_15
       refine h_call0 (kit_IsKey_ok hr_21) rfl hb124 rfl rfl rfl rfl wa (h_op (vB (!r_20)) wa rfl (h_op (vB (!r_20)) wa rfl (h_op (vB (!r_20)) wz rfl (h_op (vB (!r_20)) wz rfl (h_nil ?_)))))
       obtain rfl := some_inj h_15
       exact cu
      ·refine h_movb rfl hc_19 wa (h_skip wa (h_skip wa (h_skip wa (h_skip wa (h_op (vB false) wa rfl (h_op (vB false) wz rfl (h_op (vB false) wz rfl (h_nil ?_))))))))
       obtain rfl := some_inj h_15
       exact cu
    ·rintro ⟨⟩ _ sl_ H_ hp_ hq_
     refine wH_at _ hp_ hq_ ?_
     rcases cond_some hc_9 with ⟨hc_22, hc_9⟩ | ⟨hc_22, hc_9⟩
     ·refine wH_ift rfl hc_22 (wH_seq (wH_region (h_op (vI 5) wz rfl (h_nil ?_))))
      obtain rfl := some_inj hc_9
      obtain rfl := some_inj hL_10
      obtain rfl := some_inj hF
      exact wH_ret (fin0 (.inr rfl) [(vI 5)] ⟨rfl, trivial⟩ rfl rfl rfl)
     ·refine wH_iff rfl hc_22 (wH_seq ?_)
      obtain ⟨v_23, h_24, hc_9⟩ := bind_some hc_9
      refine wH_join (β := Unit) (fun _ => ([(0, (vL Campaign.enc l_1)), (4, (.ref n_13 0 0)), (9, (vL Campaign.enc l_1)), (10, (vI (l_1.length : Int))), (11, (vI (k_3 : Int))), (32, (vB v_23))] : List (Nat × V))) (fun _ => ([(n_13, some (.cells 8 [(vS x_5.Key), (vS x_5.Class), (vI x_5.Time.From), (vI x_5.Time.To), (vL eS x_5.Tags), (vI x_5.Goal), (vI x_5.Most), (vI x_5.Cents)]))] : Hp)) (fun _ => True) ?_ ?_
      ·refine wH_draws (h_op (vI (k_3 : Int)) wz rfl (h_op (vB (decide ((k_3 : Int) > 0))) wz rfl ?_))
       rcases cond_some h_24 with ⟨hc_25, h_24⟩ | ⟨hc_25, h_24⟩
       ·refine h_movb rfl hc_25 wz (h_far pl173_0 rfl 0 rfl wa (h_ldr 4 0 (.inr (by kernel_rfl)) (fun _ _ ag => trivial) sz9 ag9 rfl rfl (vS x_5.Key) rfl wa (h_op (vL Campaign.enc l_1) wa rfl (h_op (vI (k_3 : Int)) wa rfl (h_op (vI (w64 ((k_3 : Int) - 1))) wa rfl ?_)))))
        obtain ⟨y_26, hy_27, h_24⟩ := bind_some h_24
        refine h_ia es253 rfl rfl hy_27 rfl wa (h_fac pl173_0 rfl [.str y_26.Key, .str y_26.Class, .int .i64 y_26.Time.From, .int .i64 y_26.Time.To, dl eS y_26.Tags, .int .i64 y_26.Goal, .int .i64 y_26.Most, .int .i64 y_26.Cents] rfl rfl wa (h_ldc sz9 ag9 rfl (vS y_26.Key) rfl wa (h_op (vB (sLe x_5.Key y_26.Key)) wa rfl (h_op (vB (sLe x_5.Key y_26.Key)) wz rfl (h_op (vB (sLe x_5.Key y_26.Key)) wz rfl (h_nil ?_))))))
        obtain rfl := some_inj h_24
        exact cu
       ·refine h_movb rfl hc_25 wz (h_skip wa (h_skip wa (h_skip wa (h_skip wa (h_skip wa (h_skip wa (h_skip wa (h_skip wa (h_skip wa (h_op (vB false) wz rfl (h_op (vB false) wz rfl (h_nil ?_))))))))))))
        obtain rfl := some_inj h_24
        exact cu
      ·rintro ⟨⟩ _ sl_ H_ hp_ hq_
       refine wH_at _ hp_ hq_ ?_
       rcases cond_some hc_9 with ⟨hc_28, hc_9⟩ | ⟨hc_28, hc_9⟩
       ·refine wH_ift rfl hc_28 (wH_seq (wH_region (h_op (vI 7) wz rfl (h_nil ?_))))
        obtain rfl := some_inj hc_9
        obtain rfl := some_inj hL_10
        obtain rfl := some_inj hF
        exact wH_ret (fin0 (.inr rfl) [(vI 7)] ⟨rfl, trivial⟩ rfl rfl rfl)
       ·refine wH_iff rfl hc_28 (wH_seq ?_)
        obtain ⟨v_29, h_30, hc_9⟩ := bind_some hc_9
        refine wH_join (β := Unit) (fun _ => ([(0, (vL Campaign.enc l_1)), (4, (.ref n_13 0 0)), (9, (vL Campaign.enc l_1)), (10, (vI (l_1.length : Int))), (11, (vI (k_3 : Int))), (46, (vB v_29))] : List (Nat × V))) (fun _ => ([(n_13, some (.cells 8 [(vS x_5.Key), (vS x_5.Class), (vI x_5.Time.From), (vI x_5.Time.To), (vL eS x_5.Tags), (vI x_5.Goal), (vI x_5.Most), (vI x_5.Cents)]))] : Hp)) (fun _ => True) ?_ ?_
        ·refine wH_region (h_far pl173_2 rfl 2 rfl wz (h_ldr 0 0 il ft sz109 ag109 rfl rfl (.d (.agg (Window.enc x_5.Time))) rfl wz ?_))
         obtain ⟨r_31, hr_32, h_30⟩ := bind_some h_30
         refine h_call0 (booking_isTime_ok hr_32) rfl hb213 rfl rfl rfl rfl wz (h_op (vB (!r_31)) wz rfl ?_)
         rcases cond_some h_30 with ⟨hc_33, h_30⟩ | ⟨hc_33, h_30⟩
         ·refine h_movb rfl hc_33 wz (h_skip wa (h_skip wa (h_skip wa (h_op (vB true) wz rfl (h_op (vB true) wz rfl (h_skip wa (h_skip wa (h_skip wa (h_op (vB true) wz rfl (h_op (vB true) wz rfl (h_skip wa (h_skip wa (h_skip wa (h_op (vB true) wz rfl (h_op (vB true) wz rfl (h_nil ?_))))))))))))))))
          obtain rfl := some_inj h_30
          exact cu
         ·refine h_movb rfl hc_33 wz (h_far pl173_4 rfl 5 rfl wa (h_ldr 0 0 il ft sz3 ag3 rfl rfl (vI x_5.Goal) rfl wa ?_))
          obtain ⟨r_34, hr_35, h_30⟩ := bind_some h_30
          refine h_call0 (kit_Outside_ok hr_35) rfl hb86 rfl rfl rfl rfl wa (h_op (vB r_34) wz rfl ?_)
          rcases cond_some h_30 with ⟨hc_36, h_30⟩ | ⟨hc_36, h_30⟩
          ·refine h_movb rfl hc_36 wz (h_skip wa (h_skip wa (h_skip wa (h_op (vB true) wz rfl (h_op (vB true) wz rfl (h_skip wa (h_skip wa (h_skip wa (h_op (vB true) wz rfl (h_op (vB true) wz rfl (h_nil ?_)))))))))))
           obtain rfl := some_inj h_30
           exact cu
          ·refine h_movb rfl hc_36 wz (h_far pl173_5 rfl 6 rfl wa (h_ldr 0 0 il ft sz3 ag3 rfl rfl (vI x_5.Most) rfl wa ?_))
           obtain ⟨r_37, hr_38, h_30⟩ := bind_some h_30
           refine h_call0 (kit_Outside_ok hr_38) rfl hb86 rfl rfl rfl rfl wa (h_op (vB r_37) wz rfl ?_)
           rcases cond_some h_30 with ⟨hc_39, h_30⟩ | ⟨hc_39, h_30⟩
           ·refine h_movb rfl hc_39 wz (h_skip wa (h_skip wa (h_skip wa (h_op (vB true) wz rfl (h_op (vB true) wz rfl (h_nil ?_))))))
            obtain rfl := some_inj h_30
            exact cu
           ·refine h_movb rfl hc_39 wz (h_far pl173_6 rfl 7 rfl wa (h_ldr 0 0 il ft sz3 ag3 rfl rfl (vI x_5.Cents) rfl wa ?_))
            obtain ⟨r_40, hr_41, h_30⟩ := bind_some h_30
            refine h_call0 (kit_Outside_ok hr_41) rfl hb86 rfl rfl rfl rfl wa (h_op (vB r_40) wz rfl (h_op (vB r_40) wz rfl (h_nil ?_)))
            obtain rfl := some_inj h_30
            exact cu
        ·rintro ⟨⟩ _ sl_ H_ hp_ hq_
         refine wH_at _ hp_ hq_ ?_
         rcases cond_some hc_9 with ⟨hc_42, hc_9⟩ | ⟨hc_42, hc_9⟩
         ·refine wH_ift rfl hc_42 (wH_seq (wH_region (h_op (vI 1) wz rfl (h_nil ?_))))
          obtain rfl := some_inj hc_9
          obtain rfl := some_inj hL_10
          obtain rfl := some_inj hF
          exact wH_ret (fin0 (.inr rfl) [(vI 1)] ⟨rfl, trivial⟩ rfl rfl rfl)
         ·refine wH_iff rfl hc_42 (wH_skip (wH_seq (wH_region (h_far pl173_3 rfl 4 rfl wz (h_ldr 0 0 il ft sz80 ag80 rfl rfl (vL eS x_5.Tags) rfl wz ?_)))))
          obtain ⟨r_43, hr_44, hc_9⟩ := bind_some hc_9
          refine h_call0 (booking_tagsFault_ok hr_44) rfl hb214 rfl rfl rfl rfl wz (h_op (vI r_43) wz rfl (h_nil (wH_seq (wH_region (h_op (vI r_43) wz rfl (h_op (vB (r_43 != 0)) wz rfl (h_nil ?_)))))))
          rcases cond_some hc_9 with ⟨hc_45, hc_9⟩ | ⟨hc_45, hc_9⟩
          ·refine wH_ift rfl hc_45 (wH_seq (wH_region (h_op (vI r_43) wz rfl (h_op (vI r_43) wz rfl (h_nil ?_)))))
           obtain rfl := some_inj hc_9
           obtain rfl := some_inj hL_10
           obtain rfl := some_inj hF
           exact wH_ret (fin0 (.inr rfl) [(vI r_43)] ⟨rfl, trivial⟩ rfl rfl rfl)
          ·refine wH_iff rfl hc_45 (wH_skip (wH_region (h_opw (w64_next hD_6 hn_7) wz rfl (h_op (vI ((k_3 + 1 : Nat) : Int)) wz rfl (h_nil ?_)))))
           obtain rfl := some_inj hc_9
           exact loop_mk (k_3 + 1, l_4, ()) ⟨hL_10, drop_next hD_6⟩ (Nat.lt_succ_self _) rfl (pre_r rfl)
  ·rintro s_8 ho_ sl_ H_ hp_ hq_
   subst ho_
   refine wH_at _ hp_ hq_ (wH_seq (wH_region (h_op (vI 0) wz rfl (h_nil ?_))))
   obtain rfl := some_inj hF
   exact wH_ret (fin0 (.inr rfl) [(vI 0)] ⟨rfl, trivial⟩ rfl rfl rfl)
theorem booking_due_ok {c_1 : Campaign} {atv_2 : Int} {r : Int} (hF : booking_due c_1 atv_2 = some r) :
  FnM Tryz.prog 174 [(.d (.agg (Campaign.enc c_1))), (vI atv_2)] [] (vI r) [] := by
 refine FnM.of_wH ⟨Tryz.prog, 35, [], []⟩ rfl Tryz.func174 rfl rfl (Nat.le_of_ble_eq_true rfl) (by kernel_rfl) ?_
 unfold booking_due at hF
 refine wH_seq (wH_region (h_box 0 (.inl rfl) [(vS c_1.Key), (vS c_1.Class), (vI c_1.Time.From), (vI c_1.Time.To), (vL eS c_1.Tags), (vI c_1.Goal), (vI c_1.Most), (vI c_1.Cents)] rfl rfl wz (fun n_3 => h_op (vI 0) wz rfl (h_nil (wH_seq (wH_block (wH_seq (wH_region (h_op (vI atv_2) wz rfl (h_far pl173_2 rfl 2 rfl wz (h_far pl109_0 rfl 2 rfl wz (h_ldr 0 0 il ft sz3 ag3 rfl rfl (vI c_1.Time.From) rfl wz (h_op (vB (decide (atv_2 < c_1.Time.From))) wz rfl (h_op (vB (decide (atv_2 < c_1.Time.From))) wz rfl (h_nil ?_)))))))))))))))
 rcases cond_some hF with ⟨hc_4, hF⟩ | ⟨hc_4, hF⟩
 ·refine wH_ift rfl hc_4 (wH_seq (wH_region (h_op (vI 0) wz rfl (h_nil ?_))))
  obtain rfl := some_inj hF
  exact wH_ret (fin0 (.inr rfl) [(vI 0)] ⟨rfl, trivial⟩ rfl rfl rfl)
 ·refine wH_iff rfl hc_4 (wH_seq (wH_region (h_op (vI atv_2) wz rfl (h_far pl173_2 rfl 2 rfl wz (h_far pl109_1 rfl 3 rfl wz (h_ldr 0 0 il ft sz3 ag3 rfl rfl (vI c_1.Time.To) rfl wz (h_op (vB (decide (atv_2 ≥ c_1.Time.To))) wz rfl (h_op (vB (decide (atv_2 ≥ c_1.Time.To))) wz rfl (h_nil ?_)))))))))
  rcases cond_some hF with ⟨hc_5, hF⟩ | ⟨hc_5, hF⟩
  ·refine wH_ift rfl hc_5 (wH_seq (wH_region (h_far pl173_4 rfl 5 rfl wz (h_ldr 0 0 il ft sz3 ag3 rfl rfl (vI c_1.Goal) rfl wz (h_op (vI c_1.Goal) wz rfl (h_nil ?_))))))
   obtain rfl := some_inj hF
   exact wH_ret (fin0 (.inr rfl) [(vI c_1.Goal)] ⟨rfl, trivial⟩ rfl rfl rfl)
  ·refine wH_iff rfl hc_5 (wH_skip (wH_seq (wH_region (h_far pl173_4 rfl 5 rfl wz (h_ldr 0 0 il ft sz3 ag3 rfl rfl (vI c_1.Goal) rfl wz (h_op (vI atv_2) wz rfl (h_far pl173_2 rfl 2 rfl wz (h_far pl109_0 rfl 2 rfl wz (h_ldr 0 0 il ft sz3 ag3 rfl rfl (vI c_1.Time.From) rfl wz (h_op (vI (w64 (atv_2 - c_1.Time.From))) wz rfl (h_op (vI (w64 (c_1.Goal * (w64 (atv_2 - c_1.Time.From))))) wz rfl (h_far pl173_2 rfl 2 rfl wz (h_far pl109_1 rfl 3 rfl wz (h_ldr 0 0 il ft sz3 ag3 rfl rfl (vI c_1.Time.To) rfl wz (h_far pl173_2 rfl 2 rfl wz (h_far pl109_0 rfl 2 rfl wz (h_ldr 0 0 il ft sz3 ag3 rfl rfl (vI c_1.Time.From) rfl wz (h_op (vI (w64 (c_1.Time.To - c_1.Time.From))) wz rfl ?_))))))))))))))))))
   obtain ⟨q_6, hz_7, hF⟩ := bind_some hF
   refine h_quo rfl rfl hz_7 wz (h_op (vI q_6) wz rfl (h_nil (wH_at (H0 := ([(n_3, some (.cells 8 [(vS c_1.Key), (vS c_1.Class), (vI c_1.Time.From), (vI c_1.Time.To), (vL eS c_1.Tags), (vI c_1.Goal), (vI c_1.Most), (vI c_1.Cents)]))] : Hp)) ([(4, (vI q_6))] : List (Nat × V)) (by kernel_rfl) (pre_mk (by kernel_rfl)) ?_)))
   obtain rfl := some_inj hF
   exact wH_ret (fin0 (.inr rfl) [(vI q_6)] ⟨rfl, trivial⟩ rfl rfl rfl)
theorem booking_Due_ok {c_1 : Campaign} {atv_2 : Int} {r : Int × Int} (hF : booking_Due c_1 atv_2 = some r) :
  FnM Tryz.prog 91 [(.d (.agg (Campaign.enc c_1))), (vI atv_2)] [] (.tup [(vI r.1), (vI r.2)]) [] := by
 refine FnM.of_wH ⟨Tryz.prog, 19, [], []⟩ rfl Tryz.func91 rfl rfl (Nat.le_of_ble_eq_true rfl) (by kernel_rfl) ?_
 unfold booking_Due at hF
 refine wH_seq (wH_region (h_box 0 (.inl rfl) [(vS c_1.Key), (vS c_1.Class), (vI c_1.Time.From), (vI c_1.Time.To), (vL eS c_1.Tags), (vI c_1.Goal), (vI c_1.Most), (vI c_1.Cents)] rfl rfl wz (fun n_3 => h_op (vI 0) wz rfl (h_op (vI 0) wz rfl (h_nil (wH_seq (wH_seq (wH_region (h_ldr 0 0 il ft sz173 ag173 rfl rfl (.d (.agg (Campaign.enc c_1))) rfl wz (h_lit (([c_1] : List Campaign).map Campaign.enc) es253 ez253 rfl rfl rfl rfl rfl wz ?_))))))))))
 obtain ⟨r_4, hr_5, hF⟩ := bind_some hF
 refine h_call0 (booking_CheckCampaigns_ok hr_5) rfl hb173 rfl rfl rfl rfl wz (h_op (vI r_4) wz rfl (h_nil (wH_seq (wH_region (h_op (vI r_4) wz rfl (h_op (vB (r_4 != 0)) wz rfl (h_nil ?_)))))))
 rcases cond_some hF with ⟨hc_6, hF⟩ | ⟨hc_6, hF⟩
 ·refine wH_ift rfl hc_6 (wH_seq (wH_region (h_op (vI r_4) wz rfl (h_op (vI 0) wz rfl (h_op (vI r_4) wz rfl (h_nil ?_))))))
  obtain rfl := some_inj hF
  exact wH_ret (fin0 (.inr rfl) [(vI 0), (vI r_4)] ⟨rfl, ⟨rfl, trivial⟩⟩ rfl rfl rfl)
 ·refine wH_iff rfl hc_6 (wH_skip (wH_seq (wH_seq (wH_region (h_op (vI atv_2) wz rfl ?_)))))
  obtain ⟨r_7, hr_8, hF⟩ := bind_some hF
  refine h_call0 (kit_IsMoment_ok hr_8) rfl hb136 rfl rfl rfl rfl wz (h_op (vB (!r_7)) wz rfl (h_nil ?_))
  rcases cond_some hF with ⟨hc_9, hF⟩ | ⟨hc_9, hF⟩
  ·refine wH_ift rfl hc_9 (wH_seq (wH_region (h_op (vI 0) wz rfl (h_op (vI 1) wz rfl (h_nil ?_)))))
   obtain rfl := some_inj hF
   exact wH_ret (fin0 (.inr rfl) [(vI 0), (vI 1)] ⟨rfl, ⟨rfl, trivial⟩⟩ rfl rfl rfl)
  ·refine wH_iff rfl hc_9 (wH_skip (wH_seq (wH_region (h_ldr 0 0 il ft sz173 ag173 rfl rfl (.d (.agg (Campaign.enc c_1))) rfl wz (h_op (vI atv_2) wz rfl ?_)))))
   obtain ⟨r_10, hr_11, hF⟩ := bind_some hF
   refine h_call0 (booking_due_ok hr_11) rfl hb174 rfl rfl rfl rfl wz (h_op (vI r_10) wz rfl (h_op (vI 0) wz rfl (h_nil ?_)))
   obtain rfl := some_inj hF
   exact wH_ret (fin0 (.inr rfl) [(vI r_10), (vI 0)] ⟨rfl, ⟨rfl, trivial⟩⟩ rfl rfl rfl)
theorem proof_compareBeats_ok {a_1 : Beat} {b_2 : Beat} {r : Int} (hF : proof_compareBeats a_1 b_2 = some r) :
  FnM Tryz.prog 266 [(.d (.agg (Beat.enc a_1))), (.d (.agg (Beat.enc b_2)))] [] (vI r) [] := by
 refine FnM.of_wH ⟨Tryz.prog, 17, [], []⟩ rfl Tryz.func266 rfl rfl (Nat.le_of_ble_eq_true rfl) (by kernel_rfl) ?_
 unfold proof_compareBeats at hF
 refine wH_seq (wH_region (h_box 0 (.inl rfl) [(vS a_1.Player), (vI a_1.At), (vI a_1.Clock)] rfl rfl wz (fun n_3 => h_box 0 (.inl rfl) [(vS b_2.Player), (vI b_2.At), (vI b_2.Clock)] rfl rfl wz (fun n_4 => h_op (vI 0) wz rfl (h_nil (wH_seq (wH_draws (h_far pl176_0 rfl 0 rfl wz (h_ldr 1 0 (.inr (by kernel_rfl)) (fun _ _ ag => trivial) sz9 ag9 rfl rfl (vS a_1.Player) rfl wz (h_far pl176_0 rfl 0 rfl wz (h_ldr 3 1 (.inr (by kernel_rfl)) (fun _ _ ag => ⟨.inl ⟨rfl, rfl⟩, trivial⟩) sz9 ag9 rfl rfl (vS b_2.Player) rfl wz ?_)))))))))))
 obtain ⟨r_5, hr_6, hF⟩ := bind_some hF
 refine h_call0 (strings_Compare_ok hr_6) rfl hb129 rfl rfl rfl rfl wz (h_far pl176_1 rfl 1 rfl wz (h_ldr 6 0 (.inr (by kernel_rfl)) (fun _ _ ag => ⟨.inl ⟨rfl, rfl⟩, ⟨.inl ⟨rfl, rfl⟩, trivial⟩⟩) sz3 ag3 rfl rfl (vI a_1.At) rfl wz (h_far pl176_1 rfl 1 rfl wz (h_ldr 8 1 (.inr (by kernel_rfl)) (fun _ _ ag => ⟨.inl ⟨rfl, rfl⟩, ⟨.inl ⟨rfl, rfl⟩, ⟨.inl ⟨rfl, rfl⟩, trivial⟩⟩⟩) sz3 ag3 rfl rfl (vI b_2.At) rfl wz ?_))))
 obtain ⟨r_7, hr_8, hF⟩ := bind_some hF
 refine h_call0 (cmp_Compare_int_ok hr_8) rfl hb147 rfl rfl rfl rfl wz (h_lit (([r_5, r_7] : List Int).map eI) es22 ez22 rfl rfl rfl rfl rfl wz ?_)
 obtain ⟨r_9, hr_10, hF⟩ := bind_some hF
 refine h_call0 (cmp_Or_int_ok hr_10) rfl hb141 rfl rfl rfl rfl wz (h_op (vI r_9) wz rfl (h_nil ?_))
 obtain rfl := some_inj hF
 exact wH_ret (fin0 (.inr rfl) [(vI r_9)] ⟨rfl, trivial⟩ rfl rfl rfl)
theorem proof_CheckBeats_ok {l_1 : (List Beat)} {r : Int} (hF : proof_CheckBeats l_1 = some r) :
  FnM Tryz.prog 215 [(vL Beat.enc l_1)] [] (vI r) [] := by
 refine FnM.of_wH ⟨Tryz.prog, 69, [], []⟩ rfl Tryz.func215 rfl rfl (Nat.le_of_ble_eq_true rfl) (by kernel_rfl) ?_
 unfold proof_CheckBeats at hF
 refine wH_seq (wH_region (h_op (vI 0) wz rfl (h_nil (wH_seq (wH_seq (wH_region (h_op (vL Beat.enc l_1) wz rfl (h_len un177 rfl wz (h_op (vB (decide ((l_1.length : Int) > 500))) wz rfl (h_nil ?_))))))))))
 rcases cond_some hF with ⟨hc_2, hF⟩ | ⟨hc_2, hF⟩
 ·refine wH_ift rfl hc_2 (wH_seq (wH_region (h_op (vI 2) wz rfl (h_nil ?_))))
  obtain rfl := some_inj hF
  exact wH_ret (fin0 (.inr rfl) [(vI 2)] ⟨rfl, trivial⟩ rfl rfl rfl)
 ·refine wH_iff rfl hc_2 (wH_skip (wH_seq (wH_seq (wH_region (h_op (vL Beat.enc l_1) wz rfl (h_len un177 rfl wz (h_op (vI 0) wz rfl (h_nil ?_))))))))
  obtain ⟨o_11, hj_12, hF⟩ := bind_some hF
  obtain ⟨hn_7, hj_12⟩ := forL_some hj_12
  refine wH_join (β := (Unit)) (fun (s_8 : Unit) => ([] : List (Nat × V))) (fun (s_8 : Unit) => ([] : Hp)) (fun p => o_11 = .go p) ?_ ?_
  ·refine wH_block (wH_loop (β := Nat × (List Beat) × (Unit)) (fun p => (fun (k_3 : Nat) (l_4 : List Beat) (s_8 : Unit) => ([(0, (vL Beat.enc l_1)), (8, (vL Beat.enc l_1)), (9, (vI (l_1.length : Int))), (10, (vI (k_3 : Int)))] : List (Nat × V))) p.1 p.2.1 p.2.2) (fun p => (fun (k_3 : Nat) (l_4 : List Beat) (s_8 : Unit) => ([] : Hp)) p.1 p.2.1 p.2.2) (fun p => forR (fun k x s => proof_CheckBeats_L1 l_1 k x s) p.2.1 p.1 p.2.2 = some o_11 ∧ (l_1).drop p.1 = p.2.1) (fun p => p.2.1.length) (0, l_1, ()) ⟨hj_12, rfl⟩ rfl (pre_r rfl) ?_)
   rintro ⟨k_3, l_4, s_8⟩ ⟨hL_10, hD_6⟩
   dsimp only at hL_10 hD_6
   cases l_4 with
   | nil =>
    obtain rfl := some_inj hL_10
    refine wH_seq (wH_region (h_op (vB (decide ((k_3 : Int) < (l_1.length : Int)))) wz rfl (h_nil ?_)))
    refine wH_seq (wH_iff rfl (drop_nil hD_6) (wH_exit ?_))
    exact cut_mk (s_8) rfl rfl (pre_r rfl)
   | cons x_5 l_4 =>
    obtain ⟨c_, hc_9, hL_10⟩ := bind_some hL_10
    refine wH_seq (wH_region (h_op (vB (decide ((k_3 : Int) < (l_1.length : Int)))) wz rfl (h_nil ?_)))
    refine wH_seq (wH_ift rfl (drop_cons hD_6) (wH_skip ?_))
    unfold proof_CheckBeats_L1 at hc_9
    refine wH_seq (wH_block (wH_seq (wH_region (h_op (vI (k_3 : Int)) wz rfl (h_ia es177 rfl rfl (drop_idx hD_6) rfl wz (h_ldc sz176 ag176 rfl (.d (.agg (Beat.enc x_5))) rfl wz (h_alloc 0 (.inl rfl) z176 rfl wz (fun n_13 => h_op (vI (k_3 : Int)) wz rfl (h_str 0 il ft 0 sz176 rfl rfl [(vS x_5.Player), (vI x_5.At), (vI x_5.Clock)] rfl wz (h_nil (wH_block (wH_seq (wH_region (h_far pl176_0 rfl 0 rfl wz (h_ldr 0 0 il ft sz9 ag9 rfl rfl (vS x_5.Player) rfl wz ?_)))))))))))))))
    obtain ⟨r_14, hr_15, hc_9⟩ := bind_some hc_9
    refine h_call0 (kit_IsKey_ok hr_15) rfl hb124 rfl rfl rfl rfl wz (h_op (vB (!r_14)) wz rfl (h_op (vB (!r_14)) wz rfl (h_nil ?_)))
    rcases cond_some hc_9 with ⟨hc_16, hc_9⟩ | ⟨hc_16, hc_9⟩
    ·refine wH_ift rfl hc_16 (wH_seq (wH_region (h_op (vI 5) wz rfl (h_nil ?_))))
     obtain rfl := some_inj hc_9
     obtain rfl := some_inj hL_10
     obtain rfl := some_inj hF
     exact wH_ret (fin0 (.inr rfl) [(vI 5)] ⟨rfl, trivial⟩ rfl rfl rfl)
    ·refine wH_iff rfl hc_16 (wH_seq ?_)
     obtain ⟨v_17, h_18, hc_9⟩ := bind_some hc_9
     refine wH_join (β := Unit) (fun _ => ([(0, (vL Beat.enc l_1)), (3, (vI (k_3 : Int))), (4, (.ref n_13 0 0)), (8, (vL Beat.enc l_1)), (9, (vI (l_1.length : Int))), (10, (vI (k_3 : Int))), (20, (vB v_17))] : List (Nat × V))) (fun _ => ([(n_13, some (.cells 3 [(vS x_5.Player), (vI x_5.At), (vI x_5.Clock)]))] : Hp)) (fun _ => True) ?_ ?_
     ·refine wH_region (h_far pl176_1 rfl 1 rfl wz (h_ldr 0 0 il ft sz3 ag3 rfl rfl (vI x_5.At) rfl wz ?_))
      obtain ⟨r_19, hr_20, h_18⟩ := bind_some h_18
      refine h_call0 (kit_IsMoment_ok hr_20) rfl hb136 rfl rfl rfl rfl wz (h_op (vB (!r_19)) wz rfl ?_)
      rcases cond_some h_18 with ⟨hc_21, h_18⟩ | ⟨hc_21, h_18⟩
      ·refine h_movb rfl hc_21 wz (h_skip wa (h_skip wa (h_skip wa (h_op (vB true) wz rfl (h_op (vB true) wz rfl (h_nil ?_))))))
       obtain rfl := some_inj h_18
       exact cu
      ·refine h_movb rfl hc_21 wz (h_far pl176_2 rfl 2 rfl wa (h_ldr 0 0 il ft sz3 ag3 rfl rfl (vI x_5.Clock) rfl wa ?_))
       obtain ⟨r_22, hr_23, h_18⟩ := bind_some h_18
       refine h_call0 (kit_Outside_ok hr_23) rfl hb86 rfl rfl rfl rfl wa (h_op (vB r_22) wz rfl (h_op (vB r_22) wz rfl (h_nil ?_)))
       obtain rfl := some_inj h_18
       exact cu
     ·rintro ⟨⟩ _ sl_ H_ hp_ hq_
      refine wH_at _ hp_ hq_ ?_
      rcases cond_some hc_9 with ⟨hc_24, hc_9⟩ | ⟨hc_24, hc_9⟩
      ·refine wH_ift rfl hc_24 (wH_seq (wH_region (h_op (vI 1) wz rfl (h_nil ?_))))
       obtain rfl := some_inj hc_9
       obtain rfl := some_inj hL_10
       obtain rfl := some_inj hF
       exact wH_ret (fin0 (.inr rfl) [(vI 1)] ⟨rfl, trivial⟩ rfl rfl rfl)
      ·refine wH_iff rfl hc_24 (wH_seq ?_)
       obtain ⟨v_25, h_26, hc_9⟩ := bind_some hc_9
       refine wH_join (β := Unit) (fun _ => ([(0, (vL Beat.enc l_1)), (3, (vI (k_3 : Int))), (4, (.ref n_13 0 0)), (8, (vL Beat.enc l_1)), (9, (vI (l_1.length : Int))), (10, (vI (k_3 : Int))), (30, (vB v_25))] : List (Nat × V))) (fun _ => ([(n_13, some (.cells 3 [(vS x_5.Player), (vI x_5.At), (vI x_5.Clock)]))] : Hp)) (fun _ => True) ?_ ?_
       ·refine wH_draws (h_op (vI (k_3 : Int)) wz rfl (h_op (vB (decide ((k_3 : Int) > 0))) wz rfl ?_))
        rcases cond_some h_26 with ⟨hc_27, h_26⟩ | ⟨hc_27, h_26⟩
        ·refine h_movb rfl hc_27 wz (h_op (vL Beat.enc l_1) wa rfl (h_op (vI (k_3 : Int)) wa rfl (h_op (vI (w64 ((k_3 : Int) - 1))) wa rfl ?_)))
         obtain ⟨y_28, hy_29, h_26⟩ := bind_some h_26
         refine h_ia es177 rfl rfl hy_29 rfl wa (h_ldc sz176 ag176 rfl (.d (.agg (Beat.enc y_28))) rfl wa (h_ldr 8 0 (.inr (by kernel_rfl)) (fun _ _ ag => trivial) sz176 ag176 rfl rfl (.d (.agg (Beat.enc x_5))) rfl wa ?_))
         obtain ⟨r_30, hr_31, h_26⟩ := bind_some h_26
         refine h_call0 (proof_compareBeats_ok hr_31) rfl hb266 rfl rfl rfl rfl wa (h_op (vB (decide (r_30 ≥ 0))) wa rfl (h_op (vB (decide (r_30 ≥ 0))) wz rfl (h_op (vB (decide (r_30 ≥ 0))) wz rfl (h_nil ?_))))
         obtain rfl := some_inj h_26
         exact cu
        ·refine h_movb rfl hc_27 wz (h_skip wa (h_skip wa (h_skip wa (h_skip wa (h_skip wa (h_skip wa (h_skip wa (h_skip wa (h_op (vB false) wz rfl (h_op (vB false) wz rfl (h_nil ?_)))))))))))
         obtain rfl := some_inj h_26
         exact cu
       ·rintro ⟨⟩ _ sl_ H_ hp_ hq_
        refine wH_at _ hp_ hq_ ?_
        rcases cond_some hc_9 with ⟨hc_32, hc_9⟩ | ⟨hc_32, hc_9⟩
        ·refine wH_ift rfl hc_32 (wH_seq (wH_region (h_op (vI 7) wz rfl (h_nil ?_))))
         obtain rfl := some_inj hc_9
         obtain rfl := some_inj hL_10
         obtain rfl := some_inj hF
         exact wH_ret (fin0 (.inr rfl) [(vI 7)] ⟨rfl, trivial⟩ rfl rfl rfl)
        ·refine wH_iff rfl hc_32 (wH_seq ?_)
         obtain ⟨v_33, h_34, hc_9⟩ := bind_some hc_9
         refine wH_join (β := Unit) (fun _ => ([(0, (vL Beat.enc l_1)), (8, (vL Beat.enc l_1)), (9, (vI (l_1.length : Int))), (10, (vI (k_3 : Int))), (43, (vB v_33))] : List (Nat × V))) (fun _ => ([(n_13, some (.cells 3 [(vS x_5.Player), (vI x_5.At), (vI x_5.Clock)]))] : Hp)) (fun _ => True) ?_ ?_
         ·refine wH_draws (h_op (vI (k_3 : Int)) wz rfl (h_op (vB (decide ((k_3 : Int) > 0))) wz rfl ?_))
          rcases cond_some h_34 with ⟨hc_35, h_34⟩ | ⟨hc_35, h_34⟩
          ·refine h_movb rfl hc_35 wz (h_far pl176_0 rfl 0 rfl wa (h_ldr 4 0 (.inr (by kernel_rfl)) (fun _ _ ag => trivial) sz9 ag9 rfl rfl (vS x_5.Player) rfl wa (h_op (vL Beat.enc l_1) wa rfl (h_op (vI (k_3 : Int)) wa rfl (h_op (vI (w64 ((k_3 : Int) - 1))) wa rfl ?_)))))
           obtain ⟨y_36, hy_37, h_34⟩ := bind_some h_34
           refine h_ia es177 rfl rfl hy_37 rfl wa (h_fac pl176_0 rfl [.str y_36.Player, .int .i64 y_36.At, .int .i64 y_36.Clock] rfl rfl wa (h_ldc sz9 ag9 rfl (vS y_36.Player) rfl wa (h_op (vB (sEq x_5.Player y_36.Player)) wa rfl (h_op (vB (sEq x_5.Player y_36.Player)) wz rfl ?_))))
           rcases cond_some h_34 with ⟨hc_38, h_34⟩ | ⟨hc_38, h_34⟩
           ·refine h_movb rfl hc_38 wz (h_far pl176_2 rfl 2 rfl wa (h_ldr 15 0 (.inr (by kernel_rfl)) (fun _ _ ag => ⟨.inl ⟨rfl, rfl⟩, trivial⟩) sz3 ag3 rfl rfl (vI x_5.Clock) rfl wa (h_op (vL Beat.enc l_1) wa rfl (h_op (vI (k_3 : Int)) wa rfl (h_op (vI (w64 ((k_3 : Int) - 1))) wa rfl ?_)))))
            obtain ⟨y_39, hy_40, h_34⟩ := bind_some h_34
            refine h_ia es177 rfl rfl hy_40 rfl wa (h_fac pl176_2 rfl [.int .i64 y_39.Clock] rfl rfl wa (h_ldc sz3 ag3 rfl (vI y_39.Clock) rfl wa (h_op (vB (decide (x_5.Clock ≤ y_39.Clock))) wa rfl (h_op (vB (decide (x_5.Clock ≤ y_39.Clock))) wz rfl (h_op (vB (decide (x_5.Clock ≤ y_39.Clock))) wz rfl (h_nil ?_))))))
            obtain rfl := some_inj h_34
            exact cu
           ·refine h_movb rfl hc_38 wz (h_skip wa (h_skip wa (h_skip wa (h_skip wa (h_skip wa (h_skip wa (h_skip wa (h_skip wa (h_skip wa (h_op (vB false) wz rfl (h_op (vB false) wz rfl (h_nil ?_))))))))))))
            obtain rfl := some_inj h_34
            exact cu
          ·refine h_movb rfl hc_35 wz (h_skip wa (h_skip wa (h_skip wa (h_skip wa (h_skip wa (h_skip wa (h_skip wa (h_skip wa (h_skip wa (h_op (vB false) wz rfl (h_op (vB false) wz rfl (h_skip wa (h_skip wa (h_skip wa (h_skip wa (h_skip wa (h_skip wa (h_skip wa (h_skip wa (h_skip wa (h_op (vB false) wz rfl (h_op (vB false) wz rfl (h_nil ?_)))))))))))))))))))))))
           obtain rfl := some_inj h_34
           exact cu
         ·rintro ⟨⟩ _ sl_ H_ hp_ hq_
          refine wH_at _ hp_ hq_ ?_
          rcases cond_some hc_9 with ⟨hc_41, hc_9⟩ | ⟨hc_41, hc_9⟩
          ·refine wH_ift rfl hc_41 (wH_seq (wH_region (h_op (vI 16) wz rfl (h_nil ?_))))
           obtain rfl := some_inj hc_9
           obtain rfl := some_inj hL_10
           obtain rfl := some_inj hF
           exact wH_ret (fin0 (.inr rfl) [(vI 16)] ⟨rfl, trivial⟩ rfl rfl rfl)
          ·refine wH_iff rfl hc_41 (wH_skip (wH_region (h_opw (w64_next hD_6 hn_7) wz rfl (h_op (vI ((k_3 + 1 : Nat) : Int)) wz rfl (h_nil ?_)))))
           obtain rfl := some_inj hc_9
           exact loop_mk (k_3 + 1, l_4, ()) ⟨hL_10, drop_next hD_6⟩ (Nat.lt_succ_self _) rfl (pre_r rfl)
  ·rintro s_8 ho_ sl_ H_ hp_ hq_
   subst ho_
   refine wH_at _ hp_ hq_ (wH_seq (wH_region (h_op (vI 0) wz rfl (h_nil ?_))))
   obtain rfl := some_inj hF
   exact wH_ret (fin0 (.inr rfl) [(vI 0)] ⟨rfl, trivial⟩ rfl rfl rfl)
theorem proof_beatsOf_ok {l_1 : (List Beat)} {player_2 : ByteArray} {back_3 : Bool} {r : (List Beat_)} (hF : proof_beatsOf l_1 player_2 back_3 = some r) :
  FnM Tryz.prog 217 [(vL Beat.enc l_1), (vS player_2), (vB back_3)] [] (vL Beat_.enc r) [] := by
 refine FnM.of_wH ⟨Tryz.prog, 41, [], []⟩ rfl Tryz.func217 rfl rfl (Nat.le_of_ble_eq_true rfl) (by kernel_rfl) ?_
 unfold proof_beatsOf at hF
 refine wH_seq (wH_region (h_op .nil wz rfl (h_nil (wH_seq (wH_region (h_op .nil wz rfl (h_nil (wH_seq (wH_seq (wH_region (h_op (vL Beat.enc l_1) wz rfl (h_len un177 rfl wz (h_op (vI 0) wz rfl (h_nil (wH_new (fun n_10 => ?_))))))))))))))))
 obtain ⟨o_15, hj_16, hF⟩ := bind_some hF
 obtain ⟨hn_8, hj_16⟩ := forL_some hj_16
 refine wH_join (β := ((List Beat_)) × Nm) (fun p => (fun (s_9 : (List Beat_)) (n_12 : Nm) => ([(7, (gV n_12 2 s_9))] : List (Nat × V))) p.1 p.2) (fun p => (fun (s_9 : (List Beat_)) (n_12 : Nm) => ([(n_12, gB 2 Beat_.enc s_9)] : Hp)) p.1 p.2) (fun p => o_15 = .go p.1) ?_ ?_
 ·refine wH_block (wH_loop (β := Nat × (List Beat) × ((List Beat_)) × Nm) (fun p => (fun (k_4 : Nat) (l_5 : List Beat) (s_9 : (List Beat_)) (n_12 : Nm) => ([(1, (vS player_2)), (2, (vB back_3)), (7, (gV n_12 2 s_9)), (10, (vL Beat.enc l_1)), (11, (vI (l_1.length : Int))), (12, (vI (k_4 : Int)))] : List (Nat × V))) p.1 p.2.1 p.2.2.1 p.2.2.2) (fun p => (fun (k_4 : Nat) (l_5 : List Beat) (s_9 : (List Beat_)) (n_12 : Nm) => ([(n_12, gB 2 Beat_.enc s_9)] : Hp)) p.1 p.2.1 p.2.2.1 p.2.2.2) (fun p => forR (fun k x s => proof_beatsOf_L1 player_2 back_3 k x s) p.2.1 p.1 p.2.2.1 = some o_15 ∧ (l_1).drop p.1 = p.2.1) (fun p => p.2.1.length) (0, l_1, ([] : List Beat_), n_10) ⟨hj_16, rfl⟩ rfl (pre_r rfl) ?_)
  rintro ⟨k_4, l_5, s_9, n_12⟩ ⟨hL_14, hD_7⟩
  dsimp only at hL_14 hD_7
  cases l_5 with
  | nil =>
   obtain rfl := some_inj hL_14
   refine wH_seq (wH_region (h_op (vB (decide ((k_4 : Int) < (l_1.length : Int)))) wz rfl (h_nil ?_)))
   refine wH_seq (wH_iff rfl (drop_nil hD_7) (wH_exit ?_))
   exact cut_mk (s_9, n_12) rfl rfl (pre_r rfl)
  | cons x_6 l_5 =>
   obtain ⟨c_, hc_13, hL_14⟩ := bind_some hL_14
   refine wH_seq (wH_region (h_op (vB (decide ((k_4 : Int) < (l_1.length : Int)))) wz rfl (h_nil ?_)))
   refine wH_seq (wH_ift rfl (drop_cons hD_7) (wH_skip ?_))
   unfold proof_beatsOf_L1 at hc_13
   refine wH_seq (wH_block (wH_seq (wH_region (h_ia es177 rfl rfl (drop_idx hD_7) rfl wz (h_ldc sz176 ag176 rfl (.d (.agg (Beat.enc x_6))) rfl wz (h_alloc 0 (.inl rfl) z176 rfl wz (fun n_17 => h_str 0 il ft 1 sz176 rfl rfl [(vS x_6.Player), (vI x_6.At), (vI x_6.Clock)] rfl wz (h_nil (wH_block (wH_seq (wH_region (h_far pl176_0 rfl 0 rfl wz (h_ldr 0 1 il ft sz9 ag9 rfl rfl (vS x_6.Player) rfl wz (h_op (vS player_2) wz rfl (h_op (vB (sNe x_6.Player player_2)) wz rfl (h_op (vB (sNe x_6.Player player_2)) wz rfl (h_nil ?_)))))))))))))))))
   obtain ⟨v_18, h_19, hc_13⟩ := bind_some hc_13
   refine wH_join (β := Nm) (fun (n_20 : Nm) => ([(1, (vS player_2)), (2, (vB back_3)), (7, (gV n_20 2 v_18)), (10, (vL Beat.enc l_1)), (11, (vI (l_1.length : Int))), (12, (vI (k_4 : Int)))] : List (Nat × V))) (fun (n_20 : Nm) => ([(n_20, gB 2 Beat_.enc v_18), (n_17, some (.cells 3 [(vS x_6.Player), (vI x_6.At), (vI x_6.Clock)]))] : Hp)) (fun _ => True) ?_ ?_
   ·rcases cond_some h_19 with ⟨hc_21, h_19⟩ | ⟨hc_21, h_19⟩
    ·refine wH_ift rfl hc_21 (wH_skip ?_)
     obtain rfl := some_inj h_19
     exact cut_mk n_12 trivial rfl (pre_r rfl)
    ·refine wH_iff rfl hc_21 (wH_seq (wH_region (h_op (vB back_3) wz rfl (h_op (vB back_3) wz rfl (h_nil ?_)))))
     rcases cond_some h_19 with ⟨hc_22, h_19⟩ | ⟨hc_22, h_19⟩
     ·refine wH_ift rfl hc_22 (wH_region (h_op (gV n_12 2 s_9) wz rfl (h_far pl176_1 rfl 1 rfl wz (h_ldr 0 1 il ft sz3 ag3 rfl rfl (vI x_6.At) rfl wz (h_far pl176_2 rfl 2 rfl wz (h_ldr 0 1 il ft sz3 ag3 rfl rfl (vI x_6.Clock) rfl wz (h_op (.d (.agg (Beat_.enc (⟨x_6.At, x_6.Clock⟩ : Beat_)))) wz (by kernel_rfl) (h_lit (([(⟨x_6.At, x_6.Clock⟩ : Beat_)] : List Beat_).map Beat_.enc) es287 ez287 rfl rfl rfl rfl rfl wz ?_))))))))
      obtain ⟨a_23, hz_24, h_19⟩ := bind_some h_19
      refine h_appg 0 il ft (i := 0) el287 el287 sz325 z325 rfl (by decide) by325 (by decide) (fun _ => rfl) rfl rfl rfl hz_24 wz (fun n_25 => h_op (gV n_25 2 a_23) wz rfl (h_nil ?_))
      obtain rfl := some_inj h_19
      exact cut_mk n_25 trivial rfl (pre_r rfl)
     ·refine wH_iff rfl hc_22 (wH_region (h_op (gV n_12 2 s_9) wz rfl (h_far pl176_2 rfl 2 rfl wz (h_ldr 0 1 il ft sz3 ag3 rfl rfl (vI x_6.Clock) rfl wz (h_far pl176_1 rfl 1 rfl wz (h_ldr 0 1 il ft sz3 ag3 rfl rfl (vI x_6.At) rfl wz (h_op (.d (.agg (Beat_.enc (⟨x_6.Clock, x_6.At⟩ : Beat_)))) wz (by kernel_rfl) (h_lit (([(⟨x_6.Clock, x_6.At⟩ : Beat_)] : List Beat_).map Beat_.enc) es287 ez287 rfl rfl rfl rfl rfl wz ?_))))))))
      obtain ⟨a_26, hz_27, h_19⟩ := bind_some h_19
      refine h_appg 0 il ft (i := 0) el287 el287 sz325 z325 rfl (by decide) by325 (by decide) (fun _ => rfl) rfl rfl rfl hz_27 wz (fun n_28 => h_op (gV n_28 2 a_26) wz rfl (h_nil ?_))
      obtain rfl := some_inj h_19
      exact cut_mk n_28 trivial rfl (pre_r rfl)
   ·rintro n_20 _ sl_ H_ hp_ hq_
    refine wH_at _ hp_ hq_ (wH_region (h_opw (w64_next hD_7 hn_8) wz rfl (h_op (vI ((k_4 + 1 : Nat) : Int)) wz rfl (h_nil ?_))))
    obtain rfl := some_inj hc_13
    exact loop_mk (k_4 + 1, l_5, v_18, n_20) ⟨hL_14, drop_next hD_7⟩ (Nat.lt_succ_self _) rfl (pre_r rfl)
 ·rintro ⟨s_9, n_12⟩ ho_ sl_ H_ hp_ hq_
  subst ho_
  refine wH_at _ hp_ hq_ (wH_seq (wH_region (h_op (gV n_12 2 s_9) wz rfl (h_op (gV n_12 2 s_9) wz rfl (h_nil (wH_frozg 0 rfl (wH_cog 6 0 rfl rfl (wH_cog 7 0 rfl rfl (wH_cog 40 0 rfl rfl ?_)))))))))
  obtain rfl := some_inj hF
  exact wH_ret (fin0 (.inr rfl) [(vL Beat_.enc s_9)] ⟨rfl, trivial⟩ rfl rfl rfl)
end Go.Proofs.YtpojeclokolkaaaGreatDoor.Law

