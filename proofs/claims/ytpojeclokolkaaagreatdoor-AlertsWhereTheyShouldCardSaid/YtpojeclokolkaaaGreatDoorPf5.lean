/-
 The machine computes these plain functions (written by a program of ours).
-/
import Derived.Test.YtpojeclokolkaaaGreatDoorFacts
import Derived.Test.YtpojeclokolkaaaGreatDoorDefs
import Derived.Test.YtpojeclokolkaaaGreatDoorPf4
open Go Go.Eng Go.Proofs
namespace Go.Proofs.YtpojeclokolkaaaGreatDoor.Law
set_option maxRecDepth 100000
set_option linter.unusedVariables false
set_option maxHeartbeats 1000000
theorem slices_BinarySearch_int_int_ok {x_1 : (List Int)} {target_2 : Int} {r : Int × Bool} (hF : slices_BinarySearch_int_int x_1 target_2 = some r) :
  FnM Tryz.prog 264 [(vL eI x_1), (vI target_2)] [] (.tup [(vI r.1), (vB r.2)]) [] := by
 refine FnM.of_wH ⟨Tryz.prog, 54, [], []⟩ rfl Tryz.func264 rfl rfl (Nat.le_of_ble_eq_true rfl) (by kernel_rfl) ?_
 unfold slices_BinarySearch_int_int at hF
 refine wH_seq (wH_region (h_op (vI 0) wz rfl (h_op (vB false) wz rfl (h_nil (wH_seq (wH_region (h_op (vL eI x_1) wz rfl (h_len un22 rfl wz (h_op (vI (x_1.length : Int)) wz rfl (h_nil (wH_seq (wH_region (h_op (vI (x_1.length : Int)) wz rfl (h_op (vI 0) wz rfl (h_op (vI (x_1.length : Int)) wz rfl (h_nil (wH_seq ?_)))))))))))))))))
 obtain ⟨o_11, hj_12, hF⟩ := bind_some hF
 obtain ⟨nq_34, hj_12⟩ := loopO_iter hj_12
 refine wH_join (β := (Int × Int)) (fun (s_8 : Int × Int) => ([(0, (vL eI x_1)), (1, (vI target_2)), (6, (vI (x_1.length : Int))), (7, (vI s_8.1))] : List (Nat × V))) (fun (s_8 : Int × Int) => ([] : Hp)) (fun p => o_11 = .go p) ?_ ?_
 ·refine wH_block (wH_loop (β := Nat × (Int × Int)) (fun p => (fun (k_3 : Nat) (s_8 : Int × Int) => ([(0, (vL eI x_1)), (1, (vI target_2)), (6, (vI (x_1.length : Int))), (7, (vI s_8.1)), (8, (vI s_8.2))] : List (Nat × V))) p.1 p.2) (fun p => (fun (k_3 : Nat) (s_8 : Int × Int) => ([] : Hp)) p.1 p.2) (fun p => iterN (fun s => slices_BinarySearch_int_int_L1 x_1 target_2 s) p.1 p.2 = some o_11) (fun p => p.1) (nq_34, (0, (x_1.length : Int))) hj_12 rfl (pre_r rfl) ?_)
  rintro ⟨k_3, s_8⟩ hL_10
  dsimp only at hL_10
  cases k_3 with
  | zero => cases hL_10
  | succ k_3 =>
   obtain ⟨c_, hc_9, hL_10⟩ := bind_some hL_10
   unfold slices_BinarySearch_int_int_L1 at hc_9
   refine wH_seq (wH_seq (wH_region (h_op (vI s_8.1) wz rfl (h_op (vI s_8.2) wz rfl (h_op (vB (decide (s_8.1 < s_8.2))) wz rfl (h_nil ?_))))))
   rcases cond_some hc_9 with ⟨hc_13, hc_9⟩ | ⟨hc_13, hc_9⟩
   ·refine wH_ift rfl hc_13 (wH_skip (wH_block (wH_seq (wH_region (h_op (vI s_8.1) wz rfl (h_op (vI s_8.2) wz rfl (h_op (vI (w64 (s_8.1 + s_8.2))) wz rfl (h_conv un3 un268 rfl wz ?_))))))))
    obtain ⟨q_14, hz_15, hc_9⟩ := bind_some hc_9
    refine h_shr rfl rfl hz_15 wz (h_conv un268 un3 rfl wz (h_op (vI (w64 q_14)) wz rfl (h_nil (wH_seq (wH_region (h_op (vL eI x_1) wz rfl (h_op (vI (w64 q_14)) wz rfl ?_)))))))
    obtain ⟨y_16, hy_17, hc_9⟩ := bind_some hc_9
    refine h_ia es22 rfl rfl hy_17 rfl wz (h_ldc sz3 ag3 rfl (vI y_16) rfl wz (h_op (vI target_2) wz rfl ?_))
    obtain ⟨r_18, hr_19, hc_9⟩ := bind_some hc_9
    refine h_call0 (cmp_Less_int_ok hr_19) rfl hb273 rfl rfl rfl rfl wz (h_nil ?_)
    rcases cond_some hc_9 with ⟨hc_20, hc_9⟩ | ⟨hc_20, hc_9⟩
    ·refine wH_ift rfl hc_20 (wH_region (h_op (vI (w64 q_14)) wz rfl (h_op (vI (w64 ((w64 q_14) + 1))) wz rfl (h_op (vI (w64 ((w64 q_14) + 1))) wz rfl (h_nil ?_)))))
     obtain rfl := some_inj hc_9
     exact loop_mk (k_3, ((w64 ((w64 q_14) + 1)), s_8.2)) hL_10 (Nat.lt_succ_self _) rfl (pre_r rfl)
    ·refine wH_iff rfl hc_20 (wH_region (h_op (vI (w64 q_14)) wz rfl (h_op (vI (w64 q_14)) wz rfl (h_nil ?_))))
     obtain rfl := some_inj hc_9
     exact loop_mk (k_3, (s_8.1, (w64 q_14))) hL_10 (Nat.lt_succ_self _) rfl (pre_r rfl)
   ·refine wH_iff rfl hc_13 (wH_exit ?_)
    obtain rfl := some_inj hc_9
    obtain rfl := some_inj hL_10
    exact cut_mk ((s_8.1, s_8.2)) rfl rfl (pre_r rfl)
 ·rintro s_8 ho_ sl_ H_ hp_ hq_
  subst ho_
  refine wH_at _ hp_ hq_ (wH_seq ?_)
  obtain ⟨v_21, h_22, hF⟩ := bind_some hF
  refine wH_join (β := Unit) (fun _ => ([(4, (vI s_8.1)), (5, (vB v_21))] : List (Nat × V))) (fun _ => ([] : Hp)) (fun _ => True) ?_ ?_
  ·refine wH_region (h_op (vI s_8.1) wz rfl (h_op (vI s_8.1) wz rfl (h_op (vI (x_1.length : Int)) wz rfl (h_op (vB (decide (s_8.1 < (x_1.length : Int)))) wz rfl ?_))))
   rcases cond_some h_22 with ⟨hc_23, h_22⟩ | ⟨hc_23, h_22⟩
   ·refine h_movb rfl hc_23 wz (h_op (vL eI x_1) wa rfl (h_op (vI s_8.1) wa rfl ?_))
    obtain ⟨y_24, hy_25, h_22⟩ := bind_some h_22
    refine h_ia es22 rfl rfl hy_25 rfl wa (h_ldc sz3 ag3 rfl (vI y_24) rfl wa (h_op (vI target_2) wa rfl (h_op (vB (y_24 == target_2)) wa rfl ?_)))
    rcases cond_some h_22 with ⟨hc_26, h_22⟩ | ⟨hc_26, h_22⟩
    ·refine h_movb rfl hc_26 wa (h_skip wa (h_skip wa (h_skip wa (h_skip wa (h_skip wa (h_skip wa (h_skip (wn rfl rfl) (h_skip (wn rfl rfl) (h_skip wa (h_op (vB true) wa rfl (h_op (vB true) wz rfl (h_op (vI s_8.1) wz rfl (h_op (vB true) wz rfl (h_nil ?_))))))))))))))
     obtain rfl := some_inj h_22
     exact cu
    ·refine h_movb rfl hc_26 wa (h_op (vL eI x_1) wa rfl (h_op (vI s_8.1) wa rfl ?_))
     obtain ⟨y_27, hy_28, h_22⟩ := bind_some h_22
     refine h_ia es22 rfl rfl hy_28 rfl wa (h_ldc sz3 ag3 rfl (vI y_27) rfl wa ?_)
     obtain ⟨r_29, hr_30, h_22⟩ := bind_some h_22
     refine h_call0 (slices_isNaN_int_ok hr_30) rfl hb300 rfl rfl rfl rfl wa ?_
     rcases cond_some h_22 with ⟨hc_31, h_22⟩ | ⟨hc_31, h_22⟩
     ·refine h_movb rfl hc_31 wa (h_op (vI target_2) wa rfl ?_)
      obtain ⟨r_32, hr_33, h_22⟩ := bind_some h_22
      refine h_call0 (slices_isNaN_int_ok hr_33) rfl hb300 rfl rfl rfl rfl wa (h_op (vB r_32) wa rfl (h_op (vB r_32) wa rfl (h_op (vB r_32) wz rfl (h_op (vI s_8.1) wz rfl (h_op (vB r_32) wz rfl (h_nil ?_))))))
      obtain rfl := some_inj h_22
      exact cu
     ·refine h_movb rfl hc_31 wa (h_skip wa (h_skip wa (h_op (vB false) wa rfl (h_op (vB false) wa rfl (h_op (vB false) wz rfl (h_op (vI s_8.1) wz rfl (h_op (vB false) wz rfl (h_nil ?_))))))))
      obtain rfl := some_inj h_22
      exact cu
   ·refine h_movb rfl hc_23 wz (h_skip wa (h_skip wa (h_skip wa (h_skip wa (h_skip wa (h_skip wa (h_skip wa (h_skip (wn rfl rfl) (h_skip (wn rfl rfl) (h_skip (wn rfl rfl) (h_skip (wn rfl rfl) (h_skip (wn rfl rfl) (h_skip (wn rfl rfl) (h_skip (wn rfl rfl) (h_skip (wn rfl rfl) (h_skip (wn rfl rfl) (h_skip wa (h_op (vB false) wz rfl (h_op (vI s_8.1) wz rfl (h_op (vB false) wz rfl (h_nil ?_)))))))))))))))))))))
    obtain rfl := some_inj h_22
    exact cu
  ·rintro ⟨⟩ _ sl_ H_ hp_ hq_
   refine wH_at _ hp_ hq_ ?_
   obtain rfl := some_inj hF
   exact wH_ret (fin0 (.inr rfl) [(vI s_8.1), (vB v_21)] ⟨rfl, ⟨rfl, trivial⟩⟩ rfl rfl rfl)
theorem schedule_isDay_ok {e_1 : Entry} {d_2 : Int} {r : Bool} (hF : schedule_isDay e_1 d_2 = some r) :
  FnM Tryz.prog 211 [(.d (.agg (Entry.enc e_1))), (vI d_2)] [] (vB r) [] := by
 refine FnM.of_wH ⟨Tryz.prog, 41, [], []⟩ rfl Tryz.func211 rfl rfl (Nat.le_of_ble_eq_true rfl) (by kernel_rfl) ?_
 unfold schedule_isDay at hF
 refine wH_seq (wH_region (h_box 0 (.inl rfl) [(vS e_1.Key), (vS e_1.Item), (vI e_1.Version), (vI e_1.First), (vI e_1.Last), (vI e_1.Every), (vI e_1.Days), (vL eI e_1.Except), (vI e_1.From), (vI e_1.To), (vI e_1.Prio), (vL eS e_1.Tags), (vB e_1.Gone)] rfl rfl wz (fun n_3 => h_op (vB false) wz rfl (h_nil (wH_seq (wH_seq ?_))))))
 obtain ⟨v_4, h_5, hF⟩ := bind_some hF
 refine wH_join (β := Unit) (fun _ => ([(1, (vI d_2)), (2, (.ref n_3 0 0)), (31, (vB v_4))] : List (Nat × V))) (fun _ => ([(n_3, some (.cells 13 [(vS e_1.Key), (vS e_1.Item), (vI e_1.Version), (vI e_1.First), (vI e_1.Last), (vI e_1.Every), (vI e_1.Days), (vL eI e_1.Except), (vI e_1.From), (vI e_1.To), (vI e_1.Prio), (vL eS e_1.Tags), (vB e_1.Gone)]))] : Hp)) (fun _ => True) ?_ ?_
 ·refine wH_draws (h_op (vI d_2) wz rfl (h_far pl170_3 rfl 3 rfl wz (h_ldr 2 0 (.inr (by kernel_rfl)) (fun _ _ ag => trivial) sz3 ag3 rfl rfl (vI e_1.First) rfl wz (h_far pl170_4 rfl 4 rfl wz (h_ldr 4 0 (.inr (by kernel_rfl)) (fun _ _ ag => ⟨.inl ⟨rfl, rfl⟩, trivial⟩) sz3 ag3 rfl rfl (vI e_1.Last) rfl wz ?_)))))
  obtain ⟨r_6, hr_7, h_5⟩ := bind_some h_5
  refine h_call0 (kit_Outside_ok hr_7) rfl hb86 rfl rfl rfl rfl wz ?_
  rcases cond_some h_5 with ⟨hc_8, h_5⟩ | ⟨hc_8, h_5⟩
  ·refine h_movb rfl hc_8 wz (h_skip wa (h_skip wa (h_skip wa (h_skip wa (h_skip wa (h_skip wa (h_skip wa (h_skip wa (h_op (vB true) wz rfl (h_op (vB true) wz rfl (h_skip wa (h_skip wa (h_skip wa (h_skip wa (h_skip wa (h_skip wa (h_skip wa (h_op (vB true) wz rfl (h_nil ?_)))))))))))))))))))
   obtain rfl := some_inj h_5
   exact cu
  ·refine h_movb rfl hc_8 wz (h_op (vI d_2) wa rfl (h_far pl170_3 rfl 3 rfl wa (h_ldr 9 0 (.inr (by kernel_rfl)) (fun _ _ ag => ⟨.inl ⟨rfl, rfl⟩, ⟨.inl ⟨rfl, rfl⟩, trivial⟩⟩) sz3 ag3 rfl rfl (vI e_1.First) rfl wa (h_op (vI (w64 (d_2 - e_1.First))) wa rfl (h_far pl170_5 rfl 5 rfl wa (h_ldr 12 0 (.inr (by kernel_rfl)) (fun _ _ ag => ⟨.inl ⟨rfl, rfl⟩, ⟨.inl ⟨rfl, rfl⟩, ⟨.inl ⟨rfl, rfl⟩, trivial⟩⟩⟩) sz3 ag3 rfl rfl (vI e_1.Every) rfl wa ?_))))))
   obtain ⟨q_9, hz_10, h_5⟩ := bind_some h_5
   refine h_rem rfl rfl hz_10 wa (h_op (vB (q_9 != 0)) wa rfl (h_op (vB (q_9 != 0)) wz rfl ?_))
   rcases cond_some h_5 with ⟨hc_11, h_5⟩ | ⟨hc_11, h_5⟩
   ·refine h_movb rfl hc_11 wz (h_skip wa (h_skip wa (h_skip wa (h_skip wa (h_skip wa (h_skip wa (h_skip wa (h_op (vB true) wz rfl (h_nil ?_)))))))))
    obtain rfl := some_inj h_5
    exact cu
   ·refine h_movb rfl hc_11 wz (h_far pl170_6 rfl 6 rfl wa (h_ldr 18 0 (.inr (by kernel_rfl)) (fun _ _ ag => ⟨.inl ⟨rfl, rfl⟩, ⟨.inl ⟨rfl, rfl⟩, ⟨.inl ⟨rfl, rfl⟩, ⟨.inl ⟨rfl, rfl⟩, trivial⟩⟩⟩⟩) sz3 ag3 rfl rfl (vI e_1.Days) rfl wa (h_op (vI d_2) wa rfl (h_op (vI (d_2.tmod 7)) wa rfl ?_))))
    obtain ⟨q_12, hz_13, h_5⟩ := bind_some h_5
    refine h_shl rfl rfl hz_13 wa (h_op (vI (andI .i64 e_1.Days q_12)) wa rfl (h_op (vB ((andI .i64 e_1.Days q_12) == 0)) wa rfl (h_op (vB ((andI .i64 e_1.Days q_12) == 0)) wz rfl (h_nil ?_))))
    obtain rfl := some_inj h_5
    exact cu
 ·rintro ⟨⟩ _ sl_ H_ hp_ hq_
  refine wH_at _ hp_ hq_ ?_
  rcases cond_some hF with ⟨hc_14, hF⟩ | ⟨hc_14, hF⟩
  ·refine wH_ift rfl hc_14 (wH_seq (wH_region (h_op (vB false) wz rfl (h_nil ?_))))
   obtain rfl := some_inj hF
   exact wH_ret (fin0 (.inr rfl) [(vB false)] ⟨rfl, trivial⟩ rfl rfl rfl)
  ·refine wH_iff rfl hc_14 (wH_skip (wH_seq (wH_region (h_far pl170_7 rfl 7 rfl wz (h_ldr 0 0 il ft sz22 ag22 rfl rfl (vL eI e_1.Except) rfl wz (h_op (vI d_2) wz rfl ?_))))))
   obtain ⟨r_15, hr_16, hF⟩ := bind_some hF
   refine h_call0 (slices_BinarySearch_int_int_ok hr_16) rfl hb264 rfl rfl rfl rfl wz (h_op (.tup [(vI r_15.1), (vB r_15.2)]) wz rfl (h_op (vI r_15.1) wz rfl (h_op (vB r_15.2) wz rfl (h_op (vI r_15.1) wz rfl (h_op (vB r_15.2) wz rfl (h_nil (wH_seq (wH_region (h_op (vB r_15.2) wz rfl (h_op (vB (!r_15.2)) wz rfl (h_op (vB (!r_15.2)) wz rfl (h_nil ?_))))))))))))
   obtain rfl := some_inj hF
   exact wH_ret (fin0 (.inr rfl) [(vB (!r_15.2))] ⟨rfl, trivial⟩ rfl rfl rfl)
theorem schedule_timeOf_ok {e_1 : Entry} {zone_2 : Int} {d_3 : Int} {r : Window} (hF : schedule_timeOf e_1 zone_2 d_3 = some r) :
  FnM Tryz.prog 212 [(.d (.agg (Entry.enc e_1))), (vI zone_2), (vI d_3)] [] (.d (.agg (Window.enc r))) [] := by
 refine FnM.of_wH ⟨Tryz.prog, 32, [], []⟩ rfl Tryz.func212 rfl rfl (Nat.le_of_ble_eq_true rfl) (by kernel_rfl) ?_
 unfold schedule_timeOf at hF
 refine wH_seq (wH_region (h_box 0 (.inl rfl) [(vS e_1.Key), (vS e_1.Item), (vI e_1.Version), (vI e_1.First), (vI e_1.Last), (vI e_1.Every), (vI e_1.Days), (vL eI e_1.Except), (vI e_1.From), (vI e_1.To), (vI e_1.Prio), (vL eS e_1.Tags), (vB e_1.Gone)] rfl rfl wz (fun n_4 => h_alloc 0 (.inl rfl) z109 rfl wz (fun n_5 => h_nil (wH_seq (wH_region (h_far pl170_9 rfl 9 rfl wz (h_ldr 0 0 il ft sz3 ag3 rfl rfl (vI e_1.To) rfl wz (h_far pl170_8 rfl 8 rfl wz (h_ldr 0 0 il ft sz3 ag3 rfl rfl (vI e_1.From) rfl wz (h_op (vI (w64 (e_1.To - e_1.From))) wz rfl (h_op (vI (w64 (e_1.To - e_1.From))) wz rfl (h_nil (wH_seq (wH_seq (wH_region (h_op (vI (w64 (e_1.To - e_1.From))) wz rfl (h_op (vB (decide ((w64 (e_1.To - e_1.From)) ≤ 0))) wz rfl (h_nil ?_)))))))))))))))))))
 obtain ⟨v_6, h_7, hF⟩ := bind_some hF
 refine wH_join (β := Unit) (fun _ => ([(1, (vI zone_2)), (2, (vI d_3)), (3, (.ref n_4 0 0)), (6, (.ref n_5 0 0)), (7, (vI v_6))] : List (Nat × V))) (fun _ => ([(n_4, some (.cells 13 [(vS e_1.Key), (vS e_1.Item), (vI e_1.Version), (vI e_1.First), (vI e_1.Last), (vI e_1.Every), (vI e_1.Days), (vL eI e_1.Except), (vI e_1.From), (vI e_1.To), (vI e_1.Prio), (vL eS e_1.Tags), (vB e_1.Gone)])), (n_5, some (.cells 2 [(vI 0), (vI 0)]))] : Hp)) (fun _ => True) ?_ ?_
 ·rcases cond_some h_7 with ⟨hc_8, h_7⟩ | ⟨hc_8, h_7⟩
  ·refine wH_ift rfl hc_8 (wH_region (h_op (vI (w64 (e_1.To - e_1.From))) wz rfl (h_op (vI (w64 ((w64 (e_1.To - e_1.From)) + 1440))) wz rfl (h_op (vI (w64 ((w64 (e_1.To - e_1.From)) + 1440))) wz rfl (h_nil ?_)))))
   obtain rfl := some_inj h_7
   exact cu
  ·refine wH_iff rfl hc_8 (wH_skip ?_)
   obtain rfl := some_inj h_7
   exact cu
 ·rintro ⟨⟩ _ sl_ H_ hp_ hq_
  refine wH_at _ hp_ hq_ (wH_seq (wH_region (h_op (vI d_3) wz rfl (h_op (vI (w64 (d_3 * 1440))) wz rfl (h_far pl170_8 rfl 8 rfl wz (h_ldr 0 0 il ft sz3 ag3 rfl rfl (vI e_1.From) rfl wz (h_op (vI (w64 ((w64 (d_3 * 1440)) + e_1.From))) wz rfl (h_op (vI zone_2) wz rfl (h_op (vI (w64 ((w64 ((w64 (d_3 * 1440)) + e_1.From)) - zone_2))) wz rfl (h_op (vI (w64 ((w64 ((w64 ((w64 (d_3 * 1440)) + e_1.From)) - zone_2)) * 60000))) wz rfl (h_op (vI (w64 ((w64 ((w64 ((w64 (d_3 * 1440)) + e_1.From)) - zone_2)) * 60000))) wz rfl (h_nil (wH_seq (wH_region (h_op (vI (w64 ((w64 ((w64 ((w64 (d_3 * 1440)) + e_1.From)) - zone_2)) * 60000))) wz rfl (h_op (vI (w64 ((w64 ((w64 ((w64 (d_3 * 1440)) + e_1.From)) - zone_2)) * 60000))) wz rfl (h_op (vI v_6) wz rfl (h_op (vI (w64 (v_6 * 60000))) wz rfl (h_op (vI (w64 ((w64 ((w64 ((w64 ((w64 (d_3 * 1440)) + e_1.From)) - zone_2)) * 60000)) + (w64 (v_6 * 60000))))) wz rfl (h_op (.d (.agg (Window.enc (⟨(w64 ((w64 ((w64 ((w64 (d_3 * 1440)) + e_1.From)) - zone_2)) * 60000)), (w64 ((w64 ((w64 ((w64 ((w64 (d_3 * 1440)) + e_1.From)) - zone_2)) * 60000)) + (w64 (v_6 * 60000))))⟩ : Window)))) wz (by kernel_rfl) (h_str 0 il ft 1 sz109 rfl rfl [(vI (w64 ((w64 ((w64 ((w64 (d_3 * 1440)) + e_1.From)) - zone_2)) * 60000))), (vI (w64 ((w64 ((w64 ((w64 ((w64 (d_3 * 1440)) + e_1.From)) - zone_2)) * 60000)) + (w64 (v_6 * 60000)))))] rfl wz (h_nil ?_))))))))))))))))))))))
  obtain rfl := some_inj hF
  exact wH_ret (fin0 (.inr rfl) [(.d (.agg (Window.enc (⟨(w64 ((w64 ((w64 ((w64 (d_3 * 1440)) + e_1.From)) - zone_2)) * 60000)), (w64 ((w64 ((w64 ((w64 ((w64 (d_3 * 1440)) + e_1.From)) - zone_2)) * 60000)) + (w64 (v_6 * 60000))))⟩ : Window))))] ⟨⟨1, _, _, _, _, _, _, _, rfl, rfl, sz109, ag109, rfl⟩, trivial⟩ rfl rfl rfl)
theorem schedule_cut_ok {t_1 : Window} {wv_2 : Window} {r : Window} (hF : schedule_cut t_1 wv_2 = some r) :
  FnM Tryz.prog 172 [(.d (.agg (Window.enc t_1))), (.d (.agg (Window.enc wv_2)))] [] (.d (.agg (Window.enc r))) [] := by
 refine FnM.of_wH ⟨Tryz.prog, 16, [], []⟩ rfl Tryz.func172 rfl rfl (Nat.le_of_ble_eq_true rfl) (by kernel_rfl) ?_
 unfold schedule_cut at hF
 refine wH_seq (wH_region (h_box 0 (.inl rfl) [(vI t_1.From), (vI t_1.To)] rfl rfl wz (fun n_3 => h_box 0 (.inl rfl) [(vI wv_2.From), (vI wv_2.To)] rfl rfl wz (fun n_4 => h_alloc 0 (.inl rfl) z109 rfl wz (fun n_5 => h_nil (wH_seq (wH_region (h_far pl109_0 rfl 0 rfl wz (h_ldr 0 0 il ft sz3 ag3 rfl rfl (vI t_1.From) rfl wz (h_far pl109_0 rfl 0 rfl wz (h_ldr 0 1 il ft sz3 ag3 rfl rfl (vI wv_2.From) rfl wz (h_minmax (vI (maxI t_1.From wv_2.From)) rfl (.inr rfl) wz (h_far pl109_1 rfl 1 rfl wz (h_ldr 0 0 il ft sz3 ag3 rfl rfl (vI t_1.To) rfl wz (h_far pl109_1 rfl 1 rfl wz (h_ldr 0 1 il ft sz3 ag3 rfl rfl (vI wv_2.To) rfl wz (h_minmax (vI (minI t_1.To wv_2.To)) rfl (.inl rfl) wz (h_op (.d (.agg (Window.enc (⟨(maxI t_1.From wv_2.From), (minI t_1.To wv_2.To)⟩ : Window)))) wz (by kernel_rfl) (h_str 0 il ft 2 sz109 rfl rfl [(vI (maxI t_1.From wv_2.From)), (vI (minI t_1.To wv_2.To))] rfl wz (h_nil ?_))))))))))))))))))))
 obtain rfl := some_inj hF
 exact wH_ret (fin0 (.inr rfl) [(.d (.agg (Window.enc (⟨(maxI t_1.From wv_2.From), (minI t_1.To wv_2.To)⟩ : Window))))] ⟨⟨2, _, _, _, _, _, _, _, rfl, rfl, sz109, ag109, rfl⟩, trivial⟩ rfl rfl rfl)
theorem schedule_times_okb {e_1 : Entry} {zone_2 : Int} {wv_3 : Window} {r : (List Window)} (hF : schedule_times e_1 zone_2 wv_3 = some r) :
  FnM Tryz.prog 171 [(.d (.agg (Entry.enc e_1))), (vI zone_2), (.d (.agg (Window.enc wv_3)))] [] (gV (extN 0) 2 r) (([] : List Box).map some ++ gO 2 Window.enc r) := by
 refine FnM.of_wH ⟨Tryz.prog, 72, [], []⟩ rfl Tryz.func171 rfl rfl (Nat.le_of_ble_eq_true rfl) (by kernel_rfl) ?_
 unfold schedule_times at hF
 refine wH_seq (wH_region (h_box 0 (.inl rfl) [(vS e_1.Key), (vS e_1.Item), (vI e_1.Version), (vI e_1.First), (vI e_1.Last), (vI e_1.Every), (vI e_1.Days), (vL eI e_1.Except), (vI e_1.From), (vI e_1.To), (vI e_1.Prio), (vL eS e_1.Tags), (vB e_1.Gone)] rfl rfl wz (fun n_4 => h_box 0 (.inl rfl) [(vI wv_3.From), (vI wv_3.To)] rfl rfl wz (fun n_5 => h_op .nil wz rfl (h_nil (wH_seq (wH_region (h_op .nil wz rfl (h_nil (wH_seq (wH_seq ?_)))))))))))
 obtain ⟨v_6, h_7, hF⟩ := bind_some hF
 refine wH_join (β := Unit) (fun _ => ([(1, (vI zone_2)), (3, (.ref n_4 0 0)), (5, (.ref n_5 0 0)), (7, .nil), (20, (vB v_6))] : List (Nat × V))) (fun _ => ([(n_4, some (.cells 13 [(vS e_1.Key), (vS e_1.Item), (vI e_1.Version), (vI e_1.First), (vI e_1.Last), (vI e_1.Every), (vI e_1.Days), (vL eI e_1.Except), (vI e_1.From), (vI e_1.To), (vI e_1.Prio), (vL eS e_1.Tags), (vB e_1.Gone)])), (n_5, some (.cells 2 [(vI wv_3.From), (vI wv_3.To)]))] : Hp)) (fun _ => True) ?_ ?_
 ·refine wH_region (h_far pl170_12 rfl 12 rfl wz (h_ldr 0 0 il ft sz4 ag4 rfl rfl (vB e_1.Gone) rfl wz ?_))
  rcases cond_some h_7 with ⟨hc_8, h_7⟩ | ⟨hc_8, h_7⟩
  ·refine h_movb rfl hc_8 wz (h_skip wa (h_skip wa (h_skip wa (h_skip wa (h_skip wa (h_op (vB true) wz rfl (h_nil ?_)))))))
   obtain rfl := some_inj h_7
   exact cu
  ·refine h_movb rfl hc_8 wz (h_far pl109_0 rfl 0 rfl wa (h_ldr 0 1 il ft sz3 ag3 rfl rfl (vI wv_3.From) rfl wa (h_far pl109_1 rfl 1 rfl wa (h_ldr 0 1 il ft sz3 ag3 rfl rfl (vI wv_3.To) rfl wa (h_op (vB (decide (wv_3.From ≥ wv_3.To))) wa rfl (h_op (vB (decide (wv_3.From ≥ wv_3.To))) wz rfl (h_nil ?_)))))))
   obtain rfl := some_inj h_7
   exact cu
 ·rintro ⟨⟩ _ sl_ H_ hp_ hq_
  refine wH_at _ hp_ hq_ ?_
  rcases cond_some hF with ⟨hc_9, hF⟩ | ⟨hc_9, hF⟩
  ·refine wH_ift rfl hc_9 (wH_seq (wH_region (h_op .nil wz rfl (h_nil (wH_new (fun n_10 => ?_))))))
   obtain rfl := some_inj hF
   exact wH_ret (finG (outs := ([] : List Box)) (.inr rfl) 2 rfl rfl rfl (by kernel_rfl) (by kernel_rfl))
  ·refine wH_iff rfl hc_9 (wH_skip (wH_seq (wH_region (h_far pl109_0 rfl 0 rfl wz (h_ldr 0 1 il ft sz3 ag3 rfl rfl (vI wv_3.From) rfl wz (h_op (vI zone_2) wz rfl (h_op (vI (w64 (zone_2 * 60000))) wz rfl (h_op (vI (w64 (wv_3.From + (w64 (zone_2 * 60000))))) wz rfl (h_op (vI (w64 ((w64 (wv_3.From + (w64 (zone_2 * 60000)))).tdiv 86400000))) wz rfl (h_op (vI (w64 ((w64 ((w64 (wv_3.From + (w64 (zone_2 * 60000)))).tdiv 86400000)) - 2))) wz rfl (h_op (vI (w64 ((w64 ((w64 (wv_3.From + (w64 (zone_2 * 60000)))).tdiv 86400000)) - 2))) wz rfl (h_nil (wH_seq (wH_region (h_far pl109_1 rfl 1 rfl wz (h_ldr 0 1 il ft sz3 ag3 rfl rfl (vI wv_3.To) rfl wz (h_op (vI zone_2) wz rfl (h_op (vI (w64 (zone_2 * 60000))) wz rfl (h_op (vI (w64 (wv_3.To + (w64 (zone_2 * 60000))))) wz rfl (h_op (vI (w64 ((w64 (wv_3.To + (w64 (zone_2 * 60000)))).tdiv 86400000))) wz rfl (h_op (vI (w64 ((w64 ((w64 (wv_3.To + (w64 (zone_2 * 60000)))).tdiv 86400000)) + 1))) wz rfl (h_op (vI (w64 ((w64 ((w64 (wv_3.To + (w64 (zone_2 * 60000)))).tdiv 86400000)) + 1))) wz rfl (h_nil ?_)))))))))))))))))))))))
   refine wH_seq (wH_seq (wH_region (h_op (vI (w64 ((w64 ((w64 (wv_3.From + (w64 (zone_2 * 60000)))).tdiv 86400000)) - 2))) wz rfl (h_far pl170_3 rfl 3 rfl wz (h_ldr 0 0 il ft sz3 ag3 rfl rfl (vI e_1.First) rfl wz (h_minmax (vI (maxI (w64 ((w64 ((w64 (wv_3.From + (w64 (zone_2 * 60000)))).tdiv 86400000)) - 2)) e_1.First)) rfl (.inr rfl) wz (h_op (vI (maxI (w64 ((w64 ((w64 (wv_3.From + (w64 (zone_2 * 60000)))).tdiv 86400000)) - 2)) e_1.First)) wz rfl (h_nil (wH_new (fun n_17 => ?_))))))))))
   obtain ⟨o_22, hj_23, hF⟩ := bind_some hF
   obtain ⟨nq_41, hj_23⟩ := loopO_iter hj_23
   refine wH_join (β := ((List Window) × Int) × Nm) (fun p => (fun (s_16 : (List Window) × Int) (n_19 : Nm) => ([(7, (gV n_19 2 s_16.1))] : List (Nat × V))) p.1 p.2) (fun p => (fun (s_16 : (List Window) × Int) (n_19 : Nm) => ([(n_4, some (.cells 13 [(vS e_1.Key), (vS e_1.Item), (vI e_1.Version), (vI e_1.First), (vI e_1.Last), (vI e_1.Every), (vI e_1.Days), (vL eI e_1.Except), (vI e_1.From), (vI e_1.To), (vI e_1.Prio), (vL eS e_1.Tags), (vB e_1.Gone)])), (n_5, some (.cells 2 [(vI wv_3.From), (vI wv_3.To)])), (n_19, gB 2 Window.enc s_16.1)] : Hp)) p.1 p.2) (fun p => o_22 = .go p.1) ?_ ?_
   ·refine wH_block (wH_loop (β := Nat × ((List Window) × Int) × Nm) (fun p => (fun (k_11 : Nat) (s_16 : (List Window) × Int) (n_19 : Nm) => ([(1, (vI zone_2)), (3, (.ref n_4 0 0)), (5, (.ref n_5 0 0)), (7, (gV n_19 2 s_16.1)), (9, (vI (w64 ((w64 ((w64 (wv_3.To + (w64 (zone_2 * 60000)))).tdiv 86400000)) + 1)))), (10, (vI s_16.2))] : List (Nat × V))) p.1 p.2.1 p.2.2) (fun p => (fun (k_11 : Nat) (s_16 : (List Window) × Int) (n_19 : Nm) => ([(n_4, some (.cells 13 [(vS e_1.Key), (vS e_1.Item), (vI e_1.Version), (vI e_1.First), (vI e_1.Last), (vI e_1.Every), (vI e_1.Days), (vL eI e_1.Except), (vI e_1.From), (vI e_1.To), (vI e_1.Prio), (vL eS e_1.Tags), (vB e_1.Gone)])), (n_5, some (.cells 2 [(vI wv_3.From), (vI wv_3.To)])), (n_19, gB 2 Window.enc s_16.1)] : Hp)) p.1 p.2.1 p.2.2) (fun p => iterN (fun s => schedule_times_L1 wv_3 zone_2 e_1 s) p.1 p.2.1 = some o_22) (fun p => p.1) (nq_41, (([] : List Window), (maxI (w64 ((w64 ((w64 (wv_3.From + (w64 (zone_2 * 60000)))).tdiv 86400000)) - 2)) e_1.First)), n_17) hj_23 rfl (pre_r rfl) ?_)
    rintro ⟨k_11, s_16, n_19⟩ hL_21
    dsimp only at hL_21
    cases k_11 with
    | zero => cases hL_21
    | succ k_11 =>
     obtain ⟨c_, hc_20, hL_21⟩ := bind_some hL_21
     unfold schedule_times_L1 at hc_20
     refine wH_seq (wH_seq (wH_region (h_op (vI s_16.2) wz rfl (h_op (vI (w64 ((w64 ((w64 (wv_3.To + (w64 (zone_2 * 60000)))).tdiv 86400000)) + 1))) wz rfl (h_far pl170_4 rfl 4 rfl wz (h_ldr 0 0 il ft sz3 ag3 rfl rfl (vI e_1.Last) rfl wz (h_minmax (vI (minI (w64 ((w64 ((w64 (wv_3.To + (w64 (zone_2 * 60000)))).tdiv 86400000)) + 1)) e_1.Last)) rfl (.inl rfl) wz (h_op (vB (decide (s_16.2 ≤ (minI (w64 ((w64 ((w64 (wv_3.To + (w64 (zone_2 * 60000)))).tdiv 86400000)) + 1)) e_1.Last)))) wz rfl (h_nil ?_)))))))))
     rcases cond_some hc_20 with ⟨hc_24, hc_20⟩ | ⟨hc_24, hc_20⟩
     ·refine wH_ift rfl hc_24 (wH_skip (wH_seq (wH_block (wH_seq (wH_seq (wH_region (h_ldr 0 0 il ft sz170 ag170 rfl rfl (.d (.agg (Entry.enc e_1))) rfl wz (h_op (vI s_16.2) wz rfl ?_))))))))
      obtain ⟨r_25, hr_26, hc_20⟩ := bind_some hc_20
      refine h_call0 (schedule_isDay_ok hr_26) rfl hb211 rfl rfl rfl rfl wz (h_op (vB (!r_25)) wz rfl (h_nil ?_))
      rcases cond_some hc_20 with ⟨hc_27, hc_20⟩ | ⟨hc_27, hc_20⟩
      ·refine wH_ift rfl hc_27 (wH_exit (wH_region (h_op (vI s_16.2) wz rfl (h_op (vI (w64 (s_16.2 + 1))) wz rfl (h_op (vI (w64 (s_16.2 + 1))) wz rfl (h_nil ?_))))))
       obtain rfl := some_inj hc_20
       exact loop_mk (k_11, (s_16.1, (w64 (s_16.2 + 1))), n_19) hL_21 (Nat.lt_succ_self _) rfl (pre_r rfl)
      ·refine wH_iff rfl hc_27 (wH_skip (wH_seq (wH_region (h_ldr 0 0 il ft sz170 ag170 rfl rfl (.d (.agg (Entry.enc e_1))) rfl wz (h_op (vI zone_2) wz rfl (h_op (vI s_16.2) wz rfl ?_))))))
       obtain ⟨r_28, hr_29, hc_20⟩ := bind_some hc_20
       refine h_call0 (schedule_timeOf_ok hr_29) rfl hb212 rfl rfl rfl rfl wz (h_alloc 0 (.inl rfl) z109 rfl wz (fun n_30 => h_str 0 il ft 3 sz109 rfl rfl [(vI r_28.From), (vI r_28.To)] rfl wz (h_nil (wH_seq ?_))))
       obtain ⟨v_31, h_32, hc_20⟩ := bind_some hc_20
       refine wH_join (β := Unit) (fun _ => ([(1, (vI zone_2)), (3, (.ref n_4 0 0)), (5, (.ref n_5 0 0)), (7, (gV n_19 2 s_16.1)), (9, (vI (w64 ((w64 ((w64 (wv_3.To + (w64 (zone_2 * 60000)))).tdiv 86400000)) + 1)))), (10, (vI s_16.2)), (11, (.ref n_30 0 0)), (66, (vB v_31))] : List (Nat × V))) (fun _ => ([(n_4, some (.cells 13 [(vS e_1.Key), (vS e_1.Item), (vI e_1.Version), (vI e_1.First), (vI e_1.Last), (vI e_1.Every), (vI e_1.Days), (vL eI e_1.Except), (vI e_1.From), (vI e_1.To), (vI e_1.Prio), (vL eS e_1.Tags), (vB e_1.Gone)])), (n_5, some (.cells 2 [(vI wv_3.From), (vI wv_3.To)])), (n_19, gB 2 Window.enc s_16.1), (n_30, some (.cells 2 [(vI r_28.From), (vI r_28.To)]))] : Hp)) (fun _ => True) ?_ ?_
       ·refine wH_region (h_far pl109_0 rfl 0 rfl wz (h_ldr 0 3 il ft sz3 ag3 rfl rfl (vI r_28.From) rfl wz (h_far pl109_1 rfl 1 rfl wz (h_ldr 0 1 il ft sz3 ag3 rfl rfl (vI wv_3.To) rfl wz (h_op (vB (decide (r_28.From < wv_3.To))) wz rfl ?_)))))
        rcases cond_some h_32 with ⟨hc_33, h_32⟩ | ⟨hc_33, h_32⟩
        ·refine h_movb rfl hc_33 wz (h_far pl109_1 rfl 1 rfl wa (h_ldr 0 3 il ft sz3 ag3 rfl rfl (vI r_28.To) rfl wa (h_far pl109_0 rfl 0 rfl wa (h_ldr 0 1 il ft sz3 ag3 rfl rfl (vI wv_3.From) rfl wa (h_op (vB (decide (r_28.To > wv_3.From))) wa rfl (h_op (vB (decide (r_28.To > wv_3.From))) wz rfl (h_nil ?_)))))))
         obtain rfl := some_inj h_32
         exact cu
        ·refine h_movb rfl hc_33 wz (h_skip wa (h_skip wa (h_skip wa (h_skip wa (h_skip wa (h_op (vB false) wz rfl (h_nil ?_)))))))
         obtain rfl := some_inj h_32
         exact cu
       ·rintro ⟨⟩ _ sl_ H_ hp_ hq_
        refine wH_at _ hp_ hq_ ?_
        obtain ⟨v_34, h_35, hc_20⟩ := bind_some hc_20
        refine wH_join (β := Nm) (fun (n_36 : Nm) => ([(1, (vI zone_2)), (3, (.ref n_4 0 0)), (5, (.ref n_5 0 0)), (7, (gV n_36 2 v_34)), (9, (vI (w64 ((w64 ((w64 (wv_3.To + (w64 (zone_2 * 60000)))).tdiv 86400000)) + 1)))), (10, (vI s_16.2))] : List (Nat × V))) (fun (n_36 : Nm) => ([(n_4, some (.cells 13 [(vS e_1.Key), (vS e_1.Item), (vI e_1.Version), (vI e_1.First), (vI e_1.Last), (vI e_1.Every), (vI e_1.Days), (vL eI e_1.Except), (vI e_1.From), (vI e_1.To), (vI e_1.Prio), (vL eS e_1.Tags), (vB e_1.Gone)])), (n_5, some (.cells 2 [(vI wv_3.From), (vI wv_3.To)])), (n_36, gB 2 Window.enc v_34), (n_30, some (.cells 2 [(vI r_28.From), (vI r_28.To)]))] : Hp)) (fun _ => True) ?_ ?_
        ·rcases cond_some h_35 with ⟨hc_37, h_35⟩ | ⟨hc_37, h_35⟩
         ·refine wH_ift rfl hc_37 (wH_region (h_op (gV n_19 2 s_16.1) wz rfl (h_ldr 0 3 il ft sz109 ag109 rfl rfl (.d (.agg (Window.enc r_28))) rfl wz (h_lit (([r_28] : List Window).map Window.enc) es166 ez166 rfl rfl rfl rfl rfl wz ?_))))
          obtain ⟨a_38, hz_39, h_35⟩ := bind_some h_35
          refine h_appg 0 il ft (i := 2) el166 el166 sz109 z109 rfl (by decide) by109 (by decide) (fun _ => rfl) rfl rfl rfl hz_39 wz (fun n_40 => h_op (gV n_40 2 a_38) wz rfl (h_nil ?_))
          obtain rfl := some_inj h_35
          exact cut_mk n_40 trivial rfl (pre_r rfl)
         ·refine wH_iff rfl hc_37 (wH_skip ?_)
          obtain rfl := some_inj h_35
          exact cut_mk n_19 trivial rfl (pre_r rfl)
        ·rintro n_36 _ sl_ H_ hp_ hq_
         refine wH_at _ hp_ hq_ (wH_region (h_op (vI s_16.2) wz rfl (h_op (vI (w64 (s_16.2 + 1))) wz rfl (h_op (vI (w64 (s_16.2 + 1))) wz rfl (h_nil ?_)))))
         obtain rfl := some_inj hc_20
         exact loop_mk (k_11, (v_34, (w64 (s_16.2 + 1))), n_36) hL_21 (Nat.lt_succ_self _) rfl (pre_r rfl)
     ·refine wH_iff rfl hc_24 (wH_exit ?_)
      obtain rfl := some_inj hc_20
      obtain rfl := some_inj hL_21
      exact cut_mk ((s_16.1, s_16.2), n_19) rfl rfl (pre_r rfl)
   ·rintro ⟨s_16, n_19⟩ ho_ sl_ H_ hp_ hq_
    subst ho_
    refine wH_at _ hp_ hq_ (wH_seq (wH_region (h_op (gV n_19 2 s_16.1) wz rfl (h_op (gV n_19 2 s_16.1) wz rfl (h_nil ?_)))))
    obtain rfl := some_inj hF
    exact wH_ret (finG (outs := ([] : List Box)) (.inr rfl) 2 rfl rfl rfl (by kernel_rfl) (by kernel_rfl))
theorem schedule_Times_ok {e_1 : Entry} {zone_2 : Int} {wv_3 : Window} {r : (List Window) × Int} (hF : schedule_Times e_1 zone_2 wv_3 = some r) :
  FnM Tryz.prog 90 [(.d (.agg (Entry.enc e_1))), (vI zone_2), (.d (.agg (Window.enc wv_3)))] [] (.tup [(vL Window.enc r.1), (vI r.2)]) [] := by
 refine FnM.of_wH ⟨Tryz.prog, 45, [], []⟩ rfl Tryz.func90 rfl rfl (Nat.le_of_ble_eq_true rfl) (by kernel_rfl) ?_
 unfold schedule_Times at hF
 refine wH_seq (wH_region (h_box 0 (.inl rfl) [(vS e_1.Key), (vS e_1.Item), (vI e_1.Version), (vI e_1.First), (vI e_1.Last), (vI e_1.Every), (vI e_1.Days), (vL eI e_1.Except), (vI e_1.From), (vI e_1.To), (vI e_1.Prio), (vL eS e_1.Tags), (vB e_1.Gone)] rfl rfl wz (fun n_4 => h_box 0 (.inl rfl) [(vI wv_3.From), (vI wv_3.To)] rfl rfl wz (fun n_5 => h_op .nil wz rfl (h_op (vI 0) wz rfl (h_nil (wH_seq (wH_seq (wH_region (h_ldr 0 0 il ft sz170 ag170 rfl rfl (.d (.agg (Entry.enc e_1))) rfl wz (h_lit (([e_1] : List Entry).map Entry.enc) es248 ez248 rfl rfl rfl rfl rfl wz ?_)))))))))))
 obtain ⟨r_6, hr_7, hF⟩ := bind_some hF
 refine h_call0 (schedule_CheckEntries_ok hr_7) rfl hb169 rfl rfl rfl rfl wz (h_op (vI r_6) wz rfl (h_nil (wH_seq (wH_region (h_op (vI r_6) wz rfl (h_op (vB (r_6 != 0)) wz rfl (h_nil ?_)))))))
 rcases cond_some hF with ⟨hc_8, hF⟩ | ⟨hc_8, hF⟩
 ·refine wH_ift rfl hc_8 (wH_seq (wH_region (h_op (vI r_6) wz rfl (h_op .nil wz rfl (h_op (vI r_6) wz rfl (h_nil ?_))))))
  obtain rfl := some_inj hF
  exact wH_ret (fin0 (.inr rfl) [.nil, (vI r_6)] ⟨rfl, ⟨rfl, trivial⟩⟩ rfl rfl rfl)
 ·refine wH_iff rfl hc_8 (wH_skip (wH_seq (wH_seq (wH_region (h_op (vI zone_2) wz rfl ?_)))))
  obtain ⟨r_9, hr_10, hF⟩ := bind_some hF
  refine h_call0 (kit_Outside_ok hr_10) rfl hb86 rfl rfl rfl rfl wz (h_nil ?_)
  rcases cond_some hF with ⟨hc_11, hF⟩ | ⟨hc_11, hF⟩
  ·refine wH_ift rfl hc_11 (wH_seq (wH_region (h_op .nil wz rfl (h_op (vI 1) wz rfl (h_nil ?_)))))
   obtain rfl := some_inj hF
   exact wH_ret (fin0 (.inr rfl) [.nil, (vI 1)] ⟨rfl, ⟨rfl, trivial⟩⟩ rfl rfl rfl)
  ·refine wH_iff rfl hc_11 (wH_skip (wH_seq (wH_seq (wH_region (h_ldr 0 1 il ft sz109 ag109 rfl rfl (.d (.agg (Window.enc wv_3))) rfl wz ?_)))))
   obtain ⟨r_12, hr_13, hF⟩ := bind_some hF
   refine h_call0 (schedule_windowFault_ok hr_13) rfl hb170 rfl rfl rfl rfl wz (h_op (vI r_12) wz rfl (h_nil (wH_seq (wH_region (h_op (vI r_12) wz rfl (h_op (vB (r_12 != 0)) wz rfl (h_nil ?_)))))))
   rcases cond_some hF with ⟨hc_14, hF⟩ | ⟨hc_14, hF⟩
   ·refine wH_ift rfl hc_14 (wH_seq (wH_region (h_op (vI r_12) wz rfl (h_op .nil wz rfl (h_op (vI r_12) wz rfl (h_nil ?_))))))
    obtain rfl := some_inj hF
    exact wH_ret (fin0 (.inr rfl) [.nil, (vI r_12)] ⟨rfl, ⟨rfl, trivial⟩⟩ rfl rfl rfl)
   ·refine wH_iff rfl hc_14 (wH_skip (wH_seq (wH_region (h_ldr 0 0 il ft sz170 ag170 rfl rfl (.d (.agg (Entry.enc e_1))) rfl wz (h_op (vI zone_2) wz rfl (h_ldr 0 1 il ft sz109 ag109 rfl rfl (.d (.agg (Window.enc wv_3))) rfl wz ?_))))))
    obtain ⟨r_15, hr_16, hF⟩ := bind_some hF
    refine h_callg [] (schedule_times_okb hr_16) rfl hb171 rfl (by kernel_rfl) (by kernel_rfl) (by kernel_rfl) (by kernel_rfl) (by kernel_rfl) rfl (by decide) (by kernel_rfl) wz ([(n_4, some (.cells 13 [(vS e_1.Key), (vS e_1.Item), (vI e_1.Version), (vI e_1.First), (vI e_1.Last), (vI e_1.Every), (vI e_1.Days), (vL eI e_1.Except), (vI e_1.From), (vI e_1.To), (vI e_1.Prio), (vL eS e_1.Tags), (vB e_1.Gone)])), (n_5, some (.cells 2 [(vI wv_3.From), (vI wv_3.To)]))] : Hp) (fun _ => by kernel_rfl) (fun n_18 => h_op (gV n_18 2 r_15) wz rfl (h_nil (wH_seq (wH_seq (wH_region (h_op (gV n_18 2 r_15) wz rfl (h_leng un166 rfl wz (h_op (vI 0) wz rfl (h_nil ?_)))))))))
    obtain ⟨o_27, hj_28, hF⟩ := bind_some hF
    obtain ⟨hn_23, hj_28⟩ := forL_some hj_28
    refine wH_join (β := ((List Window))) (fun (s_24 : (List Window)) => ([(10, (gV n_18 2 s_24))] : List (Nat × V))) (fun (s_24 : (List Window)) => ([(n_4, some (.cells 13 [(vS e_1.Key), (vS e_1.Item), (vI e_1.Version), (vI e_1.First), (vI e_1.Last), (vI e_1.Every), (vI e_1.Days), (vL eI e_1.Except), (vI e_1.From), (vI e_1.To), (vI e_1.Prio), (vL eS e_1.Tags), (vB e_1.Gone)])), (n_5, some (.cells 2 [(vI wv_3.From), (vI wv_3.To)])), (n_18, gB 2 Window.enc s_24)] : Hp)) (fun p => o_27 = .go p) ?_ ?_
    ·refine wH_block (wH_loop (β := Nat × (List Nat) × ((List Window))) (fun p => (fun (k_19 : Nat) (l_20 : List Nat) (s_24 : (List Window)) => ([(5, (.ref n_5 0 0)), (10, (gV n_18 2 s_24)), (30, (gV n_18 2 s_24)), (31, (vI (r_15.length : Int))), (32, (vI (k_19 : Int)))] : List (Nat × V))) p.1 p.2.1 p.2.2) (fun p => (fun (k_19 : Nat) (l_20 : List Nat) (s_24 : (List Window)) => ([(n_4, some (.cells 13 [(vS e_1.Key), (vS e_1.Item), (vI e_1.Version), (vI e_1.First), (vI e_1.Last), (vI e_1.Every), (vI e_1.Days), (vL eI e_1.Except), (vI e_1.From), (vI e_1.To), (vI e_1.Prio), (vL eS e_1.Tags), (vB e_1.Gone)])), (n_5, some (.cells 2 [(vI wv_3.From), (vI wv_3.To)])), (n_18, gB 2 Window.enc s_24)] : Hp)) p.1 p.2.1 p.2.2) (fun p => forR (fun k x s => schedule_Times_L1 wv_3 k x s) p.2.1 p.1 p.2.2 = some o_27 ∧ ((List.range ((r_15.length : Int)).toNat)).drop p.1 = p.2.1) (fun p => p.2.1.length) (0, (List.range ((r_15.length : Int)).toNat), r_15) ⟨hj_28, rfl⟩ rfl (pre_r rfl) ?_)
     rintro ⟨k_19, l_20, s_24⟩ ⟨hL_26, hD_22⟩
     dsimp only at hL_26 hD_22
     cases l_20 with
     | nil =>
      obtain rfl := some_inj hL_26
      refine wH_seq (wH_region (h_op (vB (decide ((k_19 : Int) < (r_15.length : Int)))) wz rfl (h_nil ?_)))
      refine wH_seq (wH_iff rfl (range_nil hD_22) (wH_exit ?_))
      exact cut_mk (s_24) rfl rfl (pre_r rfl)
     | cons x_21 l_20 =>
      obtain ⟨c_, hc_25, hL_26⟩ := bind_some hL_26
      refine wH_seq (wH_region (h_op (vB (decide ((k_19 : Int) < (r_15.length : Int)))) wz rfl (h_nil ?_)))
      refine wH_seq (wH_ift rfl (range_cons hD_22) (wH_skip ?_))
      unfold schedule_Times_L1 at hc_25
      refine wH_seq (wH_block (wH_seq (wH_region (h_op (vI (k_19 : Int)) wz rfl ?_))))
      obtain ⟨_, hi_29, hc_25⟩ := bind_some hc_25
      refine h_iavg es166 rfl rfl (inR_0 hi_29) (inR_lt hi_29) wz ?_
      obtain ⟨e_30, hy_31, hc_25⟩ := bind_some hc_25
      refine h_ldvg 0 2 il ft sz109 ag109 rfl rfl hy_31 (.d (.agg (Window.enc e_30))) rfl wz (h_alloc 0 (.inl rfl) z109 rfl wz (fun n_32 => h_op (vI (k_19 : Int)) wz rfl (h_str 0 il ft 3 sz109 rfl rfl [(vI e_30.From), (vI e_30.To)] rfl wz (h_nil (wH_region (h_op (gV n_18 2 s_24) wz rfl (h_op (vI (k_19 : Int)) wz rfl (h_ldr 0 3 il ft sz109 ag109 rfl rfl (.d (.agg (Window.enc e_30))) rfl wz (h_ldr 0 1 il ft sz109 ag109 rfl rfl (.d (.agg (Window.enc wv_3))) rfl wz ?_)))))))))
      obtain ⟨r_33, hr_34, hc_25⟩ := bind_some hc_25
      refine h_call0 (schedule_cut_ok hr_34) rfl hb172 rfl rfl rfl rfl wz ?_
      obtain ⟨_, hi_35, hc_25⟩ := bind_some hc_25
      refine h_iavg es166 rfl rfl (inR_0 hi_35) (inR_lt hi_35) wz ?_
      obtain ⟨e_36, hy_37, hc_25⟩ := bind_some hc_25
      refine h_stvg 0 il ft 2 sz109 rfl rfl hy_37 r_33 rfl wz (h_re (v' := (gV n_18 2 (s_24.set (0 + ((k_19 : Int)).toNat) r_33))) 10 rfl (gV_len (by simp)) (h_re (v' := (gV n_18 2 (s_24.set (0 + ((k_19 : Int)).toNat) r_33))) 30 rfl (gV_len (by simp)) (h_re (v' := (gV n_18 2 (s_24.set (0 + ((k_19 : Int)).toNat) r_33))) 37 rfl (gV_len (by simp)) (h_nil (wH_region (h_opw (w64_nextr hD_22 hn_23) wz rfl (h_op (vI ((k_19 + 1 : Nat) : Int)) wz rfl (h_nil ?_))))))))
      obtain rfl := some_inj hc_25
      exact loop_mk (k_19 + 1, l_20, (s_24.set (0 + ((k_19 : Int)).toNat) r_33)) ⟨hL_26, drop_next hD_22⟩ (Nat.lt_succ_self _) rfl (pre_r rfl)
    ·rintro s_24 ho_ sl_ H_ hp_ hq_
     subst ho_
     refine wH_at _ hp_ hq_ (wH_seq (wH_region (h_op (gV n_18 2 s_24) wz rfl (h_op (gV n_18 2 s_24) wz rfl (h_op (vI 0) wz rfl (h_nil (wH_frozg 2 rfl (wH_cog 6 2 rfl rfl (wH_cog 10 2 rfl rfl (wH_cog 44 2 rfl rfl ?_))))))))))
     obtain rfl := some_inj hF
     exact wH_ret (fin0 (.inr rfl) [(vL Window.enc s_24), (vI 0)] ⟨rfl, ⟨rfl, trivial⟩⟩ rfl rfl rfl)
theorem alert_find_1_ok {o_1 : Alert} {p_2 : ByteArray} {p_3 : Alert} {r : Bool} (hF : alert_find_1 o_1 p_2 p_3 = some r) :
  FnM Tryz.prog 234 [(.d (.agg (Alert.enc o_1))), (.ref (extN 0) 0 0), (.ref (extN 1) 0 0)] [(.cells 1 [(vS p_2)]), (.cells 9 [(vS p_3.Id), (vS p_3.Sender), (vI p_3.Kind), (vL eS p_3.Refs), (vI p_3.At), (vI p_3.Until), (vI p_3.Weight), (vL Rect.enc p_3.Areas), (vS p_3.Text)])] (vB r) [some (.cells 1 [(vS p_2)]), some (.cells 9 [(vS p_3.Id), (vS p_3.Sender), (vI p_3.Kind), (vL eS p_3.Refs), (vI p_3.At), (vI p_3.Until), (vI p_3.Weight), (vL Rect.enc p_3.Areas), (vS p_3.Text)])] := by
 refine FnM.of_wH ⟨Tryz.prog, 22, [], []⟩ rfl Tryz.func234 rfl rfl (Nat.le_of_ble_eq_true rfl) (by kernel_rfl) ?_
 unfold alert_find_1 at hF
 refine wH_seq (wH_region (h_box 0 (.inl rfl) [(vS o_1.Id), (vS o_1.Sender), (vI o_1.Kind), (vL eS o_1.Refs), (vI o_1.At), (vI o_1.Until), (vI o_1.Weight), (vL Rect.enc o_1.Areas), (vS o_1.Text)] rfl rfl wz (fun n_4 => h_op (vB false) wz rfl (h_nil (wH_seq ?_)))))
 obtain ⟨v_5, h_6, hF⟩ := bind_some hF
 refine wH_join (β := Unit) (fun _ => ([(4, (vB v_5))] : List (Nat × V))) (fun _ => ([((extN 0), some (.cells 1 [(vS p_2)])), ((extN 1), some (.cells 9 [(vS p_3.Id), (vS p_3.Sender), (vI p_3.Kind), (vL eS p_3.Refs), (vI p_3.At), (vI p_3.Until), (vI p_3.Weight), (vL Rect.enc p_3.Areas), (vS p_3.Text)])), (n_4, some (.cells 9 [(vS o_1.Id), (vS o_1.Sender), (vI o_1.Kind), (vL eS o_1.Refs), (vI o_1.At), (vI o_1.Until), (vI o_1.Weight), (vL Rect.enc o_1.Areas), (vS o_1.Text)]))] : Hp)) (fun _ => True) ?_ ?_
 ·refine wH_region (h_far pl82_0 rfl 0 rfl wz (h_ldr 0 2 il ft sz9 ag9 rfl rfl (vS o_1.Id) rfl wz (h_ldr 0 0 il ft sz9 ag9 rfl rfl (vS p_2) rfl wz (h_op (vB (sEq o_1.Id p_2)) wz rfl ?_))))
  rcases cond_some h_6 with ⟨hc_7, h_6⟩ | ⟨hc_7, h_6⟩
  ·refine h_movb rfl hc_7 wz (h_far pl82_1 rfl 1 rfl wa (h_ldr 0 2 il ft sz9 ag9 rfl rfl (vS o_1.Sender) rfl wa (h_far pl82_1 rfl 1 rfl wa (h_ldr 0 1 il ft sz9 ag9 rfl rfl (vS p_3.Sender) rfl wa (h_op (vB (sEq o_1.Sender p_3.Sender)) wa rfl (h_op (vB (sEq o_1.Sender p_3.Sender)) wz rfl ?_))))))
   rcases cond_some h_6 with ⟨hc_8, h_6⟩ | ⟨hc_8, h_6⟩
   ·refine h_movb rfl hc_8 wz (h_ldr 0 2 il ft sz82 ag82 rfl rfl (.d (.agg (Alert.enc o_1))) rfl wa (h_ldr 0 1 il ft sz82 ag82 rfl rfl (.d (.agg (Alert.enc p_3))) rfl wa ?_))
    obtain ⟨r_9, hr_10, h_6⟩ := bind_some h_6
    refine h_call0 (alert_compare_ok hr_10) rfl hb201 rfl rfl rfl rfl wa (h_op (vB (decide (r_9 < 0))) wa rfl (h_op (vB (decide (r_9 < 0))) wz rfl (h_op (vB (decide (r_9 < 0))) wz rfl (h_nil ?_))))
    obtain rfl := some_inj h_6
    exact cu
   ·refine h_movb rfl hc_8 wz (h_skip wa (h_skip wa (h_skip wa (h_skip wa (h_op (vB false) wz rfl (h_op (vB false) wz rfl (h_nil ?_)))))))
    obtain rfl := some_inj h_6
    exact cu
  ·refine h_movb rfl hc_7 wz (h_skip wa (h_skip wa (h_skip wa (h_skip wa (h_skip wa (h_op (vB false) wz rfl (h_op (vB false) wz rfl (h_skip wa (h_skip wa (h_skip wa (h_skip wa (h_op (vB false) wz rfl (h_op (vB false) wz rfl (h_nil ?_))))))))))))))
   obtain rfl := some_inj h_6
   exact cu
 ·rintro ⟨⟩ _ sl_ H_ hp_ hq_
  refine wH_at _ hp_ hq_ ?_
  obtain rfl := some_inj hF
  exact wH_ret (finB (.inr rfl) [(vB v_5)] _ [0, 1] [extN 0, extN 1] ⟨rfl, trivial⟩ (.cons (co_data rfl rfl) (.nil)) (by kernel_rfl) ⟨(by kernel_rfl), ⟨(by kernel_rfl), trivial⟩⟩ (by decide) (by kernel_rfl))
theorem slices_IndexFunc_api_Alert_api_Alert_ok {s_1 : (List Alert)} {f_2 : Alert → Option Bool} {r : Int} {gid : FuncId} {caps : List V} {Sin : List Box} (hfn : ∀ x0 r, f_2 x0 = some r → FnM Tryz.prog gid ([(.d (.agg (Alert.enc x0)))] ++ caps) Sin (vB r) (Sin.map some)) (hbF : hasBody Tryz.prog gid = true) (hcapF : caps.flatMap frz = [] ∧ caps.map co0 = caps) (hokF : okL Sin.length caps = true) (hsF : ∀ b ∈ Sin, b.ok Sin.length = true) (hmF : ∀ b ∈ Sin, b.mut = true) (hF : slices_IndexFunc_api_Alert_api_Alert s_1 f_2 = some r) :
  FnM Tryz.prog 58 [(vL Alert.enc s_1), (.fn gid caps)] Sin (vI r) (Sin.map some) := by
 refine FnM.of_wH ⟨Tryz.prog, 19, [], []⟩ rfl Tryz.func58 rfl rfl (Nat.le_of_ble_eq_true rfl) (by kernel_rfl) ?_
 unfold slices_IndexFunc_api_Alert_api_Alert at hF
 refine wH_seq (wH_region (h_op (vI 0) wz rfl (h_nil (wH_seq (wH_seq (wH_region (h_op (vL Alert.enc s_1) wz rfl (h_len un78 rfl wz (h_op (vI 0) wz rfl (h_nil ?_))))))))))
 obtain ⟨o_11, hj_12, hF⟩ := bind_some hF
 obtain ⟨hn_7, hj_12⟩ := forL_some hj_12
 refine wH_join (β := (Unit)) (fun (s_8 : Unit) => ([] : List (Nat × V))) (fun (s_8 : Unit) => (initH 0 Sin)) (fun p => o_11 = .go p) ?_ ?_
 ·refine wH_block (wH_loop (β := Nat × (List Alert) × (Unit)) (fun p => (fun (k_3 : Nat) (l_4 : List Alert) (s_8 : Unit) => ([(0, (vL Alert.enc s_1)), (1, (.fn gid caps)), (7, (vI (s_1.length : Int))), (8, (vI (k_3 : Int)))] : List (Nat × V))) p.1 p.2.1 p.2.2) (fun p => (fun (k_3 : Nat) (l_4 : List Alert) (s_8 : Unit) => (initH 0 Sin)) p.1 p.2.1 p.2.2) (fun p => forR (fun k x s => slices_IndexFunc_api_Alert_api_Alert_L1 f_2 k x s) p.2.1 p.1 p.2.2 = some o_11 ∧ (s_1).drop p.1 = p.2.1) (fun p => p.2.1.length) (0, s_1, ()) ⟨hj_12, rfl⟩ rfl (pre_self _) ?_)
  rintro ⟨k_3, l_4, s_8⟩ ⟨hL_10, hD_6⟩
  dsimp only at hL_10 hD_6
  cases l_4 with
  | nil =>
   obtain rfl := some_inj hL_10
   refine wH_seq (wH_region (h_op (vB (decide ((k_3 : Int) < (s_1.length : Int)))) wz rfl (h_nil ?_)))
   refine wH_seq (wH_iff rfl (drop_nil hD_6) (wH_exit ?_))
   exact cut_mk (s_8) rfl rfl (pre_self _)
  | cons x_5 l_4 =>
   obtain ⟨c_, hc_9, hL_10⟩ := bind_some hL_10
   refine wH_seq (wH_region (h_op (vB (decide ((k_3 : Int) < (s_1.length : Int)))) wz rfl (h_nil ?_)))
   refine wH_seq (wH_ift rfl (drop_cons hD_6) (wH_skip ?_))
   unfold slices_IndexFunc_api_Alert_api_Alert_L1 at hc_9
   refine wH_seq (wH_block (wH_seq (wH_region (h_op (vI (k_3 : Int)) wz rfl (h_op (vI (k_3 : Int)) wz rfl (h_nil (wH_seq (wH_region (h_op (.fn gid caps) wz rfl (h_op (vL Alert.enc s_1) wz rfl (h_op (vI (k_3 : Int)) wz rfl (h_ia es78 rfl rfl (drop_idx hD_6) rfl wz (h_ldc sz82 ag82 rfl (.d (.agg (Alert.enc x_5))) rfl wz ?_)))))))))))))
   obtain ⟨r_13, hr_14, hc_9⟩ := bind_some hc_9
   refine h_callS (hfn _ _ hr_14) rfl hbF rfl rfl hcapF hokF hsF hmF rfl wz rfl (h_nil ?_)
   rcases cond_some hc_9 with ⟨hc_15, hc_9⟩ | ⟨hc_15, hc_9⟩
   ·refine wH_ift rfl hc_15 (wH_seq (wH_region (h_op (vI (k_3 : Int)) wz rfl (h_op (vI (k_3 : Int)) wz rfl (h_nil ?_)))))
    obtain rfl := some_inj hc_9
    obtain rfl := some_inj hL_10
    obtain rfl := some_inj hF
    exact wH_ret (finS hsF (.inr rfl) [(vI (k_3 : Int))] ⟨rfl, trivial⟩ rfl rfl rfl)
   ·refine wH_iff rfl hc_15 (wH_skip (wH_region (h_opw (w64_next hD_6 hn_7) wz rfl (h_op (vI ((k_3 + 1 : Nat) : Int)) wz rfl (h_nil ?_)))))
    obtain rfl := some_inj hc_9
    exact loop_mk (k_3 + 1, l_4, ()) ⟨hL_10, drop_next hD_6⟩ (Nat.lt_succ_self _) rfl (pre_self _)
 ·rintro s_8 ho_ sl_ H_ hp_ hq_
  subst ho_
  refine wH_at _ hp_ hq_ (wH_seq (wH_region (h_op (vI (-1)) wz rfl (h_nil ?_))))
  obtain rfl := some_inj hF
  exact wH_ret (finS hsF (.inr rfl) [(vI (-1))] ⟨rfl, trivial⟩ rfl rfl rfl)
theorem alert_find_ok {l_1 : (List Alert)} {a_2 : Alert} {ref_3 : ByteArray} {r : Int} (hF : alert_find l_1 a_2 ref_3 = some r) :
  FnM Tryz.prog 193 [(vL Alert.enc l_1), (.d (.agg (Alert.enc a_2))), (vS ref_3)] [] (vI r) [] := by
 refine FnM.of_wH ⟨Tryz.prog, 10, [], []⟩ rfl Tryz.func193 rfl rfl (Nat.le_of_ble_eq_true rfl) (by kernel_rfl) ?_
 unfold alert_find at hF
 refine wH_seq (wH_region (h_box 0 (.inl rfl) [(vS a_2.Id), (vS a_2.Sender), (vI a_2.Kind), (vL eS a_2.Refs), (vI a_2.At), (vI a_2.Until), (vI a_2.Weight), (vL Rect.enc a_2.Areas), (vS a_2.Text)] rfl rfl wz (fun n_4 => h_box 0 (.inl rfl) [(vS ref_3)] rfl rfl wz (fun n_5 => h_op (vI 0) wz rfl (h_nil (wH_seq (wH_region (h_op (vL Alert.enc l_1) wz rfl (h_op (.fn 234 [(.ref n_5 0 0), (.ref n_4 0 0)]) wz rfl ?_)))))))))
 obtain ⟨r_6, hr_7, hF⟩ := bind_some hF
 refine h_callq 0 [1, 0] il ft (slices_IndexFunc_api_Alert_api_Alert_ok (gid := 234) (caps := [.ref (extN 0) 0 0, .ref (extN 1) 0 0]) (Sin := [(.cells 1 [(vS ref_3)]), (.cells 9 [(vS a_2.Id), (vS a_2.Sender), (vI a_2.Kind), (vL eS a_2.Refs), (vI a_2.At), (vI a_2.Until), (vI a_2.Weight), (vL Rect.enc a_2.Areas), (vS a_2.Text)])]) (fun _ _ h_ => alert_find_1_ok h_) hb234 ⟨rfl, rfl⟩ (by kernel_rfl) (all_ok (by kernel_rfl)) (all_mut (by kernel_rfl)) hr_7) rfl hb58 rfl (by kernel_rfl) (by kernel_rfl) (by kernel_rfl) (by kernel_rfl) (by kernel_rfl) (by kernel_rfl) (by kernel_rfl) (by decide) (by kernel_rfl) wz (vI r_6) (by kernel_rfl) ([(n_4, some (.cells 9 [(vS a_2.Id), (vS a_2.Sender), (vI a_2.Kind), (vL eS a_2.Refs), (vI a_2.At), (vI a_2.Until), (vI a_2.Weight), (vL Rect.enc a_2.Areas), (vS a_2.Text)])), (n_5, some (.cells 1 [(vS ref_3)]))] : Hp) (by kernel_rfl) (h_op (vI r_6) wz rfl (h_nil ?_))
 obtain rfl := some_inj hF
 exact wH_ret (fin0 (.inr rfl) [(vI r_6)] ⟨rfl, trivial⟩ rfl rfl rfl)
theorem alert_ends_ok {l_1 : (List Alert)} {r : (List Int)} (hF : alert_ends l_1 = some r) :
  FnM Tryz.prog 117 [(vL Alert.enc l_1)] [] (vL eI r) [] := by
 refine FnM.of_wH ⟨Tryz.prog, 55, [], []⟩ rfl Tryz.func117 rfl rfl (Nat.le_of_ble_eq_true rfl) (by kernel_rfl) ?_
 unfold alert_ends at hF
 refine wH_seq (wH_region (h_op .nil wz rfl (h_nil (wH_seq (wH_region (h_op .nil wz rfl (h_nil (wH_seq (wH_seq (wH_region (h_op (vL Alert.enc l_1) wz rfl (h_len un78 rfl wz (h_op (vI 0) wz rfl (h_nil (wH_new (fun n_8 => ?_))))))))))))))))
 obtain ⟨o_13, hj_14, hF⟩ := bind_some hF
 obtain ⟨hn_6, hj_14⟩ := forL_some hj_14
 refine wH_join (β := ((List Int)) × Nm) (fun p => (fun (s_7 : (List Int)) (n_10 : Nm) => ([(0, (vL Alert.enc l_1)), (3, (gV n_10 1 s_7))] : List (Nat × V))) p.1 p.2) (fun p => (fun (s_7 : (List Int)) (n_10 : Nm) => ([(n_10, gB 1 eI s_7)] : Hp)) p.1 p.2) (fun p => o_13 = .go p.1) ?_ ?_
 ·refine wH_block (wH_loop (β := Nat × (List Alert) × ((List Int)) × Nm) (fun p => (fun (k_2 : Nat) (l_3 : List Alert) (s_7 : (List Int)) (n_10 : Nm) => ([(0, (vL Alert.enc l_1)), (3, (gV n_10 1 s_7)), (11, (vL Alert.enc l_1)), (12, (vI (l_1.length : Int))), (13, (vI (k_2 : Int)))] : List (Nat × V))) p.1 p.2.1 p.2.2.1 p.2.2.2) (fun p => (fun (k_2 : Nat) (l_3 : List Alert) (s_7 : (List Int)) (n_10 : Nm) => ([(n_10, gB 1 eI s_7)] : Hp)) p.1 p.2.1 p.2.2.1 p.2.2.2) (fun p => forR (fun k x s => alert_ends_L1 k x s) p.2.1 p.1 p.2.2.1 = some o_13 ∧ (l_1).drop p.1 = p.2.1) (fun p => p.2.1.length) (0, l_1, ([] : List Int), n_8) ⟨hj_14, rfl⟩ rfl (pre_r rfl) ?_)
  rintro ⟨k_2, l_3, s_7, n_10⟩ ⟨hL_12, hD_5⟩
  dsimp only at hL_12 hD_5
  cases l_3 with
  | nil =>
   obtain rfl := some_inj hL_12
   refine wH_seq (wH_region (h_op (vB (decide ((k_2 : Int) < (l_1.length : Int)))) wz rfl (h_nil ?_)))
   refine wH_seq (wH_iff rfl (drop_nil hD_5) (wH_exit ?_))
   exact cut_mk (s_7, n_10) rfl rfl (pre_r rfl)
  | cons x_4 l_3 =>
   obtain ⟨c_, hc_11, hL_12⟩ := bind_some hL_12
   refine wH_seq (wH_region (h_op (vB (decide ((k_2 : Int) < (l_1.length : Int)))) wz rfl (h_nil ?_)))
   refine wH_seq (wH_ift rfl (drop_cons hD_5) (wH_skip ?_))
   unfold alert_ends_L1 at hc_11
   refine wH_seq (wH_block (wH_seq (wH_region (h_ia es78 rfl rfl (drop_idx hD_5) rfl wz (h_ldc sz82 ag82 rfl (.d (.agg (Alert.enc x_4))) rfl wz (h_alloc 0 (.inl rfl) z82 rfl wz (fun n_15 => h_str 0 il ft 1 sz82 rfl rfl [(vS x_4.Id), (vS x_4.Sender), (vI x_4.Kind), (vL eS x_4.Refs), (vI x_4.At), (vI x_4.Until), (vI x_4.Weight), (vL Rect.enc x_4.Areas), (vS x_4.Text)] rfl wz (h_nil (wH_region (h_op (gV n_10 1 s_7) wz rfl (h_far pl82_5 rfl 5 rfl wz (h_ldr 0 1 il ft sz3 ag3 rfl rfl (vI x_4.Until) rfl wz (h_lit (([x_4.Until] : List Int).map eI) es22 ez22 rfl rfl rfl rfl rfl wz ?_)))))))))))))
   obtain ⟨a_16, hz_17, hc_11⟩ := bind_some hc_11
   refine h_appg 0 il ft (i := 0) el22 el22 sz3 z3 rfl (by decide) by3 (by decide) (fun _ => rfl) rfl rfl rfl hz_17 wz (fun n_18 => h_op (gV n_18 1 a_16) wz rfl (h_nil (wH_region (h_opw (w64_next hD_5 hn_6) wz rfl (h_op (vI ((k_2 + 1 : Nat) : Int)) wz rfl (h_nil ?_))))))
   obtain rfl := some_inj hc_11
   exact loop_mk (k_2 + 1, l_3, a_16, n_18) ⟨hL_12, drop_next hD_5⟩ (Nat.lt_succ_self _) rfl (pre_r rfl)
 ·rintro ⟨s_7, n_10⟩ ho_ sl_ H_ hp_ hq_
  subst ho_
  refine wH_at _ hp_ hq_ (wH_seq (wH_seq (wH_region (h_op (vL Alert.enc l_1) wz rfl (h_len un78 rfl wz (h_op (vI 0) wz rfl (h_nil ?_)))))))
  obtain ⟨o_27, hj_28, hF⟩ := bind_some hF
  obtain ⟨hn_23, hj_28⟩ := forL_some hj_28
  refine wH_join (β := ((List Int))) (fun (s_24 : (List Int)) => ([(3, (gV n_10 1 s_24))] : List (Nat × V))) (fun (s_24 : (List Int)) => ([(n_10, gB 1 eI s_24)] : Hp)) (fun p => o_27 = .go p) ?_ ?_
  ·refine wH_block (wH_loop (β := Nat × (List Alert) × ((List Int))) (fun p => (fun (k_19 : Nat) (l_20 : List Alert) (s_24 : (List Int)) => ([(0, (vL Alert.enc l_1)), (3, (gV n_10 1 s_24)), (23, (vL Alert.enc l_1)), (24, (vI (l_1.length : Int))), (25, (vI (k_19 : Int)))] : List (Nat × V))) p.1 p.2.1 p.2.2) (fun p => (fun (k_19 : Nat) (l_20 : List Alert) (s_24 : (List Int)) => ([(n_10, gB 1 eI s_24)] : Hp)) p.1 p.2.1 p.2.2) (fun p => forR (fun k x s => alert_ends_L3 l_1 k x s) p.2.1 p.1 p.2.2 = some o_27 ∧ (l_1).drop p.1 = p.2.1) (fun p => p.2.1.length) (0, l_1, s_7) ⟨hj_28, rfl⟩ rfl (pre_r rfl) ?_)
   rintro ⟨k_19, l_20, s_24⟩ ⟨hL_26, hD_22⟩
   dsimp only at hL_26 hD_22
   cases l_20 with
   | nil =>
    obtain rfl := some_inj hL_26
    refine wH_seq (wH_region (h_op (vB (decide ((k_19 : Int) < (l_1.length : Int)))) wz rfl (h_nil ?_)))
    refine wH_seq (wH_iff rfl (drop_nil hD_22) (wH_exit ?_))
    exact cut_mk (s_24) rfl rfl (pre_r rfl)
   | cons x_21 l_20 =>
    obtain ⟨c_, hc_25, hL_26⟩ := bind_some hL_26
    refine wH_seq (wH_region (h_op (vB (decide ((k_19 : Int) < (l_1.length : Int)))) wz rfl (h_nil ?_)))
    refine wH_seq (wH_ift rfl (drop_cons hD_22) (wH_skip ?_))
    unfold alert_ends_L3 at hc_25
    refine wH_seq (wH_block (wH_seq (wH_region (h_ia es78 rfl rfl (drop_idx hD_22) rfl wz (h_ldc sz82 ag82 rfl (.d (.agg (Alert.enc x_21))) rfl wz (h_alloc 0 (.inl rfl) z82 rfl wz (fun n_29 => h_str 0 il ft 1 sz82 rfl rfl [(vS x_21.Id), (vS x_21.Sender), (vI x_21.Kind), (vL eS x_21.Refs), (vI x_21.At), (vI x_21.Until), (vI x_21.Weight), (vL Rect.enc x_21.Areas), (vS x_21.Text)] rfl wz (h_nil (wH_seq (wH_region (h_far pl82_3 rfl 3 rfl wz (h_ldr 0 1 il ft sz80 ag80 rfl rfl (vL eS x_21.Refs) rfl wz (h_len un80 rfl wz (h_op (vI 0) wz rfl (h_nil ?_)))))))))))))))
    obtain ⟨o_38, hj_39, hc_25⟩ := bind_some hc_25
    obtain ⟨hn_34, hj_39⟩ := forL_some hj_39
    refine wH_join (β := ((List Int))) (fun (s_35 : (List Int)) => ([(0, (vL Alert.enc l_1)), (3, (gV n_10 1 s_35)), (23, (vL Alert.enc l_1)), (24, (vI (l_1.length : Int))), (25, (vI (k_19 : Int)))] : List (Nat × V))) (fun (s_35 : (List Int)) => ([(n_10, gB 1 eI s_35), (n_29, some (.cells 9 [(vS x_21.Id), (vS x_21.Sender), (vI x_21.Kind), (vL eS x_21.Refs), (vI x_21.At), (vI x_21.Until), (vI x_21.Weight), (vL Rect.enc x_21.Areas), (vS x_21.Text)]))] : Hp)) (fun p => o_38 = .go p) ?_ ?_
    ·refine wH_block (wH_loop (β := Nat × (List ByteArray) × ((List Int))) (fun p => (fun (k_30 : Nat) (l_31 : List ByteArray) (s_35 : (List Int)) => ([(0, (vL Alert.enc l_1)), (3, (gV n_10 1 s_35)), (7, (.ref n_29 0 0)), (23, (vL Alert.enc l_1)), (24, (vI (l_1.length : Int))), (25, (vI (k_19 : Int))), (30, (vL eS x_21.Refs)), (31, (vI (x_21.Refs.length : Int))), (32, (vI (k_30 : Int)))] : List (Nat × V))) p.1 p.2.1 p.2.2) (fun p => (fun (k_30 : Nat) (l_31 : List ByteArray) (s_35 : (List Int)) => ([(n_10, gB 1 eI s_35), (n_29, some (.cells 9 [(vS x_21.Id), (vS x_21.Sender), (vI x_21.Kind), (vL eS x_21.Refs), (vI x_21.At), (vI x_21.Until), (vI x_21.Weight), (vL Rect.enc x_21.Areas), (vS x_21.Text)]))] : Hp)) p.1 p.2.1 p.2.2) (fun p => forR (fun k x s => alert_ends_L2 l_1 x_21 k x s) p.2.1 p.1 p.2.2 = some o_38 ∧ (x_21.Refs).drop p.1 = p.2.1) (fun p => p.2.1.length) (0, x_21.Refs, s_24) ⟨hj_39, rfl⟩ rfl (pre_r rfl) ?_)
     rintro ⟨k_30, l_31, s_35⟩ ⟨hL_37, hD_33⟩
     dsimp only at hL_37 hD_33
     cases l_31 with
     | nil =>
      obtain rfl := some_inj hL_37
      refine wH_seq (wH_region (h_op (vB (decide ((k_30 : Int) < (x_21.Refs.length : Int)))) wz rfl (h_nil ?_)))
      refine wH_seq (wH_iff rfl (drop_nil hD_33) (wH_exit ?_))
      exact cut_mk (s_35) rfl rfl (pre_r rfl)
     | cons x_32 l_31 =>
      obtain ⟨c_, hc_36, hL_37⟩ := bind_some hL_37
      refine wH_seq (wH_region (h_op (vB (decide ((k_30 : Int) < (x_21.Refs.length : Int)))) wz rfl (h_nil ?_)))
      refine wH_seq (wH_ift rfl (drop_cons hD_33) (wH_skip ?_))
      unfold alert_ends_L2 at hc_36
      refine wH_seq (wH_block (wH_seq (wH_region (h_ia es80 rfl rfl (drop_idx hD_33) rfl wz (h_ldc sz9 ag9 rfl (vS x_32) rfl wz (h_op (vS x_32) wz rfl (h_nil (wH_seq (wH_region (h_op (vL Alert.enc l_1) wz rfl (h_ldr 0 1 il ft sz82 ag82 rfl rfl (.d (.agg (Alert.enc x_21))) rfl wz (h_op (vS x_32) wz rfl ?_))))))))))))
      obtain ⟨r_40, hr_41, hc_36⟩ := bind_some hc_36
      refine h_call0 (alert_find_ok hr_41) rfl hb193 rfl rfl rfl rfl wz (h_op (vI r_40) wz rfl (h_nil (wH_seq (wH_region (h_op (vI r_40) wz rfl (h_op (vB (decide (r_40 ≥ 0))) wz rfl (h_nil ?_)))))))
      obtain ⟨v_42, h_43, hc_36⟩ := bind_some hc_36
      refine wH_join (β := Unit) (fun _ => ([(0, (vL Alert.enc l_1)), (3, (gV n_10 1 v_42)), (7, (.ref n_29 0 0)), (23, (vL Alert.enc l_1)), (24, (vI (l_1.length : Int))), (25, (vI (k_19 : Int))), (30, (vL eS x_21.Refs)), (31, (vI (x_21.Refs.length : Int))), (32, (vI (k_30 : Int)))] : List (Nat × V))) (fun _ => ([(n_10, gB 1 eI v_42), (n_29, some (.cells 9 [(vS x_21.Id), (vS x_21.Sender), (vI x_21.Kind), (vL eS x_21.Refs), (vI x_21.At), (vI x_21.Until), (vI x_21.Weight), (vL Rect.enc x_21.Areas), (vS x_21.Text)]))] : Hp)) (fun _ => True) ?_ ?_
      ·rcases cond_some h_43 with ⟨hc_44, h_43⟩ | ⟨hc_44, h_43⟩
       ·refine wH_ift rfl hc_44 (wH_draws (h_op (gV n_10 1 s_35) wz rfl (h_op (vI r_40) wz rfl (h_op (gV n_10 1 s_35) wz rfl (h_op (vI r_40) wz rfl ?_)))))
        obtain ⟨_, hi_45, h_43⟩ := bind_some h_43
        refine h_iavg es22 rfl rfl (inR_0 hi_45) (inR_lt hi_45) wz ?_
        obtain ⟨e_46, hy_47, h_43⟩ := bind_some h_43
        refine h_ldvg 5 0 (.inr (by kernel_rfl)) (fun _ _ ag => trivial) sz3 ag3 rfl rfl hy_47 (vI e_46) rfl wz (h_far pl82_4 rfl 4 rfl wz (h_ldr 7 1 (.inr (by kernel_rfl)) (fun _ _ ag => ⟨.inl ⟨rfl, rfl⟩, trivial⟩) sz3 ag3 rfl rfl (vI x_21.At) rfl wz (h_minmax (vI (minI e_46 x_21.At)) rfl (.inl rfl) wz ?_)))
        obtain ⟨_, hi_48, h_43⟩ := bind_some h_43
        refine h_iavg es22 rfl rfl (inR_0 hi_48) (inR_lt hi_48) wz ?_
        obtain ⟨e_49, hy_50, h_43⟩ := bind_some h_43
        refine h_stvg 10 (.inr (by kernel_rfl)) (fun _ _ ag => ⟨.inr (.inr (by kernel_rfl)), ⟨.inr (.inr (by kernel_rfl)), trivial⟩⟩) 0 sz3 rfl rfl hy_50 (minI e_46 x_21.At) rfl wz (h_re (v' := (gV n_10 1 (s_35.set (0 + (r_40).toNat) (minI e_46 x_21.At)))) 3 rfl (gV_len (by simp)) (h_re (v' := (gV n_10 1 (s_35.set (0 + (r_40).toNat) (minI e_46 x_21.At)))) 42 rfl (gV_len (by simp)) (h_re (v' := (gV n_10 1 (s_35.set (0 + (r_40).toNat) (minI e_46 x_21.At)))) 44 rfl (gV_len (by simp)) (h_nil ?_))))
        obtain rfl := some_inj h_43
        exact cu
       ·refine wH_iff rfl hc_44 (wH_skip ?_)
        obtain rfl := some_inj h_43
        exact cu
      ·rintro ⟨⟩ _ sl_ H_ hp_ hq_
       refine wH_at _ hp_ hq_ (wH_region (h_opw (w64_next hD_33 hn_34) wz rfl (h_op (vI ((k_30 + 1 : Nat) : Int)) wz rfl (h_nil ?_))))
       obtain rfl := some_inj hc_36
       exact loop_mk (k_30 + 1, l_31, v_42) ⟨hL_37, drop_next hD_33⟩ (Nat.lt_succ_self _) rfl (pre_r rfl)
    ·rintro s_35 ho_ sl_ H_ hp_ hq_
     subst ho_
     refine wH_at _ hp_ hq_ (wH_region (h_opw (w64_next hD_22 hn_23) wz rfl (h_op (vI ((k_19 + 1 : Nat) : Int)) wz rfl (h_nil ?_))))
     obtain rfl := some_inj hc_25
     exact loop_mk (k_19 + 1, l_20, s_35) ⟨hL_26, drop_next hD_22⟩ (Nat.lt_succ_self _) rfl (pre_r rfl)
  ·rintro s_24 ho_ sl_ H_ hp_ hq_
   subst ho_
   refine wH_at _ hp_ hq_ (wH_seq (wH_region (h_op (gV n_10 1 s_24) wz rfl (h_op (gV n_10 1 s_24) wz rfl (h_nil (wH_frozg 0 rfl (wH_cog 2 0 rfl rfl (wH_cog 3 0 rfl rfl (wH_cog 54 0 rfl rfl ?_)))))))))
   obtain rfl := some_inj hF
   exact wH_ret (fin0 (.inr rfl) [(vL eI s_24)] ⟨rfl, trivial⟩ rfl rfl rfl)
theorem alert_isOn_ok {a_1 : Alert} {endv_2 : Int} {atv_3 : Int} {r : Bool} (hF : alert_isOn a_1 endv_2 atv_3 = some r) :
  FnM Tryz.prog 133 [(.d (.agg (Alert.enc a_1))), (vI endv_2), (vI atv_3)] [] (vB r) [] := by
 refine FnM.of_wH ⟨Tryz.prog, 21, [], []⟩ rfl Tryz.func133 rfl rfl (Nat.le_of_ble_eq_true rfl) (by kernel_rfl) ?_
 unfold alert_isOn at hF
 refine wH_seq (wH_region (h_box 0 (.inl rfl) [(vS a_1.Id), (vS a_1.Sender), (vI a_1.Kind), (vL eS a_1.Refs), (vI a_1.At), (vI a_1.Until), (vI a_1.Weight), (vL Rect.enc a_1.Areas), (vS a_1.Text)] rfl rfl wz (fun n_4 => h_op (vB false) wz rfl (h_nil (wH_seq ?_)))))
 obtain ⟨v_5, h_6, hF⟩ := bind_some hF
 refine wH_join (β := Unit) (fun _ => ([(6, (vB v_5))] : List (Nat × V))) (fun _ => ([(n_4, some (.cells 9 [(vS a_1.Id), (vS a_1.Sender), (vI a_1.Kind), (vL eS a_1.Refs), (vI a_1.At), (vI a_1.Until), (vI a_1.Weight), (vL Rect.enc a_1.Areas), (vS a_1.Text)]))] : Hp)) (fun _ => True) ?_ ?_
 ·refine wH_region (h_far pl82_2 rfl 2 rfl wz (h_ldr 0 0 il ft sz3 ag3 rfl rfl (vI a_1.Kind) rfl wz (h_op (vB (a_1.Kind != 3)) wz rfl ?_)))
  rcases cond_some h_6 with ⟨hc_7, h_6⟩ | ⟨hc_7, h_6⟩
  ·refine h_movb rfl hc_7 wz (h_far pl82_4 rfl 4 rfl wa (h_ldr 0 0 il ft sz3 ag3 rfl rfl (vI a_1.At) rfl wa (h_op (vI atv_3) wa rfl (h_op (vB (decide (a_1.At ≤ atv_3))) wa rfl (h_op (vB (decide (a_1.At ≤ atv_3))) wz rfl ?_)))))
   rcases cond_some h_6 with ⟨hc_8, h_6⟩ | ⟨hc_8, h_6⟩
   ·refine h_movb rfl hc_8 wz (h_op (vI atv_3) wa rfl (h_op (vI endv_2) wa rfl (h_op (vB (decide (atv_3 < endv_2))) wa rfl (h_op (vB (decide (atv_3 < endv_2))) wz rfl (h_op (vB (decide (atv_3 < endv_2))) wz rfl (h_nil ?_))))))
    obtain rfl := some_inj h_6
    exact cu
   ·refine h_movb rfl hc_8 wz (h_skip wa (h_skip wa (h_skip wa (h_op (vB false) wz rfl (h_op (vB false) wz rfl (h_nil ?_))))))
    obtain rfl := some_inj h_6
    exact cu
  ·refine h_movb rfl hc_7 wz (h_skip wa (h_skip wa (h_skip wa (h_skip wa (h_op (vB false) wz rfl (h_op (vB false) wz rfl (h_skip wa (h_skip wa (h_skip wa (h_op (vB false) wz rfl (h_op (vB false) wz rfl (h_nil ?_))))))))))))
   obtain rfl := some_inj h_6
   exact cu
 ·rintro ⟨⟩ _ sl_ H_ hp_ hq_
  refine wH_at _ hp_ hq_ ?_
  obtain rfl := some_inj hF
  exact wH_ret (fin0 (.inr rfl) [(vB v_5)] ⟨rfl, trivial⟩ rfl rfl rfl)
theorem alert_before_ok {a_1 : Alert} {b_2 : Alert} {r : Int} (hF : alert_before a_1 b_2 = some r) :
  FnM Tryz.prog 194 [(.d (.agg (Alert.enc a_1))), (.d (.agg (Alert.enc b_2)))] [] (vI r) [] := by
 refine FnM.of_wH ⟨Tryz.prog, 22, [], []⟩ rfl Tryz.func194 rfl rfl (Nat.le_of_ble_eq_true rfl) (by kernel_rfl) ?_
 unfold alert_before at hF
 refine wH_seq (wH_region (h_box 0 (.inl rfl) [(vS a_1.Id), (vS a_1.Sender), (vI a_1.Kind), (vL eS a_1.Refs), (vI a_1.At), (vI a_1.Until), (vI a_1.Weight), (vL Rect.enc a_1.Areas), (vS a_1.Text)] rfl rfl wz (fun n_3 => h_box 0 (.inl rfl) [(vS b_2.Id), (vS b_2.Sender), (vI b_2.Kind), (vL eS b_2.Refs), (vI b_2.At), (vI b_2.Until), (vI b_2.Weight), (vL Rect.enc b_2.Areas), (vS b_2.Text)] rfl rfl wz (fun n_4 => h_op (vI 0) wz rfl (h_nil (wH_seq (wH_draws (h_far pl82_6 rfl 6 rfl wz (h_ldr 1 1 (.inr (by kernel_rfl)) (fun _ _ ag => trivial) sz3 ag3 rfl rfl (vI b_2.Weight) rfl wz (h_far pl82_6 rfl 6 rfl wz (h_ldr 3 0 (.inr (by kernel_rfl)) (fun _ _ ag => ⟨.inl ⟨rfl, rfl⟩, trivial⟩) sz3 ag3 rfl rfl (vI a_1.Weight) rfl wz ?_)))))))))))
 obtain ⟨r_5, hr_6, hF⟩ := bind_some hF
 refine h_call0 (cmp_Compare_int_ok hr_6) rfl hb147 rfl rfl rfl rfl wz (h_far pl82_4 rfl 4 rfl wz (h_ldr 6 1 (.inr (by kernel_rfl)) (fun _ _ ag => ⟨.inl ⟨rfl, rfl⟩, ⟨.inl ⟨rfl, rfl⟩, trivial⟩⟩) sz3 ag3 rfl rfl (vI b_2.At) rfl wz (h_far pl82_4 rfl 4 rfl wz (h_ldr 8 0 (.inr (by kernel_rfl)) (fun _ _ ag => ⟨.inl ⟨rfl, rfl⟩, ⟨.inl ⟨rfl, rfl⟩, ⟨.inl ⟨rfl, rfl⟩, trivial⟩⟩⟩) sz3 ag3 rfl rfl (vI a_1.At) rfl wz ?_))))
 obtain ⟨r_7, hr_8, hF⟩ := bind_some hF
 refine h_call0 (cmp_Compare_int_ok hr_8) rfl hb147 rfl rfl rfl rfl wz (h_far pl82_0 rfl 0 rfl wz (h_ldr 11 0 (.inr (by kernel_rfl)) (fun _ _ ag => ⟨.inl ⟨rfl, rfl⟩, ⟨.inl ⟨rfl, rfl⟩, ⟨.inl ⟨rfl, rfl⟩, ⟨.inl ⟨rfl, rfl⟩, trivial⟩⟩⟩⟩) sz9 ag9 rfl rfl (vS a_1.Id) rfl wz (h_far pl82_0 rfl 0 rfl wz (h_ldr 13 1 (.inr (by kernel_rfl)) (fun _ _ ag => ⟨.inl ⟨rfl, rfl⟩, ⟨.inl ⟨rfl, rfl⟩, ⟨.inl ⟨rfl, rfl⟩, ⟨.inl ⟨rfl, rfl⟩, ⟨.inl ⟨rfl, rfl⟩, trivial⟩⟩⟩⟩⟩) sz9 ag9 rfl rfl (vS b_2.Id) rfl wz ?_))))
 obtain ⟨r_9, hr_10, hF⟩ := bind_some hF
 refine h_call0 (strings_Compare_ok hr_10) rfl hb129 rfl rfl rfl rfl wz (h_lit (([r_5, r_7, r_9] : List Int).map eI) es22 ez22 rfl rfl rfl rfl rfl wz ?_)
 obtain ⟨r_11, hr_12, hF⟩ := bind_some hF
 refine h_call0 (cmp_Or_int_ok hr_12) rfl hb141 rfl rfl rfl rfl wz (h_op (vI r_11) wz rfl (h_nil ?_))
 obtain rfl := some_inj hF
 exact wH_ret (fin0 (.inr rfl) [(vI r_11)] ⟨rfl, trivial⟩ rfl rfl rfl)
theorem slices_insertionSortCmpFunc_api_Alert_v2_ok {data_1 : (List Alert)} {a_2 : Int} {b_3 : Int} {r : (List Alert)} (hF : slices_insertionSortCmpFunc_api_Alert_v2 data_1 a_2 b_3 = some r) :
  FnM Tryz.prog 223 [(dV (extN 0) 9 data_1), (vI a_2), (vI b_3), (.fn 194 [])] (([] : List Box) ++ gI 9 Alert.enc data_1) (.tup []) (([] : List Box).map some ++ gT data_1 (gB 9 Alert.enc r)) := by
 refine FnM.of_wHv ⟨Tryz.prog, 53, [], []⟩ rfl Tryz.func223 rfl rfl (Nat.le_of_ble_eq_true rfl) (by kernel_rfl) ?_
 unfold slices_insertionSortCmpFunc_api_Alert_v2 at hF
 refine wH_seq (wH_region (h_op (vI a_2) wz rfl (h_op (vI (w64 (a_2 + 1))) wz rfl (h_op (vI (w64 (a_2 + 1))) wz rfl (h_nil ?_)))))
 obtain ⟨o_13, hj_14, hF⟩ := bind_some hF
 obtain ⟨nq_51, hj_14⟩ := loopO_iter hj_14
 refine wH_join (β := ((List Alert) × Int)) (fun (s_10 : (List Alert) × Int) => ([] : List (Nat × V))) (fun (s_10 : (List Alert) × Int) => ([((extN 0), gB 9 Alert.enc s_10.1)] : Hp)) (fun p => o_13 = .go p) ?_ ?_
 ·refine wH_block (wH_loop (β := Nat × ((List Alert) × Int)) (fun p => (fun (k_5 : Nat) (s_10 : (List Alert) × Int) => ([(0, (dV (extN 0) 9 s_10.1)), (1, (vI a_2)), (2, (vI b_3)), (3, (.fn 194 [])), (8, (vI s_10.2))] : List (Nat × V))) p.1 p.2) (fun p => (fun (k_5 : Nat) (s_10 : (List Alert) × Int) => ([((extN 0), gB 9 Alert.enc s_10.1)] : Hp)) p.1 p.2) (fun p => iterN (fun s => slices_insertionSortCmpFunc_api_Alert_v2_L2 b_3 a_2 s) p.1 p.2 = some o_13) (fun p => p.1) (nq_51, (data_1, (w64 (a_2 + 1)))) hj_14 rfl (pre_r rfl) ?_)
  rintro ⟨k_5, s_10⟩ hL_12
  dsimp only at hL_12
  cases k_5 with
  | zero => cases hL_12
  | succ k_5 =>
   obtain ⟨c_, hc_11, hL_12⟩ := bind_some hL_12
   unfold slices_insertionSortCmpFunc_api_Alert_v2_L2 at hc_11
   refine wH_seq (wH_seq (wH_region (h_op (vI s_10.2) wz rfl (h_op (vI b_3) wz rfl (h_op (vB (decide (s_10.2 < b_3))) wz rfl (h_nil ?_))))))
   rcases cond_some hc_11 with ⟨hc_15, hc_11⟩ | ⟨hc_15, hc_11⟩
   ·refine wH_ift rfl hc_15 (wH_skip (wH_seq (wH_block (wH_seq (wH_region (h_op (vI s_10.2) wz rfl (h_op (vI s_10.2) wz rfl (h_nil ?_))))))))
    obtain ⟨o_24, hj_25, hc_11⟩ := bind_some hc_11
    obtain ⟨nq_50, hj_25⟩ := loopO_iter hj_25
    refine wH_join (β := ((List Alert) × Int)) (fun (s_21 : (List Alert) × Int) => ([(0, (dV (extN 0) 9 s_21.1)), (1, (vI a_2)), (2, (vI b_3)), (3, (.fn 194 [])), (8, (vI s_10.2))] : List (Nat × V))) (fun (s_21 : (List Alert) × Int) => ([((extN 0), gB 9 Alert.enc s_21.1)] : Hp)) (fun p => o_24 = .go p) ?_ ?_
    ·refine wH_block (wH_loop (β := Nat × ((List Alert) × Int)) (fun p => (fun (k_16 : Nat) (s_21 : (List Alert) × Int) => ([(0, (dV (extN 0) 9 s_21.1)), (1, (vI a_2)), (2, (vI b_3)), (3, (.fn 194 [])), (8, (vI s_10.2)), (9, (vI s_21.2))] : List (Nat × V))) p.1 p.2) (fun p => (fun (k_16 : Nat) (s_21 : (List Alert) × Int) => ([((extN 0), gB 9 Alert.enc s_21.1)] : Hp)) p.1 p.2) (fun p => iterN (fun s => slices_insertionSortCmpFunc_api_Alert_v2_L1 a_2 s) p.1 p.2 = some o_24) (fun p => p.1) (nq_50, (s_10.1, s_10.2)) hj_25 rfl (pre_r rfl) ?_)
     rintro ⟨k_16, s_21⟩ hL_23
     dsimp only at hL_23
     cases k_16 with
     | zero => cases hL_23
     | succ k_16 =>
      obtain ⟨c_, hc_22, hL_23⟩ := bind_some hL_23
      unfold slices_insertionSortCmpFunc_api_Alert_v2_L1 at hc_22
      refine wH_seq (wH_seq ?_)
      obtain ⟨v_26, h_27, hc_22⟩ := bind_some hc_22
      refine wH_join (β := Unit) (fun _ => ([(0, (dV (extN 0) 9 s_21.1)), (1, (vI a_2)), (2, (vI b_3)), (3, (.fn 194 [])), (8, (vI s_10.2)), (9, (vI s_21.2)), (34, (vB v_26))] : List (Nat × V))) (fun _ => ([((extN 0), gB 9 Alert.enc s_21.1)] : Hp)) (fun _ => True) ?_ ?_
      ·refine wH_draws (h_op (vI s_21.2) wz rfl (h_op (vI a_2) wz rfl (h_op (vB (decide (s_21.2 > a_2))) wz rfl ?_)))
       rcases cond_some h_27 with ⟨hc_28, h_27⟩ | ⟨hc_28, h_27⟩
       ·refine h_movb rfl hc_28 wz (h_op (.fn 194 []) wa rfl (h_op (dV (extN 0) 9 s_21.1) wa rfl (h_op (vI s_21.2) wa rfl ?_)))
        obtain ⟨_, hi_29, h_27⟩ := bind_some h_27
        refine h_iavd es78 rfl rfl (inR_0 hi_29) (inR_lt hi_29) wa ?_
        obtain ⟨e_30, hy_31, h_27⟩ := bind_some h_27
        refine h_ldvg 8 0 (.inr (by kernel_rfl)) (fun _ _ ag => trivial) sz82 ag82 rfl rfl hy_31 (.d (.agg (Alert.enc e_30))) rfl wa (h_op (dV (extN 0) 9 s_21.1) wa rfl (h_op (vI s_21.2) wa rfl (h_op (vI (w64 (s_21.2 - 1))) wa rfl ?_)))
        obtain ⟨_, hi_32, h_27⟩ := bind_some h_27
        refine h_iavd es78 rfl rfl (inR_0 hi_32) (inR_lt hi_32) wa ?_
        obtain ⟨e_33, hy_34, h_27⟩ := bind_some h_27
        refine h_ldvg 13 0 (.inr (by kernel_rfl)) (fun _ _ ag => ⟨.inl ⟨rfl, rfl⟩, trivial⟩) sz82 ag82 rfl rfl hy_34 (.d (.agg (Alert.enc e_33))) rfl wa ?_
        obtain ⟨r_35, hr_36, h_27⟩ := bind_some h_27
        refine h_call0 (alert_before_ok hr_36) rfl hb194 rfl rfl rfl rfl wa (h_op (vB (decide (r_35 < 0))) wa rfl (h_op (vB (decide (r_35 < 0))) wz rfl (h_nil ?_)))
        obtain rfl := some_inj h_27
        exact cu
       ·refine h_movb rfl hc_28 wz (h_skip wa (h_skip wa (h_skip wa (h_skip wa (h_skip wa (h_skip wa (h_skip wa (h_skip wa (h_skip wa (h_skip wa (h_skip wa (h_skip wa (h_op (vB false) wz rfl (h_nil ?_))))))))))))))
        obtain rfl := some_inj h_27
        exact cu
      ·rintro ⟨⟩ _ sl_ H_ hp_ hq_
       refine wH_at _ hp_ hq_ ?_
       rcases cond_some hc_22 with ⟨hc_37, hc_22⟩ | ⟨hc_37, hc_22⟩
       ·refine wH_ift rfl hc_37 (wH_skip (wH_seq (wH_block (wH_draws (h_op (dV (extN 0) 9 s_21.1) wz rfl (h_op (vI s_21.2) wz rfl (h_op (dV (extN 0) 9 s_21.1) wz rfl (h_op (vI s_21.2) wz rfl (h_op (vI (w64 (s_21.2 - 1))) wz rfl (h_op (dV (extN 0) 9 s_21.1) wz rfl (h_op (vI s_21.2) wz rfl (h_op (vI (w64 (s_21.2 - 1))) wz rfl ?_))))))))))))
        obtain ⟨_, hi_38, hc_22⟩ := bind_some hc_22
        refine h_iavd es78 rfl rfl (inR_0 hi_38) (inR_lt hi_38) wz ?_
        obtain ⟨e_39, hy_40, hc_22⟩ := bind_some hc_22
        refine h_ldvg 9 0 (.inr (by kernel_rfl)) (fun _ _ ag => trivial) sz82 ag82 rfl rfl hy_40 (.d (.agg (Alert.enc e_39))) rfl wz (h_op (dV (extN 0) 9 s_21.1) wz rfl (h_op (vI s_21.2) wz rfl ?_))
        obtain ⟨_, hi_41, hc_22⟩ := bind_some hc_22
        refine h_iavd es78 rfl rfl (inR_0 hi_41) (inR_lt hi_41) wz ?_
        obtain ⟨e_42, hy_43, hc_22⟩ := bind_some hc_22
        refine h_ldvg 13 0 (.inr (by kernel_rfl)) (fun _ _ ag => ⟨.inl ⟨rfl, rfl⟩, trivial⟩) sz82 ag82 rfl rfl hy_43 (.d (.agg (Alert.enc e_42))) rfl wz ?_
        obtain ⟨_, hi_44, hc_22⟩ := bind_some hc_22
        refine h_iavd es78 rfl rfl (inR_0 hi_44) (inR_lt hi_44) wz ?_
        obtain ⟨e_45, hy_46, hc_22⟩ := bind_some hc_22
        refine h_stvg 15 (.inr (by kernel_rfl)) (fun _ _ ag => ⟨.inr (.inr (by kernel_rfl)), ⟨.inr (.inr (by kernel_rfl)), trivial⟩⟩) 0 sz82 rfl rfl hy_46 e_39 rfl wz (h_re (v' := (dV (extN 0) 9 (s_21.1.set (0 + (s_21.2).toNat) e_39))) 0 rfl (dV_len (by simp)) (h_re (v' := (dV (extN 0) 9 (s_21.1.set (0 + (s_21.2).toNat) e_39))) 37 rfl (dV_len (by simp)) (h_re (v' := (dV (extN 0) 9 (s_21.1.set (0 + (s_21.2).toNat) e_39))) 39 rfl (dV_len (by simp)) (h_re (v' := (dV (extN 0) 9 (s_21.1.set (0 + (s_21.2).toNat) e_39))) 42 rfl (dV_len (by simp)) (h_re (v' := (dV (extN 0) 9 (s_21.1.set (0 + (s_21.2).toNat) e_39))) 47 rfl (dV_len (by simp)) ?_)))))
        obtain ⟨_, hi_47, hc_22⟩ := bind_some hc_22
        refine h_iavd es78 rfl rfl (inR_0 hi_47) (inR_lt hi_47) wz ?_
        obtain ⟨e_48, hy_49, hc_22⟩ := bind_some hc_22
        refine h_stvg 17 (.inr (by kernel_rfl)) (fun _ _ ag => ⟨.inr (.inr (by kernel_rfl)), ⟨.inr (.inr (by kernel_rfl)), ⟨.inr (.inr (by kernel_rfl)), trivial⟩⟩⟩) 0 sz82 rfl rfl hy_49 e_42 rfl wz (h_re (v' := (dV (extN 0) 9 ((s_21.1.set (0 + (s_21.2).toNat) e_39).set (0 + ((w64 (s_21.2 - 1))).toNat) e_42))) 0 rfl (dV_len (by simp)) (h_re (v' := (dV (extN 0) 9 ((s_21.1.set (0 + (s_21.2).toNat) e_39).set (0 + ((w64 (s_21.2 - 1))).toNat) e_42))) 37 rfl (dV_len (by simp)) (h_re (v' := (dV (extN 0) 9 ((s_21.1.set (0 + (s_21.2).toNat) e_39).set (0 + ((w64 (s_21.2 - 1))).toNat) e_42))) 39 rfl (dV_len (by simp)) (h_re (v' := (dV (extN 0) 9 ((s_21.1.set (0 + (s_21.2).toNat) e_39).set (0 + ((w64 (s_21.2 - 1))).toNat) e_42))) 42 rfl (dV_len (by simp)) (h_re (v' := (dV (extN 0) 9 ((s_21.1.set (0 + (s_21.2).toNat) e_39).set (0 + ((w64 (s_21.2 - 1))).toNat) e_42))) 47 rfl (dV_len (by simp)) (h_nil (wH_region (h_op (vI s_21.2) wz rfl (h_op (vI (w64 (s_21.2 - 1))) wz rfl (h_op (vI (w64 (s_21.2 - 1))) wz rfl (h_nil ?_)))))))))))
        obtain rfl := some_inj hc_22
        exact loop_mk (k_16, (((s_21.1.set (0 + (s_21.2).toNat) e_39).set (0 + ((w64 (s_21.2 - 1))).toNat) e_42), (w64 (s_21.2 - 1)))) hL_23 (Nat.lt_succ_self _) rfl (pre_r rfl)
       ·refine wH_iff rfl hc_37 (wH_exit ?_)
        obtain rfl := some_inj hc_22
        obtain rfl := some_inj hL_23
        exact cut_mk ((s_21.1, s_21.2)) rfl rfl (pre_r rfl)
    ·rintro s_21 ho_ sl_ H_ hp_ hq_
     subst ho_
     refine wH_at _ hp_ hq_ (wH_region (h_op (vI s_10.2) wz rfl (h_op (vI (w64 (s_10.2 + 1))) wz rfl (h_op (vI (w64 (s_10.2 + 1))) wz rfl (h_nil ?_)))))
     obtain rfl := some_inj hc_11
     exact loop_mk (k_5, (s_21.1, (w64 (s_10.2 + 1)))) hL_12 (Nat.lt_succ_self _) rfl (pre_r rfl)
   ·refine wH_iff rfl hc_15 (wH_exit ?_)
    obtain rfl := some_inj hc_11
    obtain rfl := some_inj hL_12
    exact cut_mk ((s_10.1, s_10.2)) rfl rfl (pre_r rfl)
 ·rintro s_10 ho_ sl_ H_ hp_ hq_
  subst ho_
  show finH _ _ _ _ _ _ _ _
  obtain rfl := some_inj hF
  exact finH_at (H0 := ([((extN 0), gB 9 Alert.enc s_10.1)] : Hp)) (sl' := envS []) hq_ (finV (bs := ([] : List Box)) (os := ([] : List Box)) (xs := data_1) (o := gB 9 Alert.enc s_10.1) (.inl rfl) [] trivial rfl rfl rfl rfl rfl (by kernel_rfl) gB_ok rfl)
theorem slices_pdqsortCmpFunc_api_Alert_v2_ok {data_1 : (List Alert)} {a_2 : Int} {b_3 : Int} {limit_4 : Int} {r : (List Alert)} (hF : slices_pdqsortCmpFunc_api_Alert_v2 data_1 a_2 b_3 limit_4 = some r) :
  FnM Tryz.prog 188 [(dV (extN 0) 9 data_1), (vI a_2), (vI b_3), (vI limit_4), (.fn 194 [])] (([] : List Box) ++ gI 9 Alert.enc data_1) (.tup []) (([] : List Box).map some ++ gT data_1 (gB 9 Alert.enc r)) := by
 refine FnM.of_wHv ⟨Tryz.prog, 148, [], []⟩ rfl Tryz.func188 rfl rfl (Nat.le_of_ble_eq_true rfl) (by kernel_rfl) ?_
 unfold slices_pdqsortCmpFunc_api_Alert_v2 at hF
 refine wH_seq (wH_region (h_op (vB true) wz rfl (h_nil (wH_seq (wH_region (h_op (vB true) wz rfl (h_nil ?_)))))))
 obtain ⟨o_14, hj_15, hF⟩ := bind_some hF
 obtain ⟨nq_21, hj_15⟩ := loopO_iter hj_15
 refine wH_join (β := (Unit)) (fun (s_11 : Unit) => ([] : List (Nat × V))) (fun (s_11 : Unit) => ([((extN 0), gB 9 Alert.enc data_1)] : Hp)) (fun p => o_14 = .go p) ?_ ?_
 ·refine wH_block (wH_loop (β := Nat × (Unit)) (fun p => (fun (k_6 : Nat) (s_11 : Unit) => ([(0, (dV (extN 0) 9 data_1)), (1, (vI a_2)), (2, (vI b_3)), (3, (vI limit_4)), (4, (.fn 194 [])), (10, (vB true)), (11, (vB true))] : List (Nat × V))) p.1 p.2) (fun p => (fun (k_6 : Nat) (s_11 : Unit) => ([((extN 0), gB 9 Alert.enc data_1)] : Hp)) p.1 p.2) (fun p => iterN (fun s => slices_pdqsortCmpFunc_api_Alert_v2_L1 b_3 a_2 data_1 limit_4 s) p.1 p.2 = some o_14) (fun p => p.1) (nq_21, ()) hj_15 rfl (pre_r rfl) ?_)
  rintro ⟨k_6, s_11⟩ hL_13
  dsimp only at hL_13
  cases k_6 with
  | zero => cases hL_13
  | succ k_6 =>
   obtain ⟨c_, hc_12, hL_13⟩ := bind_some hL_13
   unfold slices_pdqsortCmpFunc_api_Alert_v2_L1 at hc_12
   refine wH_block (wH_seq (wH_region (h_op (vI b_3) wz rfl (h_op (vI a_2) wz rfl (h_op (vI (w64 (b_3 - a_2))) wz rfl (h_op (vI (w64 (b_3 - a_2))) wz rfl (h_nil (wH_seq (wH_seq (wH_region (h_op (vI (w64 (b_3 - a_2))) wz rfl (h_op (vB (decide ((w64 (b_3 - a_2)) ≤ 12))) wz rfl (h_nil ?_)))))))))))))
   rcases cond_some hc_12 with ⟨hc_16, hc_12⟩ | ⟨hc_16, hc_12⟩
   ·refine wH_ift rfl hc_16 (wH_seq (wH_region (h_op (dV (extN 0) 9 data_1) wz rfl (h_op (vI a_2) wz rfl (h_op (vI b_3) wz rfl (h_op (.fn 194 []) wz rfl ?_))))))
    obtain ⟨r_17, hr_18, hc_12⟩ := bind_some hc_12
    obtain ⟨_, hs_19, hc_12⟩ := bind_some hc_12
    replace hs_19 := sameL_eq hs_19
    refine h_callv 0 [] 0 0 il ft (slices_insertionSortCmpFunc_api_Alert_v2_ok hr_18) rfl hb223 rfl rfl rfl (by kernel_rfl) rfl (.inr (.inl rfl)) rfl (by kernel_rfl) (by kernel_rfl) (by kernel_rfl) (by kernel_rfl) rfl (by decide) (by kernel_rfl) gB_ok (gB_ho hs_19) wz ([((extN 0), gB 9 Alert.enc r_17)] : Hp) (by kernel_rfl) (h_re (v' := (dV (extN 0) 9 r_17)) 0 rfl (dV_len hs_19.symm) (h_re (v' := (dV (extN 0) 9 r_17)) 26 rfl (dV_len hs_19.symm) (h_nil ?_)))
    obtain rfl := some_inj hc_12
    obtain rfl := some_inj hL_13
    obtain rfl := some_inj hF
    exact wH_ret (finV (bs := ([] : List Box)) (os := ([] : List Box)) (xs := data_1) (o := gB 9 Alert.enc r_17) (.inr rfl) [] trivial rfl rfl rfl rfl rfl (by kernel_rfl) gB_ok rfl)
   ·refine wH_iff rfl hc_16 (wH_skip (wH_seq (wH_seq (wH_region (h_op (vI limit_4) wz rfl (h_op (vB (limit_4 == 0)) wz rfl (h_nil ?_)))))))
    rcases cond_some hc_12 with ⟨hc_20, hc_12⟩ | ⟨hc_20, hc_12⟩
    ·refine wH_ift rfl hc_20 (wH_seq (wH_region (h_op (dV (extN 0) 9 data_1) wz rfl (h_op (vI a_2) wz rfl (h_op (vI b_3) wz rfl (h_op (.fn 194 []) wz rfl ?_))))))
     cases hc_12
    ·refine wH_iff rfl hc_20 (wH_skip (wH_seq (wH_seq (wH_region (h_op (vB true) wz rfl (h_op (vB false) wz rfl (h_nil (wH_iff rfl rfl (wH_skip (wH_seq (wH_region (h_op (dV (extN 0) 9 data_1) wz rfl (h_op (vI a_2) wz rfl (h_op (vI b_3) wz rfl (h_op (.fn 194 []) wz rfl ?_)))))))))))))))
     cases hc_12
 ·rintro s_11 ho_ sl_ H_ hp_ hq_
  subst ho_
  show finH _ _ _ _ _ _ _ _
  obtain rfl := some_inj hF
  exact finH_at (H0 := ([((extN 0), gB 9 Alert.enc data_1)] : Hp)) (sl' := envS []) hq_ (finV (bs := ([] : List Box)) (os := ([] : List Box)) (xs := data_1) (o := gB 9 Alert.enc data_1) (.inl rfl) [] trivial rfl rfl rfl rfl rfl (by kernel_rfl) gB_ok rfl)
theorem slices_SortFunc_api_Alert_api_Alert_v2_ok {x_1 : (List Alert)} {r : (List Alert)} (hF : slices_SortFunc_api_Alert_api_Alert_v2 x_1 = some r) :
  FnM Tryz.prog 109 [(dV (extN 0) 9 x_1), (.fn 194 [])] (([] : List Box) ++ gI 9 Alert.enc x_1) (.tup []) (([] : List Box).map some ++ gT x_1 (gB 9 Alert.enc r)) := by
 refine FnM.of_wHv ⟨Tryz.prog, 14, [], []⟩ rfl Tryz.func109 rfl rfl (Nat.le_of_ble_eq_true rfl) (by kernel_rfl) ?_
 unfold slices_SortFunc_api_Alert_api_Alert_v2 at hF
 refine wH_seq (wH_region (h_op (dV (extN 0) 9 x_1) wz rfl (h_lend un78 rfl wz (h_op (vI (x_1.length : Int)) wz rfl (h_nil (wH_region (h_op (dV (extN 0) 9 x_1) wz rfl (h_op (vI (x_1.length : Int)) wz rfl (h_op (vI (x_1.length : Int)) wz rfl (h_conv un3 un268 rfl wz ?_))))))))))
 obtain ⟨r_3, hr_4, hF⟩ := bind_some hF
 refine h_call0 (math_bits_Len_ok hr_4) rfl hb189 rfl rfl rfl rfl wz (h_op (.fn 194 []) wz rfl ?_)
 obtain ⟨r_5, hr_6, hF⟩ := bind_some hF
 obtain ⟨_, hs_7, hF⟩ := bind_some hF
 replace hs_7 := sameL_eq hs_7
 refine h_callv 0 [] 0 0 il ft (slices_pdqsortCmpFunc_api_Alert_v2_ok hr_6) rfl hb188 rfl rfl rfl (by kernel_rfl) rfl (.inr (.inl rfl)) rfl (by kernel_rfl) (by kernel_rfl) (by kernel_rfl) (by kernel_rfl) rfl (by decide) (by kernel_rfl) gB_ok (gB_ho hs_7) wz ([((extN 0), gB 9 Alert.enc r_5)] : Hp) (by kernel_rfl) (h_re (v' := (dV (extN 0) 9 r_5)) 0 rfl (dV_len hs_7.symm) (h_re (v' := (dV (extN 0) 9 r_5)) 5 rfl (dV_len hs_7.symm) (h_re (v' := (dV (extN 0) 9 r_5)) 7 rfl (dV_len hs_7.symm) (h_nil ?_))))
 show finH _ _ _ _ _ _ _ _
 obtain rfl := some_inj hF
 exact finV (bs := ([] : List Box)) (os := ([] : List Box)) (xs := x_1) (o := gB 9 Alert.enc r_5) (.inl rfl) [] trivial rfl rfl rfl rfl rfl (by kernel_rfl) gB_ok rfl
theorem alert_ranked_ok {l_1 : (List Alert)} {endv_2 : (List Int)} {p_3 : Post} {atv_4 : Int} {r : (List Alert)} (hF : alert_ranked l_1 endv_2 p_3 atv_4 = some r) :
  FnM Tryz.prog 118 [(vL Alert.enc l_1), (vL eI endv_2), (.d (.agg (Post.enc p_3))), (vI atv_4)] [] (vL Alert.enc r) [] := by
 refine FnM.of_wH ⟨Tryz.prog, 39, [], []⟩ rfl Tryz.func118 rfl rfl (Nat.le_of_ble_eq_true rfl) (by kernel_rfl) ?_
 unfold alert_ranked at hF
 refine wH_seq (wH_region (h_box 0 (.inl rfl) [(vS p_3.Player), (vI p_3.X), (vI p_3.Y)] rfl rfl wz (fun n_5 => h_op .nil wz rfl (h_nil (wH_seq (wH_region (h_op .nil wz rfl (h_nil (wH_seq (wH_seq (wH_region (h_op (vL Alert.enc l_1) wz rfl (h_len un78 rfl wz (h_op (vI 0) wz rfl (h_nil (wH_new (fun n_12 => ?_)))))))))))))))))
 obtain ⟨o_17, hj_18, hF⟩ := bind_some hF
 obtain ⟨hn_10, hj_18⟩ := forL_some hj_18
 refine wH_join (β := ((List Alert)) × Nm) (fun p => (fun (s_11 : (List Alert)) (n_14 : Nm) => ([(9, (gV n_14 9 s_11))] : List (Nat × V))) p.1 p.2) (fun p => (fun (s_11 : (List Alert)) (n_14 : Nm) => ([(n_5, some (.cells 3 [(vS p_3.Player), (vI p_3.X), (vI p_3.Y)])), (n_14, gB 9 Alert.enc s_11)] : Hp)) p.1 p.2) (fun p => o_17 = .go p.1) ?_ ?_
 ·refine wH_block (wH_loop (β := Nat × (List Alert) × ((List Alert)) × Nm) (fun p => (fun (k_6 : Nat) (l_7 : List Alert) (s_11 : (List Alert)) (n_14 : Nm) => ([(1, (vL eI endv_2)), (3, (vI atv_4)), (6, (.ref n_5 0 0)), (9, (gV n_14 9 s_11)), (12, (vL Alert.enc l_1)), (13, (vI (l_1.length : Int))), (14, (vI (k_6 : Int)))] : List (Nat × V))) p.1 p.2.1 p.2.2.1 p.2.2.2) (fun p => (fun (k_6 : Nat) (l_7 : List Alert) (s_11 : (List Alert)) (n_14 : Nm) => ([(n_5, some (.cells 3 [(vS p_3.Player), (vI p_3.X), (vI p_3.Y)])), (n_14, gB 9 Alert.enc s_11)] : Hp)) p.1 p.2.1 p.2.2.1 p.2.2.2) (fun p => forR (fun k x s => alert_ranked_L1 endv_2 atv_4 p_3 k x s) p.2.1 p.1 p.2.2.1 = some o_17 ∧ (l_1).drop p.1 = p.2.1) (fun p => p.2.1.length) (0, l_1, ([] : List Alert), n_12) ⟨hj_18, rfl⟩ rfl (pre_r rfl) ?_)
  rintro ⟨k_6, l_7, s_11, n_14⟩ ⟨hL_16, hD_9⟩
  dsimp only at hL_16 hD_9
  cases l_7 with
  | nil =>
   obtain rfl := some_inj hL_16
   refine wH_seq (wH_region (h_op (vB (decide ((k_6 : Int) < (l_1.length : Int)))) wz rfl (h_nil ?_)))
   refine wH_seq (wH_iff rfl (drop_nil hD_9) (wH_exit ?_))
   exact cut_mk (s_11, n_14) rfl rfl (pre_r rfl)
  | cons x_8 l_7 =>
   obtain ⟨c_, hc_15, hL_16⟩ := bind_some hL_16
   refine wH_seq (wH_region (h_op (vB (decide ((k_6 : Int) < (l_1.length : Int)))) wz rfl (h_nil ?_)))
   refine wH_seq (wH_ift rfl (drop_cons hD_9) (wH_skip ?_))
   unfold alert_ranked_L1 at hc_15
   refine wH_seq (wH_block (wH_seq (wH_region (h_op (vI (k_6 : Int)) wz rfl (h_ia es78 rfl rfl (drop_idx hD_9) rfl wz (h_ldc sz82 ag82 rfl (.d (.agg (Alert.enc x_8))) rfl wz (h_alloc 0 (.inl rfl) z82 rfl wz (fun n_19 => h_op (vI (k_6 : Int)) wz rfl (h_str 0 il ft 2 sz82 rfl rfl [(vS x_8.Id), (vS x_8.Sender), (vI x_8.Kind), (vL eS x_8.Refs), (vI x_8.At), (vI x_8.Until), (vI x_8.Weight), (vL Rect.enc x_8.Areas), (vS x_8.Text)] rfl wz (h_nil (wH_seq ?_)))))))))))
   obtain ⟨v_20, h_21, hc_15⟩ := bind_some hc_15
   refine wH_join (β := Unit) (fun _ => ([(1, (vL eI endv_2)), (3, (vI atv_4)), (6, (.ref n_5 0 0)), (9, (gV n_14 9 s_11)), (11, (.ref n_19 0 0)), (12, (vL Alert.enc l_1)), (13, (vI (l_1.length : Int))), (14, (vI (k_6 : Int))), (30, (vB v_20))] : List (Nat × V))) (fun _ => ([(n_5, some (.cells 3 [(vS p_3.Player), (vI p_3.X), (vI p_3.Y)])), (n_14, gB 9 Alert.enc s_11), (n_19, some (.cells 9 [(vS x_8.Id), (vS x_8.Sender), (vI x_8.Kind), (vL eS x_8.Refs), (vI x_8.At), (vI x_8.Until), (vI x_8.Weight), (vL Rect.enc x_8.Areas), (vS x_8.Text)]))] : Hp)) (fun _ => True) ?_ ?_
   ·refine wH_draws (h_ldr 0 2 (.inr (by kernel_rfl)) (fun _ _ ag => trivial) sz82 ag82 rfl rfl (.d (.agg (Alert.enc x_8))) rfl wz (h_op (vL eI endv_2) wz rfl (h_op (vI (k_6 : Int)) wz rfl ?_)))
    obtain ⟨y_22, hy_23, h_21⟩ := bind_some h_21
    refine h_ia es22 rfl rfl hy_23 rfl wz (h_ldc sz3 ag3 rfl (vI y_22) rfl wz (h_op (vI atv_4) wz rfl ?_))
    obtain ⟨r_24, hr_25, h_21⟩ := bind_some h_21
    refine h_call0 (alert_isOn_ok hr_25) rfl hb133 rfl rfl rfl rfl wz ?_
    rcases cond_some h_21 with ⟨hc_26, h_21⟩ | ⟨hc_26, h_21⟩
    ·refine h_movb rfl hc_26 wz (h_ldr 8 2 (.inr (by kernel_rfl)) (fun _ _ ag => ⟨.inl ⟨rfl, rfl⟩, trivial⟩) sz82 ag82 rfl rfl (.d (.agg (Alert.enc x_8))) rfl wa (h_ldr 9 0 (.inr (by kernel_rfl)) (fun _ _ ag => ⟨.inl ⟨rfl, rfl⟩, ⟨.inl ⟨rfl, rfl⟩, trivial⟩⟩) sz77 ag77 rfl rfl (.d (.agg (Post.enc p_3))) rfl wa ?_))
     obtain ⟨r_27, hr_28, h_21⟩ := bind_some h_21
     refine h_call0 (alert_reaches_ok hr_28) rfl hb113 rfl rfl rfl rfl wa (h_op (vB r_27) wz rfl (h_nil ?_))
     obtain rfl := some_inj h_21
     exact cu
    ·refine h_movb rfl hc_26 wz (h_skip wa (h_skip wa (h_skip wa (h_op (vB false) wz rfl (h_nil ?_)))))
     obtain rfl := some_inj h_21
     exact cu
   ·rintro ⟨⟩ _ sl_ H_ hp_ hq_
    refine wH_at _ hp_ hq_ ?_
    obtain ⟨v_29, h_30, hc_15⟩ := bind_some hc_15
    refine wH_join (β := Nm) (fun (n_31 : Nm) => ([(1, (vL eI endv_2)), (3, (vI atv_4)), (6, (.ref n_5 0 0)), (9, (gV n_31 9 v_29)), (12, (vL Alert.enc l_1)), (13, (vI (l_1.length : Int))), (14, (vI (k_6 : Int)))] : List (Nat × V))) (fun (n_31 : Nm) => ([(n_5, some (.cells 3 [(vS p_3.Player), (vI p_3.X), (vI p_3.Y)])), (n_31, gB 9 Alert.enc v_29), (n_19, some (.cells 9 [(vS x_8.Id), (vS x_8.Sender), (vI x_8.Kind), (vL eS x_8.Refs), (vI x_8.At), (vI x_8.Until), (vI x_8.Weight), (vL Rect.enc x_8.Areas), (vS x_8.Text)]))] : Hp)) (fun _ => True) ?_ ?_
    ·rcases cond_some h_30 with ⟨hc_32, h_30⟩ | ⟨hc_32, h_30⟩
     ·refine wH_ift rfl hc_32 (wH_region (h_op (gV n_14 9 s_11) wz rfl (h_ldr 0 2 il ft sz82 ag82 rfl rfl (.d (.agg (Alert.enc x_8))) rfl wz (h_lit (([x_8] : List Alert).map Alert.enc) es78 ez78 rfl rfl rfl rfl rfl wz ?_))))
      obtain ⟨a_33, hz_34, h_30⟩ := bind_some h_30
      refine h_appg 0 il ft (i := 1) el78 el78 sz82 z82 rfl (by decide) by82 (by decide) (fun _ => rfl) rfl rfl rfl hz_34 wz (fun n_35 => h_op (gV n_35 9 a_33) wz rfl (h_nil ?_))
      obtain rfl := some_inj h_30
      exact cut_mk n_35 trivial rfl (pre_r rfl)
     ·refine wH_iff rfl hc_32 (wH_skip ?_)
      obtain rfl := some_inj h_30
      exact cut_mk n_14 trivial rfl (pre_r rfl)
    ·rintro n_31 _ sl_ H_ hp_ hq_
     refine wH_at _ hp_ hq_ (wH_region (h_opw (w64_next hD_9 hn_10) wz rfl (h_op (vI ((k_6 + 1 : Nat) : Int)) wz rfl (h_nil ?_))))
     obtain rfl := some_inj hc_15
     exact loop_mk (k_6 + 1, l_7, v_29, n_31) ⟨hL_16, drop_next hD_9⟩ (Nat.lt_succ_self _) rfl (pre_r rfl)
 ·rintro ⟨s_11, n_14⟩ ho_ sl_ H_ hp_ hq_
  subst ho_
  refine wH_at _ hp_ hq_ (wH_seq (wH_region (h_op (gV n_14 9 s_11) wz rfl ?_)))
  obtain ⟨r_36, hr_37, hF⟩ := bind_some hF
  obtain ⟨_, hs_38, hF⟩ := bind_some hF
  replace hs_38 := sameL_eq hs_38
  refine h_callv 0 [] 1 0 il ft (slices_SortFunc_api_Alert_api_Alert_v2_ok hr_37) rfl hb109 rfl rfl rfl (by kernel_rfl) rfl (.inl rfl) rfl (by kernel_rfl) (by kernel_rfl) (by kernel_rfl) (by kernel_rfl) rfl (by decide) (by kernel_rfl) gB_ok (gB_ho hs_38) wz ([(n_5, some (.cells 3 [(vS p_3.Player), (vI p_3.X), (vI p_3.Y)])), (n_14, gB 9 Alert.enc r_36)] : Hp) (by kernel_rfl) (h_re (v' := (gV n_14 9 r_36)) 36 rfl (gV_len hs_38.symm) (h_re (v' := (gV n_14 9 r_36)) 9 rfl (gV_len hs_38.symm) (h_nil (wH_seq (wH_region (h_op (gV n_14 9 r_36) wz rfl (h_op (gV n_14 9 r_36) wz rfl (h_nil (wH_frozg 1 rfl (wH_cog 8 1 rfl rfl (wH_cog 9 1 rfl rfl (wH_cog 36 1 rfl rfl (wH_cog 38 1 rfl rfl ?_)))))))))))))
  obtain rfl := some_inj hF
  exact wH_ret (fin0 (.inr rfl) [(vL Alert.enc r_36)] ⟨rfl, trivial⟩ rfl rfl rfl)
end Go.Proofs.YtpojeclokolkaaaGreatDoor.Law

