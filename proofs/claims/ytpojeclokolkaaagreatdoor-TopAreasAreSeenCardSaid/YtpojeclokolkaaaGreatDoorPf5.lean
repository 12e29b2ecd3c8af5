/-
 The machine computes these plain functions (written by a program of ours).
-/
import Derived.Test.YtpojeclokolkaaaGreatDoorFacts
import Derived.Test.YtpojeclokolkaaaGreatDoorDefs
import Derived.Test.YtpojeclokolkaaaGreatDoorPf4
open Go Go.Eng Go.Proofs
namespace Go.Proofs.YtpojeclokolkaaaGreatDoor.Law
set_option maxRecDepth 100000
set_option linter.unusedVariables false
set_option maxHeartbeats 1000000
theorem schedule_CheckEntries_ok {l_1 : (List Entry)} {r : Int} (hF : schedule_CheckEntries l_1 = some r) :
  FnM Tryz.prog 169 [(vL Entry.enc l_1)] [] (vI r) [] := by
 refine FnM.of_wH ⟨Tryz.prog, 35, [], []⟩ rfl Tryz.func169 rfl rfl (Nat.le_of_ble_eq_true rfl) (by kernel_rfl) ?_
 unfold schedule_CheckEntries at hF
 refine wH_seq (wH_region (h_op (vI 0) wz rfl (h_nil (wH_seq (wH_seq (wH_region (h_op (vL Entry.enc l_1) wz rfl (h_len un248 rfl wz (h_op (vB (decide ((l_1.length : Int) > 200))) wz rfl (h_nil ?_))))))))))
 rcases cond_some hF with ⟨hc_2, hF⟩ | ⟨hc_2, hF⟩
 ·refine wH_ift rfl hc_2 (wH_seq (wH_region (h_op (vI 2) wz rfl (h_nil ?_))))
  obtain rfl := some_inj hF
  exact wH_ret (fin0 (.inr rfl) [(vI 2)] ⟨rfl, trivial⟩ rfl rfl rfl)
 ·refine wH_iff rfl hc_2 (wH_skip (wH_seq (wH_seq (wH_region (h_op (vL Entry.enc l_1) wz rfl (h_len un248 rfl wz (h_op (vI 0) wz rfl (h_nil ?_))))))))
  obtain ⟨o_11, hj_12, hF⟩ := bind_some hF
  obtain ⟨hn_7, hj_12⟩ := forL_some hj_12
  refine wH_join (β := (Unit)) (fun (s_8 : Unit) => ([] : List (Nat × V))) (fun (s_8 : Unit) => ([] : Hp)) (fun p => o_11 = .go p) ?_ ?_
  ·refine wH_block (wH_loop (β := Nat × (List Entry) × (Unit)) (fun p => (fun (k_3 : Nat) (l_4 : List Entry) (s_8 : Unit) => ([(0, (vL Entry.enc l_1)), (9, (vL Entry.enc l_1)), (10, (vI (l_1.length : Int))), (11, (vI (k_3 : Int)))] : List (Nat × V))) p.1 p.2.1 p.2.2) (fun p => (fun (k_3 : Nat) (l_4 : List Entry) (s_8 : Unit) => ([] : Hp)) p.1 p.2.1 p.2.2) (fun p => forR (fun k x s => schedule_CheckEntries_L1 l_1 k x s) p.2.1 p.1 p.2.2 = some o_11 ∧ (l_1).drop p.1 = p.2.1) (fun p => p.2.1.length) (0, l_1, ()) ⟨hj_12, rfl⟩ rfl (pre_r rfl) ?_)
   rintro ⟨k_3, l_4, s_8⟩ ⟨hL_10, hD_6⟩
   dsimp only at hL_10 hD_6
   cases l_4 with
   | nil =>
    obtain rfl := some_inj hL_10
    refine wH_seq (wH_region (h_op (vB (decide ((k_3 : Int) < (l_1.length : Int)))) wz rfl (h_nil ?_)))
    refine wH_seq (wH_iff rfl (drop_nil hD_6) (wH_exit ?_))
    exact cut_mk (s_8) rfl rfl (pre_r rfl)
   | cons x_5 l_4 =>
    obtain ⟨c_, hc_9, hL_10⟩ := bind_some hL_10
    refine wH_seq (wH_region (h_op (vB (decide ((k_3 : Int) < (l_1.length : Int)))) wz rfl (h_nil ?_)))
    refine wH_seq (wH_ift rfl (drop_cons hD_6) (wH_skip ?_))
    unfold schedule_CheckEntries_L1 at hc_9
    refine wH_seq (wH_block (wH_seq (wH_region (h_op (vI (k_3 : Int)) wz rfl (h_ia es248 rfl rfl (drop_idx hD_6) rfl wz (h_ldc sz170 ag170 rfl (.d (.agg (Entry.enc x_5))) rfl wz (h_alloc 0 (.inl rfl) z170 rfl wz (fun n_13 => h_op (vI (k_3 : Int)) wz rfl (h_str 0 il ft 0 sz170 rfl rfl [(vS x_5.Key), (vS x_5.Item), (vI x_5.Version), (vI x_5.First), (vI x_5.Last), (vI x_5.Every), (vI x_5.Days), (vL eI x_5.Except), (vI x_5.From), (vI x_5.To), (vI x_5.Prio), (vL eS x_5.Tags), (vB x_5.Gone)] rfl wz (h_nil (wH_seq (wH_seq (wH_region (h_ldr 0 0 il ft sz170 ag170 rfl rfl (.d (.agg (Entry.enc x_5))) rfl wz ?_))))))))))))))
    obtain ⟨r_14, hr_15, hc_9⟩ := bind_some hc_9
    refine h_call0 (schedule_entryFault_ok hr_15) rfl hb210 rfl rfl rfl rfl wz (h_op (vI r_14) wz rfl (h_nil (wH_seq (wH_region (h_op (vI r_14) wz rfl (h_op (vB (r_14 != 0)) wz rfl (h_nil ?_)))))))
    rcases cond_some hc_9 with ⟨hc_16, hc_9⟩ | ⟨hc_16, hc_9⟩
    ·refine wH_ift rfl hc_16 (wH_seq (wH_region (h_op (vI r_14) wz rfl (h_op (vI r_14) wz rfl (h_nil ?_)))))
     obtain rfl := some_inj hc_9
     obtain rfl := some_inj hL_10
     obtain rfl := some_inj hF
     exact wH_ret (fin0 (.inr rfl) [(vI r_14)] ⟨rfl, trivial⟩ rfl rfl rfl)
    ·refine wH_iff rfl hc_16 (wH_skip (wH_seq ?_))
     obtain ⟨v_17, h_18, hc_9⟩ := bind_some hc_9
     refine wH_join (β := Unit) (fun _ => ([(0, (vL Entry.enc l_1)), (9, (vL Entry.enc l_1)), (10, (vI (l_1.length : Int))), (11, (vI (k_3 : Int))), (33, (vB v_17))] : List (Nat × V))) (fun _ => ([(n_13, some (.cells 13 [(vS x_5.Key), (vS x_5.Item), (vI x_5.Version), (vI x_5.First), (vI x_5.Last), (vI x_5.Every), (vI x_5.Days), (vL eI x_5.Except), (vI x_5.From), (vI x_5.To), (vI x_5.Prio), (vL eS x_5.Tags), (vB x_5.Gone)]))] : Hp)) (fun _ => True) ?_ ?_
     ·refine wH_draws (h_op (vI (k_3 : Int)) wz rfl (h_op (vB (decide ((k_3 : Int) > 0))) wz rfl ?_))
      rcases cond_some h_18 with ⟨hc_19, h_18⟩ | ⟨hc_19, h_18⟩
      ·refine h_movb rfl hc_19 wz (h_far pl170_0 rfl 0 rfl wa (h_ldr 4 0 (.inr (by kernel_rfl)) (fun _ _ ag => trivial) sz9 ag9 rfl rfl (vS x_5.Key) rfl wa (h_op (vL Entry.enc l_1) wa rfl (h_op (vI (k_3 : Int)) wa rfl (h_op (vI (w64 ((k_3 : Int) - 1))) wa rfl ?_)))))
       obtain ⟨y_20, hy_21, h_18⟩ := bind_some h_18
       refine h_ia es248 rfl rfl hy_21 rfl wa (h_fac pl170_0 rfl [.str y_20.Key, .str y_20.Item, .int .i64 y_20.Version, .int .i64 y_20.First, .int .i64 y_20.Last, .int .i64 y_20.Every, .int .i64 y_20.Days, dl eI y_20.Except, .int .i64 y_20.From, .int .i64 y_20.To, .int .i64 y_20.Prio, dl eS y_20.Tags, .bool y_20.Gone] rfl rfl wa (h_ldc sz9 ag9 rfl (vS y_20.Key) rfl wa (h_op (vB (sLe x_5.Key y_20.Key)) wa rfl (h_op (vB (sLe x_5.Key y_20.Key)) wz rfl (h_nil ?_)))))
       obtain rfl := some_inj h_18
       exact cu
      ·refine h_movb rfl hc_19 wz (h_skip wa (h_skip wa (h_skip wa (h_skip wa (h_skip wa (h_skip wa (h_skip wa (h_skip wa (h_skip wa (h_op (vB false) wz rfl (h_nil ?_)))))))))))
       obtain rfl := some_inj h_18
       exact cu
     ·rintro ⟨⟩ _ sl_ H_ hp_ hq_
      refine wH_at _ hp_ hq_ ?_
      rcases cond_some hc_9 with ⟨hc_22, hc_9⟩ | ⟨hc_22, hc_9⟩
      ·refine wH_ift rfl hc_22 (wH_seq (wH_region (h_op (vI 7) wz rfl (h_nil ?_))))
       obtain rfl := some_inj hc_9
       obtain rfl := some_inj hL_10
       obtain rfl := some_inj hF
       exact wH_ret (fin0 (.inr rfl) [(vI 7)] ⟨rfl, trivial⟩ rfl rfl rfl)
      ·refine wH_iff rfl hc_22 (wH_skip (wH_region (h_opw (w64_next hD_6 hn_7) wz rfl (h_op (vI ((k_3 + 1 : Nat) : Int)) wz rfl (h_nil ?_)))))
       obtain rfl := some_inj hc_9
       exact loop_mk (k_3 + 1, l_4, ()) ⟨hL_10, drop_next hD_6⟩ (Nat.lt_succ_self _) rfl (pre_r rfl)
  ·rintro s_8 ho_ sl_ H_ hp_ hq_
   subst ho_
   refine wH_at _ hp_ hq_ (wH_seq (wH_region (h_op (vI 0) wz rfl (h_nil ?_))))
   obtain rfl := some_inj hF
   exact wH_ret (fin0 (.inr rfl) [(vI 0)] ⟨rfl, trivial⟩ rfl rfl rfl)
theorem schedule_windowFault_ok {wv_1 : Window} {r : Int} (hF : schedule_windowFault wv_1 = some r) :
  FnM Tryz.prog 170 [(.d (.agg (Window.enc wv_1)))] [] (vI r) [] := by
 refine FnM.of_wH ⟨Tryz.prog, 19, [], []⟩ rfl Tryz.func170 rfl rfl (Nat.le_of_ble_eq_true rfl) (by kernel_rfl) ?_
 unfold schedule_windowFault at hF
 refine wH_seq (wH_region (h_box 0 (.inl rfl) [(vI wv_1.From), (vI wv_1.To)] rfl rfl wz (fun n_2 => h_op (vI 0) wz rfl (h_nil (wH_seq (wH_seq ?_))))))
 obtain ⟨v_3, h_4, hF⟩ := bind_some hF
 refine wH_join (β := Unit) (fun _ => ([(1, (.ref n_2 0 0)), (12, (vB v_3))] : List (Nat × V))) (fun _ => ([(n_2, some (.cells 2 [(vI wv_1.From), (vI wv_1.To)]))] : Hp)) (fun _ => True) ?_ ?_
 ·refine wH_region (h_far pl109_0 rfl 0 rfl wz (h_ldr 0 0 il ft sz3 ag3 rfl rfl (vI wv_1.From) rfl wz (h_far pl109_1 rfl 1 rfl wz (h_ldr 0 0 il ft sz3 ag3 rfl rfl (vI wv_1.To) rfl wz ?_))))
  obtain ⟨r_5, hr_6, h_4⟩ := bind_some h_4
  refine h_call0 (kit_Outside_ok hr_6) rfl hb86 rfl rfl rfl rfl wz ?_
  rcases cond_some h_4 with ⟨hc_7, h_4⟩ | ⟨hc_7, h_4⟩
  ·refine h_movb rfl hc_7 wz (h_skip wa (h_skip wa (h_skip wa (h_op (vB true) wz rfl (h_nil ?_)))))
   obtain rfl := some_inj h_4
   exact cu
  ·refine h_movb rfl hc_7 wz (h_far pl109_1 rfl 1 rfl wa (h_ldr 0 0 il ft sz3 ag3 rfl rfl (vI wv_1.To) rfl wa (h_op (vB (decide (wv_1.To > 345686400000))) wa rfl (h_op (vB (decide (wv_1.To > 345686400000))) wz rfl (h_nil ?_)))))
   obtain rfl := some_inj h_4
   exact cu
 ·rintro ⟨⟩ _ sl_ H_ hp_ hq_
  refine wH_at _ hp_ hq_ ?_
  rcases cond_some hF with ⟨hc_8, hF⟩ | ⟨hc_8, hF⟩
  ·refine wH_ift rfl hc_8 (wH_seq (wH_region (h_op (vI 1) wz rfl (h_nil ?_))))
   obtain rfl := some_inj hF
   exact wH_ret (fin0 (.inr rfl) [(vI 1)] ⟨rfl, trivial⟩ rfl rfl rfl)
  ·refine wH_iff rfl hc_8 (wH_skip (wH_seq (wH_seq (wH_region (h_far pl109_1 rfl 1 rfl wz (h_ldr 0 0 il ft sz3 ag3 rfl rfl (vI wv_1.To) rfl wz (h_far pl109_0 rfl 0 rfl wz (h_ldr 0 0 il ft sz3 ag3 rfl rfl (vI wv_1.From) rfl wz (h_op (vI (w64 (wv_1.To - wv_1.From))) wz rfl (h_op (vB (decide ((w64 (wv_1.To - wv_1.From)) > 34560000000))) wz rfl (h_nil ?_)))))))))))
   rcases cond_some hF with ⟨hc_9, hF⟩ | ⟨hc_9, hF⟩
   ·refine wH_ift rfl hc_9 (wH_seq (wH_region (h_op (vI 2) wz rfl (h_nil ?_))))
    obtain rfl := some_inj hF
    exact wH_ret (fin0 (.inr rfl) [(vI 2)] ⟨rfl, trivial⟩ rfl rfl rfl)
   ·refine wH_iff rfl hc_9 (wH_skip (wH_seq (wH_region (h_op (vI 0) wz rfl (h_nil ?_)))))
    obtain rfl := some_inj hF
    exact wH_ret (fin0 (.inr rfl) [(vI 0)] ⟨rfl, trivial⟩ rfl rfl rfl)
theorem cmp_Less_int_ok {x_1 : Int} {y_2 : Int} {r : Bool} (hF : cmp_Less_int x_1 y_2 = some r) :
  FnM Tryz.prog 273 [(vI x_1), (vI y_2)] [] (vB r) [] := by
 refine FnM.of_wH ⟨Tryz.prog, 17, [], []⟩ rfl Tryz.func273 rfl rfl (Nat.le_of_ble_eq_true rfl) (by kernel_rfl) ?_
 unfold cmp_Less_int at hF
 refine wH_seq (wH_region (h_op (vB false) wz rfl (h_nil (wH_seq ?_))))
 obtain ⟨v_3, h_4, hF⟩ := bind_some hF
 refine wH_join (β := Unit) (fun _ => ([(4, (vB v_3))] : List (Nat × V))) (fun _ => ([] : Hp)) (fun _ => True) ?_ ?_
 ·refine wH_region (h_op (vI x_1) wz rfl ?_)
  obtain ⟨r_5, hr_6, h_4⟩ := bind_some h_4
  refine h_call0 (cmp_isNaN_int_ok hr_6) rfl hb205 rfl rfl rfl rfl wz ?_
  rcases cond_some h_4 with ⟨hc_7, h_4⟩ | ⟨hc_7, h_4⟩
  ·refine h_movb rfl hc_7 wz (h_op (vI y_2) wa rfl ?_)
   obtain ⟨r_8, hr_9, h_4⟩ := bind_some h_4
   refine h_call0 (cmp_isNaN_int_ok hr_9) rfl hb205 rfl rfl rfl rfl wa (h_op (vB (!r_8)) wa rfl (h_op (vB (!r_8)) wz rfl ?_))
   rcases cond_some h_4 with ⟨hc_10, h_4⟩ | ⟨hc_10, h_4⟩
   ·refine h_movb rfl hc_10 wz (h_skip wa (h_skip wa (h_skip wa (h_op (vB true) wz rfl (h_op (vB true) wz rfl (h_nil ?_))))))
    obtain rfl := some_inj h_4
    exact cu
   ·refine h_movb rfl hc_10 wz (h_op (vI x_1) wa rfl (h_op (vI y_2) wa rfl (h_op (vB (decide (x_1 < y_2))) wa rfl (h_op (vB (decide (x_1 < y_2))) wz rfl (h_op (vB (decide (x_1 < y_2))) wz rfl (h_nil ?_))))))
    obtain rfl := some_inj h_4
    exact cu
  ·refine h_movb rfl hc_7 wz (h_skip wa (h_skip wa (h_skip wa (h_op (vB false) wz rfl (h_op (vB false) wz rfl (h_op (vI x_1) wa rfl (h_op (vI y_2) wa rfl (h_op (vB (decide (x_1 < y_2))) wa rfl (h_op (vB (decide (x_1 < y_2))) wz rfl (h_op (vB (decide (x_1 < y_2))) wz rfl (h_nil ?_)))))))))))
   obtain rfl := some_inj h_4
   exact cu
 ·rintro ⟨⟩ _ sl_ H_ hp_ hq_
  refine wH_at _ hp_ hq_ ?_
  obtain rfl := some_inj hF
  exact wH_ret (fin0 (.inr rfl) [(vB v_3)] ⟨rfl, trivial⟩ rfl rfl rfl)
theorem slices_isNaN_int_ok {x_1 : Int} {r : Bool} (hF : slices_isNaN_int x_1 = some r) :
  FnM Tryz.prog 300 [(vI x_1)] [] (vB r) [] := by
 refine FnM.of_wH ⟨Tryz.prog, 6, [], []⟩ rfl Tryz.func300 rfl rfl (Nat.le_of_ble_eq_true rfl) (by kernel_rfl) ?_
 unfold slices_isNaN_int at hF
 refine wH_seq (wH_region (h_op (vB false) wz rfl (h_nil (wH_seq (wH_region (h_op (vI x_1) wz rfl (h_op (vI x_1) wz rfl (h_op (vB (x_1 != x_1)) wz rfl (h_op (vB (x_1 != x_1)) wz rfl (h_nil ?_))))))))))
 obtain rfl := some_inj hF
 exact wH_ret (fin0 (.inr rfl) [(vB (x_1 != x_1))] ⟨rfl, trivial⟩ rfl rfl rfl)
theorem slices_BinarySearch_int_int_ok {x_1 : (List Int)} {target_2 : Int} {r : Int × Bool} (hF : slices_BinarySearch_int_int x_1 target_2 = some r) :
  FnM Tryz.prog 264 [(vL eI x_1), (vI target_2)] [] (.tup [(vI r.1), (vB r.2)]) [] := by
 refine FnM.of_wH ⟨Tryz.prog, 54, [], []⟩ rfl Tryz.func264 rfl rfl (Nat.le_of_ble_eq_true rfl) (by kernel_rfl) ?_
 unfold slices_BinarySearch_int_int at hF
 refine wH_seq (wH_region (h_op (vI 0) wz rfl (h_op (vB false) wz rfl (h_nil (wH_seq (wH_region (h_op (vL eI x_1) wz rfl (h_len un22 rfl wz (h_op (vI (x_1.length : Int)) wz rfl (h_nil (wH_seq (wH_region (h_op (vI (x_1.length : Int)) wz rfl (h_op (vI 0) wz rfl (h_op (vI (x_1.length : Int)) wz rfl (h_nil (wH_seq ?_)))))))))))))))))
 obtain ⟨o_11, hj_12, hF⟩ := bind_some hF
 obtain ⟨nq_34, hj_12⟩ := loopO_iter hj_12
 refine wH_join (β := (Int × Int)) (fun (s_8 : Int × Int) => ([(0, (vL eI x_1)), (1, (vI target_2)), (6, (vI (x_1.length : Int))), (7, (vI s_8.1))] : List (Nat × V))) (fun (s_8 : Int × Int) => ([] : Hp)) (fun p => o_11 = .go p) ?_ ?_
 ·refine wH_block (wH_loop (β := Nat × (Int × Int)) (fun p => (fun (k_3 : Nat) (s_8 : Int × Int) => ([(0, (vL eI x_1)), (1, (vI target_2)), (6, (vI (x_1.length : Int))), (7, (vI s_8.1)), (8, (vI s_8.2))] : List (Nat × V))) p.1 p.2) (fun p => (fun (k_3 : Nat) (s_8 : Int × Int) => ([] : Hp)) p.1 p.2) (fun p => iterN (fun s => slices_BinarySearch_int_int_L1 x_1 target_2 s) p.1 p.2 = some o_11) (fun p => p.1) (nq_34, (0, (x_1.length : Int))) hj_12 rfl (pre_r rfl) ?_)
  rintro ⟨k_3, s_8⟩ hL_10
  dsimp only at hL_10
  cases k_3 with
  | zero => cases hL_10
  | succ k_3 =>
   obtain ⟨c_, hc_9, hL_10⟩ := bind_some hL_10
   unfold slices_BinarySearch_int_int_L1 at hc_9
   refine wH_seq (wH_seq (wH_region (h_op (vI s_8.1) wz rfl (h_op (vI s_8.2) wz rfl (h_op (vB (decide (s_8.1 < s_8.2))) wz rfl (h_nil ?_))))))
   rcases cond_some hc_9 with ⟨hc_13, hc_9⟩ | ⟨hc_13, hc_9⟩
   ·refine wH_ift rfl hc_13 (wH_skip (wH_block (wH_seq (wH_region (h_op (vI s_8.1) wz rfl (h_op (vI s_8.2) wz rfl (h_op (vI (w64 (s_8.1 + s_8.2))) wz rfl (h_conv un3 un268 rfl wz ?_))))))))
    obtain ⟨q_14, hz_15, hc_9⟩ := bind_some hc_9
    refine h_shr rfl rfl hz_15 wz (h_conv un268 un3 rfl wz (h_op (vI (w64 q_14)) wz rfl (h_nil (wH_seq (wH_region (h_op (vL eI x_1) wz rfl (h_op (vI (w64 q_14)) wz rfl ?_)))))))
    obtain ⟨y_16, hy_17, hc_9⟩ := bind_some hc_9
    refine h_ia es22 rfl rfl hy_17 rfl wz (h_ldc sz3 ag3 rfl (vI y_16) rfl wz (h_op (vI target_2) wz rfl ?_))
    obtain ⟨r_18, hr_19, hc_9⟩ := bind_some hc_9
    refine h_call0 (cmp_Less_int_ok hr_19) rfl hb273 rfl rfl rfl rfl wz (h_nil ?_)
    rcases cond_some hc_9 with ⟨hc_20, hc_9⟩ | ⟨hc_20, hc_9⟩
    ·refine wH_ift rfl hc_20 (wH_region (h_op (vI (w64 q_14)) wz rfl (h_op (vI (w64 ((w64 q_14) + 1))) wz rfl (h_op (vI (w64 ((w64 q_14) + 1))) wz rfl (h_nil ?_)))))
     obtain rfl := some_inj hc_9
     exact loop_mk (k_3, ((w64 ((w64 q_14) + 1)), s_8.2)) hL_10 (Nat.lt_succ_self _) rfl (pre_r rfl)
    ·refine wH_iff rfl hc_20 (wH_region (h_op (vI (w64 q_14)) wz rfl (h_op (vI (w64 q_14)) wz rfl (h_nil ?_))))
     obtain rfl := some_inj hc_9
     exact loop_mk (k_3, (s_8.1, (w64 q_14))) hL_10 (Nat.lt_succ_self _) rfl (pre_r rfl)
   ·refine wH_iff rfl hc_13 (wH_exit ?_)
    obtain rfl := some_inj hc_9
    obtain rfl := some_inj hL_10
    exact cut_mk ((s_8.1, s_8.2)) rfl rfl (pre_r rfl)
 ·rintro s_8 ho_ sl_ H_ hp_ hq_
  subst ho_
  refine wH_at _ hp_ hq_ (wH_seq ?_)
  obtain ⟨v_21, h_22, hF⟩ := bind_some hF
  refine wH_join (β := Unit) (fun _ => ([(4, (vI s_8.1)), (5, (vB v_21))] : List (Nat × V))) (fun _ => ([] : Hp)) (fun _ => True) ?_ ?_
  ·refine wH_region (h_op (vI s_8.1) wz rfl (h_op (vI s_8.1) wz rfl (h_op (vI (x_1.length : Int)) wz rfl (h_op (vB (decide (s_8.1 < (x_1.length : Int)))) wz rfl ?_))))
   rcases cond_some h_22 with ⟨hc_23, h_22⟩ | ⟨hc_23, h_22⟩
   ·refine h_movb rfl hc_23 wz (h_op (vL eI x_1) wa rfl (h_op (vI s_8.1) wa rfl ?_))
    obtain ⟨y_24, hy_25, h_22⟩ := bind_some h_22
    refine h_ia es22 rfl rfl hy_25 rfl wa (h_ldc sz3 ag3 rfl (vI y_24) rfl wa (h_op (vI target_2) wa rfl (h_op (vB (y_24 == target_2)) wa rfl ?_)))
    rcases cond_some h_22 with ⟨hc_26, h_22⟩ | ⟨hc_26, h_22⟩
    ·refine h_movb rfl hc_26 wa (h_skip wa (h_skip wa (h_skip wa (h_skip wa (h_skip wa (h_skip wa (h_skip (wn rfl rfl) (h_skip (wn rfl rfl) (h_skip wa (h_op (vB true) wa rfl (h_op (vB true) wz rfl (h_op (vI s_8.1) wz rfl (h_op (vB true) wz rfl (h_nil ?_))))))))))))))
     obtain rfl := some_inj h_22
     exact cu
    ·refine h_movb rfl hc_26 wa (h_op (vL eI x_1) wa rfl (h_op (vI s_8.1) wa rfl ?_))
     obtain ⟨y_27, hy_28, h_22⟩ := bind_some h_22
     refine h_ia es22 rfl rfl hy_28 rfl wa (h_ldc sz3 ag3 rfl (vI y_27) rfl wa ?_)
     obtain ⟨r_29, hr_30, h_22⟩ := bind_some h_22
     refine h_call0 (slices_isNaN_int_ok hr_30) rfl hb300 rfl rfl rfl rfl wa ?_
     rcases cond_some h_22 with ⟨hc_31, h_22⟩ | ⟨hc_31, h_22⟩
     ·refine h_movb rfl hc_31 wa (h_op (vI target_2) wa rfl ?_)
      obtain ⟨r_32, hr_33, h_22⟩ := bind_some h_22
      refine h_call0 (slices_isNaN_int_ok hr_33) rfl hb300 rfl rfl rfl rfl wa (h_op (vB r_32) wa rfl (h_op (vB r_32) wa rfl (h_op (vB r_32) wz rfl (h_op (vI s_8.1) wz rfl (h_op (vB r_32) wz rfl (h_nil ?_))))))
      obtain rfl := some_inj h_22
      exact cu
     ·refine h_movb rfl hc_31 wa (h_skip wa (h_skip wa (h_op (vB false) wa rfl (h_op (vB false) wa rfl (h_op (vB false) wz rfl (h_op (vI s_8.1) wz rfl (h_op (vB false) wz rfl (h_nil ?_))))))))
      obtain rfl := some_inj h_22
      exact cu
   ·refine h_movb rfl hc_23 wz (h_skip wa (h_skip wa (h_skip wa (h_skip wa (h_skip wa (h_skip wa (h_skip wa (h_skip (wn rfl rfl) (h_skip (wn rfl rfl) (h_skip (wn rfl rfl) (h_skip (wn rfl rfl) (h_skip (wn rfl rfl) (h_skip (wn rfl rfl) (h_skip (wn rfl rfl) (h_skip (wn rfl rfl) (h_skip (wn rfl rfl) (h_skip wa (h_op (vB false) wz rfl (h_op (vI s_8.1) wz rfl (h_op (vB false) wz rfl (h_nil ?_)))))))))))))))))))))
    obtain rfl := some_inj h_22
    exact cu
  ·rintro ⟨⟩ _ sl_ H_ hp_ hq_
   refine wH_at _ hp_ hq_ ?_
   obtain rfl := some_inj hF
   exact wH_ret (fin0 (.inr rfl) [(vI s_8.1), (vB v_21)] ⟨rfl, ⟨rfl, trivial⟩⟩ rfl rfl rfl)
theorem schedule_isDay_ok {e_1 : Entry} {d_2 : Int} {r : Bool} (hF : schedule_isDay e_1 d_2 = some r) :
  FnM Tryz.prog 211 [(.d (.agg (Entry.enc e_1))), (vI d_2)] [] (vB r) [] := by
 refine FnM.of_wH ⟨Tryz.prog, 41, [], []⟩ rfl Tryz.func211 rfl rfl (Nat.le_of_ble_eq_true rfl) (by kernel_rfl) ?_
 unfold schedule_isDay at hF
 refine wH_seq (wH_region (h_box 0 (.inl rfl) [(vS e_1.Key), (vS e_1.Item), (vI e_1.Version), (vI e_1.First), (vI e_1.Last), (vI e_1.Every), (vI e_1.Days), (vL eI e_1.Except), (vI e_1.From), (vI e_1.To), (vI e_1.Prio), (vL eS e_1.Tags), (vB e_1.Gone)] rfl rfl wz (fun n_3 => h_op (vB false) wz rfl (h_nil (wH_seq (wH_seq ?_))))))
 obtain ⟨v_4, h_5, hF⟩ := bind_some hF
 refine wH_join (β := Unit) (fun _ => ([(1, (vI d_2)), (2, (.ref n_3 0 0)), (31, (vB v_4))] : List (Nat × V))) (fun _ => ([(n_3, some (.cells 13 [(vS e_1.Key), (vS e_1.Item), (vI e_1.Version), (vI e_1.First), (vI e_1.Last), (vI e_1.Every), (vI e_1.Days), (vL eI e_1.Except), (vI e_1.From), (vI e_1.To), (vI e_1.Prio), (vL eS e_1.Tags), (vB e_1.Gone)]))] : Hp)) (fun _ => True) ?_ ?_
 ·refine wH_draws (h_op (vI d_2) wz rfl (h_far pl170_3 rfl 3 rfl wz (h_ldr 2 0 (.inr (by kernel_rfl)) (fun _ _ ag => trivial) sz3 ag3 rfl rfl (vI e_1.First) rfl wz (h_far pl170_4 rfl 4 rfl wz (h_ldr 4 0 (.inr (by kernel_rfl)) (fun _ _ ag => ⟨.inl ⟨rfl, rfl⟩, trivial⟩) sz3 ag3 rfl rfl (vI e_1.Last) rfl wz ?_)))))
  obtain ⟨r_6, hr_7, h_5⟩ := bind_some h_5
  refine h_call0 (kit_Outside_ok hr_7) rfl hb86 rfl rfl rfl rfl wz ?_
  rcases cond_some h_5 with ⟨hc_8, h_5⟩ | ⟨hc_8, h_5⟩
  ·refine h_movb rfl hc_8 wz (h_skip wa (h_skip wa (h_skip wa (h_skip wa (h_skip wa (h_skip wa (h_skip wa (h_skip wa (h_op (vB true) wz rfl (h_op (vB true) wz rfl (h_skip wa (h_skip wa (h_skip wa (h_skip wa (h_skip wa (h_skip wa (h_skip wa (h_op (vB true) wz rfl (h_nil ?_)))))))))))))))))))
   obtain rfl := some_inj h_5
   exact cu
  ·refine h_movb rfl hc_8 wz (h_op (vI d_2) wa rfl (h_far pl170_3 rfl 3 rfl wa (h_ldr 9 0 (.inr (by kernel_rfl)) (fun _ _ ag => ⟨.inl ⟨rfl, rfl⟩, ⟨.inl ⟨rfl, rfl⟩, trivial⟩⟩) sz3 ag3 rfl rfl (vI e_1.First) rfl wa (h_op (vI (w64 (d_2 - e_1.First))) wa rfl (h_far pl170_5 rfl 5 rfl wa (h_ldr 12 0 (.inr (by kernel_rfl)) (fun _ _ ag => ⟨.inl ⟨rfl, rfl⟩, ⟨.inl ⟨rfl, rfl⟩, ⟨.inl ⟨rfl, rfl⟩, trivial⟩⟩⟩) sz3 ag3 rfl rfl (vI e_1.Every) rfl wa ?_))))))
   obtain ⟨q_9, hz_10, h_5⟩ := bind_some h_5
   refine h_rem rfl rfl hz_10 wa (h_op (vB (q_9 != 0)) wa rfl (h_op (vB (q_9 != 0)) wz rfl ?_))
   rcases cond_some h_5 with ⟨hc_11, h_5⟩ | ⟨hc_11, h_5⟩
   ·refine h_movb rfl hc_11 wz (h_skip wa (h_skip wa (h_skip wa (h_skip wa (h_skip wa (h_skip wa (h_skip wa (h_op (vB true) wz rfl (h_nil ?_)))))))))
    obtain rfl := some_inj h_5
    exact cu
   ·refine h_movb rfl hc_11 wz (h_far pl170_6 rfl 6 rfl wa (h_ldr 18 0 (.inr (by kernel_rfl)) (fun _ _ ag => ⟨.inl ⟨rfl, rfl⟩, ⟨.inl ⟨rfl, rfl⟩, ⟨.inl ⟨rfl, rfl⟩, ⟨.inl ⟨rfl, rfl⟩, trivial⟩⟩⟩⟩) sz3 ag3 rfl rfl (vI e_1.Days) rfl wa (h_op (vI d_2) wa rfl (h_op (vI (d_2.tmod 7)) wa rfl ?_))))
    obtain ⟨q_12, hz_13, h_5⟩ := bind_some h_5
    refine h_shl rfl rfl hz_13 wa (h_op (vI (andI .i64 e_1.Days q_12)) wa rfl (h_op (vB ((andI .i64 e_1.Days q_12) == 0)) wa rfl (h_op (vB ((andI .i64 e_1.Days q_12) == 0)) wz rfl (h_nil ?_))))
    obtain rfl := some_inj h_5
    exact cu
 ·rintro ⟨⟩ _ sl_ H_ hp_ hq_
  refine wH_at _ hp_ hq_ ?_
  rcases cond_some hF with ⟨hc_14, hF⟩ | ⟨hc_14, hF⟩
  ·refine wH_ift rfl hc_14 (wH_seq (wH_region (h_op (vB false) wz rfl (h_nil ?_))))
   obtain rfl := some_inj hF
   exact wH_ret (fin0 (.inr rfl) [(vB false)] ⟨rfl, trivial⟩ rfl rfl rfl)
  ·refine wH_iff rfl hc_14 (wH_skip (wH_seq (wH_region (h_far pl170_7 rfl 7 rfl wz (h_ldr 0 0 il ft sz22 ag22 rfl rfl (vL eI e_1.Except) rfl wz (h_op (vI d_2) wz rfl ?_))))))
   obtain ⟨r_15, hr_16, hF⟩ := bind_some hF
   refine h_call0 (slices_BinarySearch_int_int_ok hr_16) rfl hb264 rfl rfl rfl rfl wz (h_op (.tup [(vI r_15.1), (vB r_15.2)]) wz rfl (h_op (vI r_15.1) wz rfl (h_op (vB r_15.2) wz rfl (h_op (vI r_15.1) wz rfl (h_op (vB r_15.2) wz rfl (h_nil (wH_seq (wH_region (h_op (vB r_15.2) wz rfl (h_op (vB (!r_15.2)) wz rfl (h_op (vB (!r_15.2)) wz rfl (h_nil ?_))))))))))))
   obtain rfl := some_inj hF
   exact wH_ret (fin0 (.inr rfl) [(vB (!r_15.2))] ⟨rfl, trivial⟩ rfl rfl rfl)
theorem schedule_timeOf_ok {e_1 : Entry} {zone_2 : Int} {d_3 : Int} {r : Window} (hF : schedule_timeOf e_1 zone_2 d_3 = some r) :
  FnM Tryz.prog 212 [(.d (.agg (Entry.enc e_1))), (vI zone_2), (vI d_3)] [] (.d (.agg (Window.enc r))) [] := by
 refine FnM.of_wH ⟨Tryz.prog, 32, [], []⟩ rfl Tryz.func212 rfl rfl (Nat.le_of_ble_eq_true rfl) (by kernel_rfl) ?_
 unfold schedule_timeOf at hF
 refine wH_seq (wH_region (h_box 0 (.inl rfl) [(vS e_1.Key), (vS e_1.Item), (vI e_1.Version), (vI e_1.First), (vI e_1.Last), (vI e_1.Every), (vI e_1.Days), (vL eI e_1.Except), (vI e_1.From), (vI e_1.To), (vI e_1.Prio), (vL eS e_1.Tags), (vB e_1.Gone)] rfl rfl wz (fun n_4 => h_alloc 0 (.inl rfl) z109 rfl wz (fun n_5 => h_nil (wH_seq (wH_region (h_far pl170_9 rfl 9 rfl wz (h_ldr 0 0 il ft sz3 ag3 rfl rfl (vI e_1.To) rfl wz (h_far pl170_8 rfl 8 rfl wz (h_ldr 0 0 il ft sz3 ag3 rfl rfl (vI e_1.From) rfl wz (h_op (vI (w64 (e_1.To - e_1.From))) wz rfl (h_op (vI (w64 (e_1.To - e_1.From))) wz rfl (h_nil (wH_seq (wH_seq (wH_region (h_op (vI (w64 (e_1.To - e_1.From))) wz rfl (h_op (vB (decide ((w64 (e_1.To - e_1.From)) ≤ 0))) wz rfl (h_nil ?_)))))))))))))))))))
 obtain ⟨v_6, h_7, hF⟩ := bind_some hF
 refine wH_join (β := Unit) (fun _ => ([(1, (vI zone_2)), (2, (vI d_3)), (3, (.ref n_4 0 0)), (6, (.ref n_5 0 0)), (7, (vI v_6))] : List (Nat × V))) (fun _ => ([(n_4, some (.cells 13 [(vS e_1.Key), (vS e_1.Item), (vI e_1.Version), (vI e_1.First), (vI e_1.Last), (vI e_1.Every), (vI e_1.Days), (vL eI e_1.Except), (vI e_1.From), (vI e_1.To), (vI e_1.Prio), (vL eS e_1.Tags), (vB e_1.Gone)])), (n_5, some (.cells 2 [(vI 0), (vI 0)]))] : Hp)) (fun _ => True) ?_ ?_
 ·rcases cond_some h_7 with ⟨hc_8, h_7⟩ | ⟨hc_8, h_7⟩
  ·refine wH_ift rfl hc_8 (wH_region (h_op (vI (w64 (e_1.To - e_1.From))) wz rfl (h_op (vI (w64 ((w64 (e_1.To - e_1.From)) + 1440))) wz rfl (h_op (vI (w64 ((w64 (e_1.To - e_1.From)) + 1440))) wz rfl (h_nil ?_)))))
   obtain rfl := some_inj h_7
   exact cu
  ·refine wH_iff rfl hc_8 (wH_skip ?_)
   obtain rfl := some_inj h_7
   exact cu
 ·rintro ⟨⟩ _ sl_ H_ hp_ hq_
  refine wH_at _ hp_ hq_ (wH_seq (wH_region (h_op (vI d_3) wz rfl (h_op (vI (w64 (d_3 * 1440))) wz rfl (h_far pl170_8 rfl 8 rfl wz (h_ldr 0 0 il ft sz3 ag3 rfl rfl (vI e_1.From) rfl wz (h_op (vI (w64 ((w64 (d_3 * 1440)) + e_1.From))) wz rfl (h_op (vI zone_2) wz rfl (h_op (vI (w64 ((w64 ((w64 (d_3 * 1440)) + e_1.From)) - zone_2))) wz rfl (h_op (vI (w64 ((w64 ((w64 ((w64 (d_3 * 1440)) + e_1.From)) - zone_2)) * 60000))) wz rfl (h_op (vI (w64 ((w64 ((w64 ((w64 (d_3 * 1440)) + e_1.From)) - zone_2)) * 60000))) wz rfl (h_nil (wH_seq (wH_region (h_op (vI (w64 ((w64 ((w64 ((w64 (d_3 * 1440)) + e_1.From)) - zone_2)) * 60000))) wz rfl (h_op (vI (w64 ((w64 ((w64 ((w64 (d_3 * 1440)) + e_1.From)) - zone_2)) * 60000))) wz rfl (h_op (vI v_6) wz rfl (h_op (vI (w64 (v_6 * 60000))) wz rfl (h_op (vI (w64 ((w64 ((w64 ((w64 ((w64 (d_3 * 1440)) + e_1.From)) - zone_2)) * 60000)) + (w64 (v_6 * 60000))))) wz rfl (h_op (.d (.agg (Window.enc (⟨(w64 ((w64 ((w64 ((w64 (d_3 * 1440)) + e_1.From)) - zone_2)) * 60000)), (w64 ((w64 ((w64 ((w64 ((w64 (d_3 * 1440)) + e_1.From)) - zone_2)) * 60000)) + (w64 (v_6 * 60000))))⟩ : Window)))) wz (by kernel_rfl) (h_str 0 il ft 1 sz109 rfl rfl [(vI (w64 ((w64 ((w64 ((w64 (d_3 * 1440)) + e_1.From)) - zone_2)) * 60000))), (vI (w64 ((w64 ((w64 ((w64 ((w64 (d_3 * 1440)) + e_1.From)) - zone_2)) * 60000)) + (w64 (v_6 * 60000)))))] rfl wz (h_nil ?_))))))))))))))))))))))
  obtain rfl := some_inj hF
  exact wH_ret (fin0 (.inr rfl) [(.d (.agg (Window.enc (⟨(w64 ((w64 ((w64 ((w64 (d_3 * 1440)) + e_1.From)) - zone_2)) * 60000)), (w64 ((w64 ((w64 ((w64 ((w64 (d_3 * 1440)) + e_1.From)) - zone_2)) * 60000)) + (w64 (v_6 * 60000))))⟩ : Window))))] ⟨⟨1, _, _, _, _, _, _, _, rfl, rfl, sz109, ag109, rfl⟩, trivial⟩ rfl rfl rfl)
theorem schedule_cut_ok {t_1 : Window} {wv_2 : Window} {r : Window} (hF : schedule_cut t_1 wv_2 = some r) :
  FnM Tryz.prog 172 [(.d (.agg (Window.enc t_1))), (.d (.agg (Window.enc wv_2)))] [] (.d (.agg (Window.enc r))) [] := by
 refine FnM.of_wH ⟨Tryz.prog, 16, [], []⟩ rfl Tryz.func172 rfl rfl (Nat.le_of_ble_eq_true rfl) (by kernel_rfl) ?_
 unfold schedule_cut at hF
 refine wH_seq (wH_region (h_box 0 (.inl rfl) [(vI t_1.From), (vI t_1.To)] rfl rfl wz (fun n_3 => h_box 0 (.inl rfl) [(vI wv_2.From), (vI wv_2.To)] rfl rfl wz (fun n_4 => h_alloc 0 (.inl rfl) z109 rfl wz (fun n_5 => h_nil (wH_seq (wH_region (h_far pl109_0 rfl 0 rfl wz (h_ldr 0 0 il ft sz3 ag3 rfl rfl (vI t_1.From) rfl wz (h_far pl109_0 rfl 0 rfl wz (h_ldr 0 1 il ft sz3 ag3 rfl rfl (vI wv_2.From) rfl wz (h_minmax (vI (maxI t_1.From wv_2.From)) rfl (.inr rfl) wz (h_far pl109_1 rfl 1 rfl wz (h_ldr 0 0 il ft sz3 ag3 rfl rfl (vI t_1.To) rfl wz (h_far pl109_1 rfl 1 rfl wz (h_ldr 0 1 il ft sz3 ag3 rfl rfl (vI wv_2.To) rfl wz (h_minmax (vI (minI t_1.To wv_2.To)) rfl (.inl rfl) wz (h_op (.d (.agg (Window.enc (⟨(maxI t_1.From wv_2.From), (minI t_1.To wv_2.To)⟩ : Window)))) wz (by kernel_rfl) (h_str 0 il ft 2 sz109 rfl rfl [(vI (maxI t_1.From wv_2.From)), (vI (minI t_1.To wv_2.To))] rfl wz (h_nil ?_))))))))))))))))))))
 obtain rfl := some_inj hF
 exact wH_ret (fin0 (.inr rfl) [(.d (.agg (Window.enc (⟨(maxI t_1.From wv_2.From), (minI t_1.To wv_2.To)⟩ : Window))))] ⟨⟨2, _, _, _, _, _, _, _, rfl, rfl, sz109, ag109, rfl⟩, trivial⟩ rfl rfl rfl)
theorem schedule_times_okb {e_1 : Entry} {zone_2 : Int} {wv_3 : Window} {r : (List Window)} (hF : schedule_times e_1 zone_2 wv_3 = some r) :
  FnM Tryz.prog 171 [(.d (.agg (Entry.enc e_1))), (vI zone_2), (.d (.agg (Window.enc wv_3)))] [] (gV (extN 0) 2 r) (([] : List Box).map some ++ gO 2 Window.enc r) := by
 refine FnM.of_wH ⟨Tryz.prog, 72, [], []⟩ rfl Tryz.func171 rfl rfl (Nat.le_of_ble_eq_true rfl) (by kernel_rfl) ?_
 unfold schedule_times at hF
 refine wH_seq (wH_region (h_box 0 (.inl rfl) [(vS e_1.Key), (vS e_1.Item), (vI e_1.Version), (vI e_1.First), (vI e_1.Last), (vI e_1.Every), (vI e_1.Days), (vL eI e_1.Except), (vI e_1.From), (vI e_1.To), (vI e_1.Prio), (vL eS e_1.Tags), (vB e_1.Gone)] rfl rfl wz (fun n_4 => h_box 0 (.inl rfl) [(vI wv_3.From), (vI wv_3.To)] rfl rfl wz (fun n_5 => h_op .nil wz rfl (h_nil (wH_seq (wH_region (h_op .nil wz rfl (h_nil (wH_seq (wH_seq ?_)))))))))))
 obtain ⟨v_6, h_7, hF⟩ := bind_some hF
 refine wH_join (β := Unit) (fun _ => ([(1, (vI zone_2)), (3, (.ref n_4 0 0)), (5, (.ref n_5 0 0)), (7, .nil), (20, (vB v_6))] : List (Nat × V))) (fun _ => ([(n_4, some (.cells 13 [(vS e_1.Key), (vS e_1.Item), (vI e_1.Version), (vI e_1.First), (vI e_1.Last), (vI e_1.Every), (vI e_1.Days), (vL eI e_1.Except), (vI e_1.From), (vI e_1.To), (vI e_1.Prio), (vL eS e_1.Tags), (vB e_1.Gone)])), (n_5, some (.cells 2 [(vI wv_3.From), (vI wv_3.To)]))] : Hp)) (fun _ => True) ?_ ?_
 ·refine wH_region (h_far pl170_12 rfl 12 rfl wz (h_ldr 0 0 il ft sz4 ag4 rfl rfl (vB e_1.Gone) rfl wz ?_))
  rcases cond_some h_7 with ⟨hc_8, h_7⟩ | ⟨hc_8, h_7⟩
  ·refine h_movb rfl hc_8 wz (h_skip wa (h_skip wa (h_skip wa (h_skip wa (h_skip wa (h_op (vB true) wz rfl (h_nil ?_)))))))
   obtain rfl := some_inj h_7
   exact cu
  ·refine h_movb rfl hc_8 wz (h_far pl109_0 rfl 0 rfl wa (h_ldr 0 1 il ft sz3 ag3 rfl rfl (vI wv_3.From) rfl wa (h_far pl109_1 rfl 1 rfl wa (h_ldr 0 1 il ft sz3 ag3 rfl rfl (vI wv_3.To) rfl wa (h_op (vB (decide (wv_3.From ≥ wv_3.To))) wa rfl (h_op (vB (decide (wv_3.From ≥ wv_3.To))) wz rfl (h_nil ?_)))))))
   obtain rfl := some_inj h_7
   exact cu
 ·rintro ⟨⟩ _ sl_ H_ hp_ hq_
  refine wH_at _ hp_ hq_ ?_
  rcases cond_some hF with ⟨hc_9, hF⟩ | ⟨hc_9, hF⟩
  ·refine wH_ift rfl hc_9 (wH_seq (wH_region (h_op .nil wz rfl (h_nil (wH_new (fun n_10 => ?_))))))
   obtain rfl := some_inj hF
   exact wH_ret (finG (outs := ([] : List Box)) (.inr rfl) 2 rfl rfl rfl (by kernel_rfl) (by kernel_rfl))
  ·refine wH_iff rfl hc_9 (wH_skip (wH_seq (wH_region (h_far pl109_0 rfl 0 rfl wz (h_ldr 0 1 il ft sz3 ag3 rfl rfl (vI wv_3.From) rfl wz (h_op (vI zone_2) wz rfl (h_op (vI (w64 (zone_2 * 60000))) wz rfl (h_op (vI (w64 (wv_3.From + (w64 (zone_2 * 60000))))) wz rfl (h_op (vI (w64 ((w64 (wv_3.From + (w64 (zone_2 * 60000)))).tdiv 86400000))) wz rfl (h_op (vI (w64 ((w64 ((w64 (wv_3.From + (w64 (zone_2 * 60000)))).tdiv 86400000)) - 2))) wz rfl (h_op (vI (w64 ((w64 ((w64 (wv_3.From + (w64 (zone_2 * 60000)))).tdiv 86400000)) - 2))) wz rfl (h_nil (wH_seq (wH_region (h_far pl109_1 rfl 1 rfl wz (h_ldr 0 1 il ft sz3 ag3 rfl rfl (vI wv_3.To) rfl wz (h_op (vI zone_2) wz rfl (h_op (vI (w64 (zone_2 * 60000))) wz rfl (h_op (vI (w64 (wv_3.To + (w64 (zone_2 * 60000))))) wz rfl (h_op (vI (w64 ((w64 (wv_3.To + (w64 (zone_2 * 60000)))).tdiv 86400000))) wz rfl (h_op (vI (w64 ((w64 ((w64 (wv_3.To + (w64 (zone_2 * 60000)))).tdiv 86400000)) + 1))) wz rfl (h_op (vI (w64 ((w64 ((w64 (wv_3.To + (w64 (zone_2 * 60000)))).tdiv 86400000)) + 1))) wz rfl (h_nil ?_)))))))))))))))))))))))
   refine wH_seq (wH_seq (wH_region (h_op (vI (w64 ((w64 ((w64 (wv_3.From + (w64 (zone_2 * 60000)))).tdiv 86400000)) - 2))) wz rfl (h_far pl170_3 rfl 3 rfl wz (h_ldr 0 0 il ft sz3 ag3 rfl rfl (vI e_1.First) rfl wz (h_minmax (vI (maxI (w64 ((w64 ((w64 (wv_3.From + (w64 (zone_2 * 60000)))).tdiv 86400000)) - 2)) e_1.First)) rfl (.inr rfl) wz (h_op (vI (maxI (w64 ((w64 ((w64 (wv_3.From + (w64 (zone_2 * 60000)))).tdiv 86400000)) - 2)) e_1.First)) wz rfl (h_nil (wH_new (fun n_17 => ?_))))))))))
   obtain ⟨o_22, hj_23, hF⟩ := bind_some hF
   obtain ⟨nq_41, hj_23⟩ := loopO_iter hj_23
   refine wH_join (β := ((List Window) × Int) × Nm) (fun p => (fun (s_16 : (List Window) × Int) (n_19 : Nm) => ([(7, (gV n_19 2 s_16.1))] : List (Nat × V))) p.1 p.2) (fun p => (fun (s_16 : (List Window) × Int) (n_19 : Nm) => ([(n_4, some (.cells 13 [(vS e_1.Key), (vS e_1.Item), (vI e_1.Version), (vI e_1.First), (vI e_1.Last), (vI e_1.Every), (vI e_1.Days), (vL eI e_1.Except), (vI e_1.From), (vI e_1.To), (vI e_1.Prio), (vL eS e_1.Tags), (vB e_1.Gone)])), (n_5, some (.cells 2 [(vI wv_3.From), (vI wv_3.To)])), (n_19, gB 2 Window.enc s_16.1)] : Hp)) p.1 p.2) (fun p => o_22 = .go p.1) ?_ ?_
   ·refine wH_block (wH_loop (β := Nat × ((List Window) × Int) × Nm) (fun p => (fun (k_11 : Nat) (s_16 : (List Window) × Int) (n_19 : Nm) => ([(1, (vI zone_2)), (3, (.ref n_4 0 0)), (5, (.ref n_5 0 0)), (7, (gV n_19 2 s_16.1)), (9, (vI (w64 ((w64 ((w64 (wv_3.To + (w64 (zone_2 * 60000)))).tdiv 86400000)) + 1)))), (10, (vI s_16.2))] : List (Nat × V))) p.1 p.2.1 p.2.2) (fun p => (fun (k_11 : Nat) (s_16 : (List Window) × Int) (n_19 : Nm) => ([(n_4, some (.cells 13 [(vS e_1.Key), (vS e_1.Item), (vI e_1.Version), (vI e_1.First), (vI e_1.Last), (vI e_1.Every), (vI e_1.Days), (vL eI e_1.Except), (vI e_1.From), (vI e_1.To), (vI e_1.Prio), (vL eS e_1.Tags), (vB e_1.Gone)])), (n_5, some (.cells 2 [(vI wv_3.From), (vI wv_3.To)])), (n_19, gB 2 Window.enc s_16.1)] : Hp)) p.1 p.2.1 p.2.2) (fun p => iterN (fun s => schedule_times_L1 wv_3 zone_2 e_1 s) p.1 p.2.1 = some o_22) (fun p => p.1) (nq_41, (([] : List Window), (maxI (w64 ((w64 ((w64 (wv_3.From + (w64 (zone_2 * 60000)))).tdiv 86400000)) - 2)) e_1.First)), n_17) hj_23 rfl (pre_r rfl) ?_)
    rintro ⟨k_11, s_16, n_19⟩ hL_21
    dsimp only at hL_21
    cases k_11 with
    | zero => cases hL_21
    | succ k_11 =>
     obtain ⟨c_, hc_20, hL_21⟩ := bind_some hL_21
     unfold schedule_times_L1 at hc_20
     refine wH_seq (wH_seq (wH_region (h_op (vI s_16.2) wz rfl (h_op (vI (w64 ((w64 ((w64 (wv_3.To + (w64 (zone_2 * 60000)))).tdiv 86400000)) + 1))) wz rfl (h_far pl170_4 rfl 4 rfl wz (h_ldr 0 0 il ft sz3 ag3 rfl rfl (vI e_1.Last) rfl wz (h_minmax (vI (minI (w64 ((w64 ((w64 (wv_3.To + (w64 (zone_2 * 60000)))).tdiv 86400000)) + 1)) e_1.Last)) rfl (.inl rfl) wz (h_op (vB (decide (s_16.2 ≤ (minI (w64 ((w64 ((w64 (wv_3.To + (w64 (zone_2 * 60000)))).tdiv 86400000)) + 1)) e_1.Last)))) wz rfl (h_nil ?_)))))))))
     rcases cond_some hc_20 with ⟨hc_24, hc_20⟩ | ⟨hc_24, hc_20⟩
     ·refine wH_ift rfl hc_24 (wH_skip (wH_seq (wH_block (wH_seq (wH_seq (wH_region (h_ldr 0 0 il ft sz170 ag170 rfl rfl (.d (.agg (Entry.enc e_1))) rfl wz (h_op (vI s_16.2) wz rfl ?_))))))))
      obtain ⟨r_25, hr_26, hc_20⟩ := bind_some hc_20
      refine h_call0 (schedule_isDay_ok hr_26) rfl hb211 rfl rfl rfl rfl wz (h_op (vB (!r_25)) wz rfl (h_nil ?_))
      rcases cond_some hc_20 with ⟨hc_27, hc_20⟩ | ⟨hc_27, hc_20⟩
      ·refine wH_ift rfl hc_27 (wH_exit (wH_region (h_op (vI s_16.2) wz rfl (h_op (vI (w64 (s_16.2 + 1))) wz rfl (h_op (vI (w64 (s_16.2 + 1))) wz rfl (h_nil ?_))))))
       obtain rfl := some_inj hc_20
       exact loop_mk (k_11, (s_16.1, (w64 (s_16.2 + 1))), n_19) hL_21 (Nat.lt_succ_self _) rfl (pre_r rfl)
      ·refine wH_iff rfl hc_27 (wH_skip (wH_seq (wH_region (h_ldr 0 0 il ft sz170 ag170 rfl rfl (.d (.agg (Entry.enc e_1))) rfl wz (h_op (vI zone_2) wz rfl (h_op (vI s_16.2) wz rfl ?_))))))
       obtain ⟨r_28, hr_29, hc_20⟩ := bind_some hc_20
       refine h_call0 (schedule_timeOf_ok hr_29) rfl hb212 rfl rfl rfl rfl wz (h_alloc 0 (.inl rfl) z109 rfl wz (fun n_30 => h_str 0 il ft 3 sz109 rfl rfl [(vI r_28.From), (vI r_28.To)] rfl wz (h_nil (wH_seq ?_))))
       obtain ⟨v_31, h_32, hc_20⟩ := bind_some hc_20
       refine wH_join (β := Unit) (fun _ => ([(1, (vI zone_2)), (3, (.ref n_4 0 0)), (5, (.ref n_5 0 0)), (7, (gV n_19 2 s_16.1)), (9, (vI (w64 ((w64 ((w64 (wv_3.To + (w64 (zone_2 * 60000)))).tdiv 86400000)) + 1)))), (10, (vI s_16.2)), (11, (.ref n_30 0 0)), (66, (vB v_31))] : List (Nat × V))) (fun _ => ([(n_4, some (.cells 13 [(vS e_1.Key), (vS e_1.Item), (vI e_1.Version), (vI e_1.First), (vI e_1.Last), (vI e_1.Every), (vI e_1.Days), (vL eI e_1.Except), (vI e_1.From), (vI e_1.To), (vI e_1.Prio), (vL eS e_1.Tags), (vB e_1.Gone)])), (n_5, some (.cells 2 [(vI wv_3.From), (vI wv_3.To)])), (n_19, gB 2 Window.enc s_16.1), (n_30, some (.cells 2 [(vI r_28.From), (vI r_28.To)]))] : Hp)) (fun _ => True) ?_ ?_
       ·refine wH_region (h_far pl109_0 rfl 0 rfl wz (h_ldr 0 3 il ft sz3 ag3 rfl rfl (vI r_28.From) rfl wz (h_far pl109_1 rfl 1 rfl wz (h_ldr 0 1 il ft sz3 ag3 rfl rfl (vI wv_3.To) rfl wz (h_op (vB (decide (r_28.From < wv_3.To))) wz rfl ?_)))))
        rcases cond_some h_32 with ⟨hc_33, h_32⟩ | ⟨hc_33, h_32⟩
        ·refine h_movb rfl hc_33 wz (h_far pl109_1 rfl 1 rfl wa (h_ldr 0 3 il ft sz3 ag3 rfl rfl (vI r_28.To) rfl wa (h_far pl109_0 rfl 0 rfl wa (h_ldr 0 1 il ft sz3 ag3 rfl rfl (vI wv_3.From) rfl wa (h_op (vB (decide (r_28.To > wv_3.From))) wa rfl (h_op (vB (decide (r_28.To > wv_3.From))) wz rfl (h_nil ?_)))))))
         obtain rfl := some_inj h_32
         exact cu
        ·refine h_movb rfl hc_33 wz (h_skip wa (h_skip wa (h_skip wa (h_skip wa (h_skip wa (h_op (vB false) wz rfl (h_nil ?_)))))))
         obtain rfl := some_inj h_32
         exact cu
       ·rintro ⟨⟩ _ sl_ H_ hp_ hq_
        refine wH_at _ hp_ hq_ ?_
        obtain ⟨v_34, h_35, hc_20⟩ := bind_some hc_20
        refine wH_join (β := Nm) (fun (n_36 : Nm) => ([(1, (vI zone_2)), (3, (.ref n_4 0 0)), (5, (.ref n_5 0 0)), (7, (gV n_36 2 v_34)), (9, (vI (w64 ((w64 ((w64 (wv_3.To + (w64 (zone_2 * 60000)))).tdiv 86400000)) + 1)))), (10, (vI s_16.2))] : List (Nat × V))) (fun (n_36 : Nm) => ([(n_4, some (.cells 13 [(vS e_1.Key), (vS e_1.Item), (vI e_1.Version), (vI e_1.First), (vI e_1.Last), (vI e_1.Every), (vI e_1.Days), (vL eI e_1.Except), (vI e_1.From), (vI e_1.To), (vI e_1.Prio), (vL eS e_1.Tags), (vB e_1.Gone)])), (n_5, some (.cells 2 [(vI wv_3.From), (vI wv_3.To)])), (n_36, gB 2 Window.enc v_34), (n_30, some (.cells 2 [(vI r_28.From), (vI r_28.To)]))] : Hp)) (fun _ => True) ?_ ?_
        ·rcases cond_some h_35 with ⟨hc_37, h_35⟩ | ⟨hc_37, h_35⟩
         ·refine wH_ift rfl hc_37 (wH_region (h_op (gV n_19 2 s_16.1) wz rfl (h_ldr 0 3 il ft sz109 ag109 rfl rfl (.d (.agg (Window.enc r_28))) rfl wz (h_lit (([r_28] : List Window).map Window.enc) es166 ez166 rfl rfl rfl rfl rfl wz ?_))))
          obtain ⟨a_38, hz_39, h_35⟩ := bind_some h_35
          refine h_appg 0 il ft (i := 2) el166 el166 sz109 z109 rfl (by decide) by109 (by decide) (fun _ => rfl) rfl rfl rfl hz_39 wz (fun n_40 => h_op (gV n_40 2 a_38) wz rfl (h_nil ?_))
          obtain rfl := some_inj h_35
          exact cut_mk n_40 trivial rfl (pre_r rfl)
         ·refine wH_iff rfl hc_37 (wH_skip ?_)
          obtain rfl := some_inj h_35
          exact cut_mk n_19 trivial rfl (pre_r rfl)
        ·rintro n_36 _ sl_ H_ hp_ hq_
         refine wH_at _ hp_ hq_ (wH_region (h_op (vI s_16.2) wz rfl (h_op (vI (w64 (s_16.2 + 1))) wz rfl (h_op (vI (w64 (s_16.2 + 1))) wz rfl (h_nil ?_)))))
         obtain rfl := some_inj hc_20
         exact loop_mk (k_11, (v_34, (w64 (s_16.2 + 1))), n_36) hL_21 (Nat.lt_succ_self _) rfl (pre_r rfl)
     ·refine wH_iff rfl hc_24 (wH_exit ?_)
      obtain rfl := some_inj hc_20
      obtain rfl := some_inj hL_21
      exact cut_mk ((s_16.1, s_16.2), n_19) rfl rfl (pre_r rfl)
   ·rintro ⟨s_16, n_19⟩ ho_ sl_ H_ hp_ hq_
    subst ho_
    refine wH_at _ hp_ hq_ (wH_seq (wH_region (h_op (gV n_19 2 s_16.1) wz rfl (h_op (gV n_19 2 s_16.1) wz rfl (h_nil ?_)))))
    obtain rfl := some_inj hF
    exact wH_ret (finG (outs := ([] : List Box)) (.inr rfl) 2 rfl rfl rfl (by kernel_rfl) (by kernel_rfl))
theorem schedule_Times_ok {e_1 : Entry} {zone_2 : Int} {wv_3 : Window} {r : (List Window) × Int} (hF : schedule_Times e_1 zone_2 wv_3 = some r) :
  FnM Tryz.prog 90 [(.d (.agg (Entry.enc e_1))), (vI zone_2), (.d (.agg (Window.enc wv_3)))] [] (.tup [(vL Window.enc r.1), (vI r.2)]) [] := by
 refine FnM.of_wH ⟨Tryz.prog, 45, [], []⟩ rfl Tryz.func90 rfl rfl (Nat.le_of_ble_eq_true rfl) (by kernel_rfl) ?_
 unfold schedule_Times at hF
 refine wH_seq (wH_region (h_box 0 (.inl rfl) [(vS e_1.Key), (vS e_1.Item), (vI e_1.Version), (vI e_1.First), (vI e_1.Last), (vI e_1.Every), (vI e_1.Days), (vL eI e_1.Except), (vI e_1.From), (vI e_1.To), (vI e_1.Prio), (vL eS e_1.Tags), (vB e_1.Gone)] rfl rfl wz (fun n_4 => h_box 0 (.inl rfl) [(vI wv_3.From), (vI wv_3.To)] rfl rfl wz (fun n_5 => h_op .nil wz rfl (h_op (vI 0) wz rfl (h_nil (wH_seq (wH_seq (wH_region (h_ldr 0 0 il ft sz170 ag170 rfl rfl (.d (.agg (Entry.enc e_1))) rfl wz (h_lit (([e_1] : List Entry).map Entry.enc) es248 ez248 rfl rfl rfl rfl rfl wz ?_)))))))))))
 obtain ⟨r_6, hr_7, hF⟩ := bind_some hF
 refine h_call0 (schedule_CheckEntries_ok hr_7) rfl hb169 rfl rfl rfl rfl wz (h_op (vI r_6) wz rfl (h_nil (wH_seq (wH_region (h_op (vI r_6) wz rfl (h_op (vB (r_6 != 0)) wz rfl (h_nil ?_)))))))
 rcases cond_some hF with ⟨hc_8, hF⟩ | ⟨hc_8, hF⟩
 ·refine wH_ift rfl hc_8 (wH_seq (wH_region (h_op (vI r_6) wz rfl (h_op .nil wz rfl (h_op (vI r_6) wz rfl (h_nil ?_))))))
  obtain rfl := some_inj hF
  exact wH_ret (fin0 (.inr rfl) [.nil, (vI r_6)] ⟨rfl, ⟨rfl, trivial⟩⟩ rfl rfl rfl)
 ·refine wH_iff rfl hc_8 (wH_skip (wH_seq (wH_seq (wH_region (h_op (vI zone_2) wz rfl ?_)))))
  obtain ⟨r_9, hr_10, hF⟩ := bind_some hF
  refine h_call0 (kit_Outside_ok hr_10) rfl hb86 rfl rfl rfl rfl wz (h_nil ?_)
  rcases cond_some hF with ⟨hc_11, hF⟩ | ⟨hc_11, hF⟩
  ·refine wH_ift rfl hc_11 (wH_seq (wH_region (h_op .nil wz rfl (h_op (vI 1) wz rfl (h_nil ?_)))))
   obtain rfl := some_inj hF
   exact wH_ret (fin0 (.inr rfl) [.nil, (vI 1)] ⟨rfl, ⟨rfl, trivial⟩⟩ rfl rfl rfl)
  ·refine wH_iff rfl hc_11 (wH_skip (wH_seq (wH_seq (wH_region (h_ldr 0 1 il ft sz109 ag109 rfl rfl (.d (.agg (Window.enc wv_3))) rfl wz ?_)))))
   obtain ⟨r_12, hr_13, hF⟩ := bind_some hF
   refine h_call0 (schedule_windowFault_ok hr_13) rfl hb170 rfl rfl rfl rfl wz (h_op (vI r_12) wz rfl (h_nil (wH_seq (wH_region (h_op (vI r_12) wz rfl (h_op (vB (r_12 != 0)) wz rfl (h_nil ?_)))))))
   rcases cond_some hF with ⟨hc_14, hF⟩ | ⟨hc_14, hF⟩
   ·refine wH_ift rfl hc_14 (wH_seq (wH_region (h_op (vI r_12) wz rfl (h_op .nil wz rfl (h_op (vI r_12) wz rfl (h_nil ?_))))))
    obtain rfl := some_inj hF
    exact wH_ret (fin0 (.inr rfl) [.nil, (vI r_12)] ⟨rfl, ⟨rfl, trivial⟩⟩ rfl rfl rfl)
   ·refine wH_iff rfl hc_14 (wH_skip (wH_seq (wH_region (h_ldr 0 0 il ft sz170 ag170 rfl rfl (.d (.agg (Entry.enc e_1))) rfl wz (h_op (vI zone_2) wz rfl (h_ldr 0 1 il ft sz109 ag109 rfl rfl (.d (.agg (Window.enc wv_3))) rfl wz ?_))))))
    obtain ⟨r_15, hr_16, hF⟩ := bind_some hF
    refine h_callg [] (schedule_times_okb hr_16) rfl hb171 rfl (by kernel_rfl) (by kernel_rfl) (by kernel_rfl) (by kernel_rfl) (by kernel_rfl) rfl (by decide) (by kernel_rfl) wz ([(n_4, some (.cells 13 [(vS e_1.Key), (vS e_1.Item), (vI e_1.Version), (vI e_1.First), (vI e_1.Last), (vI e_1.Every), (vI e_1.Days), (vL eI e_1.Except), (vI e_1.From), (vI e_1.To), (vI e_1.Prio), (vL eS e_1.Tags), (vB e_1.Gone)])), (n_5, some (.cells 2 [(vI wv_3.From), (vI wv_3.To)]))] : Hp) (fun _ => by kernel_rfl) (fun n_18 => h_op (gV n_18 2 r_15) wz rfl (h_nil (wH_seq (wH_seq (wH_region (h_op (gV n_18 2 r_15) wz rfl (h_leng un166 rfl wz (h_op (vI 0) wz rfl (h_nil ?_)))))))))
    obtain ⟨o_27, hj_28, hF⟩ := bind_some hF
    obtain ⟨hn_23, hj_28⟩ := forL_some hj_28
    refine wH_join (β := ((List Window))) (fun (s_24 : (List Window)) => ([(10, (gV n_18 2 s_24))] : List (Nat × V))) (fun (s_24 : (List Window)) => ([(n_4, some (.cells 13 [(vS e_1.Key), (vS e_1.Item), (vI e_1.Version), (vI e_1.First), (vI e_1.Last), (vI e_1.Every), (vI e_1.Days), (vL eI e_1.Except), (vI e_1.From), (vI e_1.To), (vI e_1.Prio), (vL eS e_1.Tags), (vB e_1.Gone)])), (n_5, some (.cells 2 [(vI wv_3.From), (vI wv_3.To)])), (n_18, gB 2 Window.enc s_24)] : Hp)) (fun p => o_27 = .go p) ?_ ?_
    ·refine wH_block (wH_loop (β := Nat × (List Nat) × ((List Window))) (fun p => (fun (k_19 : Nat) (l_20 : List Nat) (s_24 : (List Window)) => ([(5, (.ref n_5 0 0)), (10, (gV n_18 2 s_24)), (30, (gV n_18 2 s_24)), (31, (vI (r_15.length : Int))), (32, (vI (k_19 : Int)))] : List (Nat × V))) p.1 p.2.1 p.2.2) (fun p => (fun (k_19 : Nat) (l_20 : List Nat) (s_24 : (List Window)) => ([(n_4, some (.cells 13 [(vS e_1.Key), (vS e_1.Item), (vI e_1.Version), (vI e_1.First), (vI e_1.Last), (vI e_1.Every), (vI e_1.Days), (vL eI e_1.Except), (vI e_1.From), (vI e_1.To), (vI e_1.Prio), (vL eS e_1.Tags), (vB e_1.Gone)])), (n_5, some (.cells 2 [(vI wv_3.From), (vI wv_3.To)])), (n_18, gB 2 Window.enc s_24)] : Hp)) p.1 p.2.1 p.2.2) (fun p => forR (fun k x s => schedule_Times_L1 wv_3 k x s) p.2.1 p.1 p.2.2 = some o_27 ∧ ((List.range ((r_15.length : Int)).toNat)).drop p.1 = p.2.1) (fun p => p.2.1.length) (0, (List.range ((r_15.length : Int)).toNat), r_15) ⟨hj_28, rfl⟩ rfl (pre_r rfl) ?_)
     rintro ⟨k_19, l_20, s_24⟩ ⟨hL_26, hD_22⟩
     dsimp only at hL_26 hD_22
     cases l_20 with
     | nil =>
      obtain rfl := some_inj hL_26
      refine wH_seq (wH_region (h_op (vB (decide ((k_19 : Int) < (r_15.length : Int)))) wz rfl (h_nil ?_)))
      refine wH_seq (wH_iff rfl (range_nil hD_22) (wH_exit ?_))
      exact cut_mk (s_24) rfl rfl (pre_r rfl)
     | cons x_21 l_20 =>
      obtain ⟨c_, hc_25, hL_26⟩ := bind_some hL_26
      refine wH_seq (wH_region (h_op (vB (decide ((k_19 : Int) < (r_15.length : Int)))) wz rfl (h_nil ?_)))
      refine wH_seq (wH_ift rfl (range_cons hD_22) (wH_skip ?_))
      unfold schedule_Times_L1 at hc_25
      refine wH_seq (wH_block (wH_seq (wH_region (h_op (vI (k_19 : Int)) wz rfl ?_))))
      obtain ⟨_, hi_29, hc_25⟩ := bind_some hc_25
      refine h_iavg es166 rfl rfl (inR_0 hi_29) (inR_lt hi_29) wz ?_
      obtain ⟨e_30, hy_31, hc_25⟩ := bind_some hc_25
      refine h_ldvg 0 2 il ft sz109 ag109 rfl rfl hy_31 (.d (.agg (Window.enc e_30))) rfl wz (h_alloc 0 (.inl rfl) z109 rfl wz (fun n_32 => h_op (vI (k_19 : Int)) wz rfl (h_str 0 il ft 3 sz109 rfl rfl [(vI e_30.From), (vI e_30.To)] rfl wz (h_nil (wH_region (h_op (gV n_18 2 s_24) wz rfl (h_op (vI (k_19 : Int)) wz rfl (h_ldr 0 3 il ft sz109 ag109 rfl rfl (.d (.agg (Window.enc e_30))) rfl wz (h_ldr 0 1 il ft sz109 ag109 rfl rfl (.d (.agg (Window.enc wv_3))) rfl wz ?_)))))))))
      obtain ⟨r_33, hr_34, hc_25⟩ := bind_some hc_25
      refine h_call0 (schedule_cut_ok hr_34) rfl hb172 rfl rfl rfl rfl wz ?_
      obtain ⟨_, hi_35, hc_25⟩ := bind_some hc_25
      refine h_iavg es166 rfl rfl (inR_0 hi_35) (inR_lt hi_35) wz ?_
      obtain ⟨e_36, hy_37, hc_25⟩ := bind_some hc_25
      refine h_stvg 0 il ft 2 sz109 rfl rfl hy_37 r_33 rfl wz (h_re (v' := (gV n_18 2 (s_24.set (0 + ((k_19 : Int)).toNat) r_33))) 10 rfl (gV_len (by simp)) (h_re (v' := (gV n_18 2 (s_24.set (0 + ((k_19 : Int)).toNat) r_33))) 30 rfl (gV_len (by simp)) (h_re (v' := (gV n_18 2 (s_24.set (0 + ((k_19 : Int)).toNat) r_33))) 37 rfl (gV_len (by simp)) (h_nil (wH_region (h_opw (w64_nextr hD_22 hn_23) wz rfl (h_op (vI ((k_19 + 1 : Nat) : Int)) wz rfl (h_nil ?_))))))))
      obtain rfl := some_inj hc_25
      exact loop_mk (k_19 + 1, l_20, (s_24.set (0 + ((k_19 : Int)).toNat) r_33)) ⟨hL_26, drop_next hD_22⟩ (Nat.lt_succ_self _) rfl (pre_r rfl)
    ·rintro s_24 ho_ sl_ H_ hp_ hq_
     subst ho_
     refine wH_at _ hp_ hq_ (wH_seq (wH_region (h_op (gV n_18 2 s_24) wz rfl (h_op (gV n_18 2 s_24) wz rfl (h_op (vI 0) wz rfl (h_nil (wH_frozg 2 rfl (wH_cog 6 2 rfl rfl (wH_cog 10 2 rfl rfl (wH_cog 44 2 rfl rfl ?_))))))))))
     obtain rfl := some_inj hF
     exact wH_ret (fin0 (.inr rfl) [(vL Window.enc s_24), (vI 0)] ⟨rfl, ⟨rfl, trivial⟩⟩ rfl rfl rfl)
theorem signtop_h10facts_ok {r : Bool} (hF : signtop_h10facts  = some r) :
  FnM Tryz.prog 31 [] [] (vB r) [] := by
 refine FnM.of_wH ⟨Tryz.prog, 66, [], []⟩ rfl Tryz.func31 rfl rfl (Nat.le_of_ble_eq_true rfl) (by kernel_rfl) ?_
 unfold signtop_h10facts at hF
 refine wH_seq (wH_region (h_op (vB false) wz rfl (h_nil (wH_seq (wH_region (h_op (.d (.agg (Rect.enc (⟨0, 0, 2, 2⟩ : Rect)))) wz (by kernel_rfl) (h_op (.d (.agg (Rect.enc (⟨1, 1, 2, 2⟩ : Rect)))) wz (by kernel_rfl) (h_lit (([(⟨0, 0, 2, 2⟩ : Rect), (⟨1, 1, 2, 2⟩ : Rect)] : List Rect).map Rect.enc) es50 ez50 rfl rfl rfl rfl rfl wz ?_))))))))
 obtain ⟨r_1, hr_2, hF⟩ := bind_some hF
 refine h_call0 (screen_Area_ok hr_2) rfl hb89 rfl rfl rfl rfl wz (h_op (.tup [(vI r_1.1), (vI r_1.2)]) wz rfl (h_op (vI r_1.1) wz rfl (h_op (vI r_1.2) wz rfl (h_op (vI r_1.1) wz rfl (h_op (vI r_1.2) wz rfl (h_nil (wH_seq (wH_region (h_op (.d (.agg (Window.enc (⟨0, 100⟩ : Window)))) wz (by kernel_rfl) (h_op (.agg [(vS (⟨#[97]⟩ : ByteArray)), (vS (⟨#[]⟩ : ByteArray)), (vI 0), (vI 100), .nil, (vI 10), (vI 0), (vI 0)]) wz (by kernel_rfl) ?_))))))))))
 obtain ⟨r_3, hr_4, hF⟩ := bind_some hF
 refine h_call0 (booking_Due_ok hr_4) rfl hb91 rfl rfl rfl rfl wz (h_op (.tup [(vI r_3.1), (vI r_3.2)]) wz rfl (h_op (vI r_3.1) wz rfl (h_op (vI r_3.2) wz rfl (h_op (vI r_3.1) wz rfl (h_op (vI r_3.2) wz rfl (h_nil (wH_seq (wH_region (h_op (.d (.agg (Beat.enc (⟨(⟨#[112]⟩ : ByteArray), 0, 100⟩ : Beat)))) wz (by kernel_rfl) (h_op (.d (.agg (Beat.enc (⟨(⟨#[112]⟩ : ByteArray), 1000, 1300⟩ : Beat)))) wz (by kernel_rfl) (h_lit (([(⟨(⟨#[112]⟩ : ByteArray), 0, 100⟩ : Beat), (⟨(⟨#[112]⟩ : ByteArray), 1000, 1300⟩ : Beat)] : List Beat).map Beat.enc) es177 ez177 rfl rfl rfl rfl rfl wz ?_)))))))))))
 obtain ⟨r_5, hr_6, hF⟩ := bind_some hF
 refine h_call0 (proof_Right_ok hr_6) rfl hb92 rfl rfl rfl rfl wz (h_op (.tup [(vI r_5.1), (vI r_5.2)]) wz rfl (h_op (vI r_5.1) wz rfl (h_op (vI r_5.2) wz rfl (h_op (vI r_5.1) wz rfl (h_op (vI r_5.2) wz rfl (h_nil (wH_seq (wH_region (h_op (.agg [(vS (⟨#[97]⟩ : ByteArray)), (vS (⟨#[98]⟩ : ByteArray)), (vI 0), (vI 0), (vI 0), (vI 1), (vI 127), .nil, (vI 1), (vI 2), (vI 0), .nil, (vB false)]) wz (by kernel_rfl) (h_op (.d (.agg (Window.enc (⟨0, 86400000⟩ : Window)))) wz (by kernel_rfl) ?_))))))))))
 obtain ⟨r_7, hr_8, hF⟩ := bind_some hF
 refine h_call0 (schedule_Times_ok hr_8) rfl hb90 rfl rfl rfl rfl wz (h_op (.tup [(vL Window.enc r_7.1), (vI r_7.2)]) wz rfl (h_op (vL Window.enc r_7.1) wz rfl (h_op (vI r_7.2) wz rfl (h_op (vL Window.enc r_7.1) wz rfl (h_op (vI r_7.2) wz rfl (h_nil (wH_at (H0 := ([] : Hp)) ([(1, (vI r_1.1)), (2, (vI r_1.2)), (3, (vI r_3.1)), (4, (vI r_3.2)), (5, (vI r_5.1)), (6, (vI r_5.2)), (7, (vL Window.enc r_7.1)), (8, (vI r_7.2))] : List (Nat × V)) (by kernel_rfl) (pre_mk (by kernel_rfl)) (wH_seq ?_))))))))
 obtain ⟨v_9, h_10, hF⟩ := bind_some hF
 refine wH_join (β := Unit) (fun _ => ([(0, (vB v_9))] : List (Nat × V))) (fun _ => ([] : Hp)) (fun _ => True) ?_ ?_
 ·refine wH_region (h_op (vI r_1.2) wz rfl (h_op (vB (r_1.2 == 0)) wz rfl ?_))
  rcases cond_some h_10 with ⟨hc_11, h_10⟩ | ⟨hc_11, h_10⟩
  ·refine h_movb rfl hc_11 wz (h_op (vI r_3.2) wa rfl (h_op (vB (r_3.2 == 0)) wa rfl (h_op (vB (r_3.2 == 0)) wz rfl ?_)))
   rcases cond_some h_10 with ⟨hc_12, h_10⟩ | ⟨hc_12, h_10⟩
   ·refine h_movb rfl hc_12 wz (h_op (vI r_5.2) wa rfl (h_op (vB (r_5.2 == 0)) wa rfl (h_op (vB (r_5.2 == 0)) wz rfl ?_)))
    rcases cond_some h_10 with ⟨hc_13, h_10⟩ | ⟨hc_13, h_10⟩
    ·refine h_movb rfl hc_13 wz (h_op (vI r_7.2) wa rfl (h_op (vB (r_7.2 == 0)) wa rfl (h_op (vB (r_7.2 == 0)) wz rfl ?_)))
     rcases cond_some h_10 with ⟨hc_14, h_10⟩ | ⟨hc_14, h_10⟩
     ·refine h_movb rfl hc_14 wz (h_op (vI r_1.1) wa rfl (h_op (vB (r_1.1 == 7)) wa rfl (h_op (vB (r_1.1 == 7)) wz rfl ?_)))
      rcases cond_some h_10 with ⟨hc_15, h_10⟩ | ⟨hc_15, h_10⟩
      ·refine h_movb rfl hc_15 wz (h_op (vI r_3.1) wa rfl (h_op (vB (r_3.1 == 5)) wa rfl (h_op (vB (r_3.1 == 5)) wz rfl ?_)))
       rcases cond_some h_10 with ⟨hc_16, h_10⟩ | ⟨hc_16, h_10⟩
       ·refine h_movb rfl hc_16 wz (h_op (vI r_5.1) wa rfl (h_op (vB (r_5.1 == 500)) wa rfl (h_op (vB (r_5.1 == 500)) wz rfl ?_)))
        rcases cond_some h_10 with ⟨hc_17, h_10⟩ | ⟨hc_17, h_10⟩
        ·refine h_movb rfl hc_17 wz (h_op (vL Window.enc r_7.1) wa rfl (h_len un166 rfl wa (h_op (vB ((r_7.1.length : Int) == 1)) wa rfl (h_op (vB ((r_7.1.length : Int) == 1)) wz rfl (h_op (vB ((r_7.1.length : Int) == 1)) wz rfl (h_nil ?_))))))
         obtain rfl := some_inj h_10
         exact cu
        ·refine h_movb rfl hc_17 wz (h_skip wa (h_skip wa (h_skip wa (h_op (vB false) wz rfl (h_op (vB false) wz rfl (h_nil ?_))))))
         obtain rfl := some_inj h_10
         exact cu
       ·refine h_movb rfl hc_16 wz (h_skip wa (h_skip wa (h_op (vB false) wz rfl (h_op (vB false) wz rfl (h_skip wa (h_skip wa (h_skip wa (h_op (vB false) wz rfl (h_op (vB false) wz rfl (h_nil ?_))))))))))
        obtain rfl := some_inj h_10
        exact cu
      ·refine h_movb rfl hc_15 wz (h_skip wa (h_skip wa (h_op (vB false) wz rfl (h_op (vB false) wz rfl (h_skip wa (h_skip wa (h_op (vB false) wz rfl (h_op (vB false) wz rfl (h_skip wa (h_skip wa (h_skip wa (h_op (vB false) wz rfl (h_op (vB false) wz rfl (h_nil ?_))))))))))))))
       obtain rfl := some_inj h_10
       exact cu
     ·refine h_movb rfl hc_14 wz (h_skip wa (h_skip wa (h_op (vB false) wz rfl (h_op (vB false) wz rfl (h_skip wa (h_skip wa (h_op (vB false) wz rfl (h_op (vB false) wz rfl (h_skip wa (h_skip wa (h_op (vB false) wz rfl (h_op (vB false) wz rfl (h_skip wa (h_skip wa (h_skip wa (h_op (vB false) wz rfl (h_op (vB false) wz rfl (h_nil ?_))))))))))))))))))
      obtain rfl := some_inj h_10
      exact cu
    ·refine h_movb rfl hc_13 wz (h_skip wa (h_skip wa (h_op (vB false) wz rfl (h_op (vB false) wz rfl (h_skip wa (h_skip wa (h_op (vB false) wz rfl (h_op (vB false) wz rfl (h_skip wa (h_skip wa (h_op (vB false) wz rfl (h_op (vB false) wz rfl (h_skip wa (h_skip wa (h_op (vB false) wz rfl (h_op (vB false) wz rfl (h_skip wa (h_skip wa (h_skip wa (h_op (vB false) wz rfl (h_op (vB false) wz rfl (h_nil ?_))))))))))))))))))))))
     obtain rfl := some_inj h_10
     exact cu
   ·refine h_movb rfl hc_12 wz (h_skip wa (h_skip wa (h_op (vB false) wz rfl (h_op (vB false) wz rfl (h_skip wa (h_skip wa (h_op (vB false) wz rfl (h_op (vB false) wz rfl (h_skip wa (h_skip wa (h_op (vB false) wz rfl (h_op (vB false) wz rfl (h_skip wa (h_skip wa (h_op (vB false) wz rfl (h_op (vB false) wz rfl (h_skip wa (h_skip wa (h_op (vB false) wz rfl (h_op (vB false) wz rfl (h_skip wa (h_skip wa (h_skip wa ?_)))))))))))))))))))))))
    refine h_op (vB false) wz rfl (h_op (vB false) wz rfl (h_nil ?_))
    obtain rfl := some_inj h_10
    exact cu
  ·refine h_movb rfl hc_11 wz (h_skip wa (h_skip wa (h_op (vB false) wz rfl (h_op (vB false) wz rfl (h_skip wa (h_skip wa (h_op (vB false) wz rfl (h_op (vB false) wz rfl (h_skip wa (h_skip wa (h_op (vB false) wz rfl (h_op (vB false) wz rfl (h_skip wa (h_skip wa (h_op (vB false) wz rfl (h_op (vB false) wz rfl (h_skip wa (h_skip wa (h_op (vB false) wz rfl (h_op (vB false) wz rfl (h_skip wa (h_skip wa (h_op (vB false) wz rfl ?_)))))))))))))))))))))))
   refine h_op (vB false) wz rfl (h_skip wa (h_skip wa (h_skip wa (h_op (vB false) wz rfl (h_op (vB false) wz rfl (h_nil ?_))))))
   obtain rfl := some_inj h_10
   exact cu
 ·rintro ⟨⟩ _ sl_ H_ hp_ hq_
  refine wH_at _ hp_ hq_ ?_
  obtain rfl := some_inj hF
  exact wH_ret (fin0 (.inr rfl) [(vB v_9)] ⟨rfl, trivial⟩ rfl rfl rfl)
theorem signtop_TopAreasAreSeen_ok {l_1 : (List Int)} {r : Bool} (hF : signtop_TopAreasAreSeen l_1 = some r) :
  FnM Tryz.prog 6 [(vL eI l_1)] [] (vB r) [] := by
 refine FnM.of_wH ⟨Tryz.prog, 84, [], []⟩ rfl Tryz.func6 rfl rfl (Nat.le_of_ble_eq_true rfl) (by kernel_rfl) ?_
 unfold signtop_TopAreasAreSeen at hF
 refine wH_seq (wH_region (h_op (vB false) wz rfl (h_nil (wH_seq (wH_region (h_op (vL eI l_1) wz rfl (h_op (.d (.agg (Stream.enc (⟨l_1, 0⟩ : Stream)))) wz (by kernel_rfl) (h_box 0 (.inl rfl) [(vL eI l_1), (vI 0)] rfl rfl wz (fun n_2 => h_op (.ref n_2 0 0) wz rfl (h_nil (wH_seq (wH_region (h_op (.ref n_2 0 0) wz rfl ?_)))))))))))))
 obtain ⟨r_3, hr_4, hF⟩ := bind_some hF
 refine h_callq 0 [0] il ft (mk_Stream_Range_ok hr_4) rfl hb13 rfl (by kernel_rfl) (by kernel_rfl) (by kernel_rfl) (by kernel_rfl) (by kernel_rfl) (by kernel_rfl) (by kernel_rfl) (by decide) (by kernel_rfl) wz (vI r_3.1) (by kernel_rfl) ([(n_2, some (.cells 2 [(vL eI r_3.2.L), (vI r_3.2.f_at)]))] : Hp) (by kernel_rfl) (h_op (.ref n_2 0 0) wz rfl ?_)
 obtain ⟨r_6, hr_7, hF⟩ := bind_some hF
 refine h_callq 0 [0] il ft (mk_Stream_Range_ok hr_7) rfl hb13 rfl (by kernel_rfl) (by kernel_rfl) (by kernel_rfl) (by kernel_rfl) (by kernel_rfl) (by kernel_rfl) (by kernel_rfl) (by decide) (by kernel_rfl) wz (vI r_6.1) (by kernel_rfl) ([(n_2, some (.cells 2 [(vL eI r_6.2.L), (vI r_6.2.f_at)]))] : Hp) (by kernel_rfl) (h_op (.d (.agg (Post.enc (⟨(⟨#[112, 97]⟩ : ByteArray), r_3.1, r_6.1⟩ : Post)))) wz (by kernel_rfl) (h_alloc 0 (.inl rfl) z77 rfl wz (fun n_9 => h_str 0 il ft 1 sz77 rfl rfl [(vS (⟨#[112, 97]⟩ : ByteArray)), (vI r_3.1), (vI r_6.1)] rfl wz (h_nil (wH_seq (wH_seq (wH_region (h_op (.ref n_2 0 0) wz rfl ?_))))))))
 obtain ⟨r_10, hr_11, hF⟩ := bind_some hF
 refine h_callq 0 [0] il ft (mk_Stream_RightAlerts_ok hr_11) rfl hb28 rfl (by kernel_rfl) (by kernel_rfl) (by kernel_rfl) (by kernel_rfl) (by kernel_rfl) (by kernel_rfl) (by kernel_rfl) (by decide) (by kernel_rfl) wz (vL Alert.enc r_10.1) (by kernel_rfl) ([(n_2, some (.cells 2 [(vL eI r_10.2.L), (vI r_10.2.f_at)])), (n_9, some (.cells 3 [(vS (⟨#[112, 97]⟩ : ByteArray)), (vI r_3.1), (vI r_6.1)]))] : Hp) (by kernel_rfl) (h_len un78 rfl wz (h_op (vI 0) wz rfl (h_nil ?_)))
 obtain ⟨o_21, hj_22, hF⟩ := bind_some hF
 obtain ⟨hn_17, hj_22⟩ := forL_some hj_22
 refine wH_join (β := (Unit)) (fun (s_18 : Unit) => ([] : List (Nat × V))) (fun (s_18 : Unit) => ([(n_2, some (.cells 2 [(vL eI r_10.2.L), (vI r_10.2.f_at)])), (n_9, some (.cells 3 [(vS (⟨#[112, 97]⟩ : ByteArray)), (vI r_3.1), (vI r_6.1)]))] : Hp)) (fun p => o_21 = .go p) ?_ ?_
 ·refine wH_block (wH_loop (β := Nat × (List Alert) × (Unit)) (fun p => (fun (k_13 : Nat) (l_14 : List Alert) (s_18 : Unit) => ([(4, (.ref n_9 0 0)), (27, (vL Alert.enc r_10.1)), (28, (vI (r_10.1.length : Int))), (29, (vI (k_13 : Int)))] : List (Nat × V))) p.1 p.2.1 p.2.2) (fun p => (fun (k_13 : Nat) (l_14 : List Alert) (s_18 : Unit) => ([(n_2, some (.cells 2 [(vL eI r_10.2.L), (vI r_10.2.f_at)])), (n_9, some (.cells 3 [(vS (⟨#[112, 97]⟩ : ByteArray)), (vI r_3.1), (vI r_6.1)]))] : Hp)) p.1 p.2.1 p.2.2) (fun p => forR (fun k x s => signtop_TopAreasAreSeen_L2 r_3 r_6 k x s) p.2.1 p.1 p.2.2 = some o_21 ∧ (r_10.1).drop p.1 = p.2.1) (fun p => p.2.1.length) (0, r_10.1, ()) ⟨hj_22, rfl⟩ rfl (pre_r rfl) ?_)
  rintro ⟨k_13, l_14, s_18⟩ ⟨hL_20, hD_16⟩
  dsimp only at hL_20 hD_16
  cases l_14 with
  | nil =>
   obtain rfl := some_inj hL_20
   refine wH_seq (wH_region (h_op (vB (decide ((k_13 : Int) < (r_10.1.length : Int)))) wz rfl (h_nil ?_)))
   refine wH_seq (wH_iff rfl (drop_nil hD_16) (wH_exit ?_))
   exact cut_mk (s_18) rfl rfl (pre_r rfl)
  | cons x_15 l_14 =>
   obtain ⟨c_, hc_19, hL_20⟩ := bind_some hL_20
   refine wH_seq (wH_region (h_op (vB (decide ((k_13 : Int) < (r_10.1.length : Int)))) wz rfl (h_nil ?_)))
   refine wH_seq (wH_ift rfl (drop_cons hD_16) (wH_skip ?_))
   unfold signtop_TopAreasAreSeen_L2 at hc_19
   refine wH_seq (wH_block (wH_seq (wH_region (h_ia es78 rfl rfl (drop_idx hD_16) rfl wz (h_ldc sz82 ag82 rfl (.d (.agg (Alert.enc x_15))) rfl wz (h_alloc 0 (.inl rfl) z82 rfl wz (fun n_23 => h_str 0 il ft 2 sz82 rfl rfl [(vS x_15.Id), (vS x_15.Sender), (vI x_15.Kind), (vL eS x_15.Refs), (vI x_15.At), (vI x_15.Until), (vI x_15.Weight), (vL Rect.enc x_15.Areas), (vS x_15.Text)] rfl wz (h_nil (wH_seq (wH_region (h_far pl82_7 rfl 7 rfl wz (h_ldr 0 2 il ft sz50 ag50 rfl rfl (vL Rect.enc x_15.Areas) rfl wz ?_))))))))))))
   obtain ⟨r_24, hr_25, hc_19⟩ := bind_some hc_19
   refine h_call0 (screen_Region_ok hr_25) rfl hb29 rfl rfl rfl rfl wz (h_op (.tup [(vL Rect.enc r_24.1), (vI r_24.2)]) wz rfl (h_op (vL Rect.enc r_24.1) wz rfl (h_op (vI r_24.2) wz rfl (h_op (vL Rect.enc r_24.1) wz rfl (h_op (vI r_24.2) wz rfl (h_nil (wH_seq (wH_region (h_ldr 0 2 il ft sz82 ag82 rfl rfl (.d (.agg (Alert.enc x_15))) rfl wz (h_ldr 0 1 il ft sz77 ag77 rfl rfl (.d (.agg (Post.enc (⟨(⟨#[112, 97]⟩ : ByteArray), r_3.1, r_6.1⟩ : Post)))) rfl wz ?_))))))))))
   obtain ⟨r_26, hr_27, hc_19⟩ := bind_some hc_19
   refine h_call0 (alert_Reaches_ok hr_27) rfl hb30 rfl rfl rfl rfl wz (h_op (.tup [(vB r_26.1), (vI r_26.2)]) wz rfl (h_op (vB r_26.1) wz rfl (h_op (vI r_26.2) wz rfl (h_op (vB r_26.1) wz rfl (h_op (vI r_26.2) wz rfl (h_nil (wH_seq (wH_region (h_op (vB false) wz rfl (h_op (vI 0) wz rfl (h_nil (wH_seq (wH_seq (wH_region (h_op (vL Rect.enc r_24.1) wz rfl (h_len un50 rfl wz (h_op (vI 0) wz rfl (h_nil ?_))))))))))))))))))
   obtain ⟨o_36, hj_37, hc_19⟩ := bind_some hc_19
   obtain ⟨hn_32, hj_37⟩ := forL_some hj_37
   refine wH_join (β := (Bool × Int)) (fun (s_33 : Bool × Int) => ([(4, (.ref n_9 0 0)), (8, (vI r_24.2)), (9, (vB r_26.1)), (10, (vI r_26.2)), (11, (vB s_33.1)), (12, (vI s_33.2)), (27, (vL Alert.enc r_10.1)), (28, (vI (r_10.1.length : Int))), (29, (vI (k_13 : Int)))] : List (Nat × V))) (fun (s_33 : Bool × Int) => ([(n_2, some (.cells 2 [(vL eI r_10.2.L), (vI r_10.2.f_at)])), (n_9, some (.cells 3 [(vS (⟨#[112, 97]⟩ : ByteArray)), (vI r_3.1), (vI r_6.1)])), (n_23, some (.cells 9 [(vS x_15.Id), (vS x_15.Sender), (vI x_15.Kind), (vL eS x_15.Refs), (vI x_15.At), (vI x_15.Until), (vI x_15.Weight), (vL Rect.enc x_15.Areas), (vS x_15.Text)]))] : Hp)) (fun p => o_36 = .go p) ?_ ?_
   ·refine wH_block (wH_loop (β := Nat × (List Rect) × (Bool × Int)) (fun p => (fun (k_28 : Nat) (l_29 : List Rect) (s_33 : Bool × Int) => ([(4, (.ref n_9 0 0)), (8, (vI r_24.2)), (9, (vB r_26.1)), (10, (vI r_26.2)), (11, (vB s_33.1)), (12, (vI s_33.2)), (27, (vL Alert.enc r_10.1)), (28, (vI (r_10.1.length : Int))), (29, (vI (k_13 : Int))), (45, (vL Rect.enc r_24.1)), (46, (vI (r_24.1.length : Int))), (47, (vI (k_28 : Int)))] : List (Nat × V))) p.1 p.2.1 p.2.2) (fun p => (fun (k_28 : Nat) (l_29 : List Rect) (s_33 : Bool × Int) => ([(n_2, some (.cells 2 [(vL eI r_10.2.L), (vI r_10.2.f_at)])), (n_9, some (.cells 3 [(vS (⟨#[112, 97]⟩ : ByteArray)), (vI r_3.1), (vI r_6.1)])), (n_23, some (.cells 9 [(vS x_15.Id), (vS x_15.Sender), (vI x_15.Kind), (vL eS x_15.Refs), (vI x_15.At), (vI x_15.Until), (vI x_15.Weight), (vL Rect.enc x_15.Areas), (vS x_15.Text)]))] : Hp)) p.1 p.2.1 p.2.2) (fun p => forR (fun k x s => signtop_TopAreasAreSeen_L1 r_3 r_6 k x s) p.2.1 p.1 p.2.2 = some o_36 ∧ (r_24.1).drop p.1 = p.2.1) (fun p => p.2.1.length) (0, r_24.1, (false, 0)) ⟨hj_37, rfl⟩ rfl (pre_r rfl) ?_)
    rintro ⟨k_28, l_29, s_33⟩ ⟨hL_35, hD_31⟩
    dsimp only at hL_35 hD_31
    cases l_29 with
    | nil =>
     obtain rfl := some_inj hL_35
     refine wH_seq (wH_region (h_op (vB (decide ((k_28 : Int) < (r_24.1.length : Int)))) wz rfl (h_nil ?_)))
     refine wH_seq (wH_iff rfl (drop_nil hD_31) (wH_exit ?_))
     exact cut_mk (s_33) rfl rfl (pre_r rfl)
    | cons x_30 l_29 =>
     obtain ⟨c_, hc_34, hL_35⟩ := bind_some hL_35
     refine wH_seq (wH_region (h_op (vB (decide ((k_28 : Int) < (r_24.1.length : Int)))) wz rfl (h_nil ?_)))
     refine wH_seq (wH_ift rfl (drop_cons hD_31) (wH_skip ?_))
     unfold signtop_TopAreasAreSeen_L1 at hc_34
     refine wH_seq (wH_block (wH_seq (wH_region (h_ia es50 rfl rfl (drop_idx hD_31) rfl wz (h_ldc sz45 ag45 rfl (.d (.agg (Rect.enc x_30))) rfl wz (h_alloc 0 (.inl rfl) z45 rfl wz (fun n_38 => h_str 0 il ft 3 sz45 rfl rfl [(vI x_30.X), (vI x_30.Y), (vI x_30.W), (vI x_30.H)] rfl wz (h_nil (wH_seq (wH_region (h_ldr 0 3 il ft sz45 ag45 rfl rfl (.d (.agg (Rect.enc x_30))) rfl wz (h_far pl77_1 rfl 1 rfl wz (h_ldr 0 1 il ft sz3 ag3 rfl rfl (vI r_3.1) rfl wz (h_far pl77_2 rfl 2 rfl wz (h_ldr 0 1 il ft sz3 ag3 rfl rfl (vI r_6.1) rfl wz (h_op (.d (.agg (Rect.enc (⟨r_3.1, r_6.1, 1, 1⟩ : Rect)))) wz (by kernel_rfl) ?_))))))))))))))))
     obtain ⟨r_39, hr_40, hc_34⟩ := bind_some hc_34
     refine h_call0 (screen_Meet_ok hr_40) rfl hb21 rfl rfl rfl rfl wz (h_op (.tup [(.d (.agg (Rect.enc r_39.1))), (vB r_39.2.1), (vI r_39.2.2)]) wz rfl (h_op (.d (.agg (Rect.enc r_39.1))) wz rfl (h_op (vB r_39.2.1) wz rfl (h_op (vI r_39.2.2) wz rfl (h_alloc 0 (.inl rfl) z45 rfl wz (fun n_41 => h_str 0 il ft 4 sz45 rfl rfl [(vI r_39.1.X), (vI r_39.1.Y), (vI r_39.1.W), (vI r_39.1.H)] rfl wz (h_op (vB r_39.2.1) wz rfl (h_op (vI r_39.2.2) wz rfl (h_nil (wH_seq (wH_region (h_op (vI r_39.2.2) wz rfl (h_op (vB (r_39.2.2 != 0)) wz rfl (h_nil ?_))))))))))))))
     obtain ⟨v_42, h_43, hc_34⟩ := bind_some hc_34
     refine wH_join (β := Unit) (fun _ => ([(4, (.ref n_9 0 0)), (8, (vI r_24.2)), (9, (vB r_26.1)), (10, (vI r_26.2)), (11, (vB v_42.1)), (12, (vI v_42.2)), (27, (vL Alert.enc r_10.1)), (28, (vI (r_10.1.length : Int))), (29, (vI (k_13 : Int))), (45, (vL Rect.enc r_24.1)), (46, (vI (r_24.1.length : Int))), (47, (vI (k_28 : Int)))] : List (Nat × V))) (fun _ => ([(n_2, some (.cells 2 [(vL eI r_10.2.L), (vI r_10.2.f_at)])), (n_9, some (.cells 3 [(vS (⟨#[112, 97]⟩ : ByteArray)), (vI r_3.1), (vI r_6.1)])), (n_23, some (.cells 9 [(vS x_15.Id), (vS x_15.Sender), (vI x_15.Kind), (vL eS x_15.Refs), (vI x_15.At), (vI x_15.Until), (vI x_15.Weight), (vL Rect.enc x_15.Areas), (vS x_15.Text)])), (n_38, some (.cells 4 [(vI x_30.X), (vI x_30.Y), (vI x_30.W), (vI x_30.H)])), (n_41, some (.cells 4 [(vI r_39.1.X), (vI r_39.1.Y), (vI r_39.1.W), (vI r_39.1.H)]))] : Hp)) (fun _ => True) ?_ ?_
     ·rcases cond_some h_43 with ⟨hc_44, h_43⟩ | ⟨hc_44, h_43⟩
      ·refine wH_ift rfl hc_44 (wH_region (h_op (vI r_39.2.2) wz rfl (h_op (vI r_39.2.2) wz rfl (h_nil ?_))))
       obtain rfl := some_inj h_43
       exact cu
      ·refine wH_iff rfl hc_44 (wH_seq (wH_region (h_op (vB r_39.2.1) wz rfl (h_nil ?_))))
       rcases cond_some h_43 with ⟨hc_45, h_43⟩ | ⟨hc_45, h_43⟩
       ·refine wH_ift rfl hc_45 (wH_region (h_op (vB true) wz rfl (h_nil ?_)))
        obtain rfl := some_inj h_43
        exact cu
       ·refine wH_iff rfl hc_45 (wH_skip ?_)
        obtain rfl := some_inj h_43
        exact cu
     ·rintro ⟨⟩ _ sl_ H_ hp_ hq_
      refine wH_at _ hp_ hq_ (wH_region (h_opw (w64_next hD_31 hn_32) wz rfl (h_op (vI ((k_28 + 1 : Nat) : Int)) wz rfl (h_nil ?_))))
      obtain rfl := some_inj hc_34
      exact loop_mk (k_28 + 1, l_29, (v_42.1, v_42.2)) ⟨hL_35, drop_next hD_31⟩ (Nat.lt_succ_self _) rfl (pre_r rfl)
   ·rintro s_33 ho_ sl_ H_ hp_ hq_
    subst ho_
    refine wH_at _ hp_ hq_ (wH_seq ?_)
    obtain ⟨v_46, h_47, hc_19⟩ := bind_some hc_19
    refine wH_join (β := Unit) (fun _ => ([(4, (.ref n_9 0 0)), (27, (vL Alert.enc r_10.1)), (28, (vI (r_10.1.length : Int))), (29, (vI (k_13 : Int))), (81, (vB v_46))] : List (Nat × V))) (fun _ => ([(n_2, some (.cells 2 [(vL eI r_10.2.L), (vI r_10.2.f_at)])), (n_9, some (.cells 3 [(vS (⟨#[112, 97]⟩ : ByteArray)), (vI r_3.1), (vI r_6.1)])), (n_23, some (.cells 9 [(vS x_15.Id), (vS x_15.Sender), (vI x_15.Kind), (vL eS x_15.Refs), (vI x_15.At), (vI x_15.Until), (vI x_15.Weight), (vL Rect.enc x_15.Areas), (vS x_15.Text)]))] : Hp)) (fun _ => True) ?_ ?_
    ·refine wH_region (h_op (vI r_24.2) wz rfl (h_op (vB (r_24.2 != 0)) wz rfl ?_))
     rcases cond_some h_47 with ⟨hc_48, h_47⟩ | ⟨hc_48, h_47⟩
     ·refine h_movb rfl hc_48 wz (h_skip wa (h_skip wa (h_op (vB true) wz rfl (h_op (vB true) wz rfl (h_skip wa (h_skip wa (h_op (vB true) wz rfl (h_op (vB true) wz rfl (h_skip wa (h_skip wa (h_skip wa (h_op (vB true) wz rfl (h_nil ?_)))))))))))))
      obtain rfl := some_inj h_47
      exact cu
     ·refine h_movb rfl hc_48 wz (h_op (vI r_26.2) wa rfl (h_op (vB (r_26.2 != 0)) wa rfl (h_op (vB (r_26.2 != 0)) wz rfl ?_)))
      rcases cond_some h_47 with ⟨hc_49, h_47⟩ | ⟨hc_49, h_47⟩
      ·refine h_movb rfl hc_49 wz (h_skip wa (h_skip wa (h_op (vB true) wz rfl (h_op (vB true) wz rfl (h_skip wa (h_skip wa (h_skip wa (h_op (vB true) wz rfl (h_nil ?_)))))))))
       obtain rfl := some_inj h_47
       exact cu
      ·refine h_movb rfl hc_49 wz (h_op (vI s_33.2) wa rfl (h_op (vB (s_33.2 != 0)) wa rfl (h_op (vB (s_33.2 != 0)) wz rfl ?_)))
       rcases cond_some h_47 with ⟨hc_50, h_47⟩ | ⟨hc_50, h_47⟩
       ·refine h_movb rfl hc_50 wz (h_skip wa (h_skip wa (h_skip wa (h_op (vB true) wz rfl (h_nil ?_)))))
        obtain rfl := some_inj h_47
        exact cu
       ·refine h_movb rfl hc_50 wz (h_op (vB r_26.1) wa rfl (h_op (vB s_33.1) wa rfl (h_bneq un4 rfl rfl wa (h_op (vB (!(r_26.1 == s_33.1))) wz rfl (h_nil ?_)))))
        obtain rfl := some_inj h_47
        exact cu
    ·rintro ⟨⟩ _ sl_ H_ hp_ hq_
     refine wH_at _ hp_ hq_ ?_
     rcases cond_some hc_19 with ⟨hc_51, hc_19⟩ | ⟨hc_51, hc_19⟩
     ·refine wH_ift rfl hc_51 (wH_seq (wH_region (h_op (vB false) wz rfl (h_nil ?_))))
      obtain rfl := some_inj hc_19
      obtain rfl := some_inj hL_20
      obtain rfl := some_inj hF
      exact wH_ret (fin0 (.inr rfl) [(vB false)] ⟨rfl, trivial⟩ rfl rfl rfl)
     ·refine wH_iff rfl hc_51 (wH_skip (wH_region (h_opw (w64_next hD_16 hn_17) wz rfl (h_op (vI ((k_13 + 1 : Nat) : Int)) wz rfl (h_nil ?_)))))
      obtain rfl := some_inj hc_19
      exact loop_mk (k_13 + 1, l_14, ()) ⟨hL_20, drop_next hD_16⟩ (Nat.lt_succ_self _) rfl (pre_r rfl)
 ·rintro s_18 ho_ sl_ H_ hp_ hq_
  subst ho_
  refine wH_at _ hp_ hq_ (wH_seq (wH_region ?_))
  obtain ⟨r_52, hr_53, hF⟩ := bind_some hF
  refine h_call0 (signtop_h10facts_ok hr_53) rfl hb31 rfl rfl rfl rfl wz (h_op (vB r_52) wz rfl (h_nil ?_))
  obtain rfl := some_inj hF
  exact wH_ret (fin0 (.inr rfl) [(vB r_52)] ⟨rfl, trivial⟩ rfl rfl rfl)
end Go.Proofs.YtpojeclokolkaaaGreatDoor.Law

