/-
 The machine computes these plain functions (written by a program of ours).
-/
import Derived.Test.YtpojeclokolkaaaGreatDoorFacts
import Derived.Test.YtpojeclokolkaaaGreatDoorDefs
import Derived.Test.YtpojeclokolkaaaGreatDoorPf3
open Go Go.Eng Go.Proofs
namespace Go.Proofs.YtpojeclokolkaaaGreatDoor.Law
set_option maxRecDepth 100000
set_option linter.unusedVariables false
set_option maxHeartbeats 1000000
theorem screen_Meet_ok {a_1 : Rect} {b_2 : Rect} {r : Rect × Bool × Int} (hF : screen_Meet a_1 b_2 = some r) :
  FnM Tryz.prog 21 [(.d (.agg (Rect.enc a_1))), (.d (.agg (Rect.enc b_2)))] [] (.tup [(.d (.agg (Rect.enc r.1))), (vB r.2.1), (vI r.2.2)]) [] := by
 refine FnM.of_wH ⟨Tryz.prog, 33, [], []⟩ rfl Tryz.func21 rfl rfl (Nat.le_of_ble_eq_true rfl) (by kernel_rfl) ?_
 unfold screen_Meet at hF
 refine wH_seq (wH_region (h_box 0 (.inl rfl) [(vI a_1.X), (vI a_1.Y), (vI a_1.W), (vI a_1.H)] rfl rfl wz (fun n_3 => h_box 0 (.inl rfl) [(vI b_2.X), (vI b_2.Y), (vI b_2.W), (vI b_2.H)] rfl rfl wz (fun n_4 => h_alloc 0 (.inl rfl) z45 rfl wz (fun n_5 => h_op (vB false) wz rfl (h_op (vI 0) wz rfl (h_nil (wH_seq (wH_seq (wH_region (h_ldr 0 0 il ft sz45 ag45 rfl rfl (.d (.agg (Rect.enc a_1))) rfl wz (h_ldr 0 1 il ft sz45 ag45 rfl rfl (.d (.agg (Rect.enc b_2))) rfl wz (h_op (.d (.agg [.int .i64 a_1.X, .int .i64 a_1.Y, .int .i64 a_1.W, .int .i64 a_1.H, .int .i64 b_2.X, .int .i64 b_2.Y, .int .i64 b_2.W, .int .i64 b_2.H])) wz (by kernel_rfl) (h_op (vI 0) wz rfl (h_nil ?_)))))))))))))))
 obtain ⟨o_14, hj_15, hF⟩ := bind_some hF
 obtain ⟨hn_10, hj_15⟩ := forL_some hj_15
 refine wH_join (β := (Unit)) (fun (s_11 : Unit) => ([(2, (.ref n_3 0 0)), (3, (.ref n_4 0 0)), (4, (.ref n_5 0 0))] : List (Nat × V))) (fun (s_11 : Unit) => ([(n_3, some (.cells 4 [(vI a_1.X), (vI a_1.Y), (vI a_1.W), (vI a_1.H)])), (n_4, some (.cells 4 [(vI b_2.X), (vI b_2.Y), (vI b_2.W), (vI b_2.H)])), (n_5, some (.cells 4 [(vI 0), (vI 0), (vI 0), (vI 0)]))] : Hp)) (fun p => o_14 = .go p) ?_ ?_
 ·refine wH_block (wH_loop (β := Nat × (List Nat) × (Unit)) (fun p => (fun (k_6 : Nat) (l_7 : List Nat) (s_11 : Unit) => ([(2, (.ref n_3 0 0)), (3, (.ref n_4 0 0)), (4, (.ref n_5 0 0)), (14, (.d (.agg [.int .i64 a_1.X, .int .i64 a_1.Y, .int .i64 a_1.W, .int .i64 a_1.H, .int .i64 b_2.X, .int .i64 b_2.Y, .int .i64 b_2.W, .int .i64 b_2.H]))), (15, (vI (k_6 : Int)))] : List (Nat × V))) p.1 p.2.1 p.2.2) (fun p => (fun (k_6 : Nat) (l_7 : List Nat) (s_11 : Unit) => ([(n_3, some (.cells 4 [(vI a_1.X), (vI a_1.Y), (vI a_1.W), (vI a_1.H)])), (n_4, some (.cells 4 [(vI b_2.X), (vI b_2.Y), (vI b_2.W), (vI b_2.H)])), (n_5, some (.cells 4 [(vI 0), (vI 0), (vI 0), (vI 0)]))] : Hp)) p.1 p.2.1 p.2.2) (fun p => forR (fun k x s => screen_Meet_L1 a_1 b_2 k x s) p.2.1 p.1 p.2.2 = some o_14 ∧ ((List.range (2 : Int).toNat)).drop p.1 = p.2.1) (fun p => p.2.1.length) (0, (List.range (2 : Int).toNat), ()) ⟨hj_15, rfl⟩ rfl (pre_r rfl) ?_)
  rintro ⟨k_6, l_7, s_11⟩ ⟨hL_13, hD_9⟩
  dsimp only at hL_13 hD_9
  cases l_7 with
  | nil =>
   obtain rfl := some_inj hL_13
   refine wH_seq (wH_region (h_op (vB (decide ((k_6 : Int) < 2))) wz rfl (h_nil ?_)))
   refine wH_seq (wH_iff rfl (range_nil hD_9) (wH_exit ?_))
   exact cut_mk (s_11) rfl rfl (pre_r rfl)
  | cons x_8 l_7 =>
   obtain ⟨c_, hc_12, hL_13⟩ := bind_some hL_13
   refine wH_seq (wH_region (h_op (vB (decide ((k_6 : Int) < 2))) wz rfl (h_nil ?_)))
   refine wH_seq (wH_ift rfl (range_cons hD_9) (wH_skip ?_))
   unfold screen_Meet_L1 at hc_12
   refine wH_seq (wH_block (wH_seq (wH_region ?_)))
   obtain ⟨y_16, hy_17, hc_12⟩ := bind_some hc_12
   refine h_idxa (enc := Rect.enc) (xs := ([a_1, b_2] : List Rect)) un186 sz45 ag45 rfl rfl rfl rfl hy_17 (fun _ => rfl) (.inl rfl) (.d (.agg (Rect.enc y_16))) rfl wz (h_alloc 0 (.inl rfl) z45 rfl wz (fun n_18 => h_str 0 il ft 3 sz45 rfl rfl [(vI y_16.X), (vI y_16.Y), (vI y_16.W), (vI y_16.H)] rfl wz (h_nil (wH_seq (wH_region (h_ldr 0 3 il ft sz45 ag45 rfl rfl (.d (.agg (Rect.enc y_16))) rfl wz ?_))))))
   obtain ⟨r_19, hr_20, hc_12⟩ := bind_some hc_12
   refine h_call0 (screen_CheckRect_ok hr_20) rfl hb96 rfl rfl rfl rfl wz (h_op (vI r_19) wz rfl (h_nil (wH_seq (wH_region (h_op (vI r_19) wz rfl (h_op (vB (r_19 != 0)) wz rfl (h_nil ?_)))))))
   rcases cond_some hc_12 with ⟨hc_21, hc_12⟩ | ⟨hc_21, hc_12⟩
   ·refine wH_ift rfl hc_21 (wH_seq (wH_region (h_op (.d (.agg (Rect.enc (⟨0, 0, 0, 0⟩ : Rect)))) wz (by kernel_rfl) (h_op (vI r_19) wz rfl (h_str 0 il ft 2 sz45 rfl rfl [(vI 0), (vI 0), (vI 0), (vI 0)] rfl wz (h_op (vB false) wz rfl (h_op (vI r_19) wz rfl (h_nil ?_))))))))
    obtain rfl := some_inj hc_12
    obtain rfl := some_inj hL_13
    obtain rfl := some_inj hF
    exact wH_ret (fin0 (.inr rfl) [(.d (.agg (Rect.enc (⟨0, 0, 0, 0⟩ : Rect)))), (vB false), (vI r_19)] ⟨⟨2, _, _, _, _, _, _, _, rfl, rfl, sz45, ag45, rfl⟩, ⟨rfl, ⟨rfl, trivial⟩⟩⟩ rfl rfl rfl)
   ·refine wH_iff rfl hc_21 (wH_skip (wH_region (h_opw (w64_nextr hD_9 hn_10) wz rfl (h_op (vI ((k_6 + 1 : Nat) : Int)) wz rfl (h_nil ?_)))))
    obtain rfl := some_inj hc_12
    exact loop_mk (k_6 + 1, l_7, ()) ⟨hL_13, drop_next hD_9⟩ (Nat.lt_succ_self _) rfl (pre_r rfl)
 ·rintro s_11 ho_ sl_ H_ hp_ hq_
  subst ho_
  refine wH_at _ hp_ hq_ (wH_seq (wH_region (h_ldr 0 0 il ft sz45 ag45 rfl rfl (.d (.agg (Rect.enc a_1))) rfl wz (h_ldr 0 1 il ft sz45 ag45 rfl rfl (.d (.agg (Rect.enc b_2))) rfl wz ?_))))
  obtain ⟨r_22, hr_23, hF⟩ := bind_some hF
  refine h_call0 (screen_meet_ok hr_23) rfl hb97 rfl rfl rfl rfl wz (h_op (.tup [(.d (.agg (Rect.enc r_22.1))), (vB r_22.2)]) wz rfl (h_op (.d (.agg (Rect.enc r_22.1))) wz rfl (h_op (vB r_22.2) wz rfl (h_alloc 0 (.inl rfl) z45 rfl wz (fun n_24 => h_str 0 il ft 3 sz45 rfl rfl [(vI r_22.1.X), (vI r_22.1.Y), (vI r_22.1.W), (vI r_22.1.H)] rfl wz (h_op (vB r_22.2) wz rfl (h_nil (wH_seq (wH_region (h_ldr 0 3 il ft sz45 ag45 rfl rfl (.d (.agg (Rect.enc r_22.1))) rfl wz (h_op (vB r_22.2) wz rfl (h_str 0 il ft 2 sz45 rfl rfl [(vI r_22.1.X), (vI r_22.1.Y), (vI r_22.1.W), (vI r_22.1.H)] rfl wz (h_op (vB r_22.2) wz rfl (h_op (vI 0) wz rfl (h_nil ?_)))))))))))))))
  obtain rfl := some_inj hF
  exact wH_ret (fin0 (.inr rfl) [(.d (.agg (Rect.enc r_22.1))), (vB r_22.2), (vI 0)] ⟨⟨2, _, _, _, _, _, _, _, rfl, rfl, sz45, ag45, rfl⟩, ⟨rfl, ⟨rfl, trivial⟩⟩⟩ rfl rfl rfl)
theorem screen_area_ok {l_1 : (List Rect)} {r : Int} (hF : screen_area l_1 = some r) :
  FnM Tryz.prog 103 [(vL Rect.enc l_1)] [] (vI r) [] := by
 refine FnM.of_wH ⟨Tryz.prog, 21, [], []⟩ rfl Tryz.func103 rfl rfl (Nat.le_of_ble_eq_true rfl) (by kernel_rfl) ?_
 unfold screen_area at hF
 refine wH_seq (wH_region (h_op (vI 0) wz rfl (h_nil (wH_seq (wH_region (h_op (vI 0) wz rfl (h_nil (wH_seq (wH_seq (wH_region (h_op (vL Rect.enc l_1) wz rfl (h_len un50 rfl wz (h_op (vI 0) wz rfl (h_nil ?_))))))))))))))
 obtain ⟨o_10, hj_11, hF⟩ := bind_some hF
 obtain ⟨hn_6, hj_11⟩ := forL_some hj_11
 refine wH_join (β := (Int)) (fun (s_7 : Int) => ([(3, (vI s_7))] : List (Nat × V))) (fun (s_7 : Int) => ([] : Hp)) (fun p => o_10 = .go p) ?_ ?_
 ·refine wH_block (wH_loop (β := Nat × (List Rect) × (Int)) (fun p => (fun (k_2 : Nat) (l_3 : List Rect) (s_7 : Int) => ([(3, (vI s_7)), (6, (vL Rect.enc l_1)), (7, (vI (l_1.length : Int))), (8, (vI (k_2 : Int)))] : List (Nat × V))) p.1 p.2.1 p.2.2) (fun p => (fun (k_2 : Nat) (l_3 : List Rect) (s_7 : Int) => ([] : Hp)) p.1 p.2.1 p.2.2) (fun p => forR (fun k x s => screen_area_L1 k x s) p.2.1 p.1 p.2.2 = some o_10 ∧ (l_1).drop p.1 = p.2.1) (fun p => p.2.1.length) (0, l_1, 0) ⟨hj_11, rfl⟩ rfl (pre_r rfl) ?_)
  rintro ⟨k_2, l_3, s_7⟩ ⟨hL_9, hD_5⟩
  dsimp only at hL_9 hD_5
  cases l_3 with
  | nil =>
   obtain rfl := some_inj hL_9
   refine wH_seq (wH_region (h_op (vB (decide ((k_2 : Int) < (l_1.length : Int)))) wz rfl (h_nil ?_)))
   refine wH_seq (wH_iff rfl (drop_nil hD_5) (wH_exit ?_))
   exact cut_mk (s_7) rfl rfl (pre_r rfl)
  | cons x_4 l_3 =>
   obtain ⟨c_, hc_8, hL_9⟩ := bind_some hL_9
   refine wH_seq (wH_region (h_op (vB (decide ((k_2 : Int) < (l_1.length : Int)))) wz rfl (h_nil ?_)))
   refine wH_seq (wH_ift rfl (drop_cons hD_5) (wH_skip ?_))
   unfold screen_area_L1 at hc_8
   refine wH_seq (wH_block (wH_seq (wH_region (h_ia es50 rfl rfl (drop_idx hD_5) rfl wz (h_ldc sz45 ag45 rfl (.d (.agg (Rect.enc x_4))) rfl wz (h_alloc 0 (.inl rfl) z45 rfl wz (fun n_12 => h_str 0 il ft 0 sz45 rfl rfl [(vI x_4.X), (vI x_4.Y), (vI x_4.W), (vI x_4.H)] rfl wz (h_nil (wH_region (h_op (vI s_7) wz rfl (h_far pl45_2 rfl 2 rfl wz (h_ldr 0 0 il ft sz3 ag3 rfl rfl (vI x_4.W) rfl wz (h_far pl45_3 rfl 3 rfl wz (h_ldr 0 0 il ft sz3 ag3 rfl rfl (vI x_4.H) rfl wz (h_op (vI (w64 (x_4.W * x_4.H))) wz rfl (h_op (vI (w64 (s_7 + (w64 (x_4.W * x_4.H))))) wz rfl (h_op (vI (w64 (s_7 + (w64 (x_4.W * x_4.H))))) wz rfl (h_nil (wH_region (h_opw (w64_next hD_5 hn_6) wz rfl (h_op (vI ((k_2 + 1 : Nat) : Int)) wz rfl (h_nil ?_))))))))))))))))))))))
   obtain rfl := some_inj hc_8
   exact loop_mk (k_2 + 1, l_3, (w64 (s_7 + (w64 (x_4.W * x_4.H))))) ⟨hL_9, drop_next hD_5⟩ (Nat.lt_succ_self _) rfl (pre_r rfl)
 ·rintro s_7 ho_ sl_ H_ hp_ hq_
  subst ho_
  refine wH_at _ hp_ hq_ (wH_seq (wH_region (h_op (vI s_7) wz rfl (h_op (vI s_7) wz rfl (h_nil ?_)))))
  obtain rfl := some_inj hF
  exact wH_ret (fin0 (.inr rfl) [(vI s_7)] ⟨rfl, trivial⟩ rfl rfl rfl)
theorem screen_Area_ok {l_1 : (List Rect)} {r : Int × Int} (hF : screen_Area l_1 = some r) :
  FnM Tryz.prog 89 [(vL Rect.enc l_1)] [] (.tup [(vI r.1), (vI r.2)]) [] := by
 refine FnM.of_wH ⟨Tryz.prog, 13, [], []⟩ rfl Tryz.func89 rfl rfl (Nat.le_of_ble_eq_true rfl) (by kernel_rfl) ?_
 unfold screen_Area at hF
 refine wH_seq (wH_region (h_op (vI 0) wz rfl (h_op (vI 0) wz rfl (h_nil (wH_seq (wH_seq (wH_region (h_op (vL Rect.enc l_1) wz rfl ?_))))))))
 obtain ⟨r_2, hr_3, hF⟩ := bind_some hF
 refine h_call0 (screen_rectsFault_ok hr_3) rfl hb111 rfl rfl rfl rfl wz (h_op (vI r_2) wz rfl (h_nil (wH_seq (wH_region (h_op (vI r_2) wz rfl (h_op (vB (r_2 != 0)) wz rfl (h_nil ?_)))))))
 rcases cond_some hF with ⟨hc_4, hF⟩ | ⟨hc_4, hF⟩
 ·refine wH_ift rfl hc_4 (wH_seq (wH_region (h_op (vI r_2) wz rfl (h_op (vI 0) wz rfl (h_op (vI r_2) wz rfl (h_nil ?_))))))
  obtain rfl := some_inj hF
  exact wH_ret (fin0 (.inr rfl) [(vI 0), (vI r_2)] ⟨rfl, ⟨rfl, trivial⟩⟩ rfl rfl rfl)
 ·refine wH_iff rfl hc_4 (wH_skip (wH_seq (wH_region (h_op (vL Rect.enc l_1) wz rfl ?_))))
  obtain ⟨r_5, hr_6, hF⟩ := bind_some hF
  refine h_call0 (screen_region_ok hr_6) rfl hb100 rfl rfl rfl rfl wz ?_
  obtain ⟨r_7, hr_8, hF⟩ := bind_some hF
  refine h_call0 (screen_area_ok hr_8) rfl hb103 rfl rfl rfl rfl wz (h_op (vI r_7) wz rfl (h_op (vI 0) wz rfl (h_nil ?_)))
  obtain rfl := some_inj hF
  exact wH_ret (fin0 (.inr rfl) [(vI r_7), (vI 0)] ⟨rfl, ⟨rfl, trivial⟩⟩ rfl rfl rfl)
theorem booking_isTime_ok {wv_1 : Window} {r : Bool} (hF : booking_isTime wv_1 = some r) :
  FnM Tryz.prog 213 [(.d (.agg (Window.enc wv_1)))] [] (vB r) [] := by
 refine FnM.of_wH ⟨Tryz.prog, 18, [], []⟩ rfl Tryz.func213 rfl rfl (Nat.le_of_ble_eq_true rfl) (by kernel_rfl) ?_
 unfold booking_isTime at hF
 refine wH_seq (wH_region (h_box 0 (.inl rfl) [(vI wv_1.From), (vI wv_1.To)] rfl rfl wz (fun n_2 => h_op (vB false) wz rfl (h_nil (wH_seq ?_)))))
 obtain ⟨v_3, h_4, hF⟩ := bind_some hF
 refine wH_join (β := Unit) (fun _ => ([(2, (vB v_3))] : List (Nat × V))) (fun _ => ([(n_2, some (.cells 2 [(vI wv_1.From), (vI wv_1.To)]))] : Hp)) (fun _ => True) ?_ ?_
 ·refine wH_region (h_far pl109_0 rfl 0 rfl wz (h_ldr 0 0 il ft sz3 ag3 rfl rfl (vI wv_1.From) rfl wz (h_op (vB (decide (wv_1.From ≥ 0))) wz rfl ?_)))
  rcases cond_some h_4 with ⟨hc_5, h_4⟩ | ⟨hc_5, h_4⟩
  ·refine h_movb rfl hc_5 wz (h_far pl109_0 rfl 0 rfl wa (h_ldr 0 0 il ft sz3 ag3 rfl rfl (vI wv_1.From) rfl wa (h_far pl109_1 rfl 1 rfl wa (h_ldr 0 0 il ft sz3 ag3 rfl rfl (vI wv_1.To) rfl wa (h_op (vB (decide (wv_1.From < wv_1.To))) wa rfl (h_op (vB (decide (wv_1.From < wv_1.To))) wz rfl ?_))))))
   rcases cond_some h_4 with ⟨hc_6, h_4⟩ | ⟨hc_6, h_4⟩
   ·refine h_movb rfl hc_6 wz (h_far pl109_1 rfl 1 rfl wa (h_ldr 0 0 il ft sz3 ag3 rfl rfl (vI wv_1.To) rfl wa (h_op (vB (decide (wv_1.To ≤ 345686400000))) wa rfl (h_op (vB (decide (wv_1.To ≤ 345686400000))) wz rfl (h_op (vB (decide (wv_1.To ≤ 345686400000))) wz rfl (h_nil ?_))))))
    obtain rfl := some_inj h_4
    exact cu
   ·refine h_movb rfl hc_6 wz (h_skip wa (h_skip wa (h_skip wa (h_op (vB false) wz rfl (h_op (vB false) wz rfl (h_nil ?_))))))
    obtain rfl := some_inj h_4
    exact cu
  ·refine h_movb rfl hc_5 wz (h_skip wa (h_skip wa (h_skip wa (h_skip wa (h_skip wa (h_op (vB false) wz rfl (h_op (vB false) wz rfl (h_skip wa (h_skip wa (h_skip wa (h_op (vB false) wz rfl (h_op (vB false) wz rfl (h_nil ?_)))))))))))))
   obtain rfl := some_inj h_4
   exact cu
 ·rintro ⟨⟩ _ sl_ H_ hp_ hq_
  refine wH_at _ hp_ hq_ ?_
  obtain rfl := some_inj hF
  exact wH_ret (fin0 (.inr rfl) [(vB v_3)] ⟨rfl, trivial⟩ rfl rfl rfl)
theorem kit_RisingFault_ok {l_1 : (List ByteArray)} {r : Int} (hF : kit_RisingFault l_1 = some r) :
  FnM Tryz.prog 265 [(vL eS l_1)] [] (vI r) [] := by
 refine FnM.of_wH ⟨Tryz.prog, 27, [], []⟩ rfl Tryz.func265 rfl rfl (Nat.le_of_ble_eq_true rfl) (by kernel_rfl) ?_
 unfold kit_RisingFault at hF
 refine wH_seq (wH_region (h_op (vI 0) wz rfl (h_nil (wH_seq (wH_seq (wH_region (h_op (vL eS l_1) wz rfl (h_len un80 rfl wz (h_op (vI 0) wz rfl (h_nil ?_))))))))))
 obtain ⟨o_10, hj_11, hF⟩ := bind_some hF
 obtain ⟨hn_6, hj_11⟩ := forL_some hj_11
 refine wH_join (β := (Unit)) (fun (s_7 : Unit) => ([] : List (Nat × V))) (fun (s_7 : Unit) => ([] : Hp)) (fun p => o_10 = .go p) ?_ ?_
 ·refine wH_block (wH_loop (β := Nat × (List ByteArray) × (Unit)) (fun p => (fun (k_2 : Nat) (l_3 : List ByteArray) (s_7 : Unit) => ([(0, (vL eS l_1)), (5, (vL eS l_1)), (6, (vI (l_1.length : Int))), (7, (vI (k_2 : Int)))] : List (Nat × V))) p.1 p.2.1 p.2.2) (fun p => (fun (k_2 : Nat) (l_3 : List ByteArray) (s_7 : Unit) => ([] : Hp)) p.1 p.2.1 p.2.2) (fun p => forR (fun k x s => kit_RisingFault_L1 l_1 k x s) p.2.1 p.1 p.2.2 = some o_10 ∧ (l_1).drop p.1 = p.2.1) (fun p => p.2.1.length) (0, l_1, ()) ⟨hj_11, rfl⟩ rfl (pre_r rfl) ?_)
  rintro ⟨k_2, l_3, s_7⟩ ⟨hL_9, hD_5⟩
  dsimp only at hL_9 hD_5
  cases l_3 with
  | nil =>
   obtain rfl := some_inj hL_9
   refine wH_seq (wH_region (h_op (vB (decide ((k_2 : Int) < (l_1.length : Int)))) wz rfl (h_nil ?_)))
   refine wH_seq (wH_iff rfl (drop_nil hD_5) (wH_exit ?_))
   exact cut_mk (s_7) rfl rfl (pre_r rfl)
  | cons x_4 l_3 =>
   obtain ⟨c_, hc_8, hL_9⟩ := bind_some hL_9
   refine wH_seq (wH_region (h_op (vB (decide ((k_2 : Int) < (l_1.length : Int)))) wz rfl (h_nil ?_)))
   refine wH_seq (wH_ift rfl (drop_cons hD_5) (wH_skip ?_))
   unfold kit_RisingFault_L1 at hc_8
   refine wH_seq (wH_block (wH_seq (wH_region (h_op (vI (k_2 : Int)) wz rfl (h_ia es80 rfl rfl (drop_idx hD_5) rfl wz (h_ldc sz9 ag9 rfl (vS x_4) rfl wz (h_op (vI (k_2 : Int)) wz rfl (h_op (vS x_4) wz rfl (h_nil (wH_seq (wH_seq (wH_region (h_op (vS x_4) wz rfl ?_)))))))))))))
   obtain ⟨r_12, hr_13, hc_8⟩ := bind_some hc_8
   refine h_call0 (kit_IsKey_ok hr_13) rfl hb124 rfl rfl rfl rfl wz (h_op (vB (!r_12)) wz rfl (h_nil ?_))
   rcases cond_some hc_8 with ⟨hc_14, hc_8⟩ | ⟨hc_14, hc_8⟩
   ·refine wH_ift rfl hc_14 (wH_seq (wH_region (h_op (vI 5) wz rfl (h_nil ?_))))
    obtain rfl := some_inj hc_8
    obtain rfl := some_inj hL_9
    obtain rfl := some_inj hF
    exact wH_ret (fin0 (.inr rfl) [(vI 5)] ⟨rfl, trivial⟩ rfl rfl rfl)
   ·refine wH_iff rfl hc_14 (wH_skip (wH_seq ?_))
    obtain ⟨v_15, h_16, hc_8⟩ := bind_some hc_8
    refine wH_join (β := Unit) (fun _ => ([(0, (vL eS l_1)), (5, (vL eS l_1)), (6, (vI (l_1.length : Int))), (7, (vI (k_2 : Int))), (25, (vB v_15))] : List (Nat × V))) (fun _ => ([] : Hp)) (fun _ => True) ?_ ?_
    ·refine wH_region (h_op (vI (k_2 : Int)) wz rfl (h_op (vB (decide ((k_2 : Int) > 0))) wz rfl ?_))
     rcases cond_some h_16 with ⟨hc_17, h_16⟩ | ⟨hc_17, h_16⟩
     ·refine h_movb rfl hc_17 wz (h_op (vS x_4) wa rfl (h_op (vL eS l_1) wa rfl (h_op (vI (k_2 : Int)) wa rfl (h_op (vI (w64 ((k_2 : Int) - 1))) wa rfl ?_))))
      obtain ⟨y_18, hy_19, h_16⟩ := bind_some h_16
      refine h_ia es80 rfl rfl hy_19 rfl wa (h_ldc sz9 ag9 rfl (vS y_18) rfl wa (h_op (vB (sLe x_4 y_18)) wa rfl (h_op (vB (sLe x_4 y_18)) wz rfl (h_nil ?_))))
      obtain rfl := some_inj h_16
      exact cu
     ·refine h_movb rfl hc_17 wz (h_skip wa (h_skip wa (h_skip wa (h_skip wa (h_skip wa (h_skip wa (h_skip wa (h_op (vB false) wz rfl (h_nil ?_)))))))))
      obtain rfl := some_inj h_16
      exact cu
    ·rintro ⟨⟩ _ sl_ H_ hp_ hq_
     refine wH_at _ hp_ hq_ ?_
     rcases cond_some hc_8 with ⟨hc_20, hc_8⟩ | ⟨hc_20, hc_8⟩
     ·refine wH_ift rfl hc_20 (wH_seq (wH_region (h_op (vI 7) wz rfl (h_nil ?_))))
      obtain rfl := some_inj hc_8
      obtain rfl := some_inj hL_9
      obtain rfl := some_inj hF
      exact wH_ret (fin0 (.inr rfl) [(vI 7)] ⟨rfl, trivial⟩ rfl rfl rfl)
     ·refine wH_iff rfl hc_20 (wH_skip (wH_region (h_opw (w64_next hD_5 hn_6) wz rfl (h_op (vI ((k_2 + 1 : Nat) : Int)) wz rfl (h_nil ?_)))))
      obtain rfl := some_inj hc_8
      exact loop_mk (k_2 + 1, l_3, ()) ⟨hL_9, drop_next hD_5⟩ (Nat.lt_succ_self _) rfl (pre_r rfl)
 ·rintro s_7 ho_ sl_ H_ hp_ hq_
  subst ho_
  refine wH_at _ hp_ hq_ (wH_seq (wH_region (h_op (vI 0) wz rfl (h_nil ?_))))
  obtain rfl := some_inj hF
  exact wH_ret (fin0 (.inr rfl) [(vI 0)] ⟨rfl, trivial⟩ rfl rfl rfl)
theorem booking_tagsFault_ok {l_1 : (List ByteArray)} {r : Int} (hF : booking_tagsFault l_1 = some r) :
  FnM Tryz.prog 214 [(vL eS l_1)] [] (vI r) [] := by
 refine FnM.of_wH ⟨Tryz.prog, 8, [], []⟩ rfl Tryz.func214 rfl rfl (Nat.le_of_ble_eq_true rfl) (by kernel_rfl) ?_
 unfold booking_tagsFault at hF
 refine wH_seq (wH_region (h_op (vI 0) wz rfl (h_nil (wH_seq (wH_seq (wH_region (h_op (vL eS l_1) wz rfl (h_len un80 rfl wz (h_op (vB (decide ((l_1.length : Int) > 20))) wz rfl (h_nil ?_))))))))))
 rcases cond_some hF with ⟨hc_2, hF⟩ | ⟨hc_2, hF⟩
 ·refine wH_ift rfl hc_2 (wH_seq (wH_region (h_op (vI 2) wz rfl (h_nil ?_))))
  obtain rfl := some_inj hF
  exact wH_ret (fin0 (.inr rfl) [(vI 2)] ⟨rfl, trivial⟩ rfl rfl rfl)
 ·refine wH_iff rfl hc_2 (wH_skip (wH_seq (wH_region (h_op (vL eS l_1) wz rfl ?_))))
  obtain ⟨r_3, hr_4, hF⟩ := bind_some hF
  refine h_call0 (kit_RisingFault_ok hr_4) rfl hb265 rfl rfl rfl rfl wz (h_op (vI r_3) wz rfl (h_nil ?_))
  obtain rfl := some_inj hF
  exact wH_ret (fin0 (.inr rfl) [(vI r_3)] ⟨rfl, trivial⟩ rfl rfl rfl)
theorem booking_CheckCampaigns_ok {l_1 : (List Campaign)} {r : Int} (hF : booking_CheckCampaigns l_1 = some r) :
  FnM Tryz.prog 173 [(vL Campaign.enc l_1)] [] (vI r) [] := by
 refine FnM.of_wH ⟨Tryz.prog, 73, [], []⟩ rfl Tryz.func173 rfl rfl (Nat.le_of_ble_eq_true rfl) (by kernel_rfl) ?_
 unfold booking_CheckCampaigns at hF
 refine wH_seq (wH_region (h_op (vI 0) wz rfl (h_nil (wH_seq (wH_seq (wH_region (h_op (vL Campaign.enc l_1) wz rfl (h_len un253 rfl wz (h_op (vB (decide ((l_1.length : Int) > 30))) wz rfl (h_nil ?_))))))))))
 rcases cond_some hF with ⟨hc_2, hF⟩ | ⟨hc_2, hF⟩
 ·refine wH_ift rfl hc_2 (wH_seq (wH_region (h_op (vI 2) wz rfl (h_nil ?_))))
  obtain rfl := some_inj hF
  exact wH_ret (fin0 (.inr rfl) [(vI 2)] ⟨rfl, trivial⟩ rfl rfl rfl)
 ·refine wH_iff rfl hc_2 (wH_skip (wH_seq (wH_seq (wH_region (h_op (vL Campaign.enc l_1) wz rfl (h_len un253 rfl wz (h_op (vI 0) wz rfl (h_nil ?_))))))))
  obtain ⟨o_11, hj_12, hF⟩ := bind_some hF
  obtain ⟨hn_7, hj_12⟩ := forL_some hj_12
  refine wH_join (β := (Unit)) (fun (s_8 : Unit) => ([] : List (Nat × V))) (fun (s_8 : Unit) => ([] : Hp)) (fun p => o_11 = .go p) ?_ ?_
  ·refine wH_block (wH_loop (β := Nat × (List Campaign) × (Unit)) (fun p => (fun (k_3 : Nat) (l_4 : List Campaign) (s_8 : Unit) => ([(0, (vL Campaign.enc l_1)), (9, (vL Campaign.enc l_1)), (10, (vI (l_1.length : Int))), (11, (vI (k_3 : Int)))] : List (Nat × V))) p.1 p.2.1 p.2.2) (fun p => (fun (k_3 : Nat) (l_4 : List Campaign) (s_8 : Unit) => ([] : Hp)) p.1 p.2.1 p.2.2) (fun p => forR (fun k x s => booking_CheckCampaigns_L1 l_1 k x s) p.2.1 p.1 p.2.2 = some o_11 ∧ (l_1).drop p.1 = p.2.1) (fun p => p.2.1.length) (0, l_1, ()) ⟨hj_12, rfl⟩ rfl (pre_r rfl) ?_)
   rintro ⟨k_3, l_4, s_8⟩ ⟨hL_10, hD_6⟩
   dsimp only at hL_10 hD_6
   cases l_4 with
   | nil =>
    obtain rfl := some_inj hL_10
    refine wH_seq (wH_region (h_op (vB (decide ((k_3 : Int) < (l_1.length : Int)))) wz rfl (h_nil ?_)))
    refine wH_seq (wH_iff rfl (drop_nil hD_6) (wH_exit ?_))
    exact cut_mk (s_8) rfl rfl (pre_r rfl)
   | cons x_5 l_4 =>
    obtain ⟨c_, hc_9, hL_10⟩ := bind_some hL_10
    refine wH_seq (wH_region (h_op (vB (decide ((k_3 : Int) < (l_1.length : Int)))) wz rfl (h_nil ?_)))
    refine wH_seq (wH_ift rfl (drop_cons hD_6) (wH_skip ?_))
    unfold booking_CheckCampaigns_L1 at hc_9
    refine wH_seq (wH_block (wH_seq (wH_region (h_op (vI (k_3 : Int)) wz rfl (h_ia es253 rfl rfl (drop_idx hD_6) rfl wz (h_ldc sz173 ag173 rfl (.d (.agg (Campaign.enc x_5))) rfl wz (h_alloc 0 (.inl rfl) z173 rfl wz (fun n_13 => h_op (vI (k_3 : Int)) wz rfl (h_str 0 il ft 0 sz173 rfl rfl [(vS x_5.Key), (vS x_5.Class), (vI x_5.Time.From), (vI x_5.Time.To), (vL eS x_5.Tags), (vI x_5.Goal), (vI x_5.Most), (vI x_5.Cents)] rfl wz (h_nil (wH_seq (wH_block (wH_seq ?_)))))))))))))
    obtain ⟨v_14, h_15, hc_9⟩ := bind_some hc_9
    refine wH_join (β := Unit) (fun _ => ([(0, (vL Campaign.enc l_1)), (3, (vI (k_3 : Int))), (4, (.ref n_13 0 0)), (9, (vL Campaign.enc l_1)), (10, (vI (l_1.length : Int))), (11, (vI (k_3 : Int))), (16, (vB v_14))] : List (Nat × V))) (fun _ => ([(n_13, some (.cells 8 [(vS x_5.Key), (vS x_5.Class), (vI x_5.Time.From), (vI x_5.Time.To), (vL eS x_5.Tags), (vI x_5.Goal), (vI x_5.Most), (vI x_5.Cents)]))] : Hp)) (fun _ => True) ?_ ?_
    ·refine wH_region (h_far pl173_0 rfl 0 rfl wz (h_ldr 0 0 il ft sz9 ag9 rfl rfl (vS x_5.Key) rfl wz ?_))
     obtain ⟨r_16, hr_17, h_15⟩ := bind_some h_15
     refine h_call0 (kit_IsKey_ok hr_17) rfl hb124 rfl rfl rfl rfl wz (h_op (vB (!r_16)) wz rfl ?_)
     rcases cond_some h_15 with ⟨hc_18, h_15⟩ | ⟨hc_18, h_15⟩
     ·refine h_movb rfl hc_18 wz (h_skip wa (h_skip wa (h_skip wa (h_skip wa (h_skip (wn rfl rfl) (h_skip (wn rfl rfl) (h_skip (wn rfl rfl) (h_skip (wn rfl rfl) (h_skip wa (h_op (vB true) wz rfl (h_op (vB true) wz rfl (h_nil ?_))))))))))))
      obtain rfl := some_inj h_15
      exact cu
     ·refine h_movb rfl hc_18 wz (h_far pl173_1 rfl 1 rfl wa (h_ldr 0 0 il ft sz9 ag9 rfl rfl (vS x_5.Class) rfl wa (h_op (vB (sNe x_5.Class (⟨#[]⟩ : ByteArray))) wa rfl ?_)))
      rcases cond_some h_15 with ⟨hc_19, h_15⟩ | ⟨hc_19, h_15⟩
      ·refine h_movb rfl hc_19 wa (h_far pl173_1 rfl 1 rfl wa (h_ldr 0 0 il ft sz9 ag9 rfl rfl (vS x_5.Class) rfl wa ?_))
       obtain ⟨r_20, hr_21, h_15⟩ := bind_some h_15
       refine h_call0 (kit_IsKey_ok hr_21) rfl hb124 rfl rfl rfl rfl wa (h_op (vB (!r_20)) wa rfl (h_op (vB (!r_20)) wa rfl (h_op (vB (!r_20)) wz rfl (h_op (vB (!r_20)) wz rfl (h_nil ?_)))))
       obtain rfl := some_inj h_15
       exact cu
      ·refine h_movb rfl hc_19 wa (h_skip wa (h_skip wa (h_skip wa (h_skip wa (h_op (vB false) wa rfl (h_op (vB false) wz rfl (h_op (vB false) wz rfl (h_nil ?_))))))))
       obtain rfl := some_inj h_15
       exact cu
    ·rintro ⟨⟩ _ sl_ H_ hp_ hq_
     refine wH_at _ hp_ hq_ ?_
     rcases cond_some hc_9 with ⟨hc_22, hc_9⟩ | ⟨hc_22, hc_9⟩
     ·refine wH_ift rfl hc_22 (wH_seq (wH_region (h_op (vI 5) wz rfl (h_nil ?_))))
      obtain rfl := some_inj hc_9
      obtain rfl := some_inj hL_10
      obtain rfl := some_inj hF
      exact wH_ret (fin0 (.inr rfl) [(vI 5)] ⟨rfl, trivial⟩ rfl rfl rfl)
     ·refine wH_iff rfl hc_22 (wH_seq ?_)
      obtain ⟨v_23, h_24, hc_9⟩ := bind_some hc_9
      refine wH_join (β := Unit) (fun _ => ([(0, (vL Campaign.enc l_1)), (4, (.ref n_13 0 0)), (9, (vL Campaign.enc l_1)), (10, (vI (l_1.length : Int))), (11, (vI (k_3 : Int))), (32, (vB v_23))] : List (Nat × V))) (fun _ => ([(n_13, some (.cells 8 [(vS x_5.Key), (vS x_5.Class), (vI x_5.Time.From), (vI x_5.Time.To), (vL eS x_5.Tags), (vI x_5.Goal), (vI x_5.Most), (vI x_5.Cents)]))] : Hp)) (fun _ => True) ?_ ?_
      ·refine wH_draws (h_op (vI (k_3 : Int)) wz rfl (h_op (vB (decide ((k_3 : Int) > 0))) wz rfl ?_))
       rcases cond_some h_24 with ⟨hc_25, h_24⟩ | ⟨hc_25, h_24⟩
       ·refine h_movb rfl hc_25 wz (h_far pl173_0 rfl 0 rfl wa (h_ldr 4 0 (.inr (by kernel_rfl)) (fun _ _ ag => trivial) sz9 ag9 rfl rfl (vS x_5.Key) rfl wa (h_op (vL Campaign.enc l_1) wa rfl (h_op (vI (k_3 : Int)) wa rfl (h_op (vI (w64 ((k_3 : Int) - 1))) wa rfl ?_)))))
        obtain ⟨y_26, hy_27, h_24⟩ := bind_some h_24
        refine h_ia es253 rfl rfl hy_27 rfl wa (h_fac pl173_0 rfl [.str y_26.Key, .str y_26.Class, .int .i64 y_26.Time.From, .int .i64 y_26.Time.To, dl eS y_26.Tags, .int .i64 y_26.Goal, .int .i64 y_26.Most, .int .i64 y_26.Cents] rfl rfl wa (h_ldc sz9 ag9 rfl (vS y_26.Key) rfl wa (h_op (vB (sLe x_5.Key y_26.Key)) wa rfl (h_op (vB (sLe x_5.Key y_26.Key)) wz rfl (h_op (vB (sLe x_5.Key y_26.Key)) wz rfl (h_nil ?_))))))
        obtain rfl := some_inj h_24
        exact cu
       ·refine h_movb rfl hc_25 wz (h_skip wa (h_skip wa (h_skip wa (h_skip wa (h_skip wa (h_skip wa (h_skip wa (h_skip wa (h_skip wa (h_op (vB false) wz rfl (h_op (vB false) wz rfl (h_nil ?_))))))))))))
        obtain rfl := some_inj h_24
        exact cu
      ·rintro ⟨⟩ _ sl_ H_ hp_ hq_
       refine wH_at _ hp_ hq_ ?_
       rcases cond_some hc_9 with ⟨hc_28, hc_9⟩ | ⟨hc_28, hc_9⟩
       ·refine wH_ift rfl hc_28 (wH_seq (wH_region (h_op (vI 7) wz rfl (h_nil ?_))))
        obtain rfl := some_inj hc_9
        obtain rfl := some_inj hL_10
        obtain rfl := some_inj hF
        exact wH_ret (fin0 (.inr rfl) [(vI 7)] ⟨rfl, trivial⟩ rfl rfl rfl)
       ·refine wH_iff rfl hc_28 (wH_seq ?_)
        obtain ⟨v_29, h_30, hc_9⟩ := bind_some hc_9
        refine wH_join (β := Unit) (fun _ => ([(0, (vL Campaign.enc l_1)), (4, (.ref n_13 0 0)), (9, (vL Campaign.enc l_1)), (10, (vI (l_1.length : Int))), (11, (vI (k_3 : Int))), (46, (vB v_29))] : List (Nat × V))) (fun _ => ([(n_13, some (.cells 8 [(vS x_5.Key), (vS x_5.Class), (vI x_5.Time.From), (vI x_5.Time.To), (vL eS x_5.Tags), (vI x_5.Goal), (vI x_5.Most), (vI x_5.Cents)]))] : Hp)) (fun _ => True) ?_ ?_
        ·refine wH_region (h_far pl173_2 rfl 2 rfl wz (h_ldr 0 0 il ft sz109 ag109 rfl rfl (.d (.agg (Window.enc x_5.Time))) rfl wz ?_))
         obtain ⟨r_31, hr_32, h_30⟩ := bind_some h_30
         refine h_call0 (booking_isTime_ok hr_32) rfl hb213 rfl rfl rfl rfl wz (h_op (vB (!r_31)) wz rfl ?_)
         rcases cond_some h_30 with ⟨hc_33, h_30⟩ | ⟨hc_33, h_30⟩
         ·refine h_movb rfl hc_33 wz (h_skip wa (h_skip wa (h_skip wa (h_op (vB true) wz rfl (h_op (vB true) wz rfl (h_skip wa (h_skip wa (h_skip wa (h_op (vB true) wz rfl (h_op (vB true) wz rfl (h_skip wa (h_skip wa (h_skip wa (h_op (vB true) wz rfl (h_op (vB true) wz rfl (h_nil ?_))))))))))))))))
          obtain rfl := some_inj h_30
          exact cu
         ·refine h_movb rfl hc_33 wz (h_far pl173_4 rfl 5 rfl wa (h_ldr 0 0 il ft sz3 ag3 rfl rfl (vI x_5.Goal) rfl wa ?_))
          obtain ⟨r_34, hr_35, h_30⟩ := bind_some h_30
          refine h_call0 (kit_Outside_ok hr_35) rfl hb86 rfl rfl rfl rfl wa (h_op (vB r_34) wz rfl ?_)
          rcases cond_some h_30 with ⟨hc_36, h_30⟩ | ⟨hc_36, h_30⟩
          ·refine h_movb rfl hc_36 wz (h_skip wa (h_skip wa (h_skip wa (h_op (vB true) wz rfl (h_op (vB true) wz rfl (h_skip wa (h_skip wa (h_skip wa (h_op (vB true) wz rfl (h_op (vB true) wz rfl (h_nil ?_)))))))))))
           obtain rfl := some_inj h_30
           exact cu
          ·refine h_movb rfl hc_36 wz (h_far pl173_5 rfl 6 rfl wa (h_ldr 0 0 il ft sz3 ag3 rfl rfl (vI x_5.Most) rfl wa ?_))
           obtain ⟨r_37, hr_38, h_30⟩ := bind_some h_30
           refine h_call0 (kit_Outside_ok hr_38) rfl hb86 rfl rfl rfl rfl wa (h_op (vB r_37) wz rfl ?_)
           rcases cond_some h_30 with ⟨hc_39, h_30⟩ | ⟨hc_39, h_30⟩
           ·refine h_movb rfl hc_39 wz (h_skip wa (h_skip wa (h_skip wa (h_op (vB true) wz rfl (h_op (vB true) wz rfl (h_nil ?_))))))
            obtain rfl := some_inj h_30
            exact cu
           ·refine h_movb rfl hc_39 wz (h_far pl173_6 rfl 7 rfl wa (h_ldr 0 0 il ft sz3 ag3 rfl rfl (vI x_5.Cents) rfl wa ?_))
            obtain ⟨r_40, hr_41, h_30⟩ := bind_some h_30
            refine h_call0 (kit_Outside_ok hr_41) rfl hb86 rfl rfl rfl rfl wa (h_op (vB r_40) wz rfl (h_op (vB r_40) wz rfl (h_nil ?_)))
            obtain rfl := some_inj h_30
            exact cu
        ·rintro ⟨⟩ _ sl_ H_ hp_ hq_
         refine wH_at _ hp_ hq_ ?_
         rcases cond_some hc_9 with ⟨hc_42, hc_9⟩ | ⟨hc_42, hc_9⟩
         ·refine wH_ift rfl hc_42 (wH_seq (wH_region (h_op (vI 1) wz rfl (h_nil ?_))))
          obtain rfl := some_inj hc_9
          obtain rfl := some_inj hL_10
          obtain rfl := some_inj hF
          exact wH_ret (fin0 (.inr rfl) [(vI 1)] ⟨rfl, trivial⟩ rfl rfl rfl)
         ·refine wH_iff rfl hc_42 (wH_skip (wH_seq (wH_region (h_far pl173_3 rfl 4 rfl wz (h_ldr 0 0 il ft sz80 ag80 rfl rfl (vL eS x_5.Tags) rfl wz ?_)))))
          obtain ⟨r_43, hr_44, hc_9⟩ := bind_some hc_9
          refine h_call0 (booking_tagsFault_ok hr_44) rfl hb214 rfl rfl rfl rfl wz (h_op (vI r_43) wz rfl (h_nil (wH_seq (wH_region (h_op (vI r_43) wz rfl (h_op (vB (r_43 != 0)) wz rfl (h_nil ?_)))))))
          rcases cond_some hc_9 with ⟨hc_45, hc_9⟩ | ⟨hc_45, hc_9⟩
          ·refine wH_ift rfl hc_45 (wH_seq (wH_region (h_op (vI r_43) wz rfl (h_op (vI r_43) wz rfl (h_nil ?_)))))
           obtain rfl := some_inj hc_9
           obtain rfl := some_inj hL_10
           obtain rfl := some_inj hF
           exact wH_ret (fin0 (.inr rfl) [(vI r_43)] ⟨rfl, trivial⟩ rfl rfl rfl)
          ·refine wH_iff rfl hc_45 (wH_skip (wH_region (h_opw (w64_next hD_6 hn_7) wz rfl (h_op (vI ((k_3 + 1 : Nat) : Int)) wz rfl (h_nil ?_)))))
           obtain rfl := some_inj hc_9
           exact loop_mk (k_3 + 1, l_4, ()) ⟨hL_10, drop_next hD_6⟩ (Nat.lt_succ_self _) rfl (pre_r rfl)
  ·rintro s_8 ho_ sl_ H_ hp_ hq_
   subst ho_
   refine wH_at _ hp_ hq_ (wH_seq (wH_region (h_op (vI 0) wz rfl (h_nil ?_))))
   obtain rfl := some_inj hF
   exact wH_ret (fin0 (.inr rfl) [(vI 0)] ⟨rfl, trivial⟩ rfl rfl rfl)
theorem booking_due_ok {c_1 : Campaign} {atv_2 : Int} {r : Int} (hF : booking_due c_1 atv_2 = some r) :
  FnM Tryz.prog 174 [(.d (.agg (Campaign.enc c_1))), (vI atv_2)] [] (vI r) [] := by
 refine FnM.of_wH ⟨Tryz.prog, 35, [], []⟩ rfl Tryz.func174 rfl rfl (Nat.le_of_ble_eq_true rfl) (by kernel_rfl) ?_
 unfold booking_due at hF
 refine wH_seq (wH_region (h_box 0 (.inl rfl) [(vS c_1.Key), (vS c_1.Class), (vI c_1.Time.From), (vI c_1.Time.To), (vL eS c_1.Tags), (vI c_1.Goal), (vI c_1.Most), (vI c_1.Cents)] rfl rfl wz (fun n_3 => h_op (vI 0) wz rfl (h_nil (wH_seq (wH_block (wH_seq (wH_region (h_op (vI atv_2) wz rfl (h_far pl173_2 rfl 2 rfl wz (h_far pl109_0 rfl 2 rfl wz (h_ldr 0 0 il ft sz3 ag3 rfl rfl (vI c_1.Time.From) rfl wz (h_op (vB (decide (atv_2 < c_1.Time.From))) wz rfl (h_op (vB (decide (atv_2 < c_1.Time.From))) wz rfl (h_nil ?_)))))))))))))))
 rcases cond_some hF with ⟨hc_4, hF⟩ | ⟨hc_4, hF⟩
 ·refine wH_ift rfl hc_4 (wH_seq (wH_region (h_op (vI 0) wz rfl (h_nil ?_))))
  obtain rfl := some_inj hF
  exact wH_ret (fin0 (.inr rfl) [(vI 0)] ⟨rfl, trivial⟩ rfl rfl rfl)
 ·refine wH_iff rfl hc_4 (wH_seq (wH_region (h_op (vI atv_2) wz rfl (h_far pl173_2 rfl 2 rfl wz (h_far pl109_1 rfl 3 rfl wz (h_ldr 0 0 il ft sz3 ag3 rfl rfl (vI c_1.Time.To) rfl wz (h_op (vB (decide (atv_2 ≥ c_1.Time.To))) wz rfl (h_op (vB (decide (atv_2 ≥ c_1.Time.To))) wz rfl (h_nil ?_)))))))))
  rcases cond_some hF with ⟨hc_5, hF⟩ | ⟨hc_5, hF⟩
  ·refine wH_ift rfl hc_5 (wH_seq (wH_region (h_far pl173_4 rfl 5 rfl wz (h_ldr 0 0 il ft sz3 ag3 rfl rfl (vI c_1.Goal) rfl wz (h_op (vI c_1.Goal) wz rfl (h_nil ?_))))))
   obtain rfl := some_inj hF
   exact wH_ret (fin0 (.inr rfl) [(vI c_1.Goal)] ⟨rfl, trivial⟩ rfl rfl rfl)
  ·refine wH_iff rfl hc_5 (wH_skip (wH_seq (wH_region (h_far pl173_4 rfl 5 rfl wz (h_ldr 0 0 il ft sz3 ag3 rfl rfl (vI c_1.Goal) rfl wz (h_op (vI atv_2) wz rfl (h_far pl173_2 rfl 2 rfl wz (h_far pl109_0 rfl 2 rfl wz (h_ldr 0 0 il ft sz3 ag3 rfl rfl (vI c_1.Time.From) rfl wz (h_op (vI (w64 (atv_2 - c_1.Time.From))) wz rfl (h_op (vI (w64 (c_1.Goal * (w64 (atv_2 - c_1.Time.From))))) wz rfl (h_far pl173_2 rfl 2 rfl wz (h_far pl109_1 rfl 3 rfl wz (h_ldr 0 0 il ft sz3 ag3 rfl rfl (vI c_1.Time.To) rfl wz (h_far pl173_2 rfl 2 rfl wz (h_far pl109_0 rfl 2 rfl wz (h_ldr 0 0 il ft sz3 ag3 rfl rfl (vI c_1.Time.From) rfl wz (h_op (vI (w64 (c_1.Time.To - c_1.Time.From))) wz rfl ?_))))))))))))))))))
   obtain ⟨q_6, hz_7, hF⟩ := bind_some hF
   refine h_quo rfl rfl hz_7 wz (h_op (vI q_6) wz rfl (h_nil (wH_at (H0 := ([(n_3, some (.cells 8 [(vS c_1.Key), (vS c_1.Class), (vI c_1.Time.From), (vI c_1.Time.To), (vL eS c_1.Tags), (vI c_1.Goal), (vI c_1.Most), (vI c_1.Cents)]))] : Hp)) ([(4, (vI q_6))] : List (Nat × V)) (by kernel_rfl) (pre_mk (by kernel_rfl)) ?_)))
   obtain rfl := some_inj hF
   exact wH_ret (fin0 (.inr rfl) [(vI q_6)] ⟨rfl, trivial⟩ rfl rfl rfl)
theorem booking_Due_ok {c_1 : Campaign} {atv_2 : Int} {r : Int × Int} (hF : booking_Due c_1 atv_2 = some r) :
  FnM Tryz.prog 91 [(.d (.agg (Campaign.enc c_1))), (vI atv_2)] [] (.tup [(vI r.1), (vI r.2)]) [] := by
 refine FnM.of_wH ⟨Tryz.prog, 19, [], []⟩ rfl Tryz.func91 rfl rfl (Nat.le_of_ble_eq_true rfl) (by kernel_rfl) ?_
 unfold booking_Due at hF
 refine wH_seq (wH_region (h_box 0 (.inl rfl) [(vS c_1.Key), (vS c_1.Class), (vI c_1.Time.From), (vI c_1.Time.To), (vL eS c_1.Tags), (vI c_1.Goal), (vI c_1.Most), (vI c_1.Cents)] rfl rfl wz (fun n_3 => h_op (vI 0) wz rfl (h_op (vI 0) wz rfl (h_nil (wH_seq (wH_seq (wH_region (h_ldr 0 0 il ft sz173 ag173 rfl rfl (.d (.agg (Campaign.enc c_1))) rfl wz (h_lit (([c_1] : List Campaign).map Campaign.enc) es253 ez253 rfl rfl rfl rfl rfl wz ?_))))))))))
 obtain ⟨r_4, hr_5, hF⟩ := bind_some hF
 refine h_call0 (booking_CheckCampaigns_ok hr_5) rfl hb173 rfl rfl rfl rfl wz (h_op (vI r_4) wz rfl (h_nil (wH_seq (wH_region (h_op (vI r_4) wz rfl (h_op (vB (r_4 != 0)) wz rfl (h_nil ?_)))))))
 rcases cond_some hF with ⟨hc_6, hF⟩ | ⟨hc_6, hF⟩
 ·refine wH_ift rfl hc_6 (wH_seq (wH_region (h_op (vI r_4) wz rfl (h_op (vI 0) wz rfl (h_op (vI r_4) wz rfl (h_nil ?_))))))
  obtain rfl := some_inj hF
  exact wH_ret (fin0 (.inr rfl) [(vI 0), (vI r_4)] ⟨rfl, ⟨rfl, trivial⟩⟩ rfl rfl rfl)
 ·refine wH_iff rfl hc_6 (wH_skip (wH_seq (wH_seq (wH_region (h_op (vI atv_2) wz rfl ?_)))))
  obtain ⟨r_7, hr_8, hF⟩ := bind_some hF
  refine h_call0 (kit_IsMoment_ok hr_8) rfl hb136 rfl rfl rfl rfl wz (h_op (vB (!r_7)) wz rfl (h_nil ?_))
  rcases cond_some hF with ⟨hc_9, hF⟩ | ⟨hc_9, hF⟩
  ·refine wH_ift rfl hc_9 (wH_seq (wH_region (h_op (vI 0) wz rfl (h_op (vI 1) wz rfl (h_nil ?_)))))
   obtain rfl := some_inj hF
   exact wH_ret (fin0 (.inr rfl) [(vI 0), (vI 1)] ⟨rfl, ⟨rfl, trivial⟩⟩ rfl rfl rfl)
  ·refine wH_iff rfl hc_9 (wH_skip (wH_seq (wH_region (h_ldr 0 0 il ft sz173 ag173 rfl rfl (.d (.agg (Campaign.enc c_1))) rfl wz (h_op (vI atv_2) wz rfl ?_)))))
   obtain ⟨r_10, hr_11, hF⟩ := bind_some hF
   refine h_call0 (booking_due_ok hr_11) rfl hb174 rfl rfl rfl rfl wz (h_op (vI r_10) wz rfl (h_op (vI 0) wz rfl (h_nil ?_)))
   obtain rfl := some_inj hF
   exact wH_ret (fin0 (.inr rfl) [(vI r_10), (vI 0)] ⟨rfl, ⟨rfl, trivial⟩⟩ rfl rfl rfl)
theorem proof_compareBeats_ok {a_1 : Beat} {b_2 : Beat} {r : Int} (hF : proof_compareBeats a_1 b_2 = some r) :
  FnM Tryz.prog 266 [(.d (.agg (Beat.enc a_1))), (.d (.agg (Beat.enc b_2)))] [] (vI r) [] := by
 refine FnM.of_wH ⟨Tryz.prog, 17, [], []⟩ rfl Tryz.func266 rfl rfl (Nat.le_of_ble_eq_true rfl) (by kernel_rfl) ?_
 unfold proof_compareBeats at hF
 refine wH_seq (wH_region (h_box 0 (.inl rfl) [(vS a_1.Player), (vI a_1.At), (vI a_1.Clock)] rfl rfl wz (fun n_3 => h_box 0 (.inl rfl) [(vS b_2.Player), (vI b_2.At), (vI b_2.Clock)] rfl rfl wz (fun n_4 => h_op (vI 0) wz rfl (h_nil (wH_seq (wH_draws (h_far pl176_0 rfl 0 rfl wz (h_ldr 1 0 (.inr (by kernel_rfl)) (fun _ _ ag => trivial) sz9 ag9 rfl rfl (vS a_1.Player) rfl wz (h_far pl176_0 rfl 0 rfl wz (h_ldr 3 1 (.inr (by kernel_rfl)) (fun _ _ ag => ⟨.inl ⟨rfl, rfl⟩, trivial⟩) sz9 ag9 rfl rfl (vS b_2.Player) rfl wz ?_)))))))))))
 obtain ⟨r_5, hr_6, hF⟩ := bind_some hF
 refine h_call0 (strings_Compare_ok hr_6) rfl hb129 rfl rfl rfl rfl wz (h_far pl176_1 rfl 1 rfl wz (h_ldr 6 0 (.inr (by kernel_rfl)) (fun _ _ ag => ⟨.inl ⟨rfl, rfl⟩, ⟨.inl ⟨rfl, rfl⟩, trivial⟩⟩) sz3 ag3 rfl rfl (vI a_1.At) rfl wz (h_far pl176_1 rfl 1 rfl wz (h_ldr 8 1 (.inr (by kernel_rfl)) (fun _ _ ag => ⟨.inl ⟨rfl, rfl⟩, ⟨.inl ⟨rfl, rfl⟩, ⟨.inl ⟨rfl, rfl⟩, trivial⟩⟩⟩) sz3 ag3 rfl rfl (vI b_2.At) rfl wz ?_))))
 obtain ⟨r_7, hr_8, hF⟩ := bind_some hF
 refine h_call0 (cmp_Compare_int_ok hr_8) rfl hb147 rfl rfl rfl rfl wz (h_lit (([r_5, r_7] : List Int).map eI) es22 ez22 rfl rfl rfl rfl rfl wz ?_)
 obtain ⟨r_9, hr_10, hF⟩ := bind_some hF
 refine h_call0 (cmp_Or_int_ok hr_10) rfl hb141 rfl rfl rfl rfl wz (h_op (vI r_9) wz rfl (h_nil ?_))
 obtain rfl := some_inj hF
 exact wH_ret (fin0 (.inr rfl) [(vI r_9)] ⟨rfl, trivial⟩ rfl rfl rfl)
theorem proof_CheckBeats_ok {l_1 : (List Beat)} {r : Int} (hF : proof_CheckBeats l_1 = some r) :
  FnM Tryz.prog 215 [(vL Beat.enc l_1)] [] (vI r) [] := by
 refine FnM.of_wH ⟨Tryz.prog, 69, [], []⟩ rfl Tryz.func215 rfl rfl (Nat.le_of_ble_eq_true rfl) (by kernel_rfl) ?_
 unfold proof_CheckBeats at hF
 refine wH_seq (wH_region (h_op (vI 0) wz rfl (h_nil (wH_seq (wH_seq (wH_region (h_op (vL Beat.enc l_1) wz rfl (h_len un177 rfl wz (h_op (vB (decide ((l_1.length : Int) > 500))) wz rfl (h_nil ?_))))))))))
 rcases cond_some hF with ⟨hc_2, hF⟩ | ⟨hc_2, hF⟩
 ·refine wH_ift rfl hc_2 (wH_seq (wH_region (h_op (vI 2) wz rfl (h_nil ?_))))
  obtain rfl := some_inj hF
  exact wH_ret (fin0 (.inr rfl) [(vI 2)] ⟨rfl, trivial⟩ rfl rfl rfl)
 ·refine wH_iff rfl hc_2 (wH_skip (wH_seq (wH_seq (wH_region (h_op (vL Beat.enc l_1) wz rfl (h_len un177 rfl wz (h_op (vI 0) wz rfl (h_nil ?_))))))))
  obtain ⟨o_11, hj_12, hF⟩ := bind_some hF
  obtain ⟨hn_7, hj_12⟩ := forL_some hj_12
  refine wH_join (β := (Unit)) (fun (s_8 : Unit) => ([] : List (Nat × V))) (fun (s_8 : Unit) => ([] : Hp)) (fun p => o_11 = .go p) ?_ ?_
  ·refine wH_block (wH_loop (β := Nat × (List Beat) × (Unit)) (fun p => (fun (k_3 : Nat) (l_4 : List Beat) (s_8 : Unit) => ([(0, (vL Beat.enc l_1)), (8, (vL Beat.enc l_1)), (9, (vI (l_1.length : Int))), (10, (vI (k_3 : Int)))] : List (Nat × V))) p.1 p.2.1 p.2.2) (fun p => (fun (k_3 : Nat) (l_4 : List Beat) (s_8 : Unit) => ([] : Hp)) p.1 p.2.1 p.2.2) (fun p => forR (fun k x s => proof_CheckBeats_L1 l_1 k x s) p.2.1 p.1 p.2.2 = some o_11 ∧ (l_1).drop p.1 = p.2.1) (fun p => p.2.1.length) (0, l_1, ()) ⟨hj_12, rfl⟩ rfl (pre_r rfl) ?_)
   rintro ⟨k_3, l_4, s_8⟩ ⟨hL_10, hD_6⟩
   dsimp only at hL_10 hD_6
   cases l_4 with
   | nil =>
    obtain rfl := some_inj hL_10
    refine wH_seq (wH_region (h_op (vB (decide ((k_3 : Int) < (l_1.length : Int)))) wz rfl (h_nil ?_)))
    refine wH_seq (wH_iff rfl (drop_nil hD_6) (wH_exit ?_))
    exact cut_mk (s_8) rfl rfl (pre_r rfl)
   | cons x_5 l_4 =>
    obtain ⟨c_, hc_9, hL_10⟩ := bind_some hL_10
    refine wH_seq (wH_region (h_op (vB (decide ((k_3 : Int) < (l_1.length : Int)))) wz rfl (h_nil ?_)))
    refine wH_seq (wH_ift rfl (drop_cons hD_6) (wH_skip ?_))
    unfold proof_CheckBeats_L1 at hc_9
    refine wH_seq (wH_block (wH_seq (wH_region (h_op (vI (k_3 : Int)) wz rfl (h_ia es177 rfl rfl (drop_idx hD_6) rfl wz (h_ldc sz176 ag176 rfl (.d (.agg (Beat.enc x_5))) rfl wz (h_alloc 0 (.inl rfl) z176 rfl wz (fun n_13 => h_op (vI (k_3 : Int)) wz rfl (h_str 0 il ft 0 sz176 rfl rfl [(vS x_5.Player), (vI x_5.At), (vI x_5.Clock)] rfl wz (h_nil (wH_block (wH_seq (wH_region (h_far pl176_0 rfl 0 rfl wz (h_ldr 0 0 il ft sz9 ag9 rfl rfl (vS x_5.Player) rfl wz ?_)))))))))))))))
    obtain ⟨r_14, hr_15, hc_9⟩ := bind_some hc_9
    refine h_call0 (kit_IsKey_ok hr_15) rfl hb124 rfl rfl rfl rfl wz (h_op (vB (!r_14)) wz rfl (h_op (vB (!r_14)) wz rfl (h_nil ?_)))
    rcases cond_some hc_9 with ⟨hc_16, hc_9⟩ | ⟨hc_16, hc_9⟩
    ·refine wH_ift rfl hc_16 (wH_seq (wH_region (h_op (vI 5) wz rfl (h_nil ?_))))
     obtain rfl := some_inj hc_9
     obtain rfl := some_inj hL_10
     obtain rfl := some_inj hF
     exact wH_ret (fin0 (.inr rfl) [(vI 5)] ⟨rfl, trivial⟩ rfl rfl rfl)
    ·refine wH_iff rfl hc_16 (wH_seq ?_)
     obtain ⟨v_17, h_18, hc_9⟩ := bind_some hc_9
     refine wH_join (β := Unit) (fun _ => ([(0, (vL Beat.enc l_1)), (3, (vI (k_3 : Int))), (4, (.ref n_13 0 0)), (8, (vL Beat.enc l_1)), (9, (vI (l_1.length : Int))), (10, (vI (k_3 : Int))), (20, (vB v_17))] : List (Nat × V))) (fun _ => ([(n_13, some (.cells 3 [(vS x_5.Player), (vI x_5.At), (vI x_5.Clock)]))] : Hp)) (fun _ => True) ?_ ?_
     ·refine wH_region (h_far pl176_1 rfl 1 rfl wz (h_ldr 0 0 il ft sz3 ag3 rfl rfl (vI x_5.At) rfl wz ?_))
      obtain ⟨r_19, hr_20, h_18⟩ := bind_some h_18
      refine h_call0 (kit_IsMoment_ok hr_20) rfl hb136 rfl rfl rfl rfl wz (h_op (vB (!r_19)) wz rfl ?_)
      rcases cond_some h_18 with ⟨hc_21, h_18⟩ | ⟨hc_21, h_18⟩
      ·refine h_movb rfl hc_21 wz (h_skip wa (h_skip wa (h_skip wa (h_op (vB true) wz rfl (h_op (vB true) wz rfl (h_nil ?_))))))
       obtain rfl := some_inj h_18
       exact cu
      ·refine h_movb rfl hc_21 wz (h_far pl176_2 rfl 2 rfl wa (h_ldr 0 0 il ft sz3 ag3 rfl rfl (vI x_5.Clock) rfl wa ?_))
       obtain ⟨r_22, hr_23, h_18⟩ := bind_some h_18
       refine h_call0 (kit_Outside_ok hr_23) rfl hb86 rfl rfl rfl rfl wa (h_op (vB r_22) wz rfl (h_op (vB r_22) wz rfl (h_nil ?_)))
       obtain rfl := some_inj h_18
       exact cu
     ·rintro ⟨⟩ _ sl_ H_ hp_ hq_
      refine wH_at _ hp_ hq_ ?_
      rcases cond_some hc_9 with ⟨hc_24, hc_9⟩ | ⟨hc_24, hc_9⟩
      ·refine wH_ift rfl hc_24 (wH_seq (wH_region (h_op (vI 1) wz rfl (h_nil ?_))))
       obtain rfl := some_inj hc_9
       obtain rfl := some_inj hL_10
       obtain rfl := some_inj hF
       exact wH_ret (fin0 (.inr rfl) [(vI 1)] ⟨rfl, trivial⟩ rfl rfl rfl)
      ·refine wH_iff rfl hc_24 (wH_seq ?_)
       obtain ⟨v_25, h_26, hc_9⟩ := bind_some hc_9
       refine wH_join (β := Unit) (fun _ => ([(0, (vL Beat.enc l_1)), (3, (vI (k_3 : Int))), (4, (.ref n_13 0 0)), (8, (vL Beat.enc l_1)), (9, (vI (l_1.length : Int))), (10, (vI (k_3 : Int))), (30, (vB v_25))] : List (Nat × V))) (fun _ => ([(n_13, some (.cells 3 [(vS x_5.Player), (vI x_5.At), (vI x_5.Clock)]))] : Hp)) (fun _ => True) ?_ ?_
       ·refine wH_draws (h_op (vI (k_3 : Int)) wz rfl (h_op (vB (decide ((k_3 : Int) > 0))) wz rfl ?_))
        rcases cond_some h_26 with ⟨hc_27, h_26⟩ | ⟨hc_27, h_26⟩
        ·refine h_movb rfl hc_27 wz (h_op (vL Beat.enc l_1) wa rfl (h_op (vI (k_3 : Int)) wa rfl (h_op (vI (w64 ((k_3 : Int) - 1))) wa rfl ?_)))
         obtain ⟨y_28, hy_29, h_26⟩ := bind_some h_26
         refine h_ia es177 rfl rfl hy_29 rfl wa (h_ldc sz176 ag176 rfl (.d (.agg (Beat.enc y_28))) rfl wa (h_ldr 8 0 (.inr (by kernel_rfl)) (fun _ _ ag => trivial) sz176 ag176 rfl rfl (.d (.agg (Beat.enc x_5))) rfl wa ?_))
         obtain ⟨r_30, hr_31, h_26⟩ := bind_some h_26
         refine h_call0 (proof_compareBeats_ok hr_31) rfl hb266 rfl rfl rfl rfl wa (h_op (vB (decide (r_30 ≥ 0))) wa rfl (h_op (vB (decide (r_30 ≥ 0))) wz rfl (h_op (vB (decide (r_30 ≥ 0))) wz rfl (h_nil ?_))))
         obtain rfl := some_inj h_26
         exact cu
        ·refine h_movb rfl hc_27 wz (h_skip wa (h_skip wa (h_skip wa (h_skip wa (h_skip wa (h_skip wa (h_skip wa (h_skip wa (h_op (vB false) wz rfl (h_op (vB false) wz rfl (h_nil ?_)))))))))))
         obtain rfl := some_inj h_26
         exact cu
       ·rintro ⟨⟩ _ sl_ H_ hp_ hq_
        refine wH_at _ hp_ hq_ ?_
        rcases cond_some hc_9 with ⟨hc_32, hc_9⟩ | ⟨hc_32, hc_9⟩
        ·refine wH_ift rfl hc_32 (wH_seq (wH_region (h_op (vI 7) wz rfl (h_nil ?_))))
         obtain rfl := some_inj hc_9
         obtain rfl := some_inj hL_10
         obtain rfl := some_inj hF
         exact wH_ret (fin0 (.inr rfl) [(vI 7)] ⟨rfl, trivial⟩ rfl rfl rfl)
        ·refine wH_iff rfl hc_32 (wH_seq ?_)
         obtain ⟨v_33, h_34, hc_9⟩ := bind_some hc_9
         refine wH_join (β := Unit) (fun _ => ([(0, (vL Beat.enc l_1)), (8, (vL Beat.enc l_1)), (9, (vI (l_1.length : Int))), (10, (vI (k_3 : Int))), (43, (vB v_33))] : List (Nat × V))) (fun _ => ([(n_13, some (.cells 3 [(vS x_5.Player), (vI x_5.At), (vI x_5.Clock)]))] : Hp)) (fun _ => True) ?_ ?_
         ·refine wH_draws (h_op (vI (k_3 : Int)) wz rfl (h_op (vB (decide ((k_3 : Int) > 0))) wz rfl ?_))
          rcases cond_some h_34 with ⟨hc_35, h_34⟩ | ⟨hc_35, h_34⟩
          ·refine h_movb rfl hc_35 wz (h_far pl176_0 rfl 0 rfl wa (h_ldr 4 0 (.inr (by kernel_rfl)) (fun _ _ ag => trivial) sz9 ag9 rfl rfl (vS x_5.Player) rfl wa (h_op (vL Beat.enc l_1) wa rfl (h_op (vI (k_3 : Int)) wa rfl (h_op (vI (w64 ((k_3 : Int) - 1))) wa rfl ?_)))))
           obtain ⟨y_36, hy_37, h_34⟩ := bind_some h_34
           refine h_ia es177 rfl rfl hy_37 rfl wa (h_fac pl176_0 rfl [.str y_36.Player, .int .i64 y_36.At, .int .i64 y_36.Clock] rfl rfl wa (h_ldc sz9 ag9 rfl (vS y_36.Player) rfl wa (h_op (vB (sEq x_5.Player y_36.Player)) wa rfl (h_op (vB (sEq x_5.Player y_36.Player)) wz rfl ?_))))
           rcases cond_some h_34 with ⟨hc_38, h_34⟩ | ⟨hc_38, h_34⟩
           ·refine h_movb rfl hc_38 wz (h_far pl176_2 rfl 2 rfl wa (h_ldr 15 0 (.inr (by kernel_rfl)) (fun _ _ ag => ⟨.inl ⟨rfl, rfl⟩, trivial⟩) sz3 ag3 rfl rfl (vI x_5.Clock) rfl wa (h_op (vL Beat.enc l_1) wa rfl (h_op (vI (k_3 : Int)) wa rfl (h_op (vI (w64 ((k_3 : Int) - 1))) wa rfl ?_)))))
            obtain ⟨y_39, hy_40, h_34⟩ := bind_some h_34
            refine h_ia es177 rfl rfl hy_40 rfl wa (h_fac pl176_2 rfl [.int .i64 y_39.Clock] rfl rfl wa (h_ldc sz3 ag3 rfl (vI y_39.Clock) rfl wa (h_op (vB (decide (x_5.Clock ≤ y_39.Clock))) wa rfl (h_op (vB (decide (x_5.Clock ≤ y_39.Clock))) wz rfl (h_op (vB (decide (x_5.Clock ≤ y_39.Clock))) wz rfl (h_nil ?_))))))
            obtain rfl := some_inj h_34
            exact cu
           ·refine h_movb rfl hc_38 wz (h_skip wa (h_skip wa (h_skip wa (h_skip wa (h_skip wa (h_skip wa (h_skip wa (h_skip wa (h_skip wa (h_op (vB false) wz rfl (h_op (vB false) wz rfl (h_nil ?_))))))))))))
            obtain rfl := some_inj h_34
            exact cu
          ·refine h_movb rfl hc_35 wz (h_skip wa (h_skip wa (h_skip wa (h_skip wa (h_skip wa (h_skip wa (h_skip wa (h_skip wa (h_skip wa (h_op (vB false) wz rfl (h_op (vB false) wz rfl (h_skip wa (h_skip wa (h_skip wa (h_skip wa (h_skip wa (h_skip wa (h_skip wa (h_skip wa (h_skip wa (h_op (vB false) wz rfl (h_op (vB false) wz rfl (h_nil ?_)))))))))))))))))))))))
           obtain rfl := some_inj h_34
           exact cu
         ·rintro ⟨⟩ _ sl_ H_ hp_ hq_
          refine wH_at _ hp_ hq_ ?_
          rcases cond_some hc_9 with ⟨hc_41, hc_9⟩ | ⟨hc_41, hc_9⟩
          ·refine wH_ift rfl hc_41 (wH_seq (wH_region (h_op (vI 16) wz rfl (h_nil ?_))))
           obtain rfl := some_inj hc_9
           obtain rfl := some_inj hL_10
           obtain rfl := some_inj hF
           exact wH_ret (fin0 (.inr rfl) [(vI 16)] ⟨rfl, trivial⟩ rfl rfl rfl)
          ·refine wH_iff rfl hc_41 (wH_skip (wH_region (h_opw (w64_next hD_6 hn_7) wz rfl (h_op (vI ((k_3 + 1 : Nat) : Int)) wz rfl (h_nil ?_)))))
           obtain rfl := some_inj hc_9
           exact loop_mk (k_3 + 1, l_4, ()) ⟨hL_10, drop_next hD_6⟩ (Nat.lt_succ_self _) rfl (pre_r rfl)
  ·rintro s_8 ho_ sl_ H_ hp_ hq_
   subst ho_
   refine wH_at _ hp_ hq_ (wH_seq (wH_region (h_op (vI 0) wz rfl (h_nil ?_))))
   obtain rfl := some_inj hF
   exact wH_ret (fin0 (.inr rfl) [(vI 0)] ⟨rfl, trivial⟩ rfl rfl rfl)
theorem proof_beatsOf_ok {l_1 : (List Beat)} {player_2 : ByteArray} {back_3 : Bool} {r : (List Beat_)} (hF : proof_beatsOf l_1 player_2 back_3 = some r) :
  FnM Tryz.prog 217 [(vL Beat.enc l_1), (vS player_2), (vB back_3)] [] (vL Beat_.enc r) [] := by
 refine FnM.of_wH ⟨Tryz.prog, 41, [], []⟩ rfl Tryz.func217 rfl rfl (Nat.le_of_ble_eq_true rfl) (by kernel_rfl) ?_
 unfold proof_beatsOf at hF
 refine wH_seq (wH_region (h_op .nil wz rfl (h_nil (wH_seq (wH_region (h_op .nil wz rfl (h_nil (wH_seq (wH_seq (wH_region (h_op (vL Beat.enc l_1) wz rfl (h_len un177 rfl wz (h_op (vI 0) wz rfl (h_nil (wH_new (fun n_10 => ?_))))))))))))))))
 obtain ⟨o_15, hj_16, hF⟩ := bind_some hF
 obtain ⟨hn_8, hj_16⟩ := forL_some hj_16
 refine wH_join (β := ((List Beat_)) × Nm) (fun p => (fun (s_9 : (List Beat_)) (n_12 : Nm) => ([(7, (gV n_12 2 s_9))] : List (Nat × V))) p.1 p.2) (fun p => (fun (s_9 : (List Beat_)) (n_12 : Nm) => ([(n_12, gB 2 Beat_.enc s_9)] : Hp)) p.1 p.2) (fun p => o_15 = .go p.1) ?_ ?_
 ·refine wH_block (wH_loop (β := Nat × (List Beat) × ((List Beat_)) × Nm) (fun p => (fun (k_4 : Nat) (l_5 : List Beat) (s_9 : (List Beat_)) (n_12 : Nm) => ([(1, (vS player_2)), (2, (vB back_3)), (7, (gV n_12 2 s_9)), (10, (vL Beat.enc l_1)), (11, (vI (l_1.length : Int))), (12, (vI (k_4 : Int)))] : List (Nat × V))) p.1 p.2.1 p.2.2.1 p.2.2.2) (fun p => (fun (k_4 : Nat) (l_5 : List Beat) (s_9 : (List Beat_)) (n_12 : Nm) => ([(n_12, gB 2 Beat_.enc s_9)] : Hp)) p.1 p.2.1 p.2.2.1 p.2.2.2) (fun p => forR (fun k x s => proof_beatsOf_L1 player_2 back_3 k x s) p.2.1 p.1 p.2.2.1 = some o_15 ∧ (l_1).drop p.1 = p.2.1) (fun p => p.2.1.length) (0, l_1, ([] : List Beat_), n_10) ⟨hj_16, rfl⟩ rfl (pre_r rfl) ?_)
  rintro ⟨k_4, l_5, s_9, n_12⟩ ⟨hL_14, hD_7⟩
  dsimp only at hL_14 hD_7
  cases l_5 with
  | nil =>
   obtain rfl := some_inj hL_14
   refine wH_seq (wH_region (h_op (vB (decide ((k_4 : Int) < (l_1.length : Int)))) wz rfl (h_nil ?_)))
   refine wH_seq (wH_iff rfl (drop_nil hD_7) (wH_exit ?_))
   exact cut_mk (s_9, n_12) rfl rfl (pre_r rfl)
  | cons x_6 l_5 =>
   obtain ⟨c_, hc_13, hL_14⟩ := bind_some hL_14
   refine wH_seq (wH_region (h_op (vB (decide ((k_4 : Int) < (l_1.length : Int)))) wz rfl (h_nil ?_)))
   refine wH_seq (wH_ift rfl (drop_cons hD_7) (wH_skip ?_))
   unfold proof_beatsOf_L1 at hc_13
   refine wH_seq (wH_block (wH_seq (wH_region (h_ia es177 rfl rfl (drop_idx hD_7) rfl wz (h_ldc sz176 ag176 rfl (.d (.agg (Beat.enc x_6))) rfl wz (h_alloc 0 (.inl rfl) z176 rfl wz (fun n_17 => h_str 0 il ft 1 sz176 rfl rfl [(vS x_6.Player), (vI x_6.At), (vI x_6.Clock)] rfl wz (h_nil (wH_block (wH_seq (wH_region (h_far pl176_0 rfl 0 rfl wz (h_ldr 0 1 il ft sz9 ag9 rfl rfl (vS x_6.Player) rfl wz (h_op (vS player_2) wz rfl (h_op (vB (sNe x_6.Player player_2)) wz rfl (h_op (vB (sNe x_6.Player player_2)) wz rfl (h_nil ?_)))))))))))))))))
   obtain ⟨v_18, h_19, hc_13⟩ := bind_some hc_13
   refine wH_join (β := Nm) (fun (n_20 : Nm) => ([(1, (vS player_2)), (2, (vB back_3)), (7, (gV n_20 2 v_18)), (10, (vL Beat.enc l_1)), (11, (vI (l_1.length : Int))), (12, (vI (k_4 : Int)))] : List (Nat × V))) (fun (n_20 : Nm) => ([(n_20, gB 2 Beat_.enc v_18), (n_17, some (.cells 3 [(vS x_6.Player), (vI x_6.At), (vI x_6.Clock)]))] : Hp)) (fun _ => True) ?_ ?_
   ·rcases cond_some h_19 with ⟨hc_21, h_19⟩ | ⟨hc_21, h_19⟩
    ·refine wH_ift rfl hc_21 (wH_skip ?_)
     obtain rfl := some_inj h_19
     exact cut_mk n_12 trivial rfl (pre_r rfl)
    ·refine wH_iff rfl hc_21 (wH_seq (wH_region (h_op (vB back_3) wz rfl (h_op (vB back_3) wz rfl (h_nil ?_)))))
     rcases cond_some h_19 with ⟨hc_22, h_19⟩ | ⟨hc_22, h_19⟩
     ·refine wH_ift rfl hc_22 (wH_region (h_op (gV n_12 2 s_9) wz rfl (h_far pl176_1 rfl 1 rfl wz (h_ldr 0 1 il ft sz3 ag3 rfl rfl (vI x_6.At) rfl wz (h_far pl176_2 rfl 2 rfl wz (h_ldr 0 1 il ft sz3 ag3 rfl rfl (vI x_6.Clock) rfl wz (h_op (.d (.agg (Beat_.enc (⟨x_6.At, x_6.Clock⟩ : Beat_)))) wz (by kernel_rfl) (h_lit (([(⟨x_6.At, x_6.Clock⟩ : Beat_)] : List Beat_).map Beat_.enc) es287 ez287 rfl rfl rfl rfl rfl wz ?_))))))))
      obtain ⟨a_23, hz_24, h_19⟩ := bind_some h_19
      refine h_appg 0 il ft (i := 0) el287 el287 sz325 z325 rfl (by decide) by325 (by decide) (fun _ => rfl) rfl rfl rfl hz_24 wz (fun n_25 => h_op (gV n_25 2 a_23) wz rfl (h_nil ?_))
      obtain rfl := some_inj h_19
      exact cut_mk n_25 trivial rfl (pre_r rfl)
     ·refine wH_iff rfl hc_22 (wH_region (h_op (gV n_12 2 s_9) wz rfl (h_far pl176_2 rfl 2 rfl wz (h_ldr 0 1 il ft sz3 ag3 rfl rfl (vI x_6.Clock) rfl wz (h_far pl176_1 rfl 1 rfl wz (h_ldr 0 1 il ft sz3 ag3 rfl rfl (vI x_6.At) rfl wz (h_op (.d (.agg (Beat_.enc (⟨x_6.Clock, x_6.At⟩ : Beat_)))) wz (by kernel_rfl) (h_lit (([(⟨x_6.Clock, x_6.At⟩ : Beat_)] : List Beat_).map Beat_.enc) es287 ez287 rfl rfl rfl rfl rfl wz ?_))))))))
      obtain ⟨a_26, hz_27, h_19⟩ := bind_some h_19
      refine h_appg 0 il ft (i := 0) el287 el287 sz325 z325 rfl (by decide) by325 (by decide) (fun _ => rfl) rfl rfl rfl hz_27 wz (fun n_28 => h_op (gV n_28 2 a_26) wz rfl (h_nil ?_))
      obtain rfl := some_inj h_19
      exact cut_mk n_28 trivial rfl (pre_r rfl)
   ·rintro n_20 _ sl_ H_ hp_ hq_
    refine wH_at _ hp_ hq_ (wH_region (h_opw (w64_next hD_7 hn_8) wz rfl (h_op (vI ((k_4 + 1 : Nat) : Int)) wz rfl (h_nil ?_))))
    obtain rfl := some_inj hc_13
    exact loop_mk (k_4 + 1, l_5, v_18, n_20) ⟨hL_14, drop_next hD_7⟩ (Nat.lt_succ_self _) rfl (pre_r rfl)
 ·rintro ⟨s_9, n_12⟩ ho_ sl_ H_ hp_ hq_
  subst ho_
  refine wH_at _ hp_ hq_ (wH_seq (wH_region (h_op (gV n_12 2 s_9) wz rfl (h_op (gV n_12 2 s_9) wz rfl (h_nil (wH_frozg 0 rfl (wH_cog 6 0 rfl rfl (wH_cog 7 0 rfl rfl (wH_cog 40 0 rfl rfl ?_)))))))))
  obtain rfl := some_inj hF
  exact wH_ret (fin0 (.inr rfl) [(vL Beat_.enc s_9)] ⟨rfl, trivial⟩ rfl rfl rfl)
theorem proof_mapped_ok {l_1 : (List Beat_)} {n_2 : Int} {r : Int × Int} (hF : proof_mapped l_1 n_2 = some r) :
  FnM Tryz.prog 216 [(vL Beat_.enc l_1), (vI n_2)] [] (.tup [(vI r.1), (vI r.2)]) [] := by
 refine FnM.of_wH ⟨Tryz.prog, 108, [], []⟩ rfl Tryz.func216 rfl rfl (Nat.le_of_ble_eq_true rfl) (by kernel_rfl) ?_
 unfold proof_mapped at hF
 refine wH_seq (wH_region (h_op (vI 0) wz rfl (h_op (vI 0) wz rfl (h_nil (wH_seq (wH_seq (wH_region (h_op (vL Beat_.enc l_1) wz rfl (h_len un287 rfl wz (h_op (vB ((l_1.length : Int) == 0)) wz rfl (h_nil ?_)))))))))))
 rcases cond_some hF with ⟨hc_3, hF⟩ | ⟨hc_3, hF⟩
 ·refine wH_ift rfl hc_3 (wH_seq (wH_region (h_op (vI 0) wz rfl (h_op (vI 8) wz rfl (h_nil ?_)))))
  obtain rfl := some_inj hF
  exact wH_ret (fin0 (.inr rfl) [(vI 0), (vI 8)] ⟨rfl, ⟨rfl, trivial⟩⟩ rfl rfl rfl)
 ·refine wH_iff rfl hc_3 (wH_skip (wH_seq (wH_region (h_op (vI 0) wz rfl (h_nil (wH_seq ?_))))))
  obtain ⟨o_12, hj_13, hF⟩ := bind_some hF
  obtain ⟨nq_51, hj_13⟩ := loopO_iter hj_13
  refine wH_join (β := (Int)) (fun (s_9 : Int) => ([(0, (vL Beat_.enc l_1)), (1, (vI n_2)), (6, (vI s_9))] : List (Nat × V))) (fun (s_9 : Int) => ([] : Hp)) (fun p => o_12 = .go p) ?_ ?_
  ·refine wH_block (wH_loop (β := Nat × (Int)) (fun p => (fun (k_4 : Nat) (s_9 : Int) => ([(0, (vL Beat_.enc l_1)), (1, (vI n_2)), (6, (vI s_9))] : List (Nat × V))) p.1 p.2) (fun p => (fun (k_4 : Nat) (s_9 : Int) => ([] : Hp)) p.1 p.2) (fun p => iterN (fun s => proof_mapped_L1 l_1 n_2 s) p.1 p.2 = some o_12) (fun p => p.1) (nq_51, 0) hj_13 rfl (pre_r rfl) ?_)
   rintro ⟨k_4, s_9⟩ hL_11
   dsimp only at hL_11
   cases k_4 with
   | zero => cases hL_11
   | succ k_4 =>
    obtain ⟨c_, hc_10, hL_11⟩ := bind_some hL_11
    unfold proof_mapped_L1 at hc_10
    refine wH_seq (wH_seq ?_)
    obtain ⟨v_14, h_15, hc_10⟩ := bind_some hc_10
    refine wH_join (β := Unit) (fun _ => ([(0, (vL Beat_.enc l_1)), (1, (vI n_2)), (6, (vI s_9)), (25, (vB v_14))] : List (Nat × V))) (fun _ => ([] : Hp)) (fun _ => True) ?_ ?_
    ·refine wH_region (h_op (vI s_9) wz rfl (h_op (vL Beat_.enc l_1) wz rfl (h_len un287 rfl wz (h_op (vB (decide (s_9 < (l_1.length : Int)))) wz rfl ?_))))
     rcases cond_some h_15 with ⟨hc_16, h_15⟩ | ⟨hc_16, h_15⟩
     ·refine h_movb rfl hc_16 wz (h_op (vL Beat_.enc l_1) wa rfl (h_op (vI s_9) wa rfl ?_))
      obtain ⟨y_17, hy_18, h_15⟩ := bind_some h_15
      refine h_ia es287 rfl rfl hy_18 rfl wa (h_fac pl325_0 rfl [.int .i64 y_17.f_from, .int .i64 y_17.f_to] rfl rfl wa (h_ldc sz3 ag3 rfl (vI y_17.f_from) rfl wa (h_op (vI n_2) wa rfl (h_op (vB (decide (y_17.f_from ≤ n_2))) wa rfl (h_op (vB (decide (y_17.f_from ≤ n_2))) wz rfl (h_nil ?_))))))
      obtain rfl := some_inj h_15
      exact cu
     ·refine h_movb rfl hc_16 wz (h_skip wa (h_skip wa (h_skip wa (h_skip wa (h_skip wa (h_skip wa (h_skip wa (h_op (vB false) wz rfl (h_nil ?_)))))))))
      obtain rfl := some_inj h_15
      exact cu
    ·rintro ⟨⟩ _ sl_ H_ hp_ hq_
     refine wH_at _ hp_ hq_ ?_
     rcases cond_some hc_10 with ⟨hc_19, hc_10⟩ | ⟨hc_19, hc_10⟩
     ·refine wH_ift rfl hc_19 (wH_skip (wH_block (wH_region (h_op (vI s_9) wz rfl (h_op (vI (w64 (s_9 + 1))) wz rfl (h_op (vI (w64 (s_9 + 1))) wz rfl (h_nil ?_)))))))
      obtain rfl := some_inj hc_10
      exact loop_mk (k_4, (w64 (s_9 + 1))) hL_11 (Nat.lt_succ_self _) rfl (pre_r rfl)
     ·refine wH_iff rfl hc_19 (wH_exit ?_)
      obtain rfl := some_inj hc_10
      obtain rfl := some_inj hL_11
      exact cut_mk (s_9) rfl rfl (pre_r rfl)
  ·rintro s_9 ho_ sl_ H_ hp_ hq_
   subst ho_
   refine wH_at _ hp_ hq_ (wH_seq (wH_region (h_op (vI 0) wz rfl (h_nil (wH_seq (wH_block (wH_seq (wH_region (h_op (vI s_9) wz rfl (h_op (vB (s_9 == 0)) wz rfl (h_op (vB (s_9 == 0)) wz rfl (h_nil ?_))))))))))))
   rcases cond_some hF with ⟨hc_20, hF⟩ | ⟨hc_20, hF⟩
   ·refine wH_ift rfl hc_20 (wH_draws (h_op (vL Beat_.enc l_1) wz rfl ?_))
    obtain ⟨y_21, hy_22, hF⟩ := bind_some hF
    refine h_ia es287 rfl rfl hy_22 rfl wz (h_fac pl325_1 rfl [.int .i64 y_21.f_to] rfl rfl wz (h_ldc sz3 ag3 rfl (vI y_21.f_to) rfl wz (h_op (vL Beat_.enc l_1) wz rfl ?_)))
    obtain ⟨y_23, hy_24, hF⟩ := bind_some hF
    refine h_ia es287 rfl rfl hy_24 rfl wz (h_fac pl325_0 rfl [.int .i64 y_23.f_from, .int .i64 y_23.f_to] rfl rfl wz (h_ldc sz3 ag3 rfl (vI y_23.f_from) rfl wz (h_op (vI n_2) wz rfl (h_op (vI (w64 (y_23.f_from - n_2))) wz rfl (h_op (vI (w64 (y_21.f_to - (w64 (y_23.f_from - n_2))))) wz rfl (h_op (vI (w64 (y_21.f_to - (w64 (y_23.f_from - n_2))))) wz rfl (h_nil (wH_seq (wH_seq (wH_region (h_op (vI (w64 (y_21.f_to - (w64 (y_23.f_from - n_2))))) wz rfl ?_)))))))))))
    obtain ⟨r_25, hr_26, hF⟩ := bind_some hF
    refine h_call0 (kit_IsMoment_ok hr_26) rfl hb136 rfl rfl rfl rfl wz (h_op (vB (!r_25)) wz rfl (h_nil ?_))
    rcases cond_some hF with ⟨hc_27, hF⟩ | ⟨hc_27, hF⟩
    ·refine wH_ift rfl hc_27 (wH_seq (wH_region (h_op (vI 0) wz rfl (h_op (vI 11) wz rfl (h_nil ?_)))))
     obtain rfl := some_inj hF
     exact wH_ret (fin0 (.inr rfl) [(vI 0), (vI 11)] ⟨rfl, ⟨rfl, trivial⟩⟩ rfl rfl rfl)
    ·refine wH_iff rfl hc_27 (wH_skip (wH_seq (wH_region (h_op (vI (w64 (y_21.f_to - (w64 (y_23.f_from - n_2))))) wz rfl (h_op (vI (w64 (y_21.f_to - (w64 (y_23.f_from - n_2))))) wz rfl (h_op (vI 0) wz rfl (h_nil ?_)))))))
     obtain rfl := some_inj hF
     exact wH_ret (fin0 (.inr rfl) [(vI (w64 (y_21.f_to - (w64 (y_23.f_from - n_2))))), (vI 0)] ⟨rfl, ⟨rfl, trivial⟩⟩ rfl rfl rfl)
   ·refine wH_iff rfl hc_20 (wH_seq (wH_region (h_op (vI s_9) wz rfl (h_op (vL Beat_.enc l_1) wz rfl (h_len un287 rfl wz (h_op (vB (s_9 == (l_1.length : Int))) wz rfl (h_op (vB (s_9 == (l_1.length : Int))) wz rfl (h_nil ?_))))))))
    rcases cond_some hF with ⟨hc_28, hF⟩ | ⟨hc_28, hF⟩
    ·refine wH_ift rfl hc_28 (wH_draws (h_op (vL Beat_.enc l_1) wz rfl (h_op (vI s_9) wz rfl (h_op (vI (w64 (s_9 - 1))) wz rfl ?_))))
     obtain ⟨y_29, hy_30, hF⟩ := bind_some hF
     refine h_ia es287 rfl rfl hy_30 rfl wz (h_fac pl325_1 rfl [.int .i64 y_29.f_to] rfl rfl wz (h_ldc sz3 ag3 rfl (vI y_29.f_to) rfl wz (h_op (vI n_2) wz rfl (h_op (vI (w64 (y_29.f_to + n_2))) wz rfl (h_op (vL Beat_.enc l_1) wz rfl (h_op (vI s_9) wz rfl (h_op (vI (w64 (s_9 - 1))) wz rfl ?_)))))))
     obtain ⟨y_31, hy_32, hF⟩ := bind_some hF
     refine h_ia es287 rfl rfl hy_32 rfl wz (h_fac pl325_0 rfl [.int .i64 y_31.f_from, .int .i64 y_31.f_to] rfl rfl wz (h_ldc sz3 ag3 rfl (vI y_31.f_from) rfl wz (h_op (vI (w64 ((w64 (y_29.f_to + n_2)) - y_31.f_from))) wz rfl (h_op (vI (w64 ((w64 (y_29.f_to + n_2)) - y_31.f_from))) wz rfl (h_nil (wH_seq (wH_seq (wH_region (h_op (vI (w64 ((w64 (y_29.f_to + n_2)) - y_31.f_from))) wz rfl ?_)))))))))
     obtain ⟨r_33, hr_34, hF⟩ := bind_some hF
     refine h_call0 (kit_IsMoment_ok hr_34) rfl hb136 rfl rfl rfl rfl wz (h_op (vB (!r_33)) wz rfl (h_nil ?_))
     rcases cond_some hF with ⟨hc_35, hF⟩ | ⟨hc_35, hF⟩
     ·refine wH_ift rfl hc_35 (wH_seq (wH_region (h_op (vI 0) wz rfl (h_op (vI 11) wz rfl (h_nil (wH_at (H0 := ([] : Hp)) ([(4, (vI 0)), (5, (vI 11))] : List (Nat × V)) (by kernel_rfl) (pre_mk (by kernel_rfl)) ?_))))))
      obtain rfl := some_inj hF
      exact wH_ret (fin0 (.inr rfl) [(vI 0), (vI 11)] ⟨rfl, ⟨rfl, trivial⟩⟩ rfl rfl rfl)
     ·refine wH_iff rfl hc_35 (wH_skip (wH_seq (wH_region (h_op (vI (w64 ((w64 (y_29.f_to + n_2)) - y_31.f_from))) wz rfl (h_op (vI (w64 ((w64 (y_29.f_to + n_2)) - y_31.f_from))) wz rfl (h_op (vI 0) wz rfl (h_nil (wH_at (H0 := ([] : Hp)) ([(4, (vI (w64 ((w64 (y_29.f_to + n_2)) - y_31.f_from)))), (5, (vI 0))] : List (Nat × V)) (by kernel_rfl) (pre_mk (by kernel_rfl)) ?_))))))))
      obtain rfl := some_inj hF
      exact wH_ret (fin0 (.inr rfl) [(vI (w64 ((w64 (y_29.f_to + n_2)) - y_31.f_from))), (vI 0)] ⟨rfl, ⟨rfl, trivial⟩⟩ rfl rfl rfl)
    ·refine wH_iff rfl hc_28 (wH_seq (wH_draws (h_op (vL Beat_.enc l_1) wz rfl (h_op (vI s_9) wz rfl (h_op (vI (w64 (s_9 - 1))) wz rfl ?_)))))
     obtain ⟨y_36, hy_37, hF⟩ := bind_some hF
     refine h_ia es287 rfl rfl hy_37 rfl wz (h_ldc sz325 ag325 rfl (.d (.agg (Beat_.enc y_36))) rfl wz (h_op (vL Beat_.enc l_1) wz rfl (h_op (vI s_9) wz rfl ?_)))
     obtain ⟨y_38, hy_39, hF⟩ := bind_some hF
     refine h_ia es287 rfl rfl hy_39 rfl wz (h_ldc sz325 ag325 rfl (.d (.agg (Beat_.enc y_38))) rfl wz (h_alloc 9 (.inr (by kernel_rfl)) z325 rfl wz (fun n_40 => h_alloc 10 (.inr (by kernel_rfl)) z325 rfl wz (fun n_41 => h_str 11 (.inr (by kernel_rfl)) (fun _ _ ag => ⟨.inr (.inr (by kernel_rfl)), ⟨.inr (.inr (by kernel_rfl)), trivial⟩⟩) 0 sz325 rfl rfl [(vI y_36.f_from), (vI y_36.f_to)] rfl wz (h_str 12 (.inr (by kernel_rfl)) (fun _ _ ag => ⟨.inr (.inr (by kernel_rfl)), ⟨.inr (.inr (by kernel_rfl)), ⟨.inr (.inr (by kernel_rfl)), trivial⟩⟩⟩) 1 sz325 rfl rfl [(vI y_38.f_from), (vI y_38.f_to)] rfl wz (h_nil (wH_seq (wH_seq ?_))))))))
     obtain ⟨v_42, h_43, hF⟩ := bind_some hF
     refine wH_join (β := Unit) (fun _ => ([(1, (vI n_2)), (8, (.ref n_40 0 0)), (9, (.ref n_41 0 0)), (50, (vB v_42))] : List (Nat × V))) (fun _ => ([(n_40, some (.cells 2 [(vI y_36.f_from), (vI y_36.f_to)])), (n_41, some (.cells 2 [(vI y_38.f_from), (vI y_38.f_to)]))] : Hp)) (fun _ => True) ?_ ?_
     ·refine wH_region (h_far pl325_0 rfl 0 rfl wz (h_ldr 0 1 il ft sz3 ag3 rfl rfl (vI y_38.f_from) rfl wz (h_far pl325_0 rfl 0 rfl wz (h_ldr 0 0 il ft sz3 ag3 rfl rfl (vI y_36.f_from) rfl wz (h_op (vI (w64 (y_38.f_from - y_36.f_from))) wz rfl (h_op (vB (decide ((w64 (y_38.f_from - y_36.f_from)) > 2592000000))) wz rfl ?_))))))
      rcases cond_some h_43 with ⟨hc_44, h_43⟩ | ⟨hc_44, h_43⟩
      ·refine h_movb rfl hc_44 wz (h_skip wa (h_skip wa (h_skip wa (h_skip wa (h_skip wa (h_skip wa (h_op (vB true) wz rfl (h_nil ?_))))))))
       obtain rfl := some_inj h_43
       exact cu
      ·refine h_movb rfl hc_44 wz (h_far pl325_1 rfl 1 rfl wa (h_ldr 0 1 il ft sz3 ag3 rfl rfl (vI y_38.f_to) rfl wa (h_far pl325_1 rfl 1 rfl wa (h_ldr 0 0 il ft sz3 ag3 rfl rfl (vI y_36.f_to) rfl wa (h_op (vI (w64 (y_38.f_to - y_36.f_to))) wa rfl (h_op (vB (decide ((w64 (y_38.f_to - y_36.f_to)) > 2592000000))) wa rfl (h_op (vB (decide ((w64 (y_38.f_to - y_36.f_to)) > 2592000000))) wz rfl (h_nil ?_))))))))
       obtain rfl := some_inj h_43
       exact cu
     ·rintro ⟨⟩ _ sl_ H_ hp_ hq_
      refine wH_at _ hp_ hq_ ?_
      rcases cond_some hF with ⟨hc_45, hF⟩ | ⟨hc_45, hF⟩
      ·refine wH_ift rfl hc_45 (wH_seq (wH_region (h_op (vI 0) wz rfl (h_op (vI 2) wz rfl (h_nil ?_)))))
       obtain rfl := some_inj hF
       exact wH_ret (fin0 (.inr rfl) [(vI 0), (vI 2)] ⟨rfl, ⟨rfl, trivial⟩⟩ rfl rfl rfl)
      ·refine wH_iff rfl hc_45 (wH_skip (wH_draws (h_far pl325_1 rfl 1 rfl wz (h_ldr 1 0 (.inr (by kernel_rfl)) (fun _ _ ag => trivial) sz3 ag3 rfl rfl (vI y_36.f_to) rfl wz (h_op (vI n_2) wz rfl (h_far pl325_0 rfl 0 rfl wz (h_ldr 4 0 (.inr (by kernel_rfl)) (fun _ _ ag => ⟨.inl ⟨rfl, rfl⟩, trivial⟩) sz3 ag3 rfl rfl (vI y_36.f_from) rfl wz (h_op (vI (w64 (n_2 - y_36.f_from))) wz rfl (h_far pl325_1 rfl 1 rfl wz (h_ldr 7 1 (.inr (by kernel_rfl)) (fun _ _ ag => ⟨.inl ⟨rfl, rfl⟩, ⟨.inl ⟨rfl, rfl⟩, trivial⟩⟩) sz3 ag3 rfl rfl (vI y_38.f_to) rfl wz (h_far pl325_1 rfl 1 rfl wz (h_ldr 9 0 (.inr (by kernel_rfl)) (fun _ _ ag => ⟨.inl ⟨rfl, rfl⟩, ⟨.inl ⟨rfl, rfl⟩, ⟨.inl ⟨rfl, rfl⟩, trivial⟩⟩⟩) sz3 ag3 rfl rfl (vI y_36.f_to) rfl wz (h_op (vI (w64 (y_38.f_to - y_36.f_to))) wz rfl (h_op (vI (w64 ((w64 (n_2 - y_36.f_from)) * (w64 (y_38.f_to - y_36.f_to))))) wz rfl (h_far pl325_0 rfl 0 rfl wz (h_ldr 13 1 (.inr (by kernel_rfl)) (fun _ _ ag => ⟨.inl ⟨rfl, rfl⟩, ⟨.inl ⟨rfl, rfl⟩, ⟨.inl ⟨rfl, rfl⟩, ⟨.inl ⟨rfl, rfl⟩, trivial⟩⟩⟩⟩) sz3 ag3 rfl rfl (vI y_38.f_from) rfl wz (h_far pl325_0 rfl 0 rfl wz (h_ldr 15 0 (.inr (by kernel_rfl)) (fun _ _ ag => ⟨.inl ⟨rfl, rfl⟩, ⟨.inl ⟨rfl, rfl⟩, ⟨.inl ⟨rfl, rfl⟩, ⟨.inl ⟨rfl, rfl⟩, ⟨.inl ⟨rfl, rfl⟩, trivial⟩⟩⟩⟩⟩) sz3 ag3 rfl rfl (vI y_36.f_from) rfl wz (h_op (vI (w64 (y_38.f_from - y_36.f_from))) wz rfl ?_)))))))))))))))))))
       obtain ⟨q_46, hz_47, hF⟩ := bind_some hF
       refine h_quo rfl rfl hz_47 wz (h_op (vI (w64 (y_36.f_to + q_46))) wz rfl (h_op (vI (w64 (y_36.f_to + q_46))) wz rfl (h_nil (wH_seq (wH_seq (wH_region (h_op (vI (w64 (y_36.f_to + q_46))) wz rfl ?_)))))))
       obtain ⟨r_48, hr_49, hF⟩ := bind_some hF
       refine h_call0 (kit_IsMoment_ok hr_49) rfl hb136 rfl rfl rfl rfl wz (h_op (vB (!r_48)) wz rfl (h_nil ?_))
       rcases cond_some hF with ⟨hc_50, hF⟩ | ⟨hc_50, hF⟩
       ·refine wH_ift rfl hc_50 (wH_seq (wH_region (h_op (vI 0) wz rfl (h_op (vI 11) wz rfl (h_nil ?_)))))
        obtain rfl := some_inj hF
        exact wH_ret (fin0 (.inr rfl) [(vI 0), (vI 11)] ⟨rfl, ⟨rfl, trivial⟩⟩ rfl rfl rfl)
       ·refine wH_iff rfl hc_50 (wH_skip (wH_seq (wH_region (h_op (vI (w64 (y_36.f_to + q_46))) wz rfl (h_op (vI (w64 (y_36.f_to + q_46))) wz rfl (h_op (vI 0) wz rfl (h_nil ?_)))))))
        obtain rfl := some_inj hF
        exact wH_ret (fin0 (.inr rfl) [(vI (w64 (y_36.f_to + q_46))), (vI 0)] ⟨rfl, ⟨rfl, trivial⟩⟩ rfl rfl rfl)
theorem proof_asked_ok {l_1 : (List Beat)} {player_2 : ByteArray} {n_3 : Int} {back_4 : Bool} {r : Int × Int} (hF : proof_asked l_1 player_2 n_3 back_4 = some r) :
  FnM Tryz.prog 175 [(vL Beat.enc l_1), (vS player_2), (vI n_3), (vB back_4)] [] (.tup [(vI r.1), (vI r.2)]) [] := by
 refine FnM.of_wH ⟨Tryz.prog, 30, [], []⟩ rfl Tryz.func175 rfl rfl (Nat.le_of_ble_eq_true rfl) (by kernel_rfl) ?_
 unfold proof_asked at hF
 refine wH_seq (wH_region (h_op (vI 0) wz rfl (h_op (vI 0) wz rfl (h_nil (wH_seq (wH_seq (wH_region (h_op (vL Beat.enc l_1) wz rfl ?_))))))))
 obtain ⟨r_5, hr_6, hF⟩ := bind_some hF
 refine h_call0 (proof_CheckBeats_ok hr_6) rfl hb215 rfl rfl rfl rfl wz (h_op (vI r_5) wz rfl (h_nil (wH_seq (wH_region (h_op (vI r_5) wz rfl (h_op (vB (r_5 != 0)) wz rfl (h_nil ?_)))))))
 rcases cond_some hF with ⟨hc_7, hF⟩ | ⟨hc_7, hF⟩
 ·refine wH_ift rfl hc_7 (wH_seq (wH_region (h_op (vI r_5) wz rfl (h_op (vI 0) wz rfl (h_op (vI r_5) wz rfl (h_nil ?_))))))
  obtain rfl := some_inj hF
  exact wH_ret (fin0 (.inr rfl) [(vI 0), (vI r_5)] ⟨rfl, ⟨rfl, trivial⟩⟩ rfl rfl rfl)
 ·refine wH_iff rfl hc_7 (wH_skip (wH_seq (wH_seq (wH_region (h_op (vS player_2) wz rfl ?_)))))
  obtain ⟨r_8, hr_9, hF⟩ := bind_some hF
  refine h_call0 (kit_IsKey_ok hr_9) rfl hb124 rfl rfl rfl rfl wz (h_op (vB (!r_8)) wz rfl (h_nil ?_))
  rcases cond_some hF with ⟨hc_10, hF⟩ | ⟨hc_10, hF⟩
  ·refine wH_ift rfl hc_10 (wH_seq (wH_region (h_op (vI 0) wz rfl (h_op (vI 5) wz rfl (h_nil ?_)))))
   obtain rfl := some_inj hF
   exact wH_ret (fin0 (.inr rfl) [(vI 0), (vI 5)] ⟨rfl, ⟨rfl, trivial⟩⟩ rfl rfl rfl)
  ·refine wH_iff rfl hc_10 (wH_skip (wH_seq (wH_seq (wH_region (h_op (vI n_3) wz rfl ?_)))))
   obtain ⟨r_11, hr_12, hF⟩ := bind_some hF
   refine h_call0 (kit_IsMoment_ok hr_12) rfl hb136 rfl rfl rfl rfl wz (h_op (vB (!r_11)) wz rfl (h_nil ?_))
   rcases cond_some hF with ⟨hc_13, hF⟩ | ⟨hc_13, hF⟩
   ·refine wH_ift rfl hc_13 (wH_seq (wH_region (h_op (vI 0) wz rfl (h_op (vI 1) wz rfl (h_nil ?_)))))
    obtain rfl := some_inj hF
    exact wH_ret (fin0 (.inr rfl) [(vI 0), (vI 1)] ⟨rfl, ⟨rfl, trivial⟩⟩ rfl rfl rfl)
   ·refine wH_iff rfl hc_13 (wH_skip (wH_seq (wH_region (h_op (vL Beat.enc l_1) wz rfl (h_op (vS player_2) wz rfl (h_op (vB back_4) wz rfl ?_))))))
    obtain ⟨r_14, hr_15, hF⟩ := bind_some hF
    refine h_call0 (proof_beatsOf_ok hr_15) rfl hb217 rfl rfl rfl rfl wz (h_op (vI n_3) wz rfl ?_)
    obtain ⟨r_16, hr_17, hF⟩ := bind_some hF
    refine h_call0 (proof_mapped_ok hr_17) rfl hb216 rfl rfl rfl rfl wz (h_op (vI r_16.1) wz rfl (h_op (vI r_16.2) wz rfl (h_op (vI r_16.1) wz rfl (h_op (vI r_16.2) wz rfl (h_nil ?_)))))
    obtain rfl := some_inj hF
    exact wH_ret (fin0 (.inr rfl) [(vI r_16.1), (vI r_16.2)] ⟨rfl, ⟨rfl, trivial⟩⟩ rfl rfl rfl)
theorem proof_Right_ok {l_1 : (List Beat)} {player_2 : ByteArray} {clock_3 : Int} {r : Int × Int} (hF : proof_Right l_1 player_2 clock_3 = some r) :
  FnM Tryz.prog 92 [(vL Beat.enc l_1), (vS player_2), (vI clock_3)] [] (.tup [(vI r.1), (vI r.2)]) [] := by
 refine FnM.of_wH ⟨Tryz.prog, 14, [], []⟩ rfl Tryz.func92 rfl rfl (Nat.le_of_ble_eq_true rfl) (by kernel_rfl) ?_
 unfold proof_Right at hF
 refine wH_seq (wH_region (h_op (vI 0) wz rfl (h_op (vI 0) wz rfl (h_nil (wH_seq (wH_region (h_op (vL Beat.enc l_1) wz rfl (h_op (vS player_2) wz rfl (h_op (vI clock_3) wz rfl ?_)))))))))
 obtain ⟨r_4, hr_5, hF⟩ := bind_some hF
 refine h_call0 (proof_asked_ok hr_5) rfl hb175 rfl rfl rfl rfl wz (h_op (vI r_4.1) wz rfl (h_op (vI r_4.2) wz rfl (h_op (vI r_4.1) wz rfl (h_op (vI r_4.2) wz rfl (h_nil ?_)))))
 obtain rfl := some_inj hF
 exact wH_ret (fin0 (.inr rfl) [(vI r_4.1), (vI r_4.2)] ⟨rfl, ⟨rfl, trivial⟩⟩ rfl rfl rfl)
theorem kit_IsDay_ok {n_1 : Int} {r : Bool} (hF : kit_IsDay n_1 = some r) :
  FnM Tryz.prog 299 [(vI n_1)] [] (vB r) [] := by
 refine FnM.of_wH ⟨Tryz.prog, 9, [], []⟩ rfl Tryz.func299 rfl rfl (Nat.le_of_ble_eq_true rfl) (by kernel_rfl) ?_
 unfold kit_IsDay at hF
 refine wH_seq (wH_region (h_op (vB false) wz rfl (h_nil (wH_seq ?_))))
 obtain ⟨v_2, h_3, hF⟩ := bind_some hF
 refine wH_join (β := Unit) (fun _ => ([(2, (vB v_2))] : List (Nat × V))) (fun _ => ([] : Hp)) (fun _ => True) ?_ ?_
 ·refine wH_region (h_op (vI n_1) wz rfl (h_op (vB (decide (n_1 ≥ 0))) wz rfl ?_))
  rcases cond_some h_3 with ⟨hc_4, h_3⟩ | ⟨hc_4, h_3⟩
  ·refine h_movb rfl hc_4 wz (h_op (vI n_1) wa rfl (h_op (vB (decide (n_1 ≤ 4000))) wa rfl (h_op (vB (decide (n_1 ≤ 4000))) wz rfl (h_op (vB (decide (n_1 ≤ 4000))) wz rfl (h_nil ?_)))))
   obtain rfl := some_inj h_3
   exact cu
  ·refine h_movb rfl hc_4 wz (h_skip wa (h_skip wa (h_op (vB false) wz rfl (h_op (vB false) wz rfl (h_nil ?_)))))
   obtain rfl := some_inj h_3
   exact cu
 ·rintro ⟨⟩ _ sl_ H_ hp_ hq_
  refine wH_at _ hp_ hq_ ?_
  obtain rfl := some_inj hF
  exact wH_ret (fin0 (.inr rfl) [(vB v_2)] ⟨rfl, trivial⟩ rfl rfl rfl)
theorem schedule_exceptFault_ok {l_1 : (List Int)} {r : Int} (hF : schedule_exceptFault l_1 = some r) :
  FnM Tryz.prog 262 [(vL eI l_1)] [] (vI r) [] := by
 refine FnM.of_wH ⟨Tryz.prog, 30, [], []⟩ rfl Tryz.func262 rfl rfl (Nat.le_of_ble_eq_true rfl) (by kernel_rfl) ?_
 unfold schedule_exceptFault at hF
 refine wH_seq (wH_region (h_op (vI 0) wz rfl (h_nil (wH_seq (wH_seq (wH_region (h_op (vL eI l_1) wz rfl (h_len un22 rfl wz (h_op (vB (decide ((l_1.length : Int) > 100))) wz rfl (h_nil ?_))))))))))
 rcases cond_some hF with ⟨hc_2, hF⟩ | ⟨hc_2, hF⟩
 ·refine wH_ift rfl hc_2 (wH_seq (wH_region (h_op (vI 2) wz rfl (h_nil ?_))))
  obtain rfl := some_inj hF
  exact wH_ret (fin0 (.inr rfl) [(vI 2)] ⟨rfl, trivial⟩ rfl rfl rfl)
 ·refine wH_iff rfl hc_2 (wH_skip (wH_seq (wH_seq (wH_region (h_op (vL eI l_1) wz rfl (h_len un22 rfl wz (h_op (vI 0) wz rfl (h_nil ?_))))))))
  obtain ⟨o_11, hj_12, hF⟩ := bind_some hF
  obtain ⟨hn_7, hj_12⟩ := forL_some hj_12
  refine wH_join (β := (Unit)) (fun (s_8 : Unit) => ([] : List (Nat × V))) (fun (s_8 : Unit) => ([] : Hp)) (fun p => o_11 = .go p) ?_ ?_
  ·refine wH_block (wH_loop (β := Nat × (List Int) × (Unit)) (fun p => (fun (k_3 : Nat) (l_4 : List Int) (s_8 : Unit) => ([(0, (vL eI l_1)), (8, (vL eI l_1)), (9, (vI (l_1.length : Int))), (10, (vI (k_3 : Int)))] : List (Nat × V))) p.1 p.2.1 p.2.2) (fun p => (fun (k_3 : Nat) (l_4 : List Int) (s_8 : Unit) => ([] : Hp)) p.1 p.2.1 p.2.2) (fun p => forR (fun k x s => schedule_exceptFault_L1 l_1 k x s) p.2.1 p.1 p.2.2 = some o_11 ∧ (l_1).drop p.1 = p.2.1) (fun p => p.2.1.length) (0, l_1, ()) ⟨hj_12, rfl⟩ rfl (pre_r rfl) ?_)
   rintro ⟨k_3, l_4, s_8⟩ ⟨hL_10, hD_6⟩
   dsimp only at hL_10 hD_6
   cases l_4 with
   | nil =>
    obtain rfl := some_inj hL_10
    refine wH_seq (wH_region (h_op (vB (decide ((k_3 : Int) < (l_1.length : Int)))) wz rfl (h_nil ?_)))
    refine wH_seq (wH_iff rfl (drop_nil hD_6) (wH_exit ?_))
    exact cut_mk (s_8) rfl rfl (pre_r rfl)
   | cons x_5 l_4 =>
    obtain ⟨c_, hc_9, hL_10⟩ := bind_some hL_10
    refine wH_seq (wH_region (h_op (vB (decide ((k_3 : Int) < (l_1.length : Int)))) wz rfl (h_nil ?_)))
    refine wH_seq (wH_ift rfl (drop_cons hD_6) (wH_skip ?_))
    unfold schedule_exceptFault_L1 at hc_9
    refine wH_seq (wH_block (wH_seq (wH_region (h_op (vI (k_3 : Int)) wz rfl (h_ia es22 rfl rfl (drop_idx hD_6) rfl wz (h_ldc sz3 ag3 rfl (vI x_5) rfl wz (h_op (vI (k_3 : Int)) wz rfl (h_op (vI x_5) wz rfl (h_nil (wH_seq (wH_seq (wH_region (h_op (vI x_5) wz rfl ?_)))))))))))))
    obtain ⟨r_13, hr_14, hc_9⟩ := bind_some hc_9
    refine h_call0 (kit_IsDay_ok hr_14) rfl hb299 rfl rfl rfl rfl wz (h_op (vB (!r_13)) wz rfl (h_nil ?_))
    rcases cond_some hc_9 with ⟨hc_15, hc_9⟩ | ⟨hc_15, hc_9⟩
    ·refine wH_ift rfl hc_15 (wH_seq (wH_region (h_op (vI 1) wz rfl (h_nil ?_))))
     obtain rfl := some_inj hc_9
     obtain rfl := some_inj hL_10
     obtain rfl := some_inj hF
     exact wH_ret (fin0 (.inr rfl) [(vI 1)] ⟨rfl, trivial⟩ rfl rfl rfl)
    ·refine wH_iff rfl hc_15 (wH_skip (wH_seq ?_))
     obtain ⟨v_16, h_17, hc_9⟩ := bind_some hc_9
     refine wH_join (β := Unit) (fun _ => ([(0, (vL eI l_1)), (8, (vL eI l_1)), (9, (vI (l_1.length : Int))), (10, (vI (k_3 : Int))), (28, (vB v_16))] : List (Nat × V))) (fun _ => ([] : Hp)) (fun _ => True) ?_ ?_
     ·refine wH_region (h_op (vI (k_3 : Int)) wz rfl (h_op (vB (decide ((k_3 : Int) > 0))) wz rfl ?_))
      rcases cond_some h_17 with ⟨hc_18, h_17⟩ | ⟨hc_18, h_17⟩
      ·refine h_movb rfl hc_18 wz (h_op (vI x_5) wa rfl (h_op (vL eI l_1) wa rfl (h_op (vI (k_3 : Int)) wa rfl (h_op (vI (w64 ((k_3 : Int) - 1))) wa rfl ?_))))
       obtain ⟨y_19, hy_20, h_17⟩ := bind_some h_17
       refine h_ia es22 rfl rfl hy_20 rfl wa (h_ldc sz3 ag3 rfl (vI y_19) rfl wa (h_op (vB (decide (x_5 ≤ y_19))) wa rfl (h_op (vB (decide (x_5 ≤ y_19))) wz rfl (h_nil ?_))))
       obtain rfl := some_inj h_17
       exact cu
      ·refine h_movb rfl hc_18 wz (h_skip wa (h_skip wa (h_skip wa (h_skip wa (h_skip wa (h_skip wa (h_skip wa (h_op (vB false) wz rfl (h_nil ?_)))))))))
       obtain rfl := some_inj h_17
       exact cu
     ·rintro ⟨⟩ _ sl_ H_ hp_ hq_
      refine wH_at _ hp_ hq_ ?_
      rcases cond_some hc_9 with ⟨hc_21, hc_9⟩ | ⟨hc_21, hc_9⟩
      ·refine wH_ift rfl hc_21 (wH_seq (wH_region (h_op (vI 7) wz rfl (h_nil ?_))))
       obtain rfl := some_inj hc_9
       obtain rfl := some_inj hL_10
       obtain rfl := some_inj hF
       exact wH_ret (fin0 (.inr rfl) [(vI 7)] ⟨rfl, trivial⟩ rfl rfl rfl)
      ·refine wH_iff rfl hc_21 (wH_skip (wH_region (h_opw (w64_next hD_6 hn_7) wz rfl (h_op (vI ((k_3 + 1 : Nat) : Int)) wz rfl (h_nil ?_)))))
       obtain rfl := some_inj hc_9
       exact loop_mk (k_3 + 1, l_4, ()) ⟨hL_10, drop_next hD_6⟩ (Nat.lt_succ_self _) rfl (pre_r rfl)
  ·rintro s_8 ho_ sl_ H_ hp_ hq_
   subst ho_
   refine wH_at _ hp_ hq_ (wH_seq (wH_region (h_op (vI 0) wz rfl (h_nil ?_))))
   obtain rfl := some_inj hF
   exact wH_ret (fin0 (.inr rfl) [(vI 0)] ⟨rfl, trivial⟩ rfl rfl rfl)
theorem schedule_tagsFault_ok {l_1 : (List ByteArray)} {r : Int} (hF : schedule_tagsFault l_1 = some r) :
  FnM Tryz.prog 263 [(vL eS l_1)] [] (vI r) [] := by
 refine FnM.of_wH ⟨Tryz.prog, 8, [], []⟩ rfl Tryz.func263 rfl rfl (Nat.le_of_ble_eq_true rfl) (by kernel_rfl) ?_
 unfold schedule_tagsFault at hF
 refine wH_seq (wH_region (h_op (vI 0) wz rfl (h_nil (wH_seq (wH_seq (wH_region (h_op (vL eS l_1) wz rfl (h_len un80 rfl wz (h_op (vB (decide ((l_1.length : Int) > 20))) wz rfl (h_nil ?_))))))))))
 rcases cond_some hF with ⟨hc_2, hF⟩ | ⟨hc_2, hF⟩
 ·refine wH_ift rfl hc_2 (wH_seq (wH_region (h_op (vI 2) wz rfl (h_nil ?_))))
  obtain rfl := some_inj hF
  exact wH_ret (fin0 (.inr rfl) [(vI 2)] ⟨rfl, trivial⟩ rfl rfl rfl)
 ·refine wH_iff rfl hc_2 (wH_skip (wH_seq (wH_region (h_op (vL eS l_1) wz rfl ?_))))
  obtain ⟨r_3, hr_4, hF⟩ := bind_some hF
  refine h_call0 (kit_RisingFault_ok hr_4) rfl hb265 rfl rfl rfl rfl wz (h_op (vI r_3) wz rfl (h_nil ?_))
  obtain rfl := some_inj hF
  exact wH_ret (fin0 (.inr rfl) [(vI r_3)] ⟨rfl, trivial⟩ rfl rfl rfl)
theorem schedule_entryFault_ok {e_1 : Entry} {r : Int} (hF : schedule_entryFault e_1 = some r) :
  FnM Tryz.prog 210 [(.d (.agg (Entry.enc e_1)))] [] (vI r) [] := by
 refine FnM.of_wH ⟨Tryz.prog, 61, [], []⟩ rfl Tryz.func210 rfl rfl (Nat.le_of_ble_eq_true rfl) (by kernel_rfl) ?_
 unfold schedule_entryFault at hF
 refine wH_seq (wH_region (h_box 0 (.inl rfl) [(vS e_1.Key), (vS e_1.Item), (vI e_1.Version), (vI e_1.First), (vI e_1.Last), (vI e_1.Every), (vI e_1.Days), (vL eI e_1.Except), (vI e_1.From), (vI e_1.To), (vI e_1.Prio), (vL eS e_1.Tags), (vB e_1.Gone)] rfl rfl wz (fun n_2 => h_op (vI 0) wz rfl (h_nil (wH_seq (wH_seq ?_))))))
 obtain ⟨v_3, h_4, hF⟩ := bind_some hF
 refine wH_join (β := Unit) (fun _ => ([(1, (.ref n_2 0 0)), (13, (vB v_3))] : List (Nat × V))) (fun _ => ([(n_2, some (.cells 13 [(vS e_1.Key), (vS e_1.Item), (vI e_1.Version), (vI e_1.First), (vI e_1.Last), (vI e_1.Every), (vI e_1.Days), (vL eI e_1.Except), (vI e_1.From), (vI e_1.To), (vI e_1.Prio), (vL eS e_1.Tags), (vB e_1.Gone)]))] : Hp)) (fun _ => True) ?_ ?_
 ·refine wH_region (h_far pl170_0 rfl 0 rfl wz (h_ldr 0 0 il ft sz9 ag9 rfl rfl (vS e_1.Key) rfl wz ?_))
  obtain ⟨r_5, hr_6, h_4⟩ := bind_some h_4
  refine h_call0 (kit_IsKey_ok hr_6) rfl hb124 rfl rfl rfl rfl wz (h_op (vB (!r_5)) wz rfl ?_)
  rcases cond_some h_4 with ⟨hc_7, h_4⟩ | ⟨hc_7, h_4⟩
  ·refine h_movb rfl hc_7 wz (h_skip wa (h_skip wa (h_skip wa (h_skip wa (h_op (vB true) wz rfl (h_nil ?_))))))
   obtain rfl := some_inj h_4
   exact cu
  ·refine h_movb rfl hc_7 wz (h_far pl170_1 rfl 1 rfl wa (h_ldr 0 0 il ft sz9 ag9 rfl rfl (vS e_1.Item) rfl wa ?_))
   obtain ⟨r_8, hr_9, h_4⟩ := bind_some h_4
   refine h_call0 (kit_IsKey_ok hr_9) rfl hb124 rfl rfl rfl rfl wa (h_op (vB (!r_8)) wa rfl (h_op (vB (!r_8)) wz rfl (h_nil ?_)))
   obtain rfl := some_inj h_4
   exact cu
 ·rintro ⟨⟩ _ sl_ H_ hp_ hq_
  refine wH_at _ hp_ hq_ ?_
  rcases cond_some hF with ⟨hc_10, hF⟩ | ⟨hc_10, hF⟩
  ·refine wH_ift rfl hc_10 (wH_seq (wH_region (h_op (vI 5) wz rfl (h_nil ?_))))
   obtain rfl := some_inj hF
   exact wH_ret (fin0 (.inr rfl) [(vI 5)] ⟨rfl, trivial⟩ rfl rfl rfl)
  ·refine wH_iff rfl hc_10 (wH_skip (wH_seq (wH_seq ?_)))
   obtain ⟨v_11, h_12, hF⟩ := bind_some hF
   refine wH_join (β := Unit) (fun _ => ([(1, (.ref n_2 0 0)), (38, (vB v_11))] : List (Nat × V))) (fun _ => ([(n_2, some (.cells 13 [(vS e_1.Key), (vS e_1.Item), (vI e_1.Version), (vI e_1.First), (vI e_1.Last), (vI e_1.Every), (vI e_1.Days), (vL eI e_1.Except), (vI e_1.From), (vI e_1.To), (vI e_1.Prio), (vL eS e_1.Tags), (vB e_1.Gone)]))] : Hp)) (fun _ => True) ?_ ?_
   ·refine wH_region (h_far pl170_2 rfl 2 rfl wz (h_ldr 0 0 il ft sz3 ag3 rfl rfl (vI e_1.Version) rfl wz ?_))
    obtain ⟨r_13, hr_14, h_12⟩ := bind_some h_12
    refine h_call0 (kit_Outside_ok hr_14) rfl hb86 rfl rfl rfl rfl wz ?_
    rcases cond_some h_12 with ⟨hc_15, h_12⟩ | ⟨hc_15, h_12⟩
    ·refine h_movb rfl hc_15 wz (h_skip wa (h_skip wa (h_skip wa (h_skip wa (h_skip wa (h_op (vB true) wz rfl (h_op (vB true) wz rfl (h_skip wa (h_skip wa (h_skip wa (h_op (vB true) wz rfl (h_op (vB true) wz rfl (h_skip wa (h_skip wa (h_skip wa (h_op (vB true) wz rfl (h_op (vB true) wz rfl (h_skip wa (h_skip wa (h_skip wa (h_op (vB true) wz rfl (h_nil ?_))))))))))))))))))))))
     obtain rfl := some_inj h_12
     exact cu
    ·refine h_movb rfl hc_15 wz (h_far pl170_3 rfl 3 rfl wa (h_ldr 0 0 il ft sz3 ag3 rfl rfl (vI e_1.First) rfl wa (h_far pl170_4 rfl 4 rfl wa (h_ldr 0 0 il ft sz3 ag3 rfl rfl (vI e_1.Last) rfl wa ?_))))
     obtain ⟨r_16, hr_17, h_12⟩ := bind_some h_12
     refine h_call0 (kit_Outside_ok hr_17) rfl hb86 rfl rfl rfl rfl wa (h_op (vB r_16) wz rfl ?_)
     rcases cond_some h_12 with ⟨hc_18, h_12⟩ | ⟨hc_18, h_12⟩
     ·refine h_movb rfl hc_18 wz (h_skip wa (h_skip wa (h_skip wa (h_op (vB true) wz rfl (h_op (vB true) wz rfl (h_skip wa (h_skip wa (h_skip wa (h_op (vB true) wz rfl (h_op (vB true) wz rfl (h_skip wa (h_skip wa (h_skip wa (h_op (vB true) wz rfl (h_nil ?_)))))))))))))))
      obtain rfl := some_inj h_12
      exact cu
     ·refine h_movb rfl hc_18 wz (h_far pl170_4 rfl 4 rfl wa (h_ldr 0 0 il ft sz3 ag3 rfl rfl (vI e_1.Last) rfl wa (h_op (vB (decide (e_1.Last > 4000))) wa rfl (h_op (vB (decide (e_1.Last > 4000))) wz rfl ?_))))
      rcases cond_some h_12 with ⟨hc_19, h_12⟩ | ⟨hc_19, h_12⟩
      ·refine h_movb rfl hc_19 wz (h_skip wa (h_skip wa (h_skip wa (h_op (vB true) wz rfl (h_op (vB true) wz rfl (h_skip wa (h_skip wa (h_skip wa (h_op (vB true) wz rfl (h_nil ?_))))))))))
       obtain rfl := some_inj h_12
       exact cu
      ·refine h_movb rfl hc_19 wz (h_far pl170_5 rfl 5 rfl wa (h_ldr 0 0 il ft sz3 ag3 rfl rfl (vI e_1.Every) rfl wa ?_))
       obtain ⟨r_20, hr_21, h_12⟩ := bind_some h_12
       refine h_call0 (kit_Outside_ok hr_21) rfl hb86 rfl rfl rfl rfl wa (h_op (vB r_20) wz rfl ?_)
       rcases cond_some h_12 with ⟨hc_22, h_12⟩ | ⟨hc_22, h_12⟩
       ·refine h_movb rfl hc_22 wz (h_skip wa (h_skip wa (h_skip wa (h_op (vB true) wz rfl (h_nil ?_)))))
        obtain rfl := some_inj h_12
        exact cu
       ·refine h_movb rfl hc_22 wz (h_far pl170_6 rfl 6 rfl wa (h_ldr 0 0 il ft sz3 ag3 rfl rfl (vI e_1.Days) rfl wa ?_))
        obtain ⟨r_23, hr_24, h_12⟩ := bind_some h_12
        refine h_call0 (kit_Outside_ok hr_24) rfl hb86 rfl rfl rfl rfl wa (h_op (vB r_23) wz rfl (h_nil ?_))
        obtain rfl := some_inj h_12
        exact cu
   ·rintro ⟨⟩ _ sl_ H_ hp_ hq_
    refine wH_at _ hp_ hq_ ?_
    rcases cond_some hF with ⟨hc_25, hF⟩ | ⟨hc_25, hF⟩
    ·refine wH_ift rfl hc_25 (wH_seq (wH_region (h_op (vI 1) wz rfl (h_nil ?_))))
     obtain rfl := some_inj hF
     exact wH_ret (fin0 (.inr rfl) [(vI 1)] ⟨rfl, trivial⟩ rfl rfl rfl)
    ·refine wH_iff rfl hc_25 (wH_skip (wH_seq (wH_seq (wH_region (h_far pl170_7 rfl 7 rfl wz (h_ldr 0 0 il ft sz22 ag22 rfl rfl (vL eI e_1.Except) rfl wz ?_))))))
     obtain ⟨r_26, hr_27, hF⟩ := bind_some hF
     refine h_call0 (schedule_exceptFault_ok hr_27) rfl hb262 rfl rfl rfl rfl wz (h_op (vI r_26) wz rfl (h_nil (wH_seq (wH_region (h_op (vI r_26) wz rfl (h_op (vB (r_26 != 0)) wz rfl (h_nil ?_)))))))
     rcases cond_some hF with ⟨hc_28, hF⟩ | ⟨hc_28, hF⟩
     ·refine wH_ift rfl hc_28 (wH_seq (wH_region (h_op (vI r_26) wz rfl (h_op (vI r_26) wz rfl (h_nil ?_)))))
      obtain rfl := some_inj hF
      exact wH_ret (fin0 (.inr rfl) [(vI r_26)] ⟨rfl, trivial⟩ rfl rfl rfl)
     ·refine wH_iff rfl hc_28 (wH_skip (wH_seq (wH_seq ?_)))
      obtain ⟨v_29, h_30, hF⟩ := bind_some hF
      refine wH_join (β := Unit) (fun _ => ([(1, (.ref n_2 0 0)), (57, (vB v_29))] : List (Nat × V))) (fun _ => ([(n_2, some (.cells 13 [(vS e_1.Key), (vS e_1.Item), (vI e_1.Version), (vI e_1.First), (vI e_1.Last), (vI e_1.Every), (vI e_1.Days), (vL eI e_1.Except), (vI e_1.From), (vI e_1.To), (vI e_1.Prio), (vL eS e_1.Tags), (vB e_1.Gone)]))] : Hp)) (fun _ => True) ?_ ?_
      ·refine wH_region (h_far pl170_8 rfl 8 rfl wz (h_ldr 0 0 il ft sz3 ag3 rfl rfl (vI e_1.From) rfl wz ?_))
       obtain ⟨r_31, hr_32, h_30⟩ := bind_some h_30
       refine h_call0 (kit_Outside_ok hr_32) rfl hb86 rfl rfl rfl rfl wz ?_
       rcases cond_some h_30 with ⟨hc_33, h_30⟩ | ⟨hc_33, h_30⟩
       ·refine h_movb rfl hc_33 wz (h_skip wa (h_skip wa (h_skip wa (h_op (vB true) wz rfl (h_op (vB true) wz rfl (h_skip wa (h_skip wa (h_skip wa (h_op (vB true) wz rfl (h_nil ?_))))))))))
        obtain rfl := some_inj h_30
        exact cu
       ·refine h_movb rfl hc_33 wz (h_far pl170_9 rfl 9 rfl wa (h_ldr 0 0 il ft sz3 ag3 rfl rfl (vI e_1.To) rfl wa ?_))
        obtain ⟨r_34, hr_35, h_30⟩ := bind_some h_30
        refine h_call0 (kit_Outside_ok hr_35) rfl hb86 rfl rfl rfl rfl wa (h_op (vB r_34) wz rfl ?_)
        rcases cond_some h_30 with ⟨hc_36, h_30⟩ | ⟨hc_36, h_30⟩
        ·refine h_movb rfl hc_36 wz (h_skip wa (h_skip wa (h_skip wa (h_op (vB true) wz rfl (h_nil ?_)))))
         obtain rfl := some_inj h_30
         exact cu
        ·refine h_movb rfl hc_36 wz (h_far pl170_10 rfl 10 rfl wa (h_ldr 0 0 il ft sz3 ag3 rfl rfl (vI e_1.Prio) rfl wa ?_))
         obtain ⟨r_37, hr_38, h_30⟩ := bind_some h_30
         refine h_call0 (kit_Outside_ok hr_38) rfl hb86 rfl rfl rfl rfl wa (h_op (vB r_37) wz rfl (h_nil ?_))
         obtain rfl := some_inj h_30
         exact cu
      ·rintro ⟨⟩ _ sl_ H_ hp_ hq_
       refine wH_at _ hp_ hq_ ?_
       rcases cond_some hF with ⟨hc_39, hF⟩ | ⟨hc_39, hF⟩
       ·refine wH_ift rfl hc_39 (wH_seq (wH_region (h_op (vI 1) wz rfl (h_nil ?_))))
        obtain rfl := some_inj hF
        exact wH_ret (fin0 (.inr rfl) [(vI 1)] ⟨rfl, trivial⟩ rfl rfl rfl)
       ·refine wH_iff rfl hc_39 (wH_skip (wH_seq (wH_region (h_far pl170_11 rfl 11 rfl wz (h_ldr 0 0 il ft sz80 ag80 rfl rfl (vL eS e_1.Tags) rfl wz ?_)))))
        obtain ⟨r_40, hr_41, hF⟩ := bind_some hF
        refine h_call0 (schedule_tagsFault_ok hr_41) rfl hb263 rfl rfl rfl rfl wz (h_op (vI r_40) wz rfl (h_nil ?_))
        obtain rfl := some_inj hF
        exact wH_ret (fin0 (.inr rfl) [(vI r_40)] ⟨rfl, trivial⟩ rfl rfl rfl)
end Go.Proofs.YtpojeclokolkaaaGreatDoor.Law

