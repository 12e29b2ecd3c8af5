/-
 The machine computes these plain functions (written by a program of ours).
-/
import Derived.Test.YtpojeclokolkaaaGreatDoorFacts
import Derived.Test.YtpojeclokolkaaaGreatDoorDefs
import Derived.Test.YtpojeclokolkaaaGreatDoorPf1
import Derived.Test.YtpojeclokolkaaaGreatDoorShelf
open Go Go.Eng Go.Proofs
namespace Go.Proofs.YtpojeclokolkaaaGreatDoor.Law
set_option maxRecDepth 100000
set_option linter.unusedVariables false
set_option maxHeartbeats 1000000
theorem strings_trimLeftByte_ok {s_1 : ByteArray} {c_2 : Int} {r : ByteArray} (hF : strings_trimLeftByte s_1 c_2 = some r) :
  FnM Tryz.prog 284 [(vS s_1), (.d (.int .u8 c_2))] [] (vS r) [] := by
 refine FnM.of_wH ⟨Tryz.prog, 17, [], []⟩ rfl Tryz.func284 rfl rfl (Nat.le_of_ble_eq_true rfl) (by kernel_rfl) ?_
 unfold strings_trimLeftByte at hF
 refine wH_seq (wH_region (h_op (vS (⟨#[]⟩ : ByteArray)) wz rfl (h_nil (wH_seq ?_))))
 obtain ⟨o_11, hj_12, hF⟩ := bind_some hF
 obtain ⟨nq_21, hj_12⟩ := loopO_iter hj_12
 refine wH_join (β := (ByteArray)) (fun (s_8 : ByteArray) => ([(0, (vS s_8))] : List (Nat × V))) (fun (s_8 : ByteArray) => ([] : Hp)) (fun p => o_11 = .go p) ?_ ?_
 ·refine wH_block (wH_loop (β := Nat × (ByteArray)) (fun p => (fun (k_3 : Nat) (s_8 : ByteArray) => ([(0, (vS s_8)), (1, (.d (.int .u8 c_2)))] : List (Nat × V))) p.1 p.2) (fun p => (fun (k_3 : Nat) (s_8 : ByteArray) => ([] : Hp)) p.1 p.2) (fun p => iterN (fun s => strings_trimLeftByte_L1 c_2 s) p.1 p.2 = some o_11) (fun p => p.1) (nq_21, s_1) hj_12 rfl (pre_r rfl) ?_)
  rintro ⟨k_3, s_8⟩ hL_10
  dsimp only at hL_10
  cases k_3 with
  | zero => cases hL_10
  | succ k_3 =>
   obtain ⟨c_, hc_9, hL_10⟩ := bind_some hL_10
   unfold strings_trimLeftByte_L1 at hc_9
   refine wH_seq (wH_seq ?_)
   obtain ⟨v_13, h_14, hc_9⟩ := bind_some hc_9
   refine wH_join (β := Unit) (fun _ => ([(0, (vS s_8)), (1, (.d (.int .u8 c_2))), (13, (vB v_13))] : List (Nat × V))) (fun _ => ([] : Hp)) (fun _ => True) ?_ ?_
   ·refine wH_region (h_op (vS s_8) wz rfl (h_lens un9 rfl wz (h_op (vB (decide ((s_8.size : Int) > 0))) wz rfl ?_)))
    rcases cond_some h_14 with ⟨hc_15, h_14⟩ | ⟨hc_15, h_14⟩
    ·refine h_movb rfl hc_15 wz (h_op (vS s_8) wa rfl ?_)
     obtain ⟨b_16, hy_17, h_14⟩ := bind_some h_14
     refine h_idxs un9 rfl rfl hy_17 wa (h_op (.d (.int .u8 c_2)) wa rfl (h_op (vB ((b_16.toNat : Int) == c_2)) wa rfl (h_op (vB ((b_16.toNat : Int) == c_2)) wz rfl (h_nil ?_))))
     obtain rfl := some_inj h_14
     exact cu
    ·refine h_movb rfl hc_15 wz (h_skip wa (h_skip wa (h_skip wa (h_skip wa (h_op (vB false) wz rfl (h_nil ?_))))))
     obtain rfl := some_inj h_14
     exact cu
   ·rintro ⟨⟩ _ sl_ H_ hp_ hq_
    refine wH_at _ hp_ hq_ ?_
    rcases cond_some hc_9 with ⟨hc_18, hc_9⟩ | ⟨hc_18, hc_9⟩
    ·refine wH_ift rfl hc_18 (wH_skip (wH_block (wH_region (h_op (vS s_8) wz rfl ?_))))
     obtain ⟨y_19, hy_20, hc_9⟩ := bind_some hc_9
     refine h_subTrueFalse un9 rfl rfl hy_20 wz (h_op (vS y_19) wz rfl (h_nil ?_))
     obtain rfl := some_inj hc_9
     exact loop_mk (k_3, y_19) hL_10 (Nat.lt_succ_self _) rfl (pre_r rfl)
    ·refine wH_iff rfl hc_18 (wH_exit ?_)
     obtain rfl := some_inj hc_9
     obtain rfl := some_inj hL_10
     exact cut_mk (s_8) rfl rfl (pre_r rfl)
 ·rintro s_8 ho_ sl_ H_ hp_ hq_
  subst ho_
  refine wH_at _ hp_ hq_ (wH_seq (wH_region (h_op (vS s_8) wz rfl (h_op (vS s_8) wz rfl (h_nil ?_)))))
  obtain rfl := some_inj hF
  exact wH_ret (fin0 (.inr rfl) [(vS s_8)] ⟨rfl, trivial⟩ rfl rfl rfl)
theorem strings_Trim_ok {s_1 : ByteArray} {cutset_2 : ByteArray} {r : ByteArray} (hF : strings_Trim s_1 cutset_2 = some r) :
  FnM Tryz.prog 238 [(vS s_1), (vS cutset_2)] [] (vS r) [] := by
 refine FnM.of_wH ⟨Tryz.prog, 43, [], []⟩ rfl Tryz.func238 rfl rfl (Nat.le_of_ble_eq_true rfl) (by kernel_rfl) ?_
 unfold strings_Trim at hF
 refine wH_seq (wH_region (h_op (vS (⟨#[]⟩ : ByteArray)) wz rfl (h_nil (wH_seq (wH_seq ?_)))))
 obtain ⟨v_3, h_4, hF⟩ := bind_some hF
 refine wH_join (β := Unit) (fun _ => ([(0, (vS s_1)), (1, (vS cutset_2)), (12, (vB v_3))] : List (Nat × V))) (fun _ => ([] : Hp)) (fun _ => True) ?_ ?_
 ·refine wH_region (h_op (vS s_1) wz rfl (h_op (vB (sEq s_1 (⟨#[]⟩ : ByteArray))) wz rfl ?_))
  rcases cond_some h_4 with ⟨hc_5, h_4⟩ | ⟨hc_5, h_4⟩
  ·refine h_movb rfl hc_5 wz (h_skip wa (h_skip wa (h_op (vB true) wz rfl (h_nil ?_))))
   obtain rfl := some_inj h_4
   exact cu
  ·refine h_movb rfl hc_5 wz (h_op (vS cutset_2) wa rfl (h_op (vB (sEq cutset_2 (⟨#[]⟩ : ByteArray))) wa rfl (h_op (vB (sEq cutset_2 (⟨#[]⟩ : ByteArray))) wz rfl (h_nil ?_))))
   obtain rfl := some_inj h_4
   exact cu
 ·rintro ⟨⟩ _ sl_ H_ hp_ hq_
  refine wH_at _ hp_ hq_ ?_
  rcases cond_some hF with ⟨hc_6, hF⟩ | ⟨hc_6, hF⟩
  ·refine wH_ift rfl hc_6 (wH_seq (wH_region (h_op (vS s_1) wz rfl (h_op (vS s_1) wz rfl (h_nil ?_)))))
   obtain rfl := some_inj hF
   exact wH_ret (fin0 (.inr rfl) [(vS s_1)] ⟨rfl, trivial⟩ rfl rfl rfl)
  ·refine wH_iff rfl hc_6 (wH_skip (wH_seq (wH_seq ?_)))
   obtain ⟨v_7, h_8, hF⟩ := bind_some hF
   refine wH_join (β := Unit) (fun _ => ([(0, (vS s_1)), (1, (vS cutset_2)), (21, (vB v_7))] : List (Nat × V))) (fun _ => ([] : Hp)) (fun _ => True) ?_ ?_
   ·refine wH_region (h_op (vS cutset_2) wz rfl (h_lens un9 rfl wz (h_op (vB ((cutset_2.size : Int) == 1)) wz rfl ?_)))
    rcases cond_some h_8 with ⟨hc_9, h_8⟩ | ⟨hc_9, h_8⟩
    ·refine h_movb rfl hc_9 wz (h_op (vS cutset_2) wa rfl ?_)
     obtain ⟨b_10, hy_11, h_8⟩ := bind_some h_8
     refine h_idxs un9 rfl rfl hy_11 wa (h_op (vB (decide ((b_10.toNat : Int) < 128))) wa rfl (h_op (vB (decide ((b_10.toNat : Int) < 128))) wz rfl (h_nil ?_)))
     obtain rfl := some_inj h_8
     exact cu
    ·refine h_movb rfl hc_9 wz (h_skip wa (h_skip wa (h_skip wa (h_op (vB false) wz rfl (h_nil ?_)))))
     obtain rfl := some_inj h_8
     exact cu
   ·rintro ⟨⟩ _ sl_ H_ hp_ hq_
    refine wH_at _ hp_ hq_ ?_
    rcases cond_some hF with ⟨hc_12, hF⟩ | ⟨hc_12, hF⟩
    ·refine wH_ift rfl hc_12 (wH_seq (wH_draws (h_op (vS s_1) wz rfl (h_op (vS cutset_2) wz rfl ?_))))
     obtain ⟨b_13, hy_14, hF⟩ := bind_some hF
     refine h_idxs un9 rfl rfl hy_14 wz ?_
     obtain ⟨r_15, hr_16, hF⟩ := bind_some hF
     refine h_call0 (strings_trimRightByte_ok hr_16) rfl hb285 rfl rfl rfl rfl wz (h_op (vS cutset_2) wz rfl ?_)
     obtain ⟨b_17, hy_18, hF⟩ := bind_some hF
     refine h_idxs un9 rfl rfl hy_18 wz ?_
     obtain ⟨r_19, hr_20, hF⟩ := bind_some hF
     refine h_call0 (strings_trimLeftByte_ok hr_20) rfl hb284 rfl rfl rfl rfl wz (h_op (vS r_19) wz rfl (h_nil ?_))
     obtain rfl := some_inj hF
     exact wH_ret (fin0 (.inr rfl) [(vS r_19)] ⟨rfl, trivial⟩ rfl rfl rfl)
    ·refine wH_iff rfl hc_12 (wH_skip (wH_seq (wH_seq (wH_region (h_op (vS cutset_2) wz rfl ?_)))))
     cases hF
theorem strings_Contains_ok {x0 : ByteArray} {x1 : ByteArray} {r : Bool} (hF : strings_Contains x0 x1 = some r) :
  FnM Tryz.prog 239 [(vS x0), (vS x1)] [] (vB r) [] :=
 contains_ok Tryz.strings_Contains laid_maxlen hF
theorem kit_IsPlain_ok {s_1 : ByteArray} {r : Bool} (hF : kit_IsPlain s_1 = some r) :
  FnM Tryz.prog 243 [(vS s_1)] [] (vB r) [] := by
 refine FnM.of_wH ⟨Tryz.prog, 33, [], []⟩ rfl Tryz.func243 rfl rfl (Nat.le_of_ble_eq_true rfl) (by kernel_rfl) ?_
 unfold kit_IsPlain at hF
 refine wH_seq (wH_region (h_op (vB false) wz rfl (h_nil (wH_seq (wH_seq (wH_region (h_op (vI 0) wz rfl (h_nil ?_))))))))
 obtain ⟨o_10, hj_11, hF⟩ := bind_some hF
 obtain ⟨nq_31, hj_11⟩ := loopO_iter hj_11
 refine wH_join (β := (Int)) (fun (s_7 : Int) => ([(0, (vS s_1))] : List (Nat × V))) (fun (s_7 : Int) => ([] : Hp)) (fun p => o_10 = .go p) ?_ ?_
 ·refine wH_block (wH_loop (β := Nat × (Int)) (fun p => (fun (k_2 : Nat) (s_7 : Int) => ([(0, (vS s_1)), (3, (vI s_7))] : List (Nat × V))) p.1 p.2) (fun p => (fun (k_2 : Nat) (s_7 : Int) => ([] : Hp)) p.1 p.2) (fun p => iterN (fun s => kit_IsPlain_L1 s_1 s) p.1 p.2 = some o_10) (fun p => p.1) (nq_31, 0) hj_11 rfl (pre_r rfl) ?_)
  rintro ⟨k_2, s_7⟩ hL_9
  dsimp only at hL_9
  cases k_2 with
  | zero => cases hL_9
  | succ k_2 =>
   obtain ⟨c_, hc_8, hL_9⟩ := bind_some hL_9
   unfold kit_IsPlain_L1 at hc_8
   refine wH_seq (wH_seq (wH_region (h_op (vI s_7) wz rfl (h_op (vS s_1) wz rfl (h_lens un9 rfl wz (h_op (vB (decide (s_7 < (s_1.size : Int)))) wz rfl (h_nil ?_)))))))
   rcases cond_some hc_8 with ⟨hc_12, hc_8⟩ | ⟨hc_12, hc_8⟩
   ·refine wH_ift rfl hc_12 (wH_skip (wH_seq (wH_block (wH_seq ?_))))
    obtain ⟨v_13, h_14, hc_8⟩ := bind_some hc_8
    refine wH_join (β := Unit) (fun _ => ([(0, (vS s_1)), (3, (vI s_7)), (19, (vB v_13))] : List (Nat × V))) (fun _ => ([] : Hp)) (fun _ => True) ?_ ?_
    ·refine wH_region (h_op (vS s_1) wz rfl (h_op (vI s_7) wz rfl ?_))
     obtain ⟨b_15, hy_16, h_14⟩ := bind_some h_14
     refine h_idxs un9 rfl rfl hy_16 wz (h_op (vB (decide ((b_15.toNat : Int) < 32))) wz rfl ?_)
     rcases cond_some h_14 with ⟨hc_17, h_14⟩ | ⟨hc_17, h_14⟩
     ·refine h_movb rfl hc_17 wz (h_skip wa (h_skip wa (h_skip wa (h_skip wa (h_op (vB true) wz rfl (h_nil ?_))))))
      obtain rfl := some_inj h_14
      exact cu
     ·refine h_movb rfl hc_17 wz (h_op (vS s_1) wa rfl (h_op (vI s_7) wa rfl ?_))
      obtain ⟨b_18, hy_19, h_14⟩ := bind_some h_14
      refine h_idxs un9 rfl rfl hy_19 wa (h_op (vB ((b_18.toNat : Int) == 127)) wa rfl (h_op (vB ((b_18.toNat : Int) == 127)) wz rfl (h_nil ?_)))
      obtain rfl := some_inj h_14
      exact cu
    ·rintro ⟨⟩ _ sl_ H_ hp_ hq_
     refine wH_at _ hp_ hq_ ?_
     rcases cond_some hc_8 with ⟨hc_20, hc_8⟩ | ⟨hc_20, hc_8⟩
     ·refine wH_ift rfl hc_20 (wH_seq (wH_region (h_op (vB false) wz rfl (h_nil ?_))))
      obtain rfl := some_inj hc_8
      obtain rfl := some_inj hL_9
      obtain rfl := some_inj hF
      exact wH_ret (fin0 (.inr rfl) [(vB false)] ⟨rfl, trivial⟩ rfl rfl rfl)
     ·refine wH_iff rfl hc_20 (wH_skip (wH_region (h_op (vI s_7) wz rfl (h_op (vI (w64 (s_7 + 1))) wz rfl (h_op (vI (w64 (s_7 + 1))) wz rfl (h_nil ?_))))))
      obtain rfl := some_inj hc_8
      exact loop_mk (k_2, (w64 (s_7 + 1))) hL_9 (Nat.lt_succ_self _) rfl (pre_r rfl)
   ·refine wH_iff rfl hc_12 (wH_exit ?_)
    obtain rfl := some_inj hc_8
    obtain rfl := some_inj hL_9
    exact cut_mk (s_7) rfl rfl (pre_r rfl)
 ·rintro s_7 ho_ sl_ H_ hp_ hq_
  subst ho_
  refine wH_at _ hp_ hq_ (wH_seq ?_)
  obtain ⟨v_21, h_22, hF⟩ := bind_some hF
  refine wH_join (β := Unit) (fun _ => ([(2, (vB v_21))] : List (Nat × V))) (fun _ => ([] : Hp)) (fun _ => True) ?_ ?_
  ·refine wH_region (h_op (vS s_1) wz rfl ?_)
   obtain ⟨r_23, hr_24, h_22⟩ := bind_some h_22
   refine h_call0 (unicode_utf8_ValidString_ok hr_24) rfl hb235 rfl rfl rfl rfl wz ?_
   rcases cond_some h_22 with ⟨hc_25, h_22⟩ | ⟨hc_25, h_22⟩
   ·refine h_movb rfl hc_25 wz (h_op (vS s_1) wa rfl ?_)
    obtain ⟨r_26, hr_27, h_22⟩ := bind_some h_22
    refine h_call0 (strings_Trim_ok hr_27) rfl hb238 rfl rfl rfl rfl wa (h_op (vS s_1) wa rfl (h_op (vB (sEq r_26 s_1)) wa rfl (h_op (vB (sEq r_26 s_1)) wz rfl ?_)))
    rcases cond_some h_22 with ⟨hc_28, h_22⟩ | ⟨hc_28, h_22⟩
    ·refine h_movb rfl hc_28 wz (h_op (vS s_1) wa rfl ?_)
     obtain ⟨r_29, hr_30, h_22⟩ := bind_some h_22
     refine h_call0 (strings_Contains_ok hr_30) rfl hb239 rfl rfl rfl rfl wa (h_op (vB (!r_29)) wa rfl (h_op (vB (!r_29)) wz rfl (h_op (vB (!r_29)) wz rfl (h_nil ?_))))
     obtain rfl := some_inj h_22
     exact cu
    ·refine h_movb rfl hc_28 wz (h_skip wa (h_skip wa (h_skip wa (h_op (vB false) wz rfl (h_op (vB false) wz rfl (h_nil ?_))))))
     obtain rfl := some_inj h_22
     exact cu
   ·refine h_movb rfl hc_25 wz (h_skip wa (h_skip wa (h_skip wa (h_skip wa (h_op (vB false) wz rfl (h_op (vB false) wz rfl (h_skip wa (h_skip wa (h_skip wa (h_op (vB false) wz rfl (h_op (vB false) wz rfl (h_nil ?_))))))))))))
    obtain rfl := some_inj h_22
    exact cu
  ·rintro ⟨⟩ _ sl_ H_ hp_ hq_
   refine wH_at _ hp_ hq_ ?_
   obtain rfl := some_inj hF
   exact wH_ret (fin0 (.inr rfl) [(vB v_21)] ⟨rfl, trivial⟩ rfl rfl rfl)
theorem alert_alertFault_ok {a_1 : Alert} {r : Int} (hF : alert_alertFault a_1 = some r) :
  FnM Tryz.prog 200 [(.d (.agg (Alert.enc a_1)))] [] (vI r) [] := by
 refine FnM.of_wH ⟨Tryz.prog, 92, [], []⟩ rfl Tryz.func200 rfl rfl (Nat.le_of_ble_eq_true rfl) (by kernel_rfl) ?_
 unfold alert_alertFault at hF
 refine wH_seq (wH_region (h_box 0 (.inl rfl) [(vS a_1.Id), (vS a_1.Sender), (vI a_1.Kind), (vL eS a_1.Refs), (vI a_1.At), (vI a_1.Until), (vI a_1.Weight), (vL Rect.enc a_1.Areas), (vS a_1.Text)] rfl rfl wz (fun n_2 => h_op (vI 0) wz rfl (h_nil (wH_seq (wH_seq ?_))))))
 obtain ⟨v_3, h_4, hF⟩ := bind_some hF
 refine wH_join (β := Unit) (fun _ => ([(1, (.ref n_2 0 0)), (17, (vB v_3))] : List (Nat × V))) (fun _ => ([(n_2, some (.cells 9 [(vS a_1.Id), (vS a_1.Sender), (vI a_1.Kind), (vL eS a_1.Refs), (vI a_1.At), (vI a_1.Until), (vI a_1.Weight), (vL Rect.enc a_1.Areas), (vS a_1.Text)]))] : Hp)) (fun _ => True) ?_ ?_
 ·refine wH_region (h_far pl82_0 rfl 0 rfl wz (h_ldr 0 0 il ft sz9 ag9 rfl rfl (vS a_1.Id) rfl wz ?_))
  obtain ⟨r_5, hr_6, h_4⟩ := bind_some h_4
  refine h_call0 (kit_IsKey_ok hr_6) rfl hb124 rfl rfl rfl rfl wz (h_op (vB (!r_5)) wz rfl ?_)
  rcases cond_some h_4 with ⟨hc_7, h_4⟩ | ⟨hc_7, h_4⟩
  ·refine h_movb rfl hc_7 wz (h_skip wa (h_skip wa (h_skip wa (h_skip wa (h_op (vB true) wz rfl (h_nil ?_))))))
   obtain rfl := some_inj h_4
   exact cu
  ·refine h_movb rfl hc_7 wz (h_far pl82_1 rfl 1 rfl wa (h_ldr 0 0 il ft sz9 ag9 rfl rfl (vS a_1.Sender) rfl wa ?_))
   obtain ⟨r_8, hr_9, h_4⟩ := bind_some h_4
   refine h_call0 (kit_IsKey_ok hr_9) rfl hb124 rfl rfl rfl rfl wa (h_op (vB (!r_8)) wa rfl (h_op (vB (!r_8)) wz rfl (h_nil ?_)))
   obtain rfl := some_inj h_4
   exact cu
 ·rintro ⟨⟩ _ sl_ H_ hp_ hq_
  refine wH_at _ hp_ hq_ ?_
  rcases cond_some hF with ⟨hc_10, hF⟩ | ⟨hc_10, hF⟩
  ·refine wH_ift rfl hc_10 (wH_seq (wH_region (h_op (vI 5) wz rfl (h_nil ?_))))
   obtain rfl := some_inj hF
   exact wH_ret (fin0 (.inr rfl) [(vI 5)] ⟨rfl, trivial⟩ rfl rfl rfl)
  ·refine wH_iff rfl hc_10 (wH_skip (wH_seq (wH_seq (wH_region (h_far pl82_2 rfl 2 rfl wz (h_ldr 0 0 il ft sz3 ag3 rfl rfl (vI a_1.Kind) rfl wz ?_))))))
   obtain ⟨r_11, hr_12, hF⟩ := bind_some hF
   refine h_call0 (kit_Outside_ok hr_12) rfl hb86 rfl rfl rfl rfl wz (h_nil ?_)
   rcases cond_some hF with ⟨hc_13, hF⟩ | ⟨hc_13, hF⟩
   ·refine wH_ift rfl hc_13 (wH_seq (wH_region (h_op (vI 4) wz rfl (h_nil ?_))))
    obtain rfl := some_inj hF
    exact wH_ret (fin0 (.inr rfl) [(vI 4)] ⟨rfl, trivial⟩ rfl rfl rfl)
   ·refine wH_iff rfl hc_13 (wH_skip (wH_seq (wH_seq (wH_region (h_ldr 0 0 il ft sz82 ag82 rfl rfl (.d (.agg (Alert.enc a_1))) rfl wz ?_)))))
    obtain ⟨r_14, hr_15, hF⟩ := bind_some hF
    refine h_call0 (alert_refsFault_ok hr_15) rfl hb242 rfl rfl rfl rfl wz (h_op (vI r_14) wz rfl (h_nil (wH_seq (wH_region (h_op (vI r_14) wz rfl (h_op (vB (r_14 != 0)) wz rfl (h_nil ?_)))))))
    rcases cond_some hF with ⟨hc_16, hF⟩ | ⟨hc_16, hF⟩
    ·refine wH_ift rfl hc_16 (wH_seq (wH_region (h_op (vI r_14) wz rfl (h_op (vI r_14) wz rfl (h_nil ?_)))))
     obtain rfl := some_inj hF
     exact wH_ret (fin0 (.inr rfl) [(vI r_14)] ⟨rfl, trivial⟩ rfl rfl rfl)
    ·refine wH_iff rfl hc_16 (wH_skip (wH_seq (wH_seq ?_)))
     obtain ⟨v_17, h_18, hF⟩ := bind_some hF
     refine wH_join (β := Unit) (fun _ => ([(1, (.ref n_2 0 0)), (45, (vB v_17))] : List (Nat × V))) (fun _ => ([(n_2, some (.cells 9 [(vS a_1.Id), (vS a_1.Sender), (vI a_1.Kind), (vL eS a_1.Refs), (vI a_1.At), (vI a_1.Until), (vI a_1.Weight), (vL Rect.enc a_1.Areas), (vS a_1.Text)]))] : Hp)) (fun _ => True) ?_ ?_
     ·refine wH_region (h_far pl82_4 rfl 4 rfl wz (h_ldr 0 0 il ft sz3 ag3 rfl rfl (vI a_1.At) rfl wz ?_))
      obtain ⟨r_19, hr_20, h_18⟩ := bind_some h_18
      refine h_call0 (kit_IsMoment_ok hr_20) rfl hb136 rfl rfl rfl rfl wz (h_op (vB (!r_19)) wz rfl ?_)
      rcases cond_some h_18 with ⟨hc_21, h_18⟩ | ⟨hc_21, h_18⟩
      ·refine h_movb rfl hc_21 wz (h_skip wa (h_skip wa (h_skip wa (h_skip wa (h_skip wa (h_skip wa (h_skip wa (h_skip wa (h_skip wa (h_op (vB true) wz rfl (h_op (vB true) wz rfl (h_skip wa (h_skip wa (h_skip wa (h_op (vB true) wz rfl (h_nil ?_))))))))))))))))
       obtain rfl := some_inj h_18
       exact cu
      ·refine h_movb rfl hc_21 wz (h_far pl82_5 rfl 5 rfl wa (h_ldr 0 0 il ft sz3 ag3 rfl rfl (vI a_1.Until) rfl wa (h_far pl82_4 rfl 4 rfl wa (h_ldr 0 0 il ft sz3 ag3 rfl rfl (vI a_1.At) rfl wa (h_op (vI (w64 (a_1.At + 1))) wa rfl (h_far pl82_4 rfl 4 rfl wa (h_ldr 0 0 il ft sz3 ag3 rfl rfl (vI a_1.At) rfl wa (h_op (vI (w64 (a_1.At + 2592000000))) wa rfl ?_))))))))
       obtain ⟨r_22, hr_23, h_18⟩ := bind_some h_18
       refine h_call0 (kit_Outside_ok hr_23) rfl hb86 rfl rfl rfl rfl wa (h_op (vB r_22) wz rfl ?_)
       rcases cond_some h_18 with ⟨hc_24, h_18⟩ | ⟨hc_24, h_18⟩
       ·refine h_movb rfl hc_24 wz (h_skip wa (h_skip wa (h_skip wa (h_op (vB true) wz rfl (h_nil ?_)))))
        obtain rfl := some_inj h_18
        exact cu
       ·refine h_movb rfl hc_24 wz (h_far pl82_6 rfl 6 rfl wa (h_ldr 0 0 il ft sz3 ag3 rfl rfl (vI a_1.Weight) rfl wa ?_))
        obtain ⟨r_25, hr_26, h_18⟩ := bind_some h_18
        refine h_call0 (kit_Outside_ok hr_26) rfl hb86 rfl rfl rfl rfl wa (h_op (vB r_25) wz rfl (h_nil ?_))
        obtain rfl := some_inj h_18
        exact cu
     ·rintro ⟨⟩ _ sl_ H_ hp_ hq_
      refine wH_at _ hp_ hq_ ?_
      rcases cond_some hF with ⟨hc_27, hF⟩ | ⟨hc_27, hF⟩
      ·refine wH_ift rfl hc_27 (wH_seq (wH_region (h_op (vI 1) wz rfl (h_nil ?_))))
       obtain rfl := some_inj hF
       exact wH_ret (fin0 (.inr rfl) [(vI 1)] ⟨rfl, trivial⟩ rfl rfl rfl)
      ·refine wH_iff rfl hc_27 (wH_skip (wH_seq (wH_seq (wH_region (h_far pl82_7 rfl 7 rfl wz (h_ldr 0 0 il ft sz50 ag50 rfl rfl (vL Rect.enc a_1.Areas) rfl wz (h_len un50 rfl wz (h_op (vB (decide ((a_1.Areas.length : Int) > 20))) wz rfl (h_nil ?_)))))))))
       rcases cond_some hF with ⟨hc_28, hF⟩ | ⟨hc_28, hF⟩
       ·refine wH_ift rfl hc_28 (wH_seq (wH_region (h_op (vI 2) wz rfl (h_nil ?_))))
        obtain rfl := some_inj hF
        exact wH_ret (fin0 (.inr rfl) [(vI 2)] ⟨rfl, trivial⟩ rfl rfl rfl)
       ·refine wH_iff rfl hc_28 (wH_skip (wH_seq (wH_seq (wH_region (h_far pl82_7 rfl 7 rfl wz (h_ldr 0 0 il ft sz50 ag50 rfl rfl (vL Rect.enc a_1.Areas) rfl wz (h_len un50 rfl wz (h_op (vI 0) wz rfl (h_nil ?_)))))))))
        obtain ⟨o_37, hj_38, hF⟩ := bind_some hF
        obtain ⟨hn_33, hj_38⟩ := forL_some hj_38
        refine wH_join (β := (Unit)) (fun (s_34 : Unit) => ([(1, (.ref n_2 0 0))] : List (Nat × V))) (fun (s_34 : Unit) => ([(n_2, some (.cells 9 [(vS a_1.Id), (vS a_1.Sender), (vI a_1.Kind), (vL eS a_1.Refs), (vI a_1.At), (vI a_1.Until), (vI a_1.Weight), (vL Rect.enc a_1.Areas), (vS a_1.Text)]))] : Hp)) (fun p => o_37 = .go p) ?_ ?_
        ·refine wH_block (wH_loop (β := Nat × (List Rect) × (Unit)) (fun p => (fun (k_29 : Nat) (l_30 : List Rect) (s_34 : Unit) => ([(1, (.ref n_2 0 0)), (51, (vL Rect.enc a_1.Areas)), (52, (vI (a_1.Areas.length : Int))), (53, (vI (k_29 : Int)))] : List (Nat × V))) p.1 p.2.1 p.2.2) (fun p => (fun (k_29 : Nat) (l_30 : List Rect) (s_34 : Unit) => ([(n_2, some (.cells 9 [(vS a_1.Id), (vS a_1.Sender), (vI a_1.Kind), (vL eS a_1.Refs), (vI a_1.At), (vI a_1.Until), (vI a_1.Weight), (vL Rect.enc a_1.Areas), (vS a_1.Text)]))] : Hp)) p.1 p.2.1 p.2.2) (fun p => forR (fun k x s => alert_alertFault_L1 k x s) p.2.1 p.1 p.2.2 = some o_37 ∧ (a_1.Areas).drop p.1 = p.2.1) (fun p => p.2.1.length) (0, a_1.Areas, ()) ⟨hj_38, rfl⟩ rfl (pre_r rfl) ?_)
         rintro ⟨k_29, l_30, s_34⟩ ⟨hL_36, hD_32⟩
         dsimp only at hL_36 hD_32
         cases l_30 with
         | nil =>
          obtain rfl := some_inj hL_36
          refine wH_seq (wH_region (h_op (vB (decide ((k_29 : Int) < (a_1.Areas.length : Int)))) wz rfl (h_nil ?_)))
          refine wH_seq (wH_iff rfl (drop_nil hD_32) (wH_exit ?_))
          exact cut_mk (s_34) rfl rfl (pre_r rfl)
         | cons x_31 l_30 =>
          obtain ⟨c_, hc_35, hL_36⟩ := bind_some hL_36
          refine wH_seq (wH_region (h_op (vB (decide ((k_29 : Int) < (a_1.Areas.length : Int)))) wz rfl (h_nil ?_)))
          refine wH_seq (wH_ift rfl (drop_cons hD_32) (wH_skip ?_))
          unfold alert_alertFault_L1 at hc_35
          refine wH_seq (wH_block (wH_seq (wH_region (h_ia es50 rfl rfl (drop_idx hD_32) rfl wz (h_ldc sz45 ag45 rfl (.d (.agg (Rect.enc x_31))) rfl wz (h_alloc 0 (.inl rfl) z45 rfl wz (fun n_39 => h_str 0 il ft 1 sz45 rfl rfl [(vI x_31.X), (vI x_31.Y), (vI x_31.W), (vI x_31.H)] rfl wz (h_nil (wH_seq (wH_region (h_ldr 0 1 il ft sz45 ag45 rfl rfl (.d (.agg (Rect.enc x_31))) rfl wz ?_)))))))))))
          obtain ⟨r_40, hr_41, hc_35⟩ := bind_some hc_35
          refine h_call0 (screen_CheckRect_ok hr_41) rfl hb96 rfl rfl rfl rfl wz (h_op (vI r_40) wz rfl (h_nil (wH_seq (wH_region (h_op (vI r_40) wz rfl (h_op (vB (r_40 != 0)) wz rfl (h_nil ?_)))))))
          rcases cond_some hc_35 with ⟨hc_42, hc_35⟩ | ⟨hc_42, hc_35⟩
          ·refine wH_ift rfl hc_42 (wH_seq (wH_region (h_op (vI r_40) wz rfl (h_op (vI r_40) wz rfl (h_nil ?_)))))
           obtain rfl := some_inj hc_35
           obtain rfl := some_inj hL_36
           obtain rfl := some_inj hF
           exact wH_ret (fin0 (.inr rfl) [(vI r_40)] ⟨rfl, trivial⟩ rfl rfl rfl)
          ·refine wH_iff rfl hc_42 (wH_skip (wH_region (h_opw (w64_next hD_32 hn_33) wz rfl (h_op (vI ((k_29 + 1 : Nat) : Int)) wz rfl (h_nil ?_)))))
           obtain rfl := some_inj hc_35
           exact loop_mk (k_29 + 1, l_30, ()) ⟨hL_36, drop_next hD_32⟩ (Nat.lt_succ_self _) rfl (pre_r rfl)
        ·rintro s_34 ho_ sl_ H_ hp_ hq_
         subst ho_
         refine wH_at _ hp_ hq_ (wH_seq (wH_region (h_far pl82_2 rfl 2 rfl wz (h_ldr 0 0 il ft sz3 ag3 rfl rfl (vI a_1.Kind) rfl wz (h_op (vB (a_1.Kind == 3)) wz rfl (h_op (vB (a_1.Kind == 3)) wz rfl (h_nil (wH_seq (wH_block (wH_seq (wH_region (h_op (vB (a_1.Kind == 3)) wz rfl (h_far pl82_7 rfl 7 rfl wz (h_ldr 0 0 il ft sz50 ag50 rfl rfl (vL Rect.enc a_1.Areas) rfl wz (h_len un50 rfl wz (h_op (vB ((a_1.Areas.length : Int) == 0)) wz rfl (h_bneq un4 rfl rfl wz (h_op (vB (!((a_1.Kind == 3) == ((a_1.Areas.length : Int) == 0)))) wz rfl (h_nil ?_)))))))))))))))))))
         rcases cond_some hF with ⟨hc_43, hF⟩ | ⟨hc_43, hF⟩
         ·refine wH_ift rfl hc_43 (wH_seq (wH_region (h_op (vI 3) wz rfl (h_nil ?_))))
          obtain rfl := some_inj hF
          exact wH_ret (fin0 (.inr rfl) [(vI 3)] ⟨rfl, trivial⟩ rfl rfl rfl)
         ·refine wH_iff rfl hc_43 (wH_seq (wH_region (h_far pl82_8 rfl 8 rfl wz (h_ldr 0 0 il ft sz9 ag9 rfl rfl (vS a_1.Text) rfl wz (h_lens un9 rfl wz (h_op (vB (decide ((a_1.Text.size : Int) > 500))) wz rfl (h_op (vB (decide ((a_1.Text.size : Int) > 500))) wz rfl (h_nil ?_))))))))
          rcases cond_some hF with ⟨hc_44, hF⟩ | ⟨hc_44, hF⟩
          ·refine wH_ift rfl hc_44 (wH_seq (wH_region (h_op (vI 2) wz rfl (h_nil ?_))))
           obtain rfl := some_inj hF
           exact wH_ret (fin0 (.inr rfl) [(vI 2)] ⟨rfl, trivial⟩ rfl rfl rfl)
          ·refine wH_iff rfl hc_44 (wH_seq ?_)
           obtain ⟨v_45, h_46, hF⟩ := bind_some hF
           refine wH_join (β := Unit) (fun _ => ([(78, (vB v_45))] : List (Nat × V))) (fun _ => ([(n_2, some (.cells 9 [(vS a_1.Id), (vS a_1.Sender), (vI a_1.Kind), (vL eS a_1.Refs), (vI a_1.At), (vI a_1.Until), (vI a_1.Weight), (vL Rect.enc a_1.Areas), (vS a_1.Text)]))] : Hp)) (fun _ => True) ?_ ?_
           ·refine wH_region (h_far pl82_8 rfl 8 rfl wz (h_ldr 0 0 il ft sz9 ag9 rfl rfl (vS a_1.Text) rfl wz ?_))
            obtain ⟨r_47, hr_48, h_46⟩ := bind_some h_46
            refine h_call0 (kit_IsPlain_ok hr_48) rfl hb243 rfl rfl rfl rfl wz (h_op (vB (!r_47)) wz rfl ?_)
            rcases cond_some h_46 with ⟨hc_49, h_46⟩ | ⟨hc_49, h_46⟩
            ·refine h_movb rfl hc_49 wz (h_skip wa (h_skip wa (h_skip wa (h_skip wa (h_skip (wn rfl rfl) (h_skip (wn rfl rfl) (h_skip wa (h_op (vB true) wz rfl (h_op (vB true) wz rfl (h_nil ?_))))))))))
             obtain rfl := some_inj h_46
             exact cu
            ·refine h_movb rfl hc_49 wz (h_far pl82_8 rfl 8 rfl wa (h_ldr 0 0 il ft sz9 ag9 rfl rfl (vS a_1.Text) rfl wa (h_op (vB (sEq a_1.Text (⟨#[]⟩ : ByteArray))) wa rfl ?_)))
             rcases cond_some h_46 with ⟨hc_50, h_46⟩ | ⟨hc_50, h_46⟩
             ·refine h_movb rfl hc_50 wa (h_op (vB (a_1.Kind == 3)) wa rfl (h_op (vB (!(a_1.Kind == 3))) wa rfl (h_op (vB (!(a_1.Kind == 3))) wa rfl (h_op (vB (!(a_1.Kind == 3))) wz rfl (h_op (vB (!(a_1.Kind == 3))) wz rfl (h_nil ?_))))))
              obtain rfl := some_inj h_46
              exact cu
             ·refine h_movb rfl hc_50 wa (h_skip wa (h_skip wa (h_op (vB false) wa rfl (h_op (vB false) wz rfl (h_op (vB false) wz rfl (h_nil ?_))))))
              obtain rfl := some_inj h_46
              exact cu
           ·rintro ⟨⟩ _ sl_ H_ hp_ hq_
            refine wH_at _ hp_ hq_ ?_
            rcases cond_some hF with ⟨hc_51, hF⟩ | ⟨hc_51, hF⟩
            ·refine wH_ift rfl hc_51 (wH_seq (wH_region (h_op (vI 3) wz rfl (h_nil ?_))))
             obtain rfl := some_inj hF
             exact wH_ret (fin0 (.inr rfl) [(vI 3)] ⟨rfl, trivial⟩ rfl rfl rfl)
            ·refine wH_iff rfl hc_51 (wH_skip (wH_seq (wH_region (h_op (vI 0) wz rfl (h_nil ?_)))))
             obtain rfl := some_inj hF
             exact wH_ret (fin0 (.inr rfl) [(vI 0)] ⟨rfl, trivial⟩ rfl rfl rfl)
theorem cmp_isNaN_int_ok {x_1 : Int} {r : Bool} (hF : cmp_isNaN_int x_1 = some r) :
  FnM Tryz.prog 205 [(vI x_1)] [] (vB r) [] := by
 refine FnM.of_wH ⟨Tryz.prog, 6, [], []⟩ rfl Tryz.func205 rfl rfl (Nat.le_of_ble_eq_true rfl) (by kernel_rfl) ?_
 unfold cmp_isNaN_int at hF
 refine wH_seq (wH_region (h_op (vB false) wz rfl (h_nil (wH_seq (wH_region (h_op (vI x_1) wz rfl (h_op (vI x_1) wz rfl (h_op (vB (x_1 != x_1)) wz rfl (h_op (vB (x_1 != x_1)) wz rfl (h_nil ?_))))))))))
 obtain rfl := some_inj hF
 exact wH_ret (fin0 (.inr rfl) [(vB (x_1 != x_1))] ⟨rfl, trivial⟩ rfl rfl rfl)
theorem cmp_Compare_int_ok {x_1 : Int} {y_2 : Int} {r : Int} (hF : cmp_Compare_int x_1 y_2 = some r) :
  FnM Tryz.prog 147 [(vI x_1), (vI y_2)] [] (vI r) [] := by
 refine FnM.of_wH ⟨Tryz.prog, 20, [], []⟩ rfl Tryz.func147 rfl rfl (Nat.le_of_ble_eq_true rfl) (by kernel_rfl) ?_
 unfold cmp_Compare_int at hF
 refine wH_seq (wH_region (h_op (vI 0) wz rfl (h_nil (wH_seq (wH_region (h_op (vI x_1) wz rfl ?_))))))
 obtain ⟨r_3, hr_4, hF⟩ := bind_some hF
 refine h_call0 (cmp_isNaN_int_ok hr_4) rfl hb205 rfl rfl rfl rfl wz (h_op (vB r_3) wz rfl (h_nil (wH_seq (wH_region (h_op (vI y_2) wz rfl ?_)))))
 obtain ⟨r_5, hr_6, hF⟩ := bind_some hF
 refine h_call0 (cmp_isNaN_int_ok hr_6) rfl hb205 rfl rfl rfl rfl wz (h_op (vB r_5) wz rfl (h_nil (wH_seq (wH_seq (wH_region (h_op (vB r_3) wz rfl (h_nil ?_)))))))
 rcases cond_some hF with ⟨hc_7, hF⟩ | ⟨hc_7, hF⟩
 ·refine wH_ift rfl hc_7 (wH_seq (wH_seq (wH_region (h_op (vB r_5) wz rfl (h_nil ?_)))))
  rcases cond_some hF with ⟨hc_8, hF⟩ | ⟨hc_8, hF⟩
  ·refine wH_ift rfl hc_8 (wH_seq (wH_region (h_op (vI 0) wz rfl (h_nil ?_))))
   obtain rfl := some_inj hF
   exact wH_ret (fin0 (.inr rfl) [(vI 0)] ⟨rfl, trivial⟩ rfl rfl rfl)
  ·refine wH_iff rfl hc_8 (wH_skip (wH_seq (wH_region (h_op (vI (-1)) wz rfl (h_nil ?_)))))
   obtain rfl := some_inj hF
   exact wH_ret (fin0 (.inr rfl) [(vI (-1))] ⟨rfl, trivial⟩ rfl rfl rfl)
 ·refine wH_iff rfl hc_7 (wH_skip (wH_seq (wH_seq (wH_region (h_op (vB r_5) wz rfl (h_nil ?_))))))
  rcases cond_some hF with ⟨hc_9, hF⟩ | ⟨hc_9, hF⟩
  ·refine wH_ift rfl hc_9 (wH_seq (wH_region (h_op (vI 1) wz rfl (h_nil ?_))))
   obtain rfl := some_inj hF
   exact wH_ret (fin0 (.inr rfl) [(vI 1)] ⟨rfl, trivial⟩ rfl rfl rfl)
  ·refine wH_iff rfl hc_9 (wH_skip (wH_seq (wH_seq (wH_region (h_op (vI x_1) wz rfl (h_op (vI y_2) wz rfl (h_op (vB (decide (x_1 < y_2))) wz rfl (h_nil ?_))))))))
   rcases cond_some hF with ⟨hc_10, hF⟩ | ⟨hc_10, hF⟩
   ·refine wH_ift rfl hc_10 (wH_seq (wH_region (h_op (vI (-1)) wz rfl (h_nil ?_))))
    obtain rfl := some_inj hF
    exact wH_ret (fin0 (.inr rfl) [(vI (-1))] ⟨rfl, trivial⟩ rfl rfl rfl)
   ·refine wH_iff rfl hc_10 (wH_skip (wH_seq (wH_seq (wH_region (h_op (vI x_1) wz rfl (h_op (vI y_2) wz rfl (h_op (vB (decide (x_1 > y_2))) wz rfl (h_nil ?_))))))))
    rcases cond_some hF with ⟨hc_11, hF⟩ | ⟨hc_11, hF⟩
    ·refine wH_ift rfl hc_11 (wH_seq (wH_region (h_op (vI 1) wz rfl (h_nil ?_))))
     obtain rfl := some_inj hF
     exact wH_ret (fin0 (.inr rfl) [(vI 1)] ⟨rfl, trivial⟩ rfl rfl rfl)
    ·refine wH_iff rfl hc_11 (wH_skip (wH_seq (wH_region (h_op (vI 0) wz rfl (h_nil ?_)))))
     obtain rfl := some_inj hF
     exact wH_ret (fin0 (.inr rfl) [(vI 0)] ⟨rfl, trivial⟩ rfl rfl rfl)
theorem internal_bytealg_CompareString_ok {a_1 : ByteArray} {b_2 : ByteArray} {r : Int} (hF : internal_bytealg_CompareString a_1 b_2 = some r) :
  FnM Tryz.prog 197 [(vS a_1), (vS b_2)] [] (vI r) [] := by
 refine FnM.of_wH ⟨Tryz.prog, 8, [], []⟩ rfl Tryz.func197 rfl rfl (Nat.le_of_ble_eq_true rfl) (by kernel_rfl) ?_
 unfold internal_bytealg_CompareString at hF
 refine wH_seq (wH_region (h_op (vI 0) wz rfl (h_nil (wH_seq (wH_region (h_op (vS a_1) wz rfl (h_op (vS b_2) wz rfl (h_ext (ext_cmpB (f := 241) Tryz.func241 rfl rfl (by kernel_rfl) (by kernel_rfl) _ _) rfl nb241 rfl wz (h_op (vI (cmpB a_1 b_2)) wz rfl (h_nil ?_))))))))))
 obtain rfl := some_inj hF
 exact wH_ret (fin0 (.inr rfl) [(vI (cmpB a_1 b_2))] ⟨rfl, trivial⟩ rfl rfl rfl)
theorem strings_Compare_ok {a_1 : ByteArray} {b_2 : ByteArray} {r : Int} (hF : strings_Compare a_1 b_2 = some r) :
  FnM Tryz.prog 129 [(vS a_1), (vS b_2)] [] (vI r) [] := by
 refine FnM.of_wH ⟨Tryz.prog, 8, [], []⟩ rfl Tryz.func129 rfl rfl (Nat.le_of_ble_eq_true rfl) (by kernel_rfl) ?_
 unfold strings_Compare at hF
 refine wH_seq (wH_region (h_op (vI 0) wz rfl (h_nil (wH_seq (wH_region (h_op (vS a_1) wz rfl (h_op (vS b_2) wz rfl ?_)))))))
 obtain ⟨r_3, hr_4, hF⟩ := bind_some hF
 refine h_call0 (internal_bytealg_CompareString_ok hr_4) rfl hb197 rfl rfl rfl rfl wz (h_op (vI r_3) wz rfl (h_nil ?_))
 obtain rfl := some_inj hF
 exact wH_ret (fin0 (.inr rfl) [(vI r_3)] ⟨rfl, trivial⟩ rfl rfl rfl)
theorem cmp_Or_int_ok {vals_1 : (List Int)} {r : Int} (hF : cmp_Or_int vals_1 = some r) :
  FnM Tryz.prog 141 [(vL eI vals_1)] [] (vI r) [] := by
 refine FnM.of_wH ⟨Tryz.prog, 18, [], []⟩ rfl Tryz.func141 rfl rfl (Nat.le_of_ble_eq_true rfl) (by kernel_rfl) ?_
 unfold cmp_Or_int at hF
 refine wH_seq (wH_region (h_op (vI 0) wz rfl (h_nil (wH_seq (wH_region (h_op (vI 0) wz rfl (h_nil (wH_seq (wH_seq (wH_region (h_op (vL eI vals_1) wz rfl (h_len un22 rfl wz (h_op (vI 0) wz rfl (h_nil ?_))))))))))))))
 obtain ⟨o_10, hj_11, hF⟩ := bind_some hF
 obtain ⟨hn_6, hj_11⟩ := forL_some hj_11
 refine wH_join (β := (Unit)) (fun (s_7 : Unit) => ([(3, (vI 0))] : List (Nat × V))) (fun (s_7 : Unit) => ([] : Hp)) (fun p => o_10 = .go p) ?_ ?_
 ·refine wH_block (wH_loop (β := Nat × (List Int) × (Unit)) (fun p => (fun (k_2 : Nat) (l_3 : List Int) (s_7 : Unit) => ([(3, (vI 0)), (6, (vL eI vals_1)), (7, (vI (vals_1.length : Int))), (8, (vI (k_2 : Int)))] : List (Nat × V))) p.1 p.2.1 p.2.2) (fun p => (fun (k_2 : Nat) (l_3 : List Int) (s_7 : Unit) => ([] : Hp)) p.1 p.2.1 p.2.2) (fun p => forR (fun k x s => cmp_Or_int_L1 k x s) p.2.1 p.1 p.2.2 = some o_10 ∧ (vals_1).drop p.1 = p.2.1) (fun p => p.2.1.length) (0, vals_1, ()) ⟨hj_11, rfl⟩ rfl (pre_r rfl) ?_)
  rintro ⟨k_2, l_3, s_7⟩ ⟨hL_9, hD_5⟩
  dsimp only at hL_9 hD_5
  cases l_3 with
  | nil =>
   obtain rfl := some_inj hL_9
   refine wH_seq (wH_region (h_op (vB (decide ((k_2 : Int) < (vals_1.length : Int)))) wz rfl (h_nil ?_)))
   refine wH_seq (wH_iff rfl (drop_nil hD_5) (wH_exit ?_))
   exact cut_mk (s_7) rfl rfl (pre_r rfl)
  | cons x_4 l_3 =>
   obtain ⟨c_, hc_8, hL_9⟩ := bind_some hL_9
   refine wH_seq (wH_region (h_op (vB (decide ((k_2 : Int) < (vals_1.length : Int)))) wz rfl (h_nil ?_)))
   refine wH_seq (wH_ift rfl (drop_cons hD_5) (wH_skip ?_))
   unfold cmp_Or_int_L1 at hc_8
   refine wH_seq (wH_block (wH_seq (wH_region (h_ia es22 rfl rfl (drop_idx hD_5) rfl wz (h_ldc sz3 ag3 rfl (vI x_4) rfl wz (h_op (vI x_4) wz rfl (h_nil (wH_seq (wH_region (h_op (vI x_4) wz rfl (h_op (vI 0) wz rfl (h_op (vB (x_4 != 0)) wz rfl (h_nil ?_)))))))))))))
   rcases cond_some hc_8 with ⟨hc_12, hc_8⟩ | ⟨hc_12, hc_8⟩
   ·refine wH_ift rfl hc_12 (wH_seq (wH_region (h_op (vI x_4) wz rfl (h_op (vI x_4) wz rfl (h_nil ?_)))))
    obtain rfl := some_inj hc_8
    obtain rfl := some_inj hL_9
    obtain rfl := some_inj hF
    exact wH_ret (fin0 (.inr rfl) [(vI x_4)] ⟨rfl, trivial⟩ rfl rfl rfl)
   ·refine wH_iff rfl hc_12 (wH_skip (wH_region (h_opw (w64_next hD_5 hn_6) wz rfl (h_op (vI ((k_2 + 1 : Nat) : Int)) wz rfl (h_nil ?_)))))
    obtain rfl := some_inj hc_8
    exact loop_mk (k_2 + 1, l_3, ()) ⟨hL_9, drop_next hD_5⟩ (Nat.lt_succ_self _) rfl (pre_r rfl)
 ·rintro s_7 ho_ sl_ H_ hp_ hq_
  subst ho_
  refine wH_at _ hp_ hq_ (wH_seq (wH_region (h_op (vI 0) wz rfl (h_op (vI 0) wz rfl (h_nil ?_)))))
  obtain rfl := some_inj hF
  exact wH_ret (fin0 (.inr rfl) [(vI 0)] ⟨rfl, trivial⟩ rfl rfl rfl)
theorem alert_compare_ok {a_1 : Alert} {b_2 : Alert} {r : Int} (hF : alert_compare a_1 b_2 = some r) :
  FnM Tryz.prog 201 [(.d (.agg (Alert.enc a_1))), (.d (.agg (Alert.enc b_2)))] [] (vI r) [] := by
 refine FnM.of_wH ⟨Tryz.prog, 17, [], []⟩ rfl Tryz.func201 rfl rfl (Nat.le_of_ble_eq_true rfl) (by kernel_rfl) ?_
 unfold alert_compare at hF
 refine wH_seq (wH_region (h_box 0 (.inl rfl) [(vS a_1.Id), (vS a_1.Sender), (vI a_1.Kind), (vL eS a_1.Refs), (vI a_1.At), (vI a_1.Until), (vI a_1.Weight), (vL Rect.enc a_1.Areas), (vS a_1.Text)] rfl rfl wz (fun n_3 => h_box 0 (.inl rfl) [(vS b_2.Id), (vS b_2.Sender), (vI b_2.Kind), (vL eS b_2.Refs), (vI b_2.At), (vI b_2.Until), (vI b_2.Weight), (vL Rect.enc b_2.Areas), (vS b_2.Text)] rfl rfl wz (fun n_4 => h_op (vI 0) wz rfl (h_nil (wH_seq (wH_draws (h_far pl82_4 rfl 4 rfl wz (h_ldr 1 0 (.inr (by kernel_rfl)) (fun _ _ ag => trivial) sz3 ag3 rfl rfl (vI a_1.At) rfl wz (h_far pl82_4 rfl 4 rfl wz (h_ldr 3 1 (.inr (by kernel_rfl)) (fun _ _ ag => ⟨.inl ⟨rfl, rfl⟩, trivial⟩) sz3 ag3 rfl rfl (vI b_2.At) rfl wz ?_)))))))))))
 obtain ⟨r_5, hr_6, hF⟩ := bind_some hF
 refine h_call0 (cmp_Compare_int_ok hr_6) rfl hb147 rfl rfl rfl rfl wz (h_far pl82_0 rfl 0 rfl wz (h_ldr 6 0 (.inr (by kernel_rfl)) (fun _ _ ag => ⟨.inl ⟨rfl, rfl⟩, ⟨.inl ⟨rfl, rfl⟩, trivial⟩⟩) sz9 ag9 rfl rfl (vS a_1.Id) rfl wz (h_far pl82_0 rfl 0 rfl wz (h_ldr 8 1 (.inr (by kernel_rfl)) (fun _ _ ag => ⟨.inl ⟨rfl, rfl⟩, ⟨.inl ⟨rfl, rfl⟩, ⟨.inl ⟨rfl, rfl⟩, trivial⟩⟩⟩) sz9 ag9 rfl rfl (vS b_2.Id) rfl wz ?_))))
 obtain ⟨r_7, hr_8, hF⟩ := bind_some hF
 refine h_call0 (strings_Compare_ok hr_8) rfl hb129 rfl rfl rfl rfl wz (h_lit (([r_5, r_7] : List Int).map eI) es22 ez22 rfl rfl rfl rfl rfl wz ?_)
 obtain ⟨r_9, hr_10, hF⟩ := bind_some hF
 refine h_call0 (cmp_Or_int_ok hr_10) rfl hb141 rfl rfl rfl rfl wz (h_op (vI r_9) wz rfl (h_nil ?_))
 obtain rfl := some_inj hF
 exact wH_ret (fin0 (.inr rfl) [(vI r_9)] ⟨rfl, trivial⟩ rfl rfl rfl)
theorem alert_CheckAlerts_ok {l_1 : (List Alert)} {r : Int} (hF : alert_CheckAlerts l_1 = some r) :
  FnM Tryz.prog 132 [(vL Alert.enc l_1)] [] (vI r) [] := by
 refine FnM.of_wH ⟨Tryz.prog, 52, [], []⟩ rfl Tryz.func132 rfl rfl (Nat.le_of_ble_eq_true rfl) (by kernel_rfl) ?_
 unfold alert_CheckAlerts at hF
 refine wH_seq (wH_region (h_op (vI 0) wz rfl (h_nil (wH_seq (wH_seq (wH_region (h_op (vL Alert.enc l_1) wz rfl (h_len un78 rfl wz (h_op (vB (decide ((l_1.length : Int) > 300))) wz rfl (h_nil ?_))))))))))
 rcases cond_some hF with ⟨hc_2, hF⟩ | ⟨hc_2, hF⟩
 ·refine wH_ift rfl hc_2 (wH_seq (wH_region (h_op (vI 2) wz rfl (h_nil ?_))))
  obtain rfl := some_inj hF
  exact wH_ret (fin0 (.inr rfl) [(vI 2)] ⟨rfl, trivial⟩ rfl rfl rfl)
 ·refine wH_iff rfl hc_2 (wH_skip (wH_seq (wH_seq (wH_region (h_op (vL Alert.enc l_1) wz rfl (h_len un78 rfl wz (h_op (vI 0) wz rfl (h_nil ?_))))))))
  obtain ⟨o_11, hj_12, hF⟩ := bind_some hF
  obtain ⟨hn_7, hj_12⟩ := forL_some hj_12
  refine wH_join (β := (Unit)) (fun (s_8 : Unit) => ([(0, (vL Alert.enc l_1))] : List (Nat × V))) (fun (s_8 : Unit) => ([] : Hp)) (fun p => o_11 = .go p) ?_ ?_
  ·refine wH_block (wH_loop (β := Nat × (List Alert) × (Unit)) (fun p => (fun (k_3 : Nat) (l_4 : List Alert) (s_8 : Unit) => ([(0, (vL Alert.enc l_1)), (12, (vL Alert.enc l_1)), (13, (vI (l_1.length : Int))), (14, (vI (k_3 : Int)))] : List (Nat × V))) p.1 p.2.1 p.2.2) (fun p => (fun (k_3 : Nat) (l_4 : List Alert) (s_8 : Unit) => ([] : Hp)) p.1 p.2.1 p.2.2) (fun p => forR (fun k x s => alert_CheckAlerts_L1 l_1 k x s) p.2.1 p.1 p.2.2 = some o_11 ∧ (l_1).drop p.1 = p.2.1) (fun p => p.2.1.length) (0, l_1, ()) ⟨hj_12, rfl⟩ rfl (pre_r rfl) ?_)
   rintro ⟨k_3, l_4, s_8⟩ ⟨hL_10, hD_6⟩
   dsimp only at hL_10 hD_6
   cases l_4 with
   | nil =>
    obtain rfl := some_inj hL_10
    refine wH_seq (wH_region (h_op (vB (decide ((k_3 : Int) < (l_1.length : Int)))) wz rfl (h_nil ?_)))
    refine wH_seq (wH_iff rfl (drop_nil hD_6) (wH_exit ?_))
    exact cut_mk (s_8) rfl rfl (pre_r rfl)
   | cons x_5 l_4 =>
    obtain ⟨c_, hc_9, hL_10⟩ := bind_some hL_10
    refine wH_seq (wH_region (h_op (vB (decide ((k_3 : Int) < (l_1.length : Int)))) wz rfl (h_nil ?_)))
    refine wH_seq (wH_ift rfl (drop_cons hD_6) (wH_skip ?_))
    unfold alert_CheckAlerts_L1 at hc_9
    refine wH_seq (wH_block (wH_seq (wH_region (h_op (vI (k_3 : Int)) wz rfl (h_ia es78 rfl rfl (drop_idx hD_6) rfl wz (h_ldc sz82 ag82 rfl (.d (.agg (Alert.enc x_5))) rfl wz (h_alloc 0 (.inl rfl) z82 rfl wz (fun n_13 => h_op (vI (k_3 : Int)) wz rfl (h_str 0 il ft 0 sz82 rfl rfl [(vS x_5.Id), (vS x_5.Sender), (vI x_5.Kind), (vL eS x_5.Refs), (vI x_5.At), (vI x_5.Until), (vI x_5.Weight), (vL Rect.enc x_5.Areas), (vS x_5.Text)] rfl wz (h_nil (wH_seq (wH_seq (wH_region (h_ldr 0 0 il ft sz82 ag82 rfl rfl (.d (.agg (Alert.enc x_5))) rfl wz ?_))))))))))))))
    obtain ⟨r_14, hr_15, hc_9⟩ := bind_some hc_9
    refine h_call0 (alert_alertFault_ok hr_15) rfl hb200 rfl rfl rfl rfl wz (h_op (vI r_14) wz rfl (h_nil (wH_seq (wH_region (h_op (vI r_14) wz rfl (h_op (vB (r_14 != 0)) wz rfl (h_nil ?_)))))))
    rcases cond_some hc_9 with ⟨hc_16, hc_9⟩ | ⟨hc_16, hc_9⟩
    ·refine wH_ift rfl hc_16 (wH_seq (wH_region (h_op (vI r_14) wz rfl (h_op (vI r_14) wz rfl (h_nil ?_)))))
     obtain rfl := some_inj hc_9
     obtain rfl := some_inj hL_10
     obtain rfl := some_inj hF
     exact wH_ret (fin0 (.inr rfl) [(vI r_14)] ⟨rfl, trivial⟩ rfl rfl rfl)
    ·refine wH_iff rfl hc_16 (wH_skip (wH_seq ?_))
     obtain ⟨v_17, h_18, hc_9⟩ := bind_some hc_9
     refine wH_join (β := Unit) (fun _ => ([(0, (vL Alert.enc l_1)), (12, (vL Alert.enc l_1)), (13, (vI (l_1.length : Int))), (14, (vI (k_3 : Int))), (35, (vB v_17))] : List (Nat × V))) (fun _ => ([(n_13, some (.cells 9 [(vS x_5.Id), (vS x_5.Sender), (vI x_5.Kind), (vL eS x_5.Refs), (vI x_5.At), (vI x_5.Until), (vI x_5.Weight), (vL Rect.enc x_5.Areas), (vS x_5.Text)]))] : Hp)) (fun _ => True) ?_ ?_
     ·refine wH_draws (h_op (vI (k_3 : Int)) wz rfl (h_op (vB (decide ((k_3 : Int) > 0))) wz rfl ?_))
      rcases cond_some h_18 with ⟨hc_19, h_18⟩ | ⟨hc_19, h_18⟩
      ·refine h_movb rfl hc_19 wz (h_op (vL Alert.enc l_1) wa rfl (h_op (vI (k_3 : Int)) wa rfl (h_op (vI (w64 ((k_3 : Int) - 1))) wa rfl ?_)))
       obtain ⟨y_20, hy_21, h_18⟩ := bind_some h_18
       refine h_ia es78 rfl rfl hy_21 rfl wa (h_ldc sz82 ag82 rfl (.d (.agg (Alert.enc y_20))) rfl wa (h_ldr 8 0 (.inr (by kernel_rfl)) (fun _ _ ag => trivial) sz82 ag82 rfl rfl (.d (.agg (Alert.enc x_5))) rfl wa ?_))
       obtain ⟨r_22, hr_23, h_18⟩ := bind_some h_18
       refine h_call0 (alert_compare_ok hr_23) rfl hb201 rfl rfl rfl rfl wa (h_op (vB (decide (r_22 ≥ 0))) wa rfl (h_op (vB (decide (r_22 ≥ 0))) wz rfl (h_nil ?_)))
       obtain rfl := some_inj h_18
       exact cu
      ·refine h_movb rfl hc_19 wz (h_skip wa (h_skip wa (h_skip wa (h_skip wa (h_skip wa (h_skip wa (h_skip wa (h_skip wa (h_op (vB false) wz rfl (h_nil ?_))))))))))
       obtain rfl := some_inj h_18
       exact cu
     ·rintro ⟨⟩ _ sl_ H_ hp_ hq_
      refine wH_at _ hp_ hq_ ?_
      rcases cond_some hc_9 with ⟨hc_24, hc_9⟩ | ⟨hc_24, hc_9⟩
      ·refine wH_ift rfl hc_24 (wH_seq (wH_region (h_op (vI 7) wz rfl (h_nil ?_))))
       obtain rfl := some_inj hc_9
       obtain rfl := some_inj hL_10
       obtain rfl := some_inj hF
       exact wH_ret (fin0 (.inr rfl) [(vI 7)] ⟨rfl, trivial⟩ rfl rfl rfl)
      ·refine wH_iff rfl hc_24 (wH_skip (wH_region (h_opw (w64_next hD_6 hn_7) wz rfl (h_op (vI ((k_3 + 1 : Nat) : Int)) wz rfl (h_nil ?_)))))
       obtain rfl := some_inj hc_9
       exact loop_mk (k_3 + 1, l_4, ()) ⟨hL_10, drop_next hD_6⟩ (Nat.lt_succ_self _) rfl (pre_r rfl)
  ·rintro s_8 ho_ sl_ H_ hp_ hq_
   subst ho_
   refine wH_at _ hp_ hq_ (wH_seq (wH_region (h_mkmap 0 (.inl rfl) wz (fun n_25 => h_reH (b' := some (bM D.str D.bool ([] : List (ByteArray × Bool)))) 0 rfl rfl (h_op (.map n_25) wz rfl (h_nil (wH_seq (wH_seq (wH_region (h_op (vL Alert.enc l_1) wz rfl (h_len un78 rfl wz (h_op (vI 0) wz rfl (h_nil ?_)))))))))))))
   obtain ⟨o_34, hj_35, hF⟩ := bind_some hF
   obtain ⟨hn_30, hj_35⟩ := forL_some hj_35
   refine wH_join (β := ((List (ByteArray × Bool)))) (fun (s_31 : (List (ByteArray × Bool))) => ([] : List (Nat × V))) (fun (s_31 : (List (ByteArray × Bool))) => ([(n_25, some (bM D.str D.bool s_31))] : Hp)) (fun p => o_34 = .go p) ?_ ?_
   ·refine wH_block (wH_loop (β := Nat × (List Alert) × ((List (ByteArray × Bool)))) (fun p => (fun (k_26 : Nat) (l_27 : List Alert) (s_31 : (List (ByteArray × Bool))) => ([(6, (.map n_25)), (38, (vL Alert.enc l_1)), (39, (vI (l_1.length : Int))), (40, (vI (k_26 : Int)))] : List (Nat × V))) p.1 p.2.1 p.2.2) (fun p => (fun (k_26 : Nat) (l_27 : List Alert) (s_31 : (List (ByteArray × Bool))) => ([(n_25, some (bM D.str D.bool s_31))] : Hp)) p.1 p.2.1 p.2.2) (fun p => forR (fun k x s => alert_CheckAlerts_L2 k x s) p.2.1 p.1 p.2.2 = some o_34 ∧ (l_1).drop p.1 = p.2.1) (fun p => p.2.1.length) (0, l_1, ([] : List (ByteArray × Bool))) ⟨hj_35, rfl⟩ rfl (pre_r rfl) ?_)
    rintro ⟨k_26, l_27, s_31⟩ ⟨hL_33, hD_29⟩
    dsimp only at hL_33 hD_29
    cases l_27 with
    | nil =>
     obtain rfl := some_inj hL_33
     refine wH_seq (wH_region (h_op (vB (decide ((k_26 : Int) < (l_1.length : Int)))) wz rfl (h_nil ?_)))
     refine wH_seq (wH_iff rfl (drop_nil hD_29) (wH_exit ?_))
     exact cut_mk (s_31) rfl rfl (pre_r rfl)
    | cons x_28 l_27 =>
     obtain ⟨c_, hc_32, hL_33⟩ := bind_some hL_33
     refine wH_seq (wH_region (h_op (vB (decide ((k_26 : Int) < (l_1.length : Int)))) wz rfl (h_nil ?_)))
     refine wH_seq (wH_ift rfl (drop_cons hD_29) (wH_skip ?_))
     unfold alert_CheckAlerts_L2 at hc_32
     refine wH_seq (wH_block (wH_seq (wH_region (h_ia es78 rfl rfl (drop_idx hD_29) rfl wz (h_ldc sz82 ag82 rfl (.d (.agg (Alert.enc x_28))) rfl wz (h_alloc 0 (.inl rfl) z82 rfl wz (fun n_36 => h_str 0 il ft 1 sz82 rfl rfl [(vS x_28.Id), (vS x_28.Sender), (vI x_28.Kind), (vL eS x_28.Refs), (vI x_28.At), (vI x_28.Until), (vI x_28.Weight), (vL Rect.enc x_28.Areas), (vS x_28.Text)] rfl wz (h_nil (wH_seq (wH_seq (wH_region (h_op (.map n_25) wz rfl (h_far pl82_0 rfl 0 rfl wz (h_ldr 0 1 il ft sz9 ag9 rfl rfl (vS x_28.Id) rfl wz (h_lookup (eq := eqS) (kD := D.str) (vD := D.bool) (es := s_31) (k := x_28.Id) (z := false) 0 0 il ft (fun _ _ => rfl) mt207 (by kernel_rfl) (by kernel_rfl) rfl rfl rfl (vB ((mGet eqS s_31 x_28.Id).getD false)) rfl wz (h_nil ?_))))))))))))))))
     rcases cond_some hc_32 with ⟨hc_37, hc_32⟩ | ⟨hc_37, hc_32⟩
     ·refine wH_ift rfl hc_37 (wH_seq (wH_region (h_op (vI 6) wz rfl (h_nil ?_))))
      obtain rfl := some_inj hc_32
      obtain rfl := some_inj hL_33
      obtain rfl := some_inj hF
      exact wH_ret (fin0 (.inr rfl) [(vI 6)] ⟨rfl, trivial⟩ rfl rfl rfl)
     ·refine wH_iff rfl hc_37 (wH_skip (wH_region (h_op (.map n_25) wz rfl (h_far pl82_0 rfl 0 rfl wz (h_ldr 0 1 il ft sz9 ag9 rfl rfl (vS x_28.Id) rfl wz (h_mapset (eq := eqS) (kD := D.str) (vD := D.bool) (es := s_31) (k := x_28.Id) (v := true) 0 0 il ft (fun _ _ => rfl) mt207 (by kernel_rfl) rfl rfl rfl rfl wz (h_nil (wH_region (h_opw (w64_next hD_29 hn_30) wz rfl (h_op (vI ((k_26 + 1 : Nat) : Int)) wz rfl (h_nil ?_)))))))))))
      obtain rfl := some_inj hc_32
      exact loop_mk (k_26 + 1, l_27, (mSet eqS s_31 x_28.Id true)) ⟨hL_33, drop_next hD_29⟩ (Nat.lt_succ_self _) rfl (pre_r rfl)
   ·rintro s_31 ho_ sl_ H_ hp_ hq_
    subst ho_
    refine wH_at _ hp_ hq_ (wH_seq (wH_region (h_op (vI 0) wz rfl (h_nil ?_))))
    obtain rfl := some_inj hF
    exact wH_ret (fin0 (.inr rfl) [(vI 0)] ⟨rfl, trivial⟩ rfl rfl rfl)
theorem alert_CheckPosts_ok {l_1 : (List Post)} {r : Int} (hF : alert_CheckPosts l_1 = some r) :
  FnM Tryz.prog 41 [(vL Post.enc l_1)] [] (vI r) [] := by
 refine FnM.of_wH ⟨Tryz.prog, 44, [], []⟩ rfl Tryz.func41 rfl rfl (Nat.le_of_ble_eq_true rfl) (by kernel_rfl) ?_
 unfold alert_CheckPosts at hF
 refine wH_seq (wH_region (h_op (vI 0) wz rfl (h_nil (wH_seq (wH_seq (wH_region (h_op (vL Post.enc l_1) wz rfl (h_len un86 rfl wz (h_op (vB (decide ((l_1.length : Int) > 500))) wz rfl (h_nil ?_))))))))))
 rcases cond_some hF with ⟨hc_2, hF⟩ | ⟨hc_2, hF⟩
 ·refine wH_ift rfl hc_2 (wH_seq (wH_region (h_op (vI 2) wz rfl (h_nil ?_))))
  obtain rfl := some_inj hF
  exact wH_ret (fin0 (.inr rfl) [(vI 2)] ⟨rfl, trivial⟩ rfl rfl rfl)
 ·refine wH_iff rfl hc_2 (wH_skip (wH_seq (wH_seq (wH_region (h_op (vL Post.enc l_1) wz rfl (h_len un86 rfl wz (h_op (vI 0) wz rfl (h_nil ?_))))))))
  obtain ⟨o_11, hj_12, hF⟩ := bind_some hF
  obtain ⟨hn_7, hj_12⟩ := forL_some hj_12
  refine wH_join (β := (Unit)) (fun (s_8 : Unit) => ([] : List (Nat × V))) (fun (s_8 : Unit) => ([] : Hp)) (fun p => o_11 = .go p) ?_ ?_
  ·refine wH_block (wH_loop (β := Nat × (List Post) × (Unit)) (fun p => (fun (k_3 : Nat) (l_4 : List Post) (s_8 : Unit) => ([(0, (vL Post.enc l_1)), (8, (vL Post.enc l_1)), (9, (vI (l_1.length : Int))), (10, (vI (k_3 : Int)))] : List (Nat × V))) p.1 p.2.1 p.2.2) (fun p => (fun (k_3 : Nat) (l_4 : List Post) (s_8 : Unit) => ([] : Hp)) p.1 p.2.1 p.2.2) (fun p => forR (fun k x s => alert_CheckPosts_L1 l_1 k x s) p.2.1 p.1 p.2.2 = some o_11 ∧ (l_1).drop p.1 = p.2.1) (fun p => p.2.1.length) (0, l_1, ()) ⟨hj_12, rfl⟩ rfl (pre_r rfl) ?_)
   rintro ⟨k_3, l_4, s_8⟩ ⟨hL_10, hD_6⟩
   dsimp only at hL_10 hD_6
   cases l_4 with
   | nil =>
    obtain rfl := some_inj hL_10
    refine wH_seq (wH_region (h_op (vB (decide ((k_3 : Int) < (l_1.length : Int)))) wz rfl (h_nil ?_)))
    refine wH_seq (wH_iff rfl (drop_nil hD_6) (wH_exit ?_))
    exact cut_mk (s_8) rfl rfl (pre_r rfl)
   | cons x_5 l_4 =>
    obtain ⟨c_, hc_9, hL_10⟩ := bind_some hL_10
    refine wH_seq (wH_region (h_op (vB (decide ((k_3 : Int) < (l_1.length : Int)))) wz rfl (h_nil ?_)))
    refine wH_seq (wH_ift rfl (drop_cons hD_6) (wH_skip ?_))
    unfold alert_CheckPosts_L1 at hc_9
    refine wH_seq (wH_block (wH_seq (wH_region (h_op (vI (k_3 : Int)) wz rfl (h_ia es86 rfl rfl (drop_idx hD_6) rfl wz (h_ldc sz77 ag77 rfl (.d (.agg (Post.enc x_5))) rfl wz (h_alloc 0 (.inl rfl) z77 rfl wz (fun n_13 => h_op (vI (k_3 : Int)) wz rfl (h_str 0 il ft 0 sz77 rfl rfl [(vS x_5.Player), (vI x_5.X), (vI x_5.Y)] rfl wz (h_nil (wH_block (wH_seq (wH_region (h_far pl77_0 rfl 0 rfl wz (h_ldr 0 0 il ft sz9 ag9 rfl rfl (vS x_5.Player) rfl wz ?_)))))))))))))))
    obtain ⟨r_14, hr_15, hc_9⟩ := bind_some hc_9
    refine h_call0 (kit_IsKey_ok hr_15) rfl hb124 rfl rfl rfl rfl wz (h_op (vB (!r_14)) wz rfl (h_op (vB (!r_14)) wz rfl (h_nil ?_)))
    rcases cond_some hc_9 with ⟨hc_16, hc_9⟩ | ⟨hc_16, hc_9⟩
    ·refine wH_ift rfl hc_16 (wH_seq (wH_region (h_op (vI 5) wz rfl (h_nil ?_))))
     obtain rfl := some_inj hc_9
     obtain rfl := some_inj hL_10
     obtain rfl := some_inj hF
     exact wH_ret (fin0 (.inr rfl) [(vI 5)] ⟨rfl, trivial⟩ rfl rfl rfl)
    ·refine wH_iff rfl hc_16 (wH_seq ?_)
     obtain ⟨v_17, h_18, hc_9⟩ := bind_some hc_9
     refine wH_join (β := Unit) (fun _ => ([(0, (vL Post.enc l_1)), (3, (vI (k_3 : Int))), (4, (.ref n_13 0 0)), (8, (vL Post.enc l_1)), (9, (vI (l_1.length : Int))), (10, (vI (k_3 : Int))), (20, (vB v_17))] : List (Nat × V))) (fun _ => ([(n_13, some (.cells 3 [(vS x_5.Player), (vI x_5.X), (vI x_5.Y)]))] : Hp)) (fun _ => True) ?_ ?_
     ·refine wH_region (h_far pl77_1 rfl 1 rfl wz (h_ldr 0 0 il ft sz3 ag3 rfl rfl (vI x_5.X) rfl wz ?_))
      obtain ⟨r_19, hr_20, h_18⟩ := bind_some h_18
      refine h_call0 (kit_Outside_ok hr_20) rfl hb86 rfl rfl rfl rfl wz ?_
      rcases cond_some h_18 with ⟨hc_21, h_18⟩ | ⟨hc_21, h_18⟩
      ·refine h_movb rfl hc_21 wz (h_skip wa (h_skip wa (h_skip wa (h_op (vB true) wz rfl (h_op (vB true) wz rfl (h_nil ?_))))))
       obtain rfl := some_inj h_18
       exact cu
      ·refine h_movb rfl hc_21 wz (h_far pl77_2 rfl 2 rfl wa (h_ldr 0 0 il ft sz3 ag3 rfl rfl (vI x_5.Y) rfl wa ?_))
       obtain ⟨r_22, hr_23, h_18⟩ := bind_some h_18
       refine h_call0 (kit_Outside_ok hr_23) rfl hb86 rfl rfl rfl rfl wa (h_op (vB r_22) wz rfl (h_op (vB r_22) wz rfl (h_nil ?_)))
       obtain rfl := some_inj h_18
       exact cu
     ·rintro ⟨⟩ _ sl_ H_ hp_ hq_
      refine wH_at _ hp_ hq_ ?_
      rcases cond_some hc_9 with ⟨hc_24, hc_9⟩ | ⟨hc_24, hc_9⟩
      ·refine wH_ift rfl hc_24 (wH_seq (wH_region (h_op (vI 1) wz rfl (h_nil ?_))))
       obtain rfl := some_inj hc_9
       obtain rfl := some_inj hL_10
       obtain rfl := some_inj hF
       exact wH_ret (fin0 (.inr rfl) [(vI 1)] ⟨rfl, trivial⟩ rfl rfl rfl)
      ·refine wH_iff rfl hc_24 (wH_seq ?_)
       obtain ⟨v_25, h_26, hc_9⟩ := bind_some hc_9
       refine wH_join (β := Unit) (fun _ => ([(0, (vL Post.enc l_1)), (8, (vL Post.enc l_1)), (9, (vI (l_1.length : Int))), (10, (vI (k_3 : Int))), (29, (vB v_25))] : List (Nat × V))) (fun _ => ([(n_13, some (.cells 3 [(vS x_5.Player), (vI x_5.X), (vI x_5.Y)]))] : Hp)) (fun _ => True) ?_ ?_
       ·refine wH_draws (h_op (vI (k_3 : Int)) wz rfl (h_op (vB (decide ((k_3 : Int) > 0))) wz rfl ?_))
        rcases cond_some h_26 with ⟨hc_27, h_26⟩ | ⟨hc_27, h_26⟩
        ·refine h_movb rfl hc_27 wz (h_far pl77_0 rfl 0 rfl wa (h_ldr 4 0 (.inr (by kernel_rfl)) (fun _ _ ag => trivial) sz9 ag9 rfl rfl (vS x_5.Player) rfl wa (h_op (vL Post.enc l_1) wa rfl (h_op (vI (k_3 : Int)) wa rfl (h_op (vI (w64 ((k_3 : Int) - 1))) wa rfl ?_)))))
         obtain ⟨y_28, hy_29, h_26⟩ := bind_some h_26
         refine h_ia es86 rfl rfl hy_29 rfl wa (h_fac pl77_0 rfl [.str y_28.Player, .int .i64 y_28.X, .int .i64 y_28.Y] rfl rfl wa (h_ldc sz9 ag9 rfl (vS y_28.Player) rfl wa (h_op (vB (sLe x_5.Player y_28.Player)) wa rfl (h_op (vB (sLe x_5.Player y_28.Player)) wz rfl (h_op (vB (sLe x_5.Player y_28.Player)) wz rfl (h_nil ?_))))))
         obtain rfl := some_inj h_26
         exact cu
        ·refine h_movb rfl hc_27 wz (h_skip wa (h_skip wa (h_skip wa (h_skip wa (h_skip wa (h_skip wa (h_skip wa (h_skip wa (h_skip wa (h_op (vB false) wz rfl (h_op (vB false) wz rfl (h_nil ?_))))))))))))
         obtain rfl := some_inj h_26
         exact cu
       ·rintro ⟨⟩ _ sl_ H_ hp_ hq_
        refine wH_at _ hp_ hq_ ?_
        rcases cond_some hc_9 with ⟨hc_30, hc_9⟩ | ⟨hc_30, hc_9⟩
        ·refine wH_ift rfl hc_30 (wH_seq (wH_region (h_op (vI 7) wz rfl (h_nil ?_))))
         obtain rfl := some_inj hc_9
         obtain rfl := some_inj hL_10
         obtain rfl := some_inj hF
         exact wH_ret (fin0 (.inr rfl) [(vI 7)] ⟨rfl, trivial⟩ rfl rfl rfl)
        ·refine wH_iff rfl hc_30 (wH_skip (wH_region (h_opw (w64_next hD_6 hn_7) wz rfl (h_op (vI ((k_3 + 1 : Nat) : Int)) wz rfl (h_nil ?_)))))
         obtain rfl := some_inj hc_9
         exact loop_mk (k_3 + 1, l_4, ()) ⟨hL_10, drop_next hD_6⟩ (Nat.lt_succ_self _) rfl (pre_r rfl)
  ·rintro s_8 ho_ sl_ H_ hp_ hq_
   subst ho_
   refine wH_at _ hp_ hq_ (wH_seq (wH_region (h_op (vI 0) wz rfl (h_nil ?_))))
   obtain rfl := some_inj hF
   exact wH_ret (fin0 (.inr rfl) [(vI 0)] ⟨rfl, trivial⟩ rfl rfl rfl)
theorem alert_checkBoth_ok {l_1 : (List Alert)} {posts_2 : (List Post)} {r : Int} (hF : alert_checkBoth l_1 posts_2 = some r) :
  FnM Tryz.prog 112 [(vL Alert.enc l_1), (vL Post.enc posts_2)] [] (vI r) [] := by
 refine FnM.of_wH ⟨Tryz.prog, 13, [], []⟩ rfl Tryz.func112 rfl rfl (Nat.le_of_ble_eq_true rfl) (by kernel_rfl) ?_
 unfold alert_checkBoth at hF
 refine wH_seq (wH_region (h_op (vI 0) wz rfl (h_nil (wH_seq (wH_seq (wH_region (h_op (vL Alert.enc l_1) wz rfl ?_)))))))
 obtain ⟨r_3, hr_4, hF⟩ := bind_some hF
 refine h_call0 (alert_CheckAlerts_ok hr_4) rfl hb132 rfl rfl rfl rfl wz (h_op (vI r_3) wz rfl (h_nil (wH_seq (wH_region (h_op (vI r_3) wz rfl (h_op (vB (r_3 != 0)) wz rfl (h_nil ?_)))))))
 rcases cond_some hF with ⟨hc_5, hF⟩ | ⟨hc_5, hF⟩
 ·refine wH_ift rfl hc_5 (wH_seq (wH_region (h_op (vI r_3) wz rfl (h_op (vI r_3) wz rfl (h_nil ?_)))))
  obtain rfl := some_inj hF
  exact wH_ret (fin0 (.inr rfl) [(vI r_3)] ⟨rfl, trivial⟩ rfl rfl rfl)
 ·refine wH_iff rfl hc_5 (wH_skip (wH_seq (wH_region (h_op (vL Post.enc posts_2) wz rfl ?_))))
  obtain ⟨r_6, hr_7, hF⟩ := bind_some hF
  refine h_call0 (alert_CheckPosts_ok hr_7) rfl hb41 rfl rfl rfl rfl wz (h_op (vI r_6) wz rfl (h_nil ?_))
  obtain rfl := some_inj hF
  exact wH_ret (fin0 (.inr rfl) [(vI r_6)] ⟨rfl, trivial⟩ rfl rfl rfl)
theorem alert_reaches_1_ok {r_1 : Rect} {p_2 : Post} {r : Bool} (hF : alert_reaches_1 r_1 p_2 = some r) :
  FnM Tryz.prog 191 [(.d (.agg (Rect.enc r_1))), (.ref (extN 0) 0 0)] [(.cells 3 [(vS p_2.Player), (vI p_2.X), (vI p_2.Y)])] (vB r) [some (.cells 3 [(vS p_2.Player), (vI p_2.X), (vI p_2.Y)])] := by
 refine FnM.of_wH ⟨Tryz.prog, 36, [], []⟩ rfl Tryz.func191 rfl rfl (Nat.le_of_ble_eq_true rfl) (by kernel_rfl) ?_
 unfold alert_reaches_1 at hF
 refine wH_seq (wH_region (h_box 0 (.inl rfl) [(vI r_1.X), (vI r_1.Y), (vI r_1.W), (vI r_1.H)] rfl rfl wz (fun n_3 => h_op (vB false) wz rfl (h_nil (wH_seq ?_)))))
 obtain ⟨v_4, h_5, hF⟩ := bind_some hF
 refine wH_join (β := Unit) (fun _ => ([(3, (vB v_4))] : List (Nat × V))) (fun _ => ([((extN 0), some (.cells 3 [(vS p_2.Player), (vI p_2.X), (vI p_2.Y)])), (n_3, some (.cells 4 [(vI r_1.X), (vI r_1.Y), (vI r_1.W), (vI r_1.H)]))] : Hp)) (fun _ => True) ?_ ?_
 ·refine wH_region (h_far pl45_0 rfl 0 rfl wz (h_ldr 0 1 il ft sz3 ag3 rfl rfl (vI r_1.X) rfl wz (h_far pl77_1 rfl 1 rfl wz (h_ldr 0 0 il ft sz3 ag3 rfl rfl (vI p_2.X) rfl wz (h_op (vB (decide (r_1.X ≤ p_2.X))) wz rfl ?_)))))
  rcases cond_some h_5 with ⟨hc_6, h_5⟩ | ⟨hc_6, h_5⟩
  ·refine h_movb rfl hc_6 wz (h_far pl77_1 rfl 1 rfl wa (h_ldr 0 0 il ft sz3 ag3 rfl rfl (vI p_2.X) rfl wa (h_far pl45_0 rfl 0 rfl wa (h_ldr 0 1 il ft sz3 ag3 rfl rfl (vI r_1.X) rfl wa (h_far pl45_2 rfl 2 rfl wa (h_ldr 0 1 il ft sz3 ag3 rfl rfl (vI r_1.W) rfl wa (h_op (vI (w64 (r_1.X + r_1.W))) wa rfl (h_op (vB (decide (p_2.X < (w64 (r_1.X + r_1.W))))) wa rfl (h_op (vB (decide (p_2.X < (w64 (r_1.X + r_1.W))))) wz rfl ?_)))))))))
   rcases cond_some h_5 with ⟨hc_7, h_5⟩ | ⟨hc_7, h_5⟩
   ·refine h_movb rfl hc_7 wz (h_far pl45_1 rfl 1 rfl wa (h_ldr 0 1 il ft sz3 ag3 rfl rfl (vI r_1.Y) rfl wa (h_far pl77_2 rfl 2 rfl wa (h_ldr 0 0 il ft sz3 ag3 rfl rfl (vI p_2.Y) rfl wa (h_op (vB (decide (r_1.Y ≤ p_2.Y))) wa rfl (h_op (vB (decide (r_1.Y ≤ p_2.Y))) wz rfl ?_))))))
    rcases cond_some h_5 with ⟨hc_8, h_5⟩ | ⟨hc_8, h_5⟩
    ·refine h_movb rfl hc_8 wz (h_far pl77_2 rfl 2 rfl wa (h_ldr 0 0 il ft sz3 ag3 rfl rfl (vI p_2.Y) rfl wa (h_far pl45_1 rfl 1 rfl wa (h_ldr 0 1 il ft sz3 ag3 rfl rfl (vI r_1.Y) rfl wa (h_far pl45_3 rfl 3 rfl wa (h_ldr 0 1 il ft sz3 ag3 rfl rfl (vI r_1.H) rfl wa (h_op (vI (w64 (r_1.Y + r_1.H))) wa rfl (h_op (vB (decide (p_2.Y < (w64 (r_1.Y + r_1.H))))) wa rfl (h_op (vB (decide (p_2.Y < (w64 (r_1.Y + r_1.H))))) wz rfl (h_op (vB (decide (p_2.Y < (w64 (r_1.Y + r_1.H))))) wz rfl (h_nil ?_)))))))))))
     obtain rfl := some_inj h_5
     exact cu
    ·refine h_movb rfl hc_8 wz (h_skip wa (h_skip wa (h_skip wa (h_skip wa (h_skip wa (h_skip wa (h_skip wa (h_skip wa (h_op (vB false) wz rfl (h_op (vB false) wz rfl (h_nil ?_)))))))))))
     obtain rfl := some_inj h_5
     exact cu
   ·refine h_movb rfl hc_7 wz (h_skip wa (h_skip wa (h_skip wa (h_skip wa (h_skip wa (h_op (vB false) wz rfl (h_op (vB false) wz rfl (h_skip wa (h_skip wa (h_skip wa (h_skip wa (h_skip wa (h_skip wa (h_skip wa (h_skip wa (h_op (vB false) wz rfl (h_op (vB false) wz rfl (h_nil ?_))))))))))))))))))
    obtain rfl := some_inj h_5
    exact cu
  ·refine h_movb rfl hc_6 wz (h_skip wa (h_skip wa (h_skip wa (h_skip wa (h_skip wa (h_skip wa (h_skip wa (h_skip wa (h_op (vB false) wz rfl (h_op (vB false) wz rfl (h_skip wa (h_skip wa (h_skip wa (h_skip wa (h_skip wa (h_op (vB false) wz rfl (h_op (vB false) wz rfl (h_skip wa (h_skip wa (h_skip wa (h_skip wa (h_skip wa (h_skip wa ?_)))))))))))))))))))))))
   refine h_skip wa (h_skip wa (h_op (vB false) wz rfl (h_op (vB false) wz rfl (h_nil ?_))))
   obtain rfl := some_inj h_5
   exact cu
 ·rintro ⟨⟩ _ sl_ H_ hp_ hq_
  refine wH_at _ hp_ hq_ ?_
  obtain rfl := some_inj hF
  exact wH_ret (finB (.inr rfl) [(vB v_4)] _ [0] [extN 0] ⟨rfl, trivial⟩ (.cons (co_data rfl rfl) (.nil)) (by kernel_rfl) ⟨(by kernel_rfl), trivial⟩ (by decide) (by kernel_rfl))
theorem slices_IndexFunc_api_Rect_api_Rect_ok {s_1 : (List Rect)} {f_2 : Rect → Option Bool} {r : Int} {gid : FuncId} {caps : List V} {Sin : List Box} (hfn : ∀ x0 r, f_2 x0 = some r → FnM Tryz.prog gid ([(.d (.agg (Rect.enc x0)))] ++ caps) Sin (vB r) (Sin.map some)) (hbF : hasBody Tryz.prog gid = true) (hcapF : caps.flatMap frz = [] ∧ caps.map co0 = caps) (hokF : okL Sin.length caps = true) (hsF : ∀ b ∈ Sin, b.ok Sin.length = true) (hmF : ∀ b ∈ Sin, b.mut = true) (hF : slices_IndexFunc_api_Rect_api_Rect s_1 f_2 = some r) :
  FnM Tryz.prog 233 [(vL Rect.enc s_1), (.fn gid caps)] Sin (vI r) (Sin.map some) := by
 refine FnM.of_wH ⟨Tryz.prog, 19, [], []⟩ rfl Tryz.func233 rfl rfl (Nat.le_of_ble_eq_true rfl) (by kernel_rfl) ?_
 unfold slices_IndexFunc_api_Rect_api_Rect at hF
 refine wH_seq (wH_region (h_op (vI 0) wz rfl (h_nil (wH_seq (wH_seq (wH_region (h_op (vL Rect.enc s_1) wz rfl (h_len un50 rfl wz (h_op (vI 0) wz rfl (h_nil ?_))))))))))
 obtain ⟨o_11, hj_12, hF⟩ := bind_some hF
 obtain ⟨hn_7, hj_12⟩ := forL_some hj_12
 refine wH_join (β := (Unit)) (fun (s_8 : Unit) => ([] : List (Nat × V))) (fun (s_8 : Unit) => (initH 0 Sin)) (fun p => o_11 = .go p) ?_ ?_
 ·refine wH_block (wH_loop (β := Nat × (List Rect) × (Unit)) (fun p => (fun (k_3 : Nat) (l_4 : List Rect) (s_8 : Unit) => ([(0, (vL Rect.enc s_1)), (1, (.fn gid caps)), (7, (vI (s_1.length : Int))), (8, (vI (k_3 : Int)))] : List (Nat × V))) p.1 p.2.1 p.2.2) (fun p => (fun (k_3 : Nat) (l_4 : List Rect) (s_8 : Unit) => (initH 0 Sin)) p.1 p.2.1 p.2.2) (fun p => forR (fun k x s => slices_IndexFunc_api_Rect_api_Rect_L1 f_2 k x s) p.2.1 p.1 p.2.2 = some o_11 ∧ (s_1).drop p.1 = p.2.1) (fun p => p.2.1.length) (0, s_1, ()) ⟨hj_12, rfl⟩ rfl (pre_self _) ?_)
  rintro ⟨k_3, l_4, s_8⟩ ⟨hL_10, hD_6⟩
  dsimp only at hL_10 hD_6
  cases l_4 with
  | nil =>
   obtain rfl := some_inj hL_10
   refine wH_seq (wH_region (h_op (vB (decide ((k_3 : Int) < (s_1.length : Int)))) wz rfl (h_nil ?_)))
   refine wH_seq (wH_iff rfl (drop_nil hD_6) (wH_exit ?_))
   exact cut_mk (s_8) rfl rfl (pre_self _)
  | cons x_5 l_4 =>
   obtain ⟨c_, hc_9, hL_10⟩ := bind_some hL_10
   refine wH_seq (wH_region (h_op (vB (decide ((k_3 : Int) < (s_1.length : Int)))) wz rfl (h_nil ?_)))
   refine wH_seq (wH_ift rfl (drop_cons hD_6) (wH_skip ?_))
   unfold slices_IndexFunc_api_Rect_api_Rect_L1 at hc_9
   refine wH_seq (wH_block (wH_seq (wH_region (h_op (vI (k_3 : Int)) wz rfl (h_op (vI (k_3 : Int)) wz rfl (h_nil (wH_seq (wH_region (h_op (.fn gid caps) wz rfl (h_op (vL Rect.enc s_1) wz rfl (h_op (vI (k_3 : Int)) wz rfl (h_ia es50 rfl rfl (drop_idx hD_6) rfl wz (h_ldc sz45 ag45 rfl (.d (.agg (Rect.enc x_5))) rfl wz ?_)))))))))))))
   obtain ⟨r_13, hr_14, hc_9⟩ := bind_some hc_9
   refine h_callS (hfn _ _ hr_14) rfl hbF rfl rfl hcapF hokF hsF hmF rfl wz rfl (h_nil ?_)
   rcases cond_some hc_9 with ⟨hc_15, hc_9⟩ | ⟨hc_15, hc_9⟩
   ·refine wH_ift rfl hc_15 (wH_seq (wH_region (h_op (vI (k_3 : Int)) wz rfl (h_op (vI (k_3 : Int)) wz rfl (h_nil ?_)))))
    obtain rfl := some_inj hc_9
    obtain rfl := some_inj hL_10
    obtain rfl := some_inj hF
    exact wH_ret (finS hsF (.inr rfl) [(vI (k_3 : Int))] ⟨rfl, trivial⟩ rfl rfl rfl)
   ·refine wH_iff rfl hc_15 (wH_skip (wH_region (h_opw (w64_next hD_6 hn_7) wz rfl (h_op (vI ((k_3 + 1 : Nat) : Int)) wz rfl (h_nil ?_)))))
    obtain rfl := some_inj hc_9
    exact loop_mk (k_3 + 1, l_4, ()) ⟨hL_10, drop_next hD_6⟩ (Nat.lt_succ_self _) rfl (pre_self _)
 ·rintro s_8 ho_ sl_ H_ hp_ hq_
  subst ho_
  refine wH_at _ hp_ hq_ (wH_seq (wH_region (h_op (vI (-1)) wz rfl (h_nil ?_))))
  obtain rfl := some_inj hF
  exact wH_ret (finS hsF (.inr rfl) [(vI (-1))] ⟨rfl, trivial⟩ rfl rfl rfl)
theorem slices_ContainsFunc_api_Rect_api_Rect_ok {s_1 : (List Rect)} {f_2 : Rect → Option Bool} {r : Bool} {gid : FuncId} {caps : List V} {Sin : List Box} (hfn : ∀ x0 r, f_2 x0 = some r → FnM Tryz.prog gid ([(.d (.agg (Rect.enc x0)))] ++ caps) Sin (vB r) (Sin.map some)) (hbF : hasBody Tryz.prog gid = true) (hcapF : caps.flatMap frz = [] ∧ caps.map co0 = caps) (hokF : okL Sin.length caps = true) (hsF : ∀ b ∈ Sin, b.ok Sin.length = true) (hmF : ∀ b ∈ Sin, b.mut = true) (hF : slices_ContainsFunc_api_Rect_api_Rect s_1 f_2 = some r) :
  FnM Tryz.prog 190 [(vL Rect.enc s_1), (.fn gid caps)] Sin (vB r) (Sin.map some) := by
 refine FnM.of_wH ⟨Tryz.prog, 9, [], []⟩ rfl Tryz.func190 rfl rfl (Nat.le_of_ble_eq_true rfl) (by kernel_rfl) ?_
 unfold slices_ContainsFunc_api_Rect_api_Rect at hF
 refine wH_seq (wH_region (h_op (vB false) wz rfl (h_nil (wH_seq (wH_region (h_op (vL Rect.enc s_1) wz rfl (h_op (.fn gid caps) wz rfl ?_)))))))
 obtain ⟨r_3, hr_4, hF⟩ := bind_some hF
 refine h_callS (slices_IndexFunc_api_Rect_api_Rect_ok (gid := gid) (caps := caps) (Sin := Sin) hfn hbF hcapF hokF hsF hmF hr_4) rfl hb233 rfl rfl ⟨rfl, rfl⟩ (by simp [okL, okV, hokF]) hsF hmF rfl wz rfl (h_op (vB (decide (r_3 ≥ 0))) wz rfl (h_op (vB (decide (r_3 ≥ 0))) wz rfl (h_nil ?_)))
 obtain rfl := some_inj hF
 exact wH_ret (finS hsF (.inr rfl) [(vB (decide (r_3 ≥ 0)))] ⟨rfl, trivial⟩ rfl rfl rfl)
theorem alert_reaches_ok {a_1 : Alert} {p_2 : Post} {r : Bool} (hF : alert_reaches a_1 p_2 = some r) :
  FnM Tryz.prog 113 [(.d (.agg (Alert.enc a_1))), (.d (.agg (Post.enc p_2)))] [] (vB r) [] := by
 refine FnM.of_wH ⟨Tryz.prog, 9, [], []⟩ rfl Tryz.func113 rfl rfl (Nat.le_of_ble_eq_true rfl) (by kernel_rfl) ?_
 unfold alert_reaches at hF
 refine wH_seq (wH_region (h_box 0 (.inl rfl) [(vS a_1.Id), (vS a_1.Sender), (vI a_1.Kind), (vL eS a_1.Refs), (vI a_1.At), (vI a_1.Until), (vI a_1.Weight), (vL Rect.enc a_1.Areas), (vS a_1.Text)] rfl rfl wz (fun n_3 => h_box 0 (.inl rfl) [(vS p_2.Player), (vI p_2.X), (vI p_2.Y)] rfl rfl wz (fun n_4 => h_op (vB false) wz rfl (h_nil (wH_seq (wH_region (h_far pl82_7 rfl 7 rfl wz (h_ldr 0 0 il ft sz50 ag50 rfl rfl (vL Rect.enc a_1.Areas) rfl wz (h_op (.fn 191 [(.ref n_4 0 0)]) wz rfl ?_))))))))))
 obtain ⟨r_5, hr_6, hF⟩ := bind_some hF
 refine h_callq 0 [1] il ft (slices_ContainsFunc_api_Rect_api_Rect_ok (gid := 191) (caps := [.ref (extN 0) 0 0]) (Sin := [(.cells 3 [(vS p_2.Player), (vI p_2.X), (vI p_2.Y)])]) (fun _ _ h_ => alert_reaches_1_ok h_) hb191 ⟨rfl, rfl⟩ (by kernel_rfl) (all_ok (by kernel_rfl)) (all_mut (by kernel_rfl)) hr_6) rfl hb190 rfl (by kernel_rfl) (by kernel_rfl) (by kernel_rfl) (by kernel_rfl) (by kernel_rfl) (by kernel_rfl) (by kernel_rfl) (by decide) (by kernel_rfl) wz (vB r_5) (by kernel_rfl) ([(n_3, some (.cells 9 [(vS a_1.Id), (vS a_1.Sender), (vI a_1.Kind), (vL eS a_1.Refs), (vI a_1.At), (vI a_1.Until), (vI a_1.Weight), (vL Rect.enc a_1.Areas), (vS a_1.Text)])), (n_4, some (.cells 3 [(vS p_2.Player), (vI p_2.X), (vI p_2.Y)]))] : Hp) (by kernel_rfl) (h_op (vB r_5) wz rfl (h_nil ?_))
 obtain rfl := some_inj hF
 exact wH_ret (fin0 (.inr rfl) [(vB r_5)] ⟨rfl, trivial⟩ rfl rfl rfl)
theorem alert_Reaches_ok {a_1 : Alert} {p_2 : Post} {r : Bool × Int} (hF : alert_Reaches a_1 p_2 = some r) :
  FnM Tryz.prog 30 [(.d (.agg (Alert.enc a_1))), (.d (.agg (Post.enc p_2)))] [] (.tup [(vB r.1), (vI r.2)]) [] := by
 refine FnM.of_wH ⟨Tryz.prog, 18, [], []⟩ rfl Tryz.func30 rfl rfl (Nat.le_of_ble_eq_true rfl) (by kernel_rfl) ?_
 unfold alert_Reaches at hF
 refine wH_seq (wH_region (h_box 0 (.inl rfl) [(vS a_1.Id), (vS a_1.Sender), (vI a_1.Kind), (vL eS a_1.Refs), (vI a_1.At), (vI a_1.Until), (vI a_1.Weight), (vL Rect.enc a_1.Areas), (vS a_1.Text)] rfl rfl wz (fun n_3 => h_box 0 (.inl rfl) [(vS p_2.Player), (vI p_2.X), (vI p_2.Y)] rfl rfl wz (fun n_4 => h_op (vB false) wz rfl (h_op (vI 0) wz rfl (h_nil (wH_seq (wH_seq (wH_region (h_ldr 0 0 il ft sz82 ag82 rfl rfl (.d (.agg (Alert.enc a_1))) rfl wz (h_lit (([a_1] : List Alert).map Alert.enc) es78 ez78 rfl rfl rfl rfl rfl wz (h_ldr 0 1 il ft sz77 ag77 rfl rfl (.d (.agg (Post.enc p_2))) rfl wz (h_lit (([p_2] : List Post).map Post.enc) es86 ez86 rfl rfl rfl rfl rfl wz ?_)))))))))))))
 obtain ⟨r_5, hr_6, hF⟩ := bind_some hF
 refine h_call0 (alert_checkBoth_ok hr_6) rfl hb112 rfl rfl rfl rfl wz (h_op (vI r_5) wz rfl (h_nil (wH_seq (wH_region (h_op (vI r_5) wz rfl (h_op (vB (r_5 != 0)) wz rfl (h_nil ?_)))))))
 rcases cond_some hF with ⟨hc_7, hF⟩ | ⟨hc_7, hF⟩
 ·refine wH_ift rfl hc_7 (wH_seq (wH_region (h_op (vI r_5) wz rfl (h_op (vB false) wz rfl (h_op (vI r_5) wz rfl (h_nil ?_))))))
  obtain rfl := some_inj hF
  exact wH_ret (fin0 (.inr rfl) [(vB false), (vI r_5)] ⟨rfl, ⟨rfl, trivial⟩⟩ rfl rfl rfl)
 ·refine wH_iff rfl hc_7 (wH_skip (wH_seq (wH_region (h_ldr 0 0 il ft sz82 ag82 rfl rfl (.d (.agg (Alert.enc a_1))) rfl wz (h_ldr 0 1 il ft sz77 ag77 rfl rfl (.d (.agg (Post.enc p_2))) rfl wz ?_)))))
  obtain ⟨r_8, hr_9, hF⟩ := bind_some hF
  refine h_call0 (alert_reaches_ok hr_9) rfl hb113 rfl rfl rfl rfl wz (h_op (vB r_8) wz rfl (h_op (vI 0) wz rfl (h_nil ?_)))
  obtain rfl := some_inj hF
  exact wH_ret (fin0 (.inr rfl) [(vB r_8), (vI 0)] ⟨rfl, ⟨rfl, trivial⟩⟩ rfl rfl rfl)
theorem alert_find_1_ok {o_1 : Alert} {p_2 : ByteArray} {p_3 : Alert} {r : Bool} (hF : alert_find_1 o_1 p_2 p_3 = some r) :
  FnM Tryz.prog 234 [(.d (.agg (Alert.enc o_1))), (.ref (extN 0) 0 0), (.ref (extN 1) 0 0)] [(.cells 1 [(vS p_2)]), (.cells 9 [(vS p_3.Id), (vS p_3.Sender), (vI p_3.Kind), (vL eS p_3.Refs), (vI p_3.At), (vI p_3.Until), (vI p_3.Weight), (vL Rect.enc p_3.Areas), (vS p_3.Text)])] (vB r) [some (.cells 1 [(vS p_2)]), some (.cells 9 [(vS p_3.Id), (vS p_3.Sender), (vI p_3.Kind), (vL eS p_3.Refs), (vI p_3.At), (vI p_3.Until), (vI p_3.Weight), (vL Rect.enc p_3.Areas), (vS p_3.Text)])] := by
 refine FnM.of_wH ⟨Tryz.prog, 22, [], []⟩ rfl Tryz.func234 rfl rfl (Nat.le_of_ble_eq_true rfl) (by kernel_rfl) ?_
 unfold alert_find_1 at hF
 refine wH_seq (wH_region (h_box 0 (.inl rfl) [(vS o_1.Id), (vS o_1.Sender), (vI o_1.Kind), (vL eS o_1.Refs), (vI o_1.At), (vI o_1.Until), (vI o_1.Weight), (vL Rect.enc o_1.Areas), (vS o_1.Text)] rfl rfl wz (fun n_4 => h_op (vB false) wz rfl (h_nil (wH_seq ?_)))))
 obtain ⟨v_5, h_6, hF⟩ := bind_some hF
 refine wH_join (β := Unit) (fun _ => ([(4, (vB v_5))] : List (Nat × V))) (fun _ => ([((extN 0), some (.cells 1 [(vS p_2)])), ((extN 1), some (.cells 9 [(vS p_3.Id), (vS p_3.Sender), (vI p_3.Kind), (vL eS p_3.Refs), (vI p_3.At), (vI p_3.Until), (vI p_3.Weight), (vL Rect.enc p_3.Areas), (vS p_3.Text)])), (n_4, some (.cells 9 [(vS o_1.Id), (vS o_1.Sender), (vI o_1.Kind), (vL eS o_1.Refs), (vI o_1.At), (vI o_1.Until), (vI o_1.Weight), (vL Rect.enc o_1.Areas), (vS o_1.Text)]))] : Hp)) (fun _ => True) ?_ ?_
 ·refine wH_region (h_far pl82_0 rfl 0 rfl wz (h_ldr 0 2 il ft sz9 ag9 rfl rfl (vS o_1.Id) rfl wz (h_ldr 0 0 il ft sz9 ag9 rfl rfl (vS p_2) rfl wz (h_op (vB (sEq o_1.Id p_2)) wz rfl ?_))))
  rcases cond_some h_6 with ⟨hc_7, h_6⟩ | ⟨hc_7, h_6⟩
  ·refine h_movb rfl hc_7 wz (h_far pl82_1 rfl 1 rfl wa (h_ldr 0 2 il ft sz9 ag9 rfl rfl (vS o_1.Sender) rfl wa (h_far pl82_1 rfl 1 rfl wa (h_ldr 0 1 il ft sz9 ag9 rfl rfl (vS p_3.Sender) rfl wa (h_op (vB (sEq o_1.Sender p_3.Sender)) wa rfl (h_op (vB (sEq o_1.Sender p_3.Sender)) wz rfl ?_))))))
   rcases cond_some h_6 with ⟨hc_8, h_6⟩ | ⟨hc_8, h_6⟩
   ·refine h_movb rfl hc_8 wz (h_ldr 0 2 il ft sz82 ag82 rfl rfl (.d (.agg (Alert.enc o_1))) rfl wa (h_ldr 0 1 il ft sz82 ag82 rfl rfl (.d (.agg (Alert.enc p_3))) rfl wa ?_))
    obtain ⟨r_9, hr_10, h_6⟩ := bind_some h_6
    refine h_call0 (alert_compare_ok hr_10) rfl hb201 rfl rfl rfl rfl wa (h_op (vB (decide (r_9 < 0))) wa rfl (h_op (vB (decide (r_9 < 0))) wz rfl (h_op (vB (decide (r_9 < 0))) wz rfl (h_nil ?_))))
    obtain rfl := some_inj h_6
    exact cu
   ·refine h_movb rfl hc_8 wz (h_skip wa (h_skip wa (h_skip wa (h_skip wa (h_op (vB false) wz rfl (h_op (vB false) wz rfl (h_nil ?_)))))))
    obtain rfl := some_inj h_6
    exact cu
  ·refine h_movb rfl hc_7 wz (h_skip wa (h_skip wa (h_skip wa (h_skip wa (h_skip wa (h_op (vB false) wz rfl (h_op (vB false) wz rfl (h_skip wa (h_skip wa (h_skip wa (h_skip wa (h_op (vB false) wz rfl (h_op (vB false) wz rfl (h_nil ?_))))))))))))))
   obtain rfl := some_inj h_6
   exact cu
 ·rintro ⟨⟩ _ sl_ H_ hp_ hq_
  refine wH_at _ hp_ hq_ ?_
  obtain rfl := some_inj hF
  exact wH_ret (finB (.inr rfl) [(vB v_5)] _ [0, 1] [extN 0, extN 1] ⟨rfl, trivial⟩ (.cons (co_data rfl rfl) (.nil)) (by kernel_rfl) ⟨(by kernel_rfl), ⟨(by kernel_rfl), trivial⟩⟩ (by decide) (by kernel_rfl))
theorem slices_IndexFunc_api_Alert_api_Alert_ok {s_1 : (List Alert)} {f_2 : Alert → Option Bool} {r : Int} {gid : FuncId} {caps : List V} {Sin : List Box} (hfn : ∀ x0 r, f_2 x0 = some r → FnM Tryz.prog gid ([(.d (.agg (Alert.enc x0)))] ++ caps) Sin (vB r) (Sin.map some)) (hbF : hasBody Tryz.prog gid = true) (hcapF : caps.flatMap frz = [] ∧ caps.map co0 = caps) (hokF : okL Sin.length caps = true) (hsF : ∀ b ∈ Sin, b.ok Sin.length = true) (hmF : ∀ b ∈ Sin, b.mut = true) (hF : slices_IndexFunc_api_Alert_api_Alert s_1 f_2 = some r) :
  FnM Tryz.prog 58 [(vL Alert.enc s_1), (.fn gid caps)] Sin (vI r) (Sin.map some) := by
 refine FnM.of_wH ⟨Tryz.prog, 19, [], []⟩ rfl Tryz.func58 rfl rfl (Nat.le_of_ble_eq_true rfl) (by kernel_rfl) ?_
 unfold slices_IndexFunc_api_Alert_api_Alert at hF
 refine wH_seq (wH_region (h_op (vI 0) wz rfl (h_nil (wH_seq (wH_seq (wH_region (h_op (vL Alert.enc s_1) wz rfl (h_len un78 rfl wz (h_op (vI 0) wz rfl (h_nil ?_))))))))))
 obtain ⟨o_11, hj_12, hF⟩ := bind_some hF
 obtain ⟨hn_7, hj_12⟩ := forL_some hj_12
 refine wH_join (β := (Unit)) (fun (s_8 : Unit) => ([] : List (Nat × V))) (fun (s_8 : Unit) => (initH 0 Sin)) (fun p => o_11 = .go p) ?_ ?_
 ·refine wH_block (wH_loop (β := Nat × (List Alert) × (Unit)) (fun p => (fun (k_3 : Nat) (l_4 : List Alert) (s_8 : Unit) => ([(0, (vL Alert.enc s_1)), (1, (.fn gid caps)), (7, (vI (s_1.length : Int))), (8, (vI (k_3 : Int)))] : List (Nat × V))) p.1 p.2.1 p.2.2) (fun p => (fun (k_3 : Nat) (l_4 : List Alert) (s_8 : Unit) => (initH 0 Sin)) p.1 p.2.1 p.2.2) (fun p => forR (fun k x s => slices_IndexFunc_api_Alert_api_Alert_L1 f_2 k x s) p.2.1 p.1 p.2.2 = some o_11 ∧ (s_1).drop p.1 = p.2.1) (fun p => p.2.1.length) (0, s_1, ()) ⟨hj_12, rfl⟩ rfl (pre_self _) ?_)
  rintro ⟨k_3, l_4, s_8⟩ ⟨hL_10, hD_6⟩
  dsimp only at hL_10 hD_6
  cases l_4 with
  | nil =>
   obtain rfl := some_inj hL_10
   refine wH_seq (wH_region (h_op (vB (decide ((k_3 : Int) < (s_1.length : Int)))) wz rfl (h_nil ?_)))
   refine wH_seq (wH_iff rfl (drop_nil hD_6) (wH_exit ?_))
   exact cut_mk (s_8) rfl rfl (pre_self _)
  | cons x_5 l_4 =>
   obtain ⟨c_, hc_9, hL_10⟩ := bind_some hL_10
   refine wH_seq (wH_region (h_op (vB (decide ((k_3 : Int) < (s_1.length : Int)))) wz rfl (h_nil ?_)))
   refine wH_seq (wH_ift rfl (drop_cons hD_6) (wH_skip ?_))
   unfold slices_IndexFunc_api_Alert_api_Alert_L1 at hc_9
   refine wH_seq (wH_block (wH_seq (wH_region (h_op (vI (k_3 : Int)) wz rfl (h_op (vI (k_3 : Int)) wz rfl (h_nil (wH_seq (wH_region (h_op (.fn gid caps) wz rfl (h_op (vL Alert.enc s_1) wz rfl (h_op (vI (k_3 : Int)) wz rfl (h_ia es78 rfl rfl (drop_idx hD_6) rfl wz (h_ldc sz82 ag82 rfl (.d (.agg (Alert.enc x_5))) rfl wz ?_)))))))))))))
   obtain ⟨r_13, hr_14, hc_9⟩ := bind_some hc_9
   refine h_callS (hfn _ _ hr_14) rfl hbF rfl rfl hcapF hokF hsF hmF rfl wz rfl (h_nil ?_)
   rcases cond_some hc_9 with ⟨hc_15, hc_9⟩ | ⟨hc_15, hc_9⟩
   ·refine wH_ift rfl hc_15 (wH_seq (wH_region (h_op (vI (k_3 : Int)) wz rfl (h_op (vI (k_3 : Int)) wz rfl (h_nil ?_)))))
    obtain rfl := some_inj hc_9
    obtain rfl := some_inj hL_10
    obtain rfl := some_inj hF
    exact wH_ret (finS hsF (.inr rfl) [(vI (k_3 : Int))] ⟨rfl, trivial⟩ rfl rfl rfl)
   ·refine wH_iff rfl hc_15 (wH_skip (wH_region (h_opw (w64_next hD_6 hn_7) wz rfl (h_op (vI ((k_3 + 1 : Nat) : Int)) wz rfl (h_nil ?_)))))
    obtain rfl := some_inj hc_9
    exact loop_mk (k_3 + 1, l_4, ()) ⟨hL_10, drop_next hD_6⟩ (Nat.lt_succ_self _) rfl (pre_self _)
 ·rintro s_8 ho_ sl_ H_ hp_ hq_
  subst ho_
  refine wH_at _ hp_ hq_ (wH_seq (wH_region (h_op (vI (-1)) wz rfl (h_nil ?_))))
  obtain rfl := some_inj hF
  exact wH_ret (finS hsF (.inr rfl) [(vI (-1))] ⟨rfl, trivial⟩ rfl rfl rfl)
theorem alert_find_ok {l_1 : (List Alert)} {a_2 : Alert} {ref_3 : ByteArray} {r : Int} (hF : alert_find l_1 a_2 ref_3 = some r) :
  FnM Tryz.prog 193 [(vL Alert.enc l_1), (.d (.agg (Alert.enc a_2))), (vS ref_3)] [] (vI r) [] := by
 refine FnM.of_wH ⟨Tryz.prog, 10, [], []⟩ rfl Tryz.func193 rfl rfl (Nat.le_of_ble_eq_true rfl) (by kernel_rfl) ?_
 unfold alert_find at hF
 refine wH_seq (wH_region (h_box 0 (.inl rfl) [(vS a_2.Id), (vS a_2.Sender), (vI a_2.Kind), (vL eS a_2.Refs), (vI a_2.At), (vI a_2.Until), (vI a_2.Weight), (vL Rect.enc a_2.Areas), (vS a_2.Text)] rfl rfl wz (fun n_4 => h_box 0 (.inl rfl) [(vS ref_3)] rfl rfl wz (fun n_5 => h_op (vI 0) wz rfl (h_nil (wH_seq (wH_region (h_op (vL Alert.enc l_1) wz rfl (h_op (.fn 234 [(.ref n_5 0 0), (.ref n_4 0 0)]) wz rfl ?_)))))))))
 obtain ⟨r_6, hr_7, hF⟩ := bind_some hF
 refine h_callq 0 [1, 0] il ft (slices_IndexFunc_api_Alert_api_Alert_ok (gid := 234) (caps := [.ref (extN 0) 0 0, .ref (extN 1) 0 0]) (Sin := [(.cells 1 [(vS ref_3)]), (.cells 9 [(vS a_2.Id), (vS a_2.Sender), (vI a_2.Kind), (vL eS a_2.Refs), (vI a_2.At), (vI a_2.Until), (vI a_2.Weight), (vL Rect.enc a_2.Areas), (vS a_2.Text)])]) (fun _ _ h_ => alert_find_1_ok h_) hb234 ⟨rfl, rfl⟩ (by kernel_rfl) (all_ok (by kernel_rfl)) (all_mut (by kernel_rfl)) hr_7) rfl hb58 rfl (by kernel_rfl) (by kernel_rfl) (by kernel_rfl) (by kernel_rfl) (by kernel_rfl) (by kernel_rfl) (by kernel_rfl) (by decide) (by kernel_rfl) wz (vI r_6) (by kernel_rfl) ([(n_4, some (.cells 9 [(vS a_2.Id), (vS a_2.Sender), (vI a_2.Kind), (vL eS a_2.Refs), (vI a_2.At), (vI a_2.Until), (vI a_2.Weight), (vL Rect.enc a_2.Areas), (vS a_2.Text)])), (n_5, some (.cells 1 [(vS ref_3)]))] : Hp) (by kernel_rfl) (h_op (vI r_6) wz rfl (h_nil ?_))
 obtain rfl := some_inj hF
 exact wH_ret (fin0 (.inr rfl) [(vI r_6)] ⟨rfl, trivial⟩ rfl rfl rfl)
theorem alert_ends_ok {l_1 : (List Alert)} {r : (List Int)} (hF : alert_ends l_1 = some r) :
  FnM Tryz.prog 117 [(vL Alert.enc l_1)] [] (vL eI r) [] := by
 refine FnM.of_wH ⟨Tryz.prog, 55, [], []⟩ rfl Tryz.func117 rfl rfl (Nat.le_of_ble_eq_true rfl) (by kernel_rfl) ?_
 unfold alert_ends at hF
 refine wH_seq (wH_region (h_op .nil wz rfl (h_nil (wH_seq (wH_region (h_op .nil wz rfl (h_nil (wH_seq (wH_seq (wH_region (h_op (vL Alert.enc l_1) wz rfl (h_len un78 rfl wz (h_op (vI 0) wz rfl (h_nil (wH_new (fun n_8 => ?_))))))))))))))))
 obtain ⟨o_13, hj_14, hF⟩ := bind_some hF
 obtain ⟨hn_6, hj_14⟩ := forL_some hj_14
 refine wH_join (β := ((List Int)) × Nm) (fun p => (fun (s_7 : (List Int)) (n_10 : Nm) => ([(0, (vL Alert.enc l_1)), (3, (gV n_10 1 s_7))] : List (Nat × V))) p.1 p.2) (fun p => (fun (s_7 : (List Int)) (n_10 : Nm) => ([(n_10, gB 1 eI s_7)] : Hp)) p.1 p.2) (fun p => o_13 = .go p.1) ?_ ?_
 ·refine wH_block (wH_loop (β := Nat × (List Alert) × ((List Int)) × Nm) (fun p => (fun (k_2 : Nat) (l_3 : List Alert) (s_7 : (List Int)) (n_10 : Nm) => ([(0, (vL Alert.enc l_1)), (3, (gV n_10 1 s_7)), (11, (vL Alert.enc l_1)), (12, (vI (l_1.length : Int))), (13, (vI (k_2 : Int)))] : List (Nat × V))) p.1 p.2.1 p.2.2.1 p.2.2.2) (fun p => (fun (k_2 : Nat) (l_3 : List Alert) (s_7 : (List Int)) (n_10 : Nm) => ([(n_10, gB 1 eI s_7)] : Hp)) p.1 p.2.1 p.2.2.1 p.2.2.2) (fun p => forR (fun k x s => alert_ends_L1 k x s) p.2.1 p.1 p.2.2.1 = some o_13 ∧ (l_1).drop p.1 = p.2.1) (fun p => p.2.1.length) (0, l_1, ([] : List Int), n_8) ⟨hj_14, rfl⟩ rfl (pre_r rfl) ?_)
  rintro ⟨k_2, l_3, s_7, n_10⟩ ⟨hL_12, hD_5⟩
  dsimp only at hL_12 hD_5
  cases l_3 with
  | nil =>
   obtain rfl := some_inj hL_12
   refine wH_seq (wH_region (h_op (vB (decide ((k_2 : Int) < (l_1.length : Int)))) wz rfl (h_nil ?_)))
   refine wH_seq (wH_iff rfl (drop_nil hD_5) (wH_exit ?_))
   exact cut_mk (s_7, n_10) rfl rfl (pre_r rfl)
  | cons x_4 l_3 =>
   obtain ⟨c_, hc_11, hL_12⟩ := bind_some hL_12
   refine wH_seq (wH_region (h_op (vB (decide ((k_2 : Int) < (l_1.length : Int)))) wz rfl (h_nil ?_)))
   refine wH_seq (wH_ift rfl (drop_cons hD_5) (wH_skip ?_))
   unfold alert_ends_L1 at hc_11
   refine wH_seq (wH_block (wH_seq (wH_region (h_ia es78 rfl rfl (drop_idx hD_5) rfl wz (h_ldc sz82 ag82 rfl (.d (.agg (Alert.enc x_4))) rfl wz (h_alloc 0 (.inl rfl) z82 rfl wz (fun n_15 => h_str 0 il ft 1 sz82 rfl rfl [(vS x_4.Id), (vS x_4.Sender), (vI x_4.Kind), (vL eS x_4.Refs), (vI x_4.At), (vI x_4.Until), (vI x_4.Weight), (vL Rect.enc x_4.Areas), (vS x_4.Text)] rfl wz (h_nil (wH_region (h_op (gV n_10 1 s_7) wz rfl (h_far pl82_5 rfl 5 rfl wz (h_ldr 0 1 il ft sz3 ag3 rfl rfl (vI x_4.Until) rfl wz (h_lit (([x_4.Until] : List Int).map eI) es22 ez22 rfl rfl rfl rfl rfl wz ?_)))))))))))))
   obtain ⟨a_16, hz_17, hc_11⟩ := bind_some hc_11
   refine h_appg 0 il ft (i := 0) el22 el22 sz3 z3 rfl (by decide) by3 (by decide) (fun _ => rfl) rfl rfl rfl hz_17 wz (fun n_18 => h_op (gV n_18 1 a_16) wz rfl (h_nil (wH_region (h_opw (w64_next hD_5 hn_6) wz rfl (h_op (vI ((k_2 + 1 : Nat) : Int)) wz rfl (h_nil ?_))))))
   obtain rfl := some_inj hc_11
   exact loop_mk (k_2 + 1, l_3, a_16, n_18) ⟨hL_12, drop_next hD_5⟩ (Nat.lt_succ_self _) rfl (pre_r rfl)
 ·rintro ⟨s_7, n_10⟩ ho_ sl_ H_ hp_ hq_
  subst ho_
  refine wH_at _ hp_ hq_ (wH_seq (wH_seq (wH_region (h_op (vL Alert.enc l_1) wz rfl (h_len un78 rfl wz (h_op (vI 0) wz rfl (h_nil ?_)))))))
  obtain ⟨o_27, hj_28, hF⟩ := bind_some hF
  obtain ⟨hn_23, hj_28⟩ := forL_some hj_28
  refine wH_join (β := ((List Int))) (fun (s_24 : (List Int)) => ([(3, (gV n_10 1 s_24))] : List (Nat × V))) (fun (s_24 : (List Int)) => ([(n_10, gB 1 eI s_24)] : Hp)) (fun p => o_27 = .go p) ?_ ?_
  ·refine wH_block (wH_loop (β := Nat × (List Alert) × ((List Int))) (fun p => (fun (k_19 : Nat) (l_20 : List Alert) (s_24 : (List Int)) => ([(0, (vL Alert.enc l_1)), (3, (gV n_10 1 s_24)), (23, (vL Alert.enc l_1)), (24, (vI (l_1.length : Int))), (25, (vI (k_19 : Int)))] : List (Nat × V))) p.1 p.2.1 p.2.2) (fun p => (fun (k_19 : Nat) (l_20 : List Alert) (s_24 : (List Int)) => ([(n_10, gB 1 eI s_24)] : Hp)) p.1 p.2.1 p.2.2) (fun p => forR (fun k x s => alert_ends_L3 l_1 k x s) p.2.1 p.1 p.2.2 = some o_27 ∧ (l_1).drop p.1 = p.2.1) (fun p => p.2.1.length) (0, l_1, s_7) ⟨hj_28, rfl⟩ rfl (pre_r rfl) ?_)
   rintro ⟨k_19, l_20, s_24⟩ ⟨hL_26, hD_22⟩
   dsimp only at hL_26 hD_22
   cases l_20 with
   | nil =>
    obtain rfl := some_inj hL_26
    refine wH_seq (wH_region (h_op (vB (decide ((k_19 : Int) < (l_1.length : Int)))) wz rfl (h_nil ?_)))
    refine wH_seq (wH_iff rfl (drop_nil hD_22) (wH_exit ?_))
    exact cut_mk (s_24) rfl rfl (pre_r rfl)
   | cons x_21 l_20 =>
    obtain ⟨c_, hc_25, hL_26⟩ := bind_some hL_26
    refine wH_seq (wH_region (h_op (vB (decide ((k_19 : Int) < (l_1.length : Int)))) wz rfl (h_nil ?_)))
    refine wH_seq (wH_ift rfl (drop_cons hD_22) (wH_skip ?_))
    unfold alert_ends_L3 at hc_25
    refine wH_seq (wH_block (wH_seq (wH_region (h_ia es78 rfl rfl (drop_idx hD_22) rfl wz (h_ldc sz82 ag82 rfl (.d (.agg (Alert.enc x_21))) rfl wz (h_alloc 0 (.inl rfl) z82 rfl wz (fun n_29 => h_str 0 il ft 1 sz82 rfl rfl [(vS x_21.Id), (vS x_21.Sender), (vI x_21.Kind), (vL eS x_21.Refs), (vI x_21.At), (vI x_21.Until), (vI x_21.Weight), (vL Rect.enc x_21.Areas), (vS x_21.Text)] rfl wz (h_nil (wH_seq (wH_region (h_far pl82_3 rfl 3 rfl wz (h_ldr 0 1 il ft sz80 ag80 rfl rfl (vL eS x_21.Refs) rfl wz (h_len un80 rfl wz (h_op (vI 0) wz rfl (h_nil ?_)))))))))))))))
    obtain ⟨o_38, hj_39, hc_25⟩ := bind_some hc_25
    obtain ⟨hn_34, hj_39⟩ := forL_some hj_39
    refine wH_join (β := ((List Int))) (fun (s_35 : (List Int)) => ([(0, (vL Alert.enc l_1)), (3, (gV n_10 1 s_35)), (23, (vL Alert.enc l_1)), (24, (vI (l_1.length : Int))), (25, (vI (k_19 : Int)))] : List (Nat × V))) (fun (s_35 : (List Int)) => ([(n_10, gB 1 eI s_35), (n_29, some (.cells 9 [(vS x_21.Id), (vS x_21.Sender), (vI x_21.Kind), (vL eS x_21.Refs), (vI x_21.At), (vI x_21.Until), (vI x_21.Weight), (vL Rect.enc x_21.Areas), (vS x_21.Text)]))] : Hp)) (fun p => o_38 = .go p) ?_ ?_
    ·refine wH_block (wH_loop (β := Nat × (List ByteArray) × ((List Int))) (fun p => (fun (k_30 : Nat) (l_31 : List ByteArray) (s_35 : (List Int)) => ([(0, (vL Alert.enc l_1)), (3, (gV n_10 1 s_35)), (7, (.ref n_29 0 0)), (23, (vL Alert.enc l_1)), (24, (vI (l_1.length : Int))), (25, (vI (k_19 : Int))), (30, (vL eS x_21.Refs)), (31, (vI (x_21.Refs.length : Int))), (32, (vI (k_30 : Int)))] : List (Nat × V))) p.1 p.2.1 p.2.2) (fun p => (fun (k_30 : Nat) (l_31 : List ByteArray) (s_35 : (List Int)) => ([(n_10, gB 1 eI s_35), (n_29, some (.cells 9 [(vS x_21.Id), (vS x_21.Sender), (vI x_21.Kind), (vL eS x_21.Refs), (vI x_21.At), (vI x_21.Until), (vI x_21.Weight), (vL Rect.enc x_21.Areas), (vS x_21.Text)]))] : Hp)) p.1 p.2.1 p.2.2) (fun p => forR (fun k x s => alert_ends_L2 l_1 x_21 k x s) p.2.1 p.1 p.2.2 = some o_38 ∧ (x_21.Refs).drop p.1 = p.2.1) (fun p => p.2.1.length) (0, x_21.Refs, s_24) ⟨hj_39, rfl⟩ rfl (pre_r rfl) ?_)
     rintro ⟨k_30, l_31, s_35⟩ ⟨hL_37, hD_33⟩
     dsimp only at hL_37 hD_33
     cases l_31 with
     | nil =>
      obtain rfl := some_inj hL_37
      refine wH_seq (wH_region (h_op (vB (decide ((k_30 : Int) < (x_21.Refs.length : Int)))) wz rfl (h_nil ?_)))
      refine wH_seq (wH_iff rfl (drop_nil hD_33) (wH_exit ?_))
      exact cut_mk (s_35) rfl rfl (pre_r rfl)
     | cons x_32 l_31 =>
      obtain ⟨c_, hc_36, hL_37⟩ := bind_some hL_37
      refine wH_seq (wH_region (h_op (vB (decide ((k_30 : Int) < (x_21.Refs.length : Int)))) wz rfl (h_nil ?_)))
      refine wH_seq (wH_ift rfl (drop_cons hD_33) (wH_skip ?_))
      unfold alert_ends_L2 at hc_36
      refine wH_seq (wH_block (wH_seq (wH_region (h_ia es80 rfl rfl (drop_idx hD_33) rfl wz (h_ldc sz9 ag9 rfl (vS x_32) rfl wz (h_op (vS x_32) wz rfl (h_nil (wH_seq (wH_region (h_op (vL Alert.enc l_1) wz rfl (h_ldr 0 1 il ft sz82 ag82 rfl rfl (.d (.agg (Alert.enc x_21))) rfl wz (h_op (vS x_32) wz rfl ?_))))))))))))
      obtain ⟨r_40, hr_41, hc_36⟩ := bind_some hc_36
      refine h_call0 (alert_find_ok hr_41) rfl hb193 rfl rfl rfl rfl wz (h_op (vI r_40) wz rfl (h_nil (wH_seq (wH_region (h_op (vI r_40) wz rfl (h_op (vB (decide (r_40 ≥ 0))) wz rfl (h_nil ?_)))))))
      obtain ⟨v_42, h_43, hc_36⟩ := bind_some hc_36
      refine wH_join (β := Unit) (fun _ => ([(0, (vL Alert.enc l_1)), (3, (gV n_10 1 v_42)), (7, (.ref n_29 0 0)), (23, (vL Alert.enc l_1)), (24, (vI (l_1.length : Int))), (25, (vI (k_19 : Int))), (30, (vL eS x_21.Refs)), (31, (vI (x_21.Refs.length : Int))), (32, (vI (k_30 : Int)))] : List (Nat × V))) (fun _ => ([(n_10, gB 1 eI v_42), (n_29, some (.cells 9 [(vS x_21.Id), (vS x_21.Sender), (vI x_21.Kind), (vL eS x_21.Refs), (vI x_21.At), (vI x_21.Until), (vI x_21.Weight), (vL Rect.enc x_21.Areas), (vS x_21.Text)]))] : Hp)) (fun _ => True) ?_ ?_
      ·rcases cond_some h_43 with ⟨hc_44, h_43⟩ | ⟨hc_44, h_43⟩
       ·refine wH_ift rfl hc_44 (wH_draws (h_op (gV n_10 1 s_35) wz rfl (h_op (vI r_40) wz rfl (h_op (gV n_10 1 s_35) wz rfl (h_op (vI r_40) wz rfl ?_)))))
        obtain ⟨_, hi_45, h_43⟩ := bind_some h_43
        refine h_iavg es22 rfl rfl (inR_0 hi_45) (inR_lt hi_45) wz ?_
        obtain ⟨e_46, hy_47, h_43⟩ := bind_some h_43
        refine h_ldvg 5 0 (.inr (by kernel_rfl)) (fun _ _ ag => trivial) sz3 ag3 rfl rfl hy_47 (vI e_46) rfl wz (h_far pl82_4 rfl 4 rfl wz (h_ldr 7 1 (.inr (by kernel_rfl)) (fun _ _ ag => ⟨.inl ⟨rfl, rfl⟩, trivial⟩) sz3 ag3 rfl rfl (vI x_21.At) rfl wz (h_minmax (vI (minI e_46 x_21.At)) rfl (.inl rfl) wz ?_)))
        obtain ⟨_, hi_48, h_43⟩ := bind_some h_43
        refine h_iavg es22 rfl rfl (inR_0 hi_48) (inR_lt hi_48) wz ?_
        obtain ⟨e_49, hy_50, h_43⟩ := bind_some h_43
        refine h_stvg 10 (.inr (by kernel_rfl)) (fun _ _ ag => ⟨.inr (.inr (by kernel_rfl)), ⟨.inr (.inr (by kernel_rfl)), trivial⟩⟩) 0 sz3 rfl rfl hy_50 (minI e_46 x_21.At) rfl wz (h_re (v' := (gV n_10 1 (s_35.set (0 + (r_40).toNat) (minI e_46 x_21.At)))) 3 rfl (gV_len (by simp)) (h_re (v' := (gV n_10 1 (s_35.set (0 + (r_40).toNat) (minI e_46 x_21.At)))) 42 rfl (gV_len (by simp)) (h_re (v' := (gV n_10 1 (s_35.set (0 + (r_40).toNat) (minI e_46 x_21.At)))) 44 rfl (gV_len (by simp)) (h_nil ?_))))
        obtain rfl := some_inj h_43
        exact cu
       ·refine wH_iff rfl hc_44 (wH_skip ?_)
        obtain rfl := some_inj h_43
        exact cu
      ·rintro ⟨⟩ _ sl_ H_ hp_ hq_
       refine wH_at _ hp_ hq_ (wH_region (h_opw (w64_next hD_33 hn_34) wz rfl (h_op (vI ((k_30 + 1 : Nat) : Int)) wz rfl (h_nil ?_))))
       obtain rfl := some_inj hc_36
       exact loop_mk (k_30 + 1, l_31, v_42) ⟨hL_37, drop_next hD_33⟩ (Nat.lt_succ_self _) rfl (pre_r rfl)
    ·rintro s_35 ho_ sl_ H_ hp_ hq_
     subst ho_
     refine wH_at _ hp_ hq_ (wH_region (h_opw (w64_next hD_22 hn_23) wz rfl (h_op (vI ((k_19 + 1 : Nat) : Int)) wz rfl (h_nil ?_))))
     obtain rfl := some_inj hc_25
     exact loop_mk (k_19 + 1, l_20, s_35) ⟨hL_26, drop_next hD_22⟩ (Nat.lt_succ_self _) rfl (pre_r rfl)
  ·rintro s_24 ho_ sl_ H_ hp_ hq_
   subst ho_
   refine wH_at _ hp_ hq_ (wH_seq (wH_region (h_op (gV n_10 1 s_24) wz rfl (h_op (gV n_10 1 s_24) wz rfl (h_nil (wH_frozg 0 rfl (wH_cog 2 0 rfl rfl (wH_cog 3 0 rfl rfl (wH_cog 54 0 rfl rfl ?_)))))))))
   obtain rfl := some_inj hF
   exact wH_ret (fin0 (.inr rfl) [(vL eI s_24)] ⟨rfl, trivial⟩ rfl rfl rfl)
theorem alert_isOn_ok {a_1 : Alert} {endv_2 : Int} {atv_3 : Int} {r : Bool} (hF : alert_isOn a_1 endv_2 atv_3 = some r) :
  FnM Tryz.prog 133 [(.d (.agg (Alert.enc a_1))), (vI endv_2), (vI atv_3)] [] (vB r) [] := by
 refine FnM.of_wH ⟨Tryz.prog, 21, [], []⟩ rfl Tryz.func133 rfl rfl (Nat.le_of_ble_eq_true rfl) (by kernel_rfl) ?_
 unfold alert_isOn at hF
 refine wH_seq (wH_region (h_box 0 (.inl rfl) [(vS a_1.Id), (vS a_1.Sender), (vI a_1.Kind), (vL eS a_1.Refs), (vI a_1.At), (vI a_1.Until), (vI a_1.Weight), (vL Rect.enc a_1.Areas), (vS a_1.Text)] rfl rfl wz (fun n_4 => h_op (vB false) wz rfl (h_nil (wH_seq ?_)))))
 obtain ⟨v_5, h_6, hF⟩ := bind_some hF
 refine wH_join (β := Unit) (fun _ => ([(6, (vB v_5))] : List (Nat × V))) (fun _ => ([(n_4, some (.cells 9 [(vS a_1.Id), (vS a_1.Sender), (vI a_1.Kind), (vL eS a_1.Refs), (vI a_1.At), (vI a_1.Until), (vI a_1.Weight), (vL Rect.enc a_1.Areas), (vS a_1.Text)]))] : Hp)) (fun _ => True) ?_ ?_
 ·refine wH_region (h_far pl82_2 rfl 2 rfl wz (h_ldr 0 0 il ft sz3 ag3 rfl rfl (vI a_1.Kind) rfl wz (h_op (vB (a_1.Kind != 3)) wz rfl ?_)))
  rcases cond_some h_6 with ⟨hc_7, h_6⟩ | ⟨hc_7, h_6⟩
  ·refine h_movb rfl hc_7 wz (h_far pl82_4 rfl 4 rfl wa (h_ldr 0 0 il ft sz3 ag3 rfl rfl (vI a_1.At) rfl wa (h_op (vI atv_3) wa rfl (h_op (vB (decide (a_1.At ≤ atv_3))) wa rfl (h_op (vB (decide (a_1.At ≤ atv_3))) wz rfl ?_)))))
   rcases cond_some h_6 with ⟨hc_8, h_6⟩ | ⟨hc_8, h_6⟩
   ·refine h_movb rfl hc_8 wz (h_op (vI atv_3) wa rfl (h_op (vI endv_2) wa rfl (h_op (vB (decide (atv_3 < endv_2))) wa rfl (h_op (vB (decide (atv_3 < endv_2))) wz rfl (h_op (vB (decide (atv_3 < endv_2))) wz rfl (h_nil ?_))))))
    obtain rfl := some_inj h_6
    exact cu
   ·refine h_movb rfl hc_8 wz (h_skip wa (h_skip wa (h_skip wa (h_op (vB false) wz rfl (h_op (vB false) wz rfl (h_nil ?_))))))
    obtain rfl := some_inj h_6
    exact cu
  ·refine h_movb rfl hc_7 wz (h_skip wa (h_skip wa (h_skip wa (h_skip wa (h_op (vB false) wz rfl (h_op (vB false) wz rfl (h_skip wa (h_skip wa (h_skip wa (h_op (vB false) wz rfl (h_op (vB false) wz rfl (h_nil ?_))))))))))))
   obtain rfl := some_inj h_6
   exact cu
 ·rintro ⟨⟩ _ sl_ H_ hp_ hq_
  refine wH_at _ hp_ hq_ ?_
  obtain rfl := some_inj hF
  exact wH_ret (fin0 (.inr rfl) [(vB v_5)] ⟨rfl, trivial⟩ rfl rfl rfl)
theorem alert_before_ok {a_1 : Alert} {b_2 : Alert} {r : Int} (hF : alert_before a_1 b_2 = some r) :
  FnM Tryz.prog 194 [(.d (.agg (Alert.enc a_1))), (.d (.agg (Alert.enc b_2)))] [] (vI r) [] := by
 refine FnM.of_wH ⟨Tryz.prog, 22, [], []⟩ rfl Tryz.func194 rfl rfl (Nat.le_of_ble_eq_true rfl) (by kernel_rfl) ?_
 unfold alert_before at hF
 refine wH_seq (wH_region (h_box 0 (.inl rfl) [(vS a_1.Id), (vS a_1.Sender), (vI a_1.Kind), (vL eS a_1.Refs), (vI a_1.At), (vI a_1.Until), (vI a_1.Weight), (vL Rect.enc a_1.Areas), (vS a_1.Text)] rfl rfl wz (fun n_3 => h_box 0 (.inl rfl) [(vS b_2.Id), (vS b_2.Sender), (vI b_2.Kind), (vL eS b_2.Refs), (vI b_2.At), (vI b_2.Until), (vI b_2.Weight), (vL Rect.enc b_2.Areas), (vS b_2.Text)] rfl rfl wz (fun n_4 => h_op (vI 0) wz rfl (h_nil (wH_seq (wH_draws (h_far pl82_6 rfl 6 rfl wz (h_ldr 1 1 (.inr (by kernel_rfl)) (fun _ _ ag => trivial) sz3 ag3 rfl rfl (vI b_2.Weight) rfl wz (h_far pl82_6 rfl 6 rfl wz (h_ldr 3 0 (.inr (by kernel_rfl)) (fun _ _ ag => ⟨.inl ⟨rfl, rfl⟩, trivial⟩) sz3 ag3 rfl rfl (vI a_1.Weight) rfl wz ?_)))))))))))
 obtain ⟨r_5, hr_6, hF⟩ := bind_some hF
 refine h_call0 (cmp_Compare_int_ok hr_6) rfl hb147 rfl rfl rfl rfl wz (h_far pl82_4 rfl 4 rfl wz (h_ldr 6 1 (.inr (by kernel_rfl)) (fun _ _ ag => ⟨.inl ⟨rfl, rfl⟩, ⟨.inl ⟨rfl, rfl⟩, trivial⟩⟩) sz3 ag3 rfl rfl (vI b_2.At) rfl wz (h_far pl82_4 rfl 4 rfl wz (h_ldr 8 0 (.inr (by kernel_rfl)) (fun _ _ ag => ⟨.inl ⟨rfl, rfl⟩, ⟨.inl ⟨rfl, rfl⟩, ⟨.inl ⟨rfl, rfl⟩, trivial⟩⟩⟩) sz3 ag3 rfl rfl (vI a_1.At) rfl wz ?_))))
 obtain ⟨r_7, hr_8, hF⟩ := bind_some hF
 refine h_call0 (cmp_Compare_int_ok hr_8) rfl hb147 rfl rfl rfl rfl wz (h_far pl82_0 rfl 0 rfl wz (h_ldr 11 0 (.inr (by kernel_rfl)) (fun _ _ ag => ⟨.inl ⟨rfl, rfl⟩, ⟨.inl ⟨rfl, rfl⟩, ⟨.inl ⟨rfl, rfl⟩, ⟨.inl ⟨rfl, rfl⟩, trivial⟩⟩⟩⟩) sz9 ag9 rfl rfl (vS a_1.Id) rfl wz (h_far pl82_0 rfl 0 rfl wz (h_ldr 13 1 (.inr (by kernel_rfl)) (fun _ _ ag => ⟨.inl ⟨rfl, rfl⟩, ⟨.inl ⟨rfl, rfl⟩, ⟨.inl ⟨rfl, rfl⟩, ⟨.inl ⟨rfl, rfl⟩, ⟨.inl ⟨rfl, rfl⟩, trivial⟩⟩⟩⟩⟩) sz9 ag9 rfl rfl (vS b_2.Id) rfl wz ?_))))
 obtain ⟨r_9, hr_10, hF⟩ := bind_some hF
 refine h_call0 (strings_Compare_ok hr_10) rfl hb129 rfl rfl rfl rfl wz (h_lit (([r_5, r_7, r_9] : List Int).map eI) es22 ez22 rfl rfl rfl rfl rfl wz ?_)
 obtain ⟨r_11, hr_12, hF⟩ := bind_some hF
 refine h_call0 (cmp_Or_int_ok hr_12) rfl hb141 rfl rfl rfl rfl wz (h_op (vI r_11) wz rfl (h_nil ?_))
 obtain rfl := some_inj hF
 exact wH_ret (fin0 (.inr rfl) [(vI r_11)] ⟨rfl, trivial⟩ rfl rfl rfl)
end Go.Proofs.YtpojeclokolkaaaGreatDoor.Law

