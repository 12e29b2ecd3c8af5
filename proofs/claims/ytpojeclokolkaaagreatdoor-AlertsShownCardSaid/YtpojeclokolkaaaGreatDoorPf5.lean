/-
 The machine computes these plain functions (written by a program of ours).
-/
import Derived.Test.YtpojeclokolkaaaGreatDoorFacts
import Derived.Test.YtpojeclokolkaaaGreatDoorDefs
import Derived.Test.YtpojeclokolkaaaGreatDoorPf4
open Go Go.Eng Go.Proofs
namespace Go.Proofs.YtpojeclokolkaaaGreatDoor.Law
set_option maxRecDepth 100000
set_option linter.unusedVariables false
set_option maxHeartbeats 1000000
theorem ref_AlertsFault_ok {l_1 : (List Alert)} {r : Int} (hF : ref_AlertsFault l_1 = some r) :
  FnM Tryz.prog 37 [(vL Alert.enc l_1)] [] (vI r) [] := by
 refine FnM.of_wH ⟨Tryz.prog, 53, [], []⟩ rfl Tryz.func37 rfl rfl (Nat.le_of_ble_eq_true rfl) (by kernel_rfl) ?_
 unfold ref_AlertsFault at hF
 refine wH_seq (wH_region (h_op (vI 0) wz rfl (h_nil (wH_seq (wH_seq (wH_region (h_op (vL Alert.enc l_1) wz rfl (h_len un78 rfl wz (h_op (vB (decide ((l_1.length : Int) > 300))) wz rfl (h_nil ?_))))))))))
 rcases cond_some hF with ⟨hc_2, hF⟩ | ⟨hc_2, hF⟩
 ·refine wH_ift rfl hc_2 (wH_seq (wH_region (h_op (vI 2) wz rfl (h_nil ?_))))
  obtain rfl := some_inj hF
  exact wH_ret (fin0 (.inr rfl) [(vI 2)] ⟨rfl, trivial⟩ rfl rfl rfl)
 ·refine wH_iff rfl hc_2 (wH_skip (wH_seq (wH_seq (wH_region (h_op (vL Alert.enc l_1) wz rfl (h_len un78 rfl wz (h_op (vI 0) wz rfl (h_nil ?_))))))))
  obtain ⟨o_11, hj_12, hF⟩ := bind_some hF
  obtain ⟨hn_7, hj_12⟩ := forL_some hj_12
  refine wH_join (β := (Unit)) (fun (s_8 : Unit) => ([(0, (vL Alert.enc l_1))] : List (Nat × V))) (fun (s_8 : Unit) => ([] : Hp)) (fun p => o_11 = .go p) ?_ ?_
  ·refine wH_block (wH_loop (β := Nat × (List Alert) × (Unit)) (fun p => (fun (k_3 : Nat) (l_4 : List Alert) (s_8 : Unit) => ([(0, (vL Alert.enc l_1)), (12, (vL Alert.enc l_1)), (13, (vI (l_1.length : Int))), (14, (vI (k_3 : Int)))] : List (Nat × V))) p.1 p.2.1 p.2.2) (fun p => (fun (k_3 : Nat) (l_4 : List Alert) (s_8 : Unit) => ([] : Hp)) p.1 p.2.1 p.2.2) (fun p => forR (fun k x s => ref_AlertsFault_L1 l_1 k x s) p.2.1 p.1 p.2.2 = some o_11 ∧ (l_1).drop p.1 = p.2.1) (fun p => p.2.1.length) (0, l_1, ()) ⟨hj_12, rfl⟩ rfl (pre_r rfl) ?_)
   rintro ⟨k_3, l_4, s_8⟩ ⟨hL_10, hD_6⟩
   dsimp only at hL_10 hD_6
   cases l_4 with
   | nil =>
    obtain rfl := some_inj hL_10
    refine wH_seq (wH_region (h_op (vB (decide ((k_3 : Int) < (l_1.length : Int)))) wz rfl (h_nil ?_)))
    refine wH_seq (wH_iff rfl (drop_nil hD_6) (wH_exit ?_))
    exact cut_mk (s_8) rfl rfl (pre_r rfl)
   | cons x_5 l_4 =>
    obtain ⟨c_, hc_9, hL_10⟩ := bind_some hL_10
    refine wH_seq (wH_region (h_op (vB (decide ((k_3 : Int) < (l_1.length : Int)))) wz rfl (h_nil ?_)))
    refine wH_seq (wH_ift rfl (drop_cons hD_6) (wH_skip ?_))
    unfold ref_AlertsFault_L1 at hc_9
    refine wH_seq (wH_block (wH_seq (wH_region (h_op (vI (k_3 : Int)) wz rfl (h_ia es78 rfl rfl (drop_idx hD_6) rfl wz (h_ldc sz82 ag82 rfl (.d (.agg (Alert.enc x_5))) rfl wz (h_alloc 0 (.inl rfl) z82 rfl wz (fun n_13 => h_op (vI (k_3 : Int)) wz rfl (h_str 0 il ft 0 sz82 rfl rfl [(vS x_5.Id), (vS x_5.Sender), (vI x_5.Kind), (vL eS x_5.Refs), (vI x_5.At), (vI x_5.Until), (vI x_5.Weight), (vL Rect.enc x_5.Areas), (vS x_5.Text)] rfl wz (h_nil (wH_seq (wH_seq (wH_region (h_ldr 0 0 il ft sz82 ag82 rfl rfl (.d (.agg (Alert.enc x_5))) rfl wz ?_))))))))))))))
    obtain ⟨r_14, hr_15, hc_9⟩ := bind_some hc_9
    refine h_call0 (ref_alertFault_ok hr_15) rfl hb119 rfl rfl rfl rfl wz (h_op (vI r_14) wz rfl (h_nil (wH_seq (wH_region (h_op (vI r_14) wz rfl (h_op (vB (r_14 != 0)) wz rfl (h_nil ?_)))))))
    rcases cond_some hc_9 with ⟨hc_16, hc_9⟩ | ⟨hc_16, hc_9⟩
    ·refine wH_ift rfl hc_16 (wH_seq (wH_region (h_op (vI r_14) wz rfl (h_op (vI r_14) wz rfl (h_nil ?_)))))
     obtain rfl := some_inj hc_9
     obtain rfl := some_inj hL_10
     obtain rfl := some_inj hF
     exact wH_ret (fin0 (.inr rfl) [(vI r_14)] ⟨rfl, trivial⟩ rfl rfl rfl)
    ·refine wH_iff rfl hc_16 (wH_skip (wH_seq ?_))
     obtain ⟨v_17, h_18, hc_9⟩ := bind_some hc_9
     refine wH_join (β := Unit) (fun _ => ([(0, (vL Alert.enc l_1)), (12, (vL Alert.enc l_1)), (13, (vI (l_1.length : Int))), (14, (vI (k_3 : Int))), (35, (vB v_17))] : List (Nat × V))) (fun _ => ([(n_13, some (.cells 9 [(vS x_5.Id), (vS x_5.Sender), (vI x_5.Kind), (vL eS x_5.Refs), (vI x_5.At), (vI x_5.Until), (vI x_5.Weight), (vL Rect.enc x_5.Areas), (vS x_5.Text)]))] : Hp)) (fun _ => True) ?_ ?_
     ·refine wH_draws (h_op (vI (k_3 : Int)) wz rfl (h_op (vB (decide ((k_3 : Int) > 0))) wz rfl ?_))
      rcases cond_some h_18 with ⟨hc_19, h_18⟩ | ⟨hc_19, h_18⟩
      ·refine h_movb rfl hc_19 wz (h_op (vL Alert.enc l_1) wa rfl (h_op (vI (k_3 : Int)) wa rfl (h_op (vI (w64 ((k_3 : Int) - 1))) wa rfl ?_)))
       obtain ⟨y_20, hy_21, h_18⟩ := bind_some h_18
       refine h_ia es78 rfl rfl hy_21 rfl wa (h_ldc sz82 ag82 rfl (.d (.agg (Alert.enc y_20))) rfl wa (h_ldr 8 0 (.inr (by kernel_rfl)) (fun _ _ ag => trivial) sz82 ag82 rfl rfl (.d (.agg (Alert.enc x_5))) rfl wa ?_))
       obtain ⟨r_22, hr_23, h_18⟩ := bind_some h_18
       refine h_call0 (ref_alertOrder_ok hr_23) rfl hb120 rfl rfl rfl rfl wa (h_op (vB (decide (r_22 ≥ 0))) wa rfl (h_op (vB (decide (r_22 ≥ 0))) wz rfl (h_nil ?_)))
       obtain rfl := some_inj h_18
       exact cu
      ·refine h_movb rfl hc_19 wz (h_skip wa (h_skip wa (h_skip wa (h_skip wa (h_skip wa (h_skip wa (h_skip wa (h_skip wa (h_op (vB false) wz rfl (h_nil ?_))))))))))
       obtain rfl := some_inj h_18
       exact cu
     ·rintro ⟨⟩ _ sl_ H_ hp_ hq_
      refine wH_at _ hp_ hq_ ?_
      rcases cond_some hc_9 with ⟨hc_24, hc_9⟩ | ⟨hc_24, hc_9⟩
      ·refine wH_ift rfl hc_24 (wH_seq (wH_region (h_op (vI 7) wz rfl (h_nil ?_))))
       obtain rfl := some_inj hc_9
       obtain rfl := some_inj hL_10
       obtain rfl := some_inj hF
       exact wH_ret (fin0 (.inr rfl) [(vI 7)] ⟨rfl, trivial⟩ rfl rfl rfl)
      ·refine wH_iff rfl hc_24 (wH_skip (wH_region (h_opw (w64_next hD_6 hn_7) wz rfl (h_op (vI ((k_3 + 1 : Nat) : Int)) wz rfl (h_nil ?_)))))
       obtain rfl := some_inj hc_9
       exact loop_mk (k_3 + 1, l_4, ()) ⟨hL_10, drop_next hD_6⟩ (Nat.lt_succ_self _) rfl (pre_r rfl)
  ·rintro s_8 ho_ sl_ H_ hp_ hq_
   subst ho_
   refine wH_at _ hp_ hq_ (wH_seq (wH_region (h_mkmap 0 (.inl rfl) wz (fun n_25 => h_reH (b' := some (bM D.str D.bool ([] : List (ByteArray × Bool)))) 0 rfl rfl (h_op (.map n_25) wz rfl (h_nil (wH_seq (wH_seq (wH_region (h_op (vL Alert.enc l_1) wz rfl (h_len un78 rfl wz (h_op (vI 0) wz rfl (h_nil ?_)))))))))))))
   obtain ⟨o_34, hj_35, hF⟩ := bind_some hF
   obtain ⟨hn_30, hj_35⟩ := forL_some hj_35
   refine wH_join (β := ((List (ByteArray × Bool)))) (fun (s_31 : (List (ByteArray × Bool))) => ([(0, (vL Alert.enc l_1)), (6, (.map n_25))] : List (Nat × V))) (fun (s_31 : (List (ByteArray × Bool))) => ([(n_25, some (bM D.str D.bool s_31))] : Hp)) (fun p => o_34 = .go p) ?_ ?_
   ·refine wH_block (wH_loop (β := Nat × (List Alert) × ((List (ByteArray × Bool)))) (fun p => (fun (k_26 : Nat) (l_27 : List Alert) (s_31 : (List (ByteArray × Bool))) => ([(0, (vL Alert.enc l_1)), (6, (.map n_25)), (38, (vL Alert.enc l_1)), (39, (vI (l_1.length : Int))), (40, (vI (k_26 : Int)))] : List (Nat × V))) p.1 p.2.1 p.2.2) (fun p => (fun (k_26 : Nat) (l_27 : List Alert) (s_31 : (List (ByteArray × Bool))) => ([(n_25, some (bM D.str D.bool s_31))] : Hp)) p.1 p.2.1 p.2.2) (fun p => forR (fun k x s => ref_AlertsFault_L2 k x s) p.2.1 p.1 p.2.2 = some o_34 ∧ (l_1).drop p.1 = p.2.1) (fun p => p.2.1.length) (0, l_1, ([] : List (ByteArray × Bool))) ⟨hj_35, rfl⟩ rfl (pre_r rfl) ?_)
    rintro ⟨k_26, l_27, s_31⟩ ⟨hL_33, hD_29⟩
    dsimp only at hL_33 hD_29
    cases l_27 with
    | nil =>
     obtain rfl := some_inj hL_33
     refine wH_seq (wH_region (h_op (vB (decide ((k_26 : Int) < (l_1.length : Int)))) wz rfl (h_nil ?_)))
     refine wH_seq (wH_iff rfl (drop_nil hD_29) (wH_exit ?_))
     exact cut_mk (s_31) rfl rfl (pre_r rfl)
    | cons x_28 l_27 =>
     obtain ⟨c_, hc_32, hL_33⟩ := bind_some hL_33
     refine wH_seq (wH_region (h_op (vB (decide ((k_26 : Int) < (l_1.length : Int)))) wz rfl (h_nil ?_)))
     refine wH_seq (wH_ift rfl (drop_cons hD_29) (wH_skip ?_))
     unfold ref_AlertsFault_L2 at hc_32
     refine wH_seq (wH_block (wH_seq (wH_region (h_ia es78 rfl rfl (drop_idx hD_29) rfl wz (h_ldc sz82 ag82 rfl (.d (.agg (Alert.enc x_28))) rfl wz (h_alloc 0 (.inl rfl) z82 rfl wz (fun n_36 => h_str 0 il ft 1 sz82 rfl rfl [(vS x_28.Id), (vS x_28.Sender), (vI x_28.Kind), (vL eS x_28.Refs), (vI x_28.At), (vI x_28.Until), (vI x_28.Weight), (vL Rect.enc x_28.Areas), (vS x_28.Text)] rfl wz (h_nil (wH_region (h_op (.map n_25) wz rfl (h_far pl82_0 rfl 0 rfl wz (h_ldr 0 1 il ft sz9 ag9 rfl rfl (vS x_28.Id) rfl wz (h_mapset (eq := eqS) (kD := D.str) (vD := D.bool) (es := s_31) (k := x_28.Id) (v := true) 0 0 il ft (fun _ _ => rfl) mt207 (by kernel_rfl) rfl rfl rfl rfl wz (h_nil (wH_region (h_opw (w64_next hD_29 hn_30) wz rfl (h_op (vI ((k_26 + 1 : Nat) : Int)) wz rfl (h_nil ?_))))))))))))))))))
     obtain rfl := some_inj hc_32
     exact loop_mk (k_26 + 1, l_27, (mSet eqS s_31 x_28.Id true)) ⟨hL_33, drop_next hD_29⟩ (Nat.lt_succ_self _) rfl (pre_r rfl)
   ·rintro s_31 ho_ sl_ H_ hp_ hq_
    subst ho_
    refine wH_at _ hp_ hq_ (wH_seq (wH_seq (wH_region (h_op (.map n_25) wz rfl (h_maplen (kD := D.str) (vD := D.bool) (es := s_31) 0 0 il ft mt207 rfl rfl wz (h_op (vL Alert.enc l_1) wz rfl (h_len un78 rfl wz (h_op (vB (decide ((s_31.length : Int) < (l_1.length : Int)))) wz rfl (h_nil ?_)))))))))
    rcases cond_some hF with ⟨hc_37, hF⟩ | ⟨hc_37, hF⟩
    ·refine wH_ift rfl hc_37 (wH_seq (wH_region (h_op (vI 6) wz rfl (h_nil ?_))))
     obtain rfl := some_inj hF
     exact wH_ret (fin0 (.inr rfl) [(vI 6)] ⟨rfl, trivial⟩ rfl rfl rfl)
    ·refine wH_iff rfl hc_37 (wH_skip (wH_seq (wH_region (h_op (vI 0) wz rfl (h_nil ?_)))))
     obtain rfl := some_inj hF
     exact wH_ret (fin0 (.inr rfl) [(vI 0)] ⟨rfl, trivial⟩ rfl rfl rfl)
theorem ref_PostsFault_ok {l_1 : (List Post)} {r : Int} (hF : ref_PostsFault l_1 = some r) :
  FnM Tryz.prog 38 [(vL Post.enc l_1)] [] (vI r) [] := by
 refine FnM.of_wH ⟨Tryz.prog, 39, [], []⟩ rfl Tryz.func38 rfl rfl (Nat.le_of_ble_eq_true rfl) (by kernel_rfl) ?_
 unfold ref_PostsFault at hF
 refine wH_seq (wH_region (h_op (vI 0) wz rfl (h_nil (wH_seq (wH_seq (wH_region (h_op (vL Post.enc l_1) wz rfl (h_len un86 rfl wz (h_op (vB (decide ((l_1.length : Int) > 500))) wz rfl (h_nil ?_))))))))))
 rcases cond_some hF with ⟨hc_2, hF⟩ | ⟨hc_2, hF⟩
 ·refine wH_ift rfl hc_2 (wH_seq (wH_region (h_op (vI 2) wz rfl (h_nil ?_))))
  obtain rfl := some_inj hF
  exact wH_ret (fin0 (.inr rfl) [(vI 2)] ⟨rfl, trivial⟩ rfl rfl rfl)
 ·refine wH_iff rfl hc_2 (wH_skip (wH_seq (wH_region (h_op (vS (⟨#[]⟩ : ByteArray)) wz rfl (h_nil (wH_seq (wH_seq (wH_region (h_op (vL Post.enc l_1) wz rfl (h_len un86 rfl wz (h_op (vI 0) wz rfl (h_nil ?_))))))))))))
  obtain ⟨o_11, hj_12, hF⟩ := bind_some hF
  obtain ⟨hn_7, hj_12⟩ := forL_some hj_12
  refine wH_join (β := (ByteArray)) (fun (s_8 : ByteArray) => ([] : List (Nat × V))) (fun (s_8 : ByteArray) => ([] : Hp)) (fun p => o_11 = .go p) ?_ ?_
  ·refine wH_block (wH_loop (β := Nat × (List Post) × (ByteArray)) (fun p => (fun (k_3 : Nat) (l_4 : List Post) (s_8 : ByteArray) => ([(3, (vS s_8)), (9, (vL Post.enc l_1)), (10, (vI (l_1.length : Int))), (11, (vI (k_3 : Int)))] : List (Nat × V))) p.1 p.2.1 p.2.2) (fun p => (fun (k_3 : Nat) (l_4 : List Post) (s_8 : ByteArray) => ([] : Hp)) p.1 p.2.1 p.2.2) (fun p => forR (fun k x s => ref_PostsFault_L1 k x s) p.2.1 p.1 p.2.2 = some o_11 ∧ (l_1).drop p.1 = p.2.1) (fun p => p.2.1.length) (0, l_1, (⟨#[]⟩ : ByteArray)) ⟨hj_12, rfl⟩ rfl (pre_r rfl) ?_)
   rintro ⟨k_3, l_4, s_8⟩ ⟨hL_10, hD_6⟩
   dsimp only at hL_10 hD_6
   cases l_4 with
   | nil =>
    obtain rfl := some_inj hL_10
    refine wH_seq (wH_region (h_op (vB (decide ((k_3 : Int) < (l_1.length : Int)))) wz rfl (h_nil ?_)))
    refine wH_seq (wH_iff rfl (drop_nil hD_6) (wH_exit ?_))
    exact cut_mk (s_8) rfl rfl (pre_r rfl)
   | cons x_5 l_4 =>
    obtain ⟨c_, hc_9, hL_10⟩ := bind_some hL_10
    refine wH_seq (wH_region (h_op (vB (decide ((k_3 : Int) < (l_1.length : Int)))) wz rfl (h_nil ?_)))
    refine wH_seq (wH_ift rfl (drop_cons hD_6) (wH_skip ?_))
    unfold ref_PostsFault_L1 at hc_9
    refine wH_seq (wH_block (wH_seq (wH_region (h_ia es86 rfl rfl (drop_idx hD_6) rfl wz (h_ldc sz77 ag77 rfl (.d (.agg (Post.enc x_5))) rfl wz (h_alloc 0 (.inl rfl) z77 rfl wz (fun n_13 => h_str 0 il ft 0 sz77 rfl rfl [(vS x_5.Player), (vI x_5.X), (vI x_5.Y)] rfl wz (h_nil (wH_seq (wH_block (wH_seq (wH_region (h_far pl77_0 rfl 0 rfl wz (h_ldr 0 0 il ft sz9 ag9 rfl rfl (vS x_5.Player) rfl wz ?_))))))))))))))
    obtain ⟨r_14, hr_15, hc_9⟩ := bind_some hc_9
    refine h_call0 (ref_Key_ok hr_15) rfl hb121 rfl rfl rfl rfl wz (h_op (vB (!r_14)) wz rfl (h_op (vB (!r_14)) wz rfl (h_nil ?_)))
    rcases cond_some hc_9 with ⟨hc_16, hc_9⟩ | ⟨hc_16, hc_9⟩
    ·refine wH_ift rfl hc_16 (wH_seq (wH_region (h_op (vI 5) wz rfl (h_nil ?_))))
     obtain rfl := some_inj hc_9
     obtain rfl := some_inj hL_10
     obtain rfl := some_inj hF
     exact wH_ret (fin0 (.inr rfl) [(vI 5)] ⟨rfl, trivial⟩ rfl rfl rfl)
    ·refine wH_iff rfl hc_16 (wH_seq ?_)
     obtain ⟨v_17, h_18, hc_9⟩ := bind_some hc_9
     refine wH_join (β := Unit) (fun _ => ([(3, (vS s_8)), (5, (.ref n_13 0 0)), (9, (vL Post.enc l_1)), (10, (vI (l_1.length : Int))), (11, (vI (k_3 : Int))), (20, (vB v_17))] : List (Nat × V))) (fun _ => ([(n_13, some (.cells 3 [(vS x_5.Player), (vI x_5.X), (vI x_5.Y)]))] : Hp)) (fun _ => True) ?_ ?_
     ·refine wH_region (h_far pl77_1 rfl 1 rfl wz (h_ldr 0 0 il ft sz3 ag3 rfl rfl (vI x_5.X) rfl wz ?_))
      obtain ⟨r_19, hr_20, h_18⟩ := bind_some h_18
      refine h_call0 (ref_in_ok hr_20) rfl hb122 rfl rfl rfl rfl wz (h_op (vB (!r_19)) wz rfl ?_)
      rcases cond_some h_18 with ⟨hc_21, h_18⟩ | ⟨hc_21, h_18⟩
      ·refine h_movb rfl hc_21 wz (h_skip wa (h_skip wa (h_skip wa (h_skip wa (h_op (vB true) wz rfl (h_op (vB true) wz rfl (h_nil ?_)))))))
       obtain rfl := some_inj h_18
       exact cu
      ·refine h_movb rfl hc_21 wz (h_far pl77_2 rfl 2 rfl wa (h_ldr 0 0 il ft sz3 ag3 rfl rfl (vI x_5.Y) rfl wa ?_))
       obtain ⟨r_22, hr_23, h_18⟩ := bind_some h_18
       refine h_call0 (ref_in_ok hr_23) rfl hb122 rfl rfl rfl rfl wa (h_op (vB (!r_22)) wa rfl (h_op (vB (!r_22)) wz rfl (h_op (vB (!r_22)) wz rfl (h_nil ?_))))
       obtain rfl := some_inj h_18
       exact cu
     ·rintro ⟨⟩ _ sl_ H_ hp_ hq_
      refine wH_at _ hp_ hq_ ?_
      rcases cond_some hc_9 with ⟨hc_24, hc_9⟩ | ⟨hc_24, hc_9⟩
      ·refine wH_ift rfl hc_24 (wH_seq (wH_region (h_op (vI 1) wz rfl (h_nil ?_))))
       obtain rfl := some_inj hc_9
       obtain rfl := some_inj hL_10
       obtain rfl := some_inj hF
       exact wH_ret (fin0 (.inr rfl) [(vI 1)] ⟨rfl, trivial⟩ rfl rfl rfl)
      ·refine wH_iff rfl hc_24 (wH_seq (wH_region (h_far pl77_0 rfl 0 rfl wz (h_ldr 0 0 il ft sz9 ag9 rfl rfl (vS x_5.Player) rfl wz (h_op (vS s_8) wz rfl (h_op (vB (sLe x_5.Player s_8)) wz rfl (h_op (vB (sLe x_5.Player s_8)) wz rfl (h_nil ?_))))))))
       rcases cond_some hc_9 with ⟨hc_25, hc_9⟩ | ⟨hc_25, hc_9⟩
       ·refine wH_ift rfl hc_25 (wH_seq (wH_region (h_op (vI 7) wz rfl (h_nil ?_))))
        obtain rfl := some_inj hc_9
        obtain rfl := some_inj hL_10
        obtain rfl := some_inj hF
        exact wH_ret (fin0 (.inr rfl) [(vI 7)] ⟨rfl, trivial⟩ rfl rfl rfl)
       ·refine wH_iff rfl hc_25 (wH_skip (wH_region (h_far pl77_0 rfl 0 rfl wz (h_ldr 0 0 il ft sz9 ag9 rfl rfl (vS x_5.Player) rfl wz (h_op (vS x_5.Player) wz rfl (h_nil (wH_region (h_opw (w64_next hD_6 hn_7) wz rfl (h_op (vI ((k_3 + 1 : Nat) : Int)) wz rfl (h_nil ?_))))))))))
        obtain rfl := some_inj hc_9
        exact loop_mk (k_3 + 1, l_4, x_5.Player) ⟨hL_10, drop_next hD_6⟩ (Nat.lt_succ_self _) rfl (pre_r rfl)
  ·rintro s_8 ho_ sl_ H_ hp_ hq_
   subst ho_
   refine wH_at _ hp_ hq_ (wH_seq (wH_region (h_op (vI 0) wz rfl (h_nil ?_))))
   obtain rfl := some_inj hF
   exact wH_ret (fin0 (.inr rfl) [(vI 0)] ⟨rfl, trivial⟩ rfl rfl rfl)
theorem law_when_ok {is_1 : Bool} {e_2 : Int} {r : Int} (hF : law_when is_1 e_2 = some r) :
  FnM Tryz.prog 76 [(vB is_1), (vI e_2)] [] (vI r) [] := by
 refine FnM.of_wH ⟨Tryz.prog, 7, [], []⟩ rfl Tryz.func76 rfl rfl (Nat.le_of_ble_eq_true rfl) (by kernel_rfl) ?_
 unfold law_when at hF
 refine wH_seq (wH_region (h_op (vI 0) wz rfl (h_nil (wH_seq (wH_seq (wH_region (h_op (vB is_1) wz rfl (h_nil ?_))))))))
 rcases cond_some hF with ⟨hc_3, hF⟩ | ⟨hc_3, hF⟩
 ·refine wH_ift rfl hc_3 (wH_seq (wH_region (h_op (vI e_2) wz rfl (h_op (vI e_2) wz rfl (h_nil ?_)))))
  obtain rfl := some_inj hF
  exact wH_ret (fin0 (.inr rfl) [(vI e_2)] ⟨rfl, trivial⟩ rfl rfl rfl)
 ·refine wH_iff rfl hc_3 (wH_skip (wH_seq (wH_region (h_op (vI 0) wz rfl (h_nil ?_)))))
  obtain rfl := some_inj hF
  exact wH_ret (fin0 (.inr rfl) [(vI 0)] ⟨rfl, trivial⟩ rfl rfl rfl)
theorem law_momentFault_ok {atv_1 : Int} {r : Int} (hF : law_momentFault atv_1 = some r) :
  FnM Tryz.prog 39 [(vI atv_1)] [] (vI r) [] := by
 refine FnM.of_wH ⟨Tryz.prog, 7, [], []⟩ rfl Tryz.func39 rfl rfl (Nat.le_of_ble_eq_true rfl) (by kernel_rfl) ?_
 unfold law_momentFault at hF
 refine wH_seq (wH_region (h_op (vI 0) wz rfl (h_nil (wH_seq (wH_region (h_op (vI atv_1) wz rfl ?_))))))
 obtain ⟨r_2, hr_3, hF⟩ := bind_some hF
 refine h_call0 (ref_Moment_ok hr_3) rfl hb123 rfl rfl rfl rfl wz (h_op (vB (!r_2)) wz rfl ?_)
 obtain ⟨r_4, hr_5, hF⟩ := bind_some hF
 refine h_call0 (law_when_ok hr_5) rfl hb76 rfl rfl rfl rfl wz (h_op (vI r_4) wz rfl (h_nil ?_))
 obtain rfl := some_inj hF
 exact wH_ret (fin0 (.inr rfl) [(vI r_4)] ⟨rfl, trivial⟩ rfl rfl rfl)
theorem law_errs_ok {l_1 : (List Int)} {r : Int} (hF : law_errs l_1 = some r) :
  FnM Tryz.prog 36 [(vL eI l_1)] [] (vI r) [] := by
 refine FnM.of_wH ⟨Tryz.prog, 15, [], []⟩ rfl Tryz.func36 rfl rfl (Nat.le_of_ble_eq_true rfl) (by kernel_rfl) ?_
 unfold law_errs at hF
 refine wH_seq (wH_region (h_op (vI 0) wz rfl (h_nil (wH_seq (wH_seq (wH_region (h_op (vL eI l_1) wz rfl (h_len un192 rfl wz (h_op (vI 0) wz rfl (h_nil ?_))))))))))
 obtain ⟨o_10, hj_11, hF⟩ := bind_some hF
 obtain ⟨hn_6, hj_11⟩ := forL_some hj_11
 refine wH_join (β := (Unit)) (fun (s_7 : Unit) => ([] : List (Nat × V))) (fun (s_7 : Unit) => ([] : Hp)) (fun p => o_10 = .go p) ?_ ?_
 ·refine wH_block (wH_loop (β := Nat × (List Int) × (Unit)) (fun p => (fun (k_2 : Nat) (l_3 : List Int) (s_7 : Unit) => ([(5, (vL eI l_1)), (6, (vI (l_1.length : Int))), (7, (vI (k_2 : Int)))] : List (Nat × V))) p.1 p.2.1 p.2.2) (fun p => (fun (k_2 : Nat) (l_3 : List Int) (s_7 : Unit) => ([] : Hp)) p.1 p.2.1 p.2.2) (fun p => forR (fun k x s => law_errs_L1 k x s) p.2.1 p.1 p.2.2 = some o_10 ∧ (l_1).drop p.1 = p.2.1) (fun p => p.2.1.length) (0, l_1, ()) ⟨hj_11, rfl⟩ rfl (pre_r rfl) ?_)
  rintro ⟨k_2, l_3, s_7⟩ ⟨hL_9, hD_5⟩
  dsimp only at hL_9 hD_5
  cases l_3 with
  | nil =>
   obtain rfl := some_inj hL_9
   refine wH_seq (wH_region (h_op (vB (decide ((k_2 : Int) < (l_1.length : Int)))) wz rfl (h_nil ?_)))
   refine wH_seq (wH_iff rfl (drop_nil hD_5) (wH_exit ?_))
   exact cut_mk (s_7) rfl rfl (pre_r rfl)
  | cons x_4 l_3 =>
   obtain ⟨c_, hc_8, hL_9⟩ := bind_some hL_9
   refine wH_seq (wH_region (h_op (vB (decide ((k_2 : Int) < (l_1.length : Int)))) wz rfl (h_nil ?_)))
   refine wH_seq (wH_ift rfl (drop_cons hD_5) (wH_skip ?_))
   unfold law_errs_L1 at hc_8
   refine wH_seq (wH_block (wH_seq (wH_region (h_ia es192 rfl rfl (drop_idx hD_5) rfl wz (h_ldc sz30 ag30 rfl (vI x_4) rfl wz (h_op (vI x_4) wz rfl (h_nil (wH_seq (wH_region (h_op (vI x_4) wz rfl (h_op (vB (x_4 != 0)) wz rfl (h_nil ?_))))))))))))
   rcases cond_some hc_8 with ⟨hc_12, hc_8⟩ | ⟨hc_12, hc_8⟩
   ·refine wH_ift rfl hc_12 (wH_seq (wH_region (h_op (vI x_4) wz rfl (h_op (vI x_4) wz rfl (h_nil ?_)))))
    obtain rfl := some_inj hc_8
    obtain rfl := some_inj hL_9
    obtain rfl := some_inj hF
    exact wH_ret (fin0 (.inr rfl) [(vI x_4)] ⟨rfl, trivial⟩ rfl rfl rfl)
   ·refine wH_iff rfl hc_12 (wH_skip (wH_region (h_opw (w64_next hD_5 hn_6) wz rfl (h_op (vI ((k_2 + 1 : Nat) : Int)) wz rfl (h_nil ?_)))))
    obtain rfl := some_inj hc_8
    exact loop_mk (k_2 + 1, l_3, ()) ⟨hL_9, drop_next hD_5⟩ (Nat.lt_succ_self _) rfl (pre_r rfl)
 ·rintro s_7 ho_ sl_ H_ hp_ hq_
  subst ho_
  refine wH_at _ hp_ hq_ (wH_seq (wH_region (h_op (vI 0) wz rfl (h_nil ?_))))
  obtain rfl := some_inj hF
  exact wH_ret (fin0 (.inr rfl) [(vI 0)] ⟨rfl, trivial⟩ rfl rfl rfl)
theorem ref_holds_1_ok {o_1 : Alert} {p_2 : ByteArray} {p_3 : Alert} {r : Bool} (hF : ref_holds_1 o_1 p_2 p_3 = some r) :
  FnM Tryz.prog 261 [(.d (.agg (Alert.enc o_1))), (.ref (extN 0) 0 0), (.ref (extN 1) 0 0)] [(.cells 1 [(vS p_2)]), (.cells 9 [(vS p_3.Id), (vS p_3.Sender), (vI p_3.Kind), (vL eS p_3.Refs), (vI p_3.At), (vI p_3.Until), (vI p_3.Weight), (vL Rect.enc p_3.Areas), (vS p_3.Text)])] (vB r) [some (.cells 1 [(vS p_2)]), some (.cells 9 [(vS p_3.Id), (vS p_3.Sender), (vI p_3.Kind), (vL eS p_3.Refs), (vI p_3.At), (vI p_3.Until), (vI p_3.Weight), (vL Rect.enc p_3.Areas), (vS p_3.Text)])] := by
 refine FnM.of_wH ⟨Tryz.prog, 22, [], []⟩ rfl Tryz.func261 rfl rfl (Nat.le_of_ble_eq_true rfl) (by kernel_rfl) ?_
 unfold ref_holds_1 at hF
 refine wH_seq (wH_region (h_box 0 (.inl rfl) [(vS o_1.Id), (vS o_1.Sender), (vI o_1.Kind), (vL eS o_1.Refs), (vI o_1.At), (vI o_1.Until), (vI o_1.Weight), (vL Rect.enc o_1.Areas), (vS o_1.Text)] rfl rfl wz (fun n_4 => h_op (vB false) wz rfl (h_nil (wH_seq ?_)))))
 obtain ⟨v_5, h_6, hF⟩ := bind_some hF
 refine wH_join (β := Unit) (fun _ => ([(4, (vB v_5))] : List (Nat × V))) (fun _ => ([((extN 0), some (.cells 1 [(vS p_2)])), ((extN 1), some (.cells 9 [(vS p_3.Id), (vS p_3.Sender), (vI p_3.Kind), (vL eS p_3.Refs), (vI p_3.At), (vI p_3.Until), (vI p_3.Weight), (vL Rect.enc p_3.Areas), (vS p_3.Text)])), (n_4, some (.cells 9 [(vS o_1.Id), (vS o_1.Sender), (vI o_1.Kind), (vL eS o_1.Refs), (vI o_1.At), (vI o_1.Until), (vI o_1.Weight), (vL Rect.enc o_1.Areas), (vS o_1.Text)]))] : Hp)) (fun _ => True) ?_ ?_
 ·refine wH_region (h_far pl82_0 rfl 0 rfl wz (h_ldr 0 2 il ft sz9 ag9 rfl rfl (vS o_1.Id) rfl wz (h_ldr 0 0 il ft sz9 ag9 rfl rfl (vS p_2) rfl wz (h_op (vB (sEq o_1.Id p_2)) wz rfl ?_))))
  rcases cond_some h_6 with ⟨hc_7, h_6⟩ | ⟨hc_7, h_6⟩
  ·refine h_movb rfl hc_7 wz (h_far pl82_1 rfl 1 rfl wa (h_ldr 0 2 il ft sz9 ag9 rfl rfl (vS o_1.Sender) rfl wa (h_far pl82_1 rfl 1 rfl wa (h_ldr 0 1 il ft sz9 ag9 rfl rfl (vS p_3.Sender) rfl wa (h_op (vB (sEq o_1.Sender p_3.Sender)) wa rfl (h_op (vB (sEq o_1.Sender p_3.Sender)) wz rfl ?_))))))
   rcases cond_some h_6 with ⟨hc_8, h_6⟩ | ⟨hc_8, h_6⟩
   ·refine h_movb rfl hc_8 wz (h_ldr 0 2 il ft sz82 ag82 rfl rfl (.d (.agg (Alert.enc o_1))) rfl wa (h_ldr 0 1 il ft sz82 ag82 rfl rfl (.d (.agg (Alert.enc p_3))) rfl wa ?_))
    obtain ⟨r_9, hr_10, h_6⟩ := bind_some h_6
    refine h_call0 (ref_alertOrder_ok hr_10) rfl hb120 rfl rfl rfl rfl wa (h_op (vB (decide (r_9 < 0))) wa rfl (h_op (vB (decide (r_9 < 0))) wz rfl (h_op (vB (decide (r_9 < 0))) wz rfl (h_nil ?_))))
    obtain rfl := some_inj h_6
    exact cu
   ·refine h_movb rfl hc_8 wz (h_skip wa (h_skip wa (h_skip wa (h_skip wa (h_op (vB false) wz rfl (h_op (vB false) wz rfl (h_nil ?_)))))))
    obtain rfl := some_inj h_6
    exact cu
  ·refine h_movb rfl hc_7 wz (h_skip wa (h_skip wa (h_skip wa (h_skip wa (h_skip wa (h_op (vB false) wz rfl (h_op (vB false) wz rfl (h_skip wa (h_skip wa (h_skip wa (h_skip wa (h_op (vB false) wz rfl (h_op (vB false) wz rfl (h_nil ?_))))))))))))))
   obtain rfl := some_inj h_6
   exact cu
 ·rintro ⟨⟩ _ sl_ H_ hp_ hq_
  refine wH_at _ hp_ hq_ ?_
  obtain rfl := some_inj hF
  exact wH_ret (finB (.inr rfl) [(vB v_5)] _ [0, 1] [extN 0, extN 1] ⟨rfl, trivial⟩ (.cons (co_data rfl rfl) (.nil)) (by kernel_rfl) ⟨(by kernel_rfl), ⟨(by kernel_rfl), trivial⟩⟩ (by decide) (by kernel_rfl))
theorem slices_ContainsFunc_api_Alert_api_Alert_ok {s_1 : (List Alert)} {f_2 : Alert → Option Bool} {r : Bool} {gid : FuncId} {caps : List V} {Sin : List Box} (hfn : ∀ x0 r, f_2 x0 = some r → FnM Tryz.prog gid ([(.d (.agg (Alert.enc x0)))] ++ caps) Sin (vB r) (Sin.map some)) (hbF : hasBody Tryz.prog gid = true) (hcapF : caps.flatMap frz = [] ∧ caps.map co0 = caps) (hokF : okL Sin.length caps = true) (hsF : ∀ b ∈ Sin, b.ok Sin.length = true) (hmF : ∀ b ∈ Sin, b.mut = true) (hF : slices_ContainsFunc_api_Alert_api_Alert s_1 f_2 = some r) :
  FnM Tryz.prog 155 [(vL Alert.enc s_1), (.fn gid caps)] Sin (vB r) (Sin.map some) := by
 refine FnM.of_wH ⟨Tryz.prog, 9, [], []⟩ rfl Tryz.func155 rfl rfl (Nat.le_of_ble_eq_true rfl) (by kernel_rfl) ?_
 unfold slices_ContainsFunc_api_Alert_api_Alert at hF
 refine wH_seq (wH_region (h_op (vB false) wz rfl (h_nil (wH_seq (wH_region (h_op (vL Alert.enc s_1) wz rfl (h_op (.fn gid caps) wz rfl ?_)))))))
 obtain ⟨r_3, hr_4, hF⟩ := bind_some hF
 refine h_callS (slices_IndexFunc_api_Alert_api_Alert_ok (gid := gid) (caps := caps) (Sin := Sin) hfn hbF hcapF hokF hsF hmF hr_4) rfl hb58 rfl rfl ⟨rfl, rfl⟩ (by simp [okL, okV, hokF]) hsF hmF rfl wz rfl (h_op (vB (decide (r_3 ≥ 0))) wz rfl (h_op (vB (decide (r_3 ≥ 0))) wz rfl (h_nil ?_)))
 obtain rfl := some_inj hF
 exact wH_ret (finS hsF (.inr rfl) [(vB (decide (r_3 ≥ 0)))] ⟨rfl, trivial⟩ rfl rfl rfl)
theorem ref_holds_ok {l_1 : (List Alert)} {a_2 : Alert} {ref_3 : ByteArray} {r : Bool} (hF : ref_holds l_1 a_2 ref_3 = some r) :
  FnM Tryz.prog 208 [(vL Alert.enc l_1), (.d (.agg (Alert.enc a_2))), (vS ref_3)] [] (vB r) [] := by
 refine FnM.of_wH ⟨Tryz.prog, 10, [], []⟩ rfl Tryz.func208 rfl rfl (Nat.le_of_ble_eq_true rfl) (by kernel_rfl) ?_
 unfold ref_holds at hF
 refine wH_seq (wH_region (h_box 0 (.inl rfl) [(vS a_2.Id), (vS a_2.Sender), (vI a_2.Kind), (vL eS a_2.Refs), (vI a_2.At), (vI a_2.Until), (vI a_2.Weight), (vL Rect.enc a_2.Areas), (vS a_2.Text)] rfl rfl wz (fun n_4 => h_box 0 (.inl rfl) [(vS ref_3)] rfl rfl wz (fun n_5 => h_op (vB false) wz rfl (h_nil (wH_seq (wH_region (h_op (vL Alert.enc l_1) wz rfl (h_op (.fn 261 [(.ref n_5 0 0), (.ref n_4 0 0)]) wz rfl ?_)))))))))
 obtain ⟨r_6, hr_7, hF⟩ := bind_some hF
 refine h_callq 0 [1, 0] il ft (slices_ContainsFunc_api_Alert_api_Alert_ok (gid := 261) (caps := [.ref (extN 0) 0 0, .ref (extN 1) 0 0]) (Sin := [(.cells 1 [(vS ref_3)]), (.cells 9 [(vS a_2.Id), (vS a_2.Sender), (vI a_2.Kind), (vL eS a_2.Refs), (vI a_2.At), (vI a_2.Until), (vI a_2.Weight), (vL Rect.enc a_2.Areas), (vS a_2.Text)])]) (fun _ _ h_ => ref_holds_1_ok h_) hb261 ⟨rfl, rfl⟩ (by kernel_rfl) (all_ok (by kernel_rfl)) (all_mut (by kernel_rfl)) hr_7) rfl hb155 rfl (by kernel_rfl) (by kernel_rfl) (by kernel_rfl) (by kernel_rfl) (by kernel_rfl) (by kernel_rfl) (by kernel_rfl) (by decide) (by kernel_rfl) wz (vB r_6) (by kernel_rfl) ([(n_4, some (.cells 9 [(vS a_2.Id), (vS a_2.Sender), (vI a_2.Kind), (vL eS a_2.Refs), (vI a_2.At), (vI a_2.Until), (vI a_2.Weight), (vL Rect.enc a_2.Areas), (vS a_2.Text)])), (n_5, some (.cells 1 [(vS ref_3)]))] : Hp) (by kernel_rfl) (h_op (vB r_6) wz rfl (h_nil ?_))
 obtain rfl := some_inj hF
 exact wH_ret (fin0 (.inr rfl) [(vB r_6)] ⟨rfl, trivial⟩ rfl rfl rfl)
theorem ref_endOf_ok {l_1 : (List Alert)} {a_2 : Alert} {r : Int} (hF : ref_endOf l_1 a_2 = some r) :
  FnM Tryz.prog 162 [(vL Alert.enc l_1), (.d (.agg (Alert.enc a_2)))] [] (vI r) [] := by
 refine FnM.of_wH ⟨Tryz.prog, 34, [], []⟩ rfl Tryz.func162 rfl rfl (Nat.le_of_ble_eq_true rfl) (by kernel_rfl) ?_
 unfold ref_endOf at hF
 refine wH_seq (wH_region (h_box 0 (.inl rfl) [(vS a_2.Id), (vS a_2.Sender), (vI a_2.Kind), (vL eS a_2.Refs), (vI a_2.At), (vI a_2.Until), (vI a_2.Weight), (vL Rect.enc a_2.Areas), (vS a_2.Text)] rfl rfl wz (fun n_3 => h_op (vI 0) wz rfl (h_nil (wH_seq (wH_region (h_far pl82_5 rfl 5 rfl wz (h_ldr 0 0 il ft sz3 ag3 rfl rfl (vI a_2.Until) rfl wz (h_op (vI a_2.Until) wz rfl (h_nil (wH_seq (wH_seq (wH_region (h_op (vL Alert.enc l_1) wz rfl (h_len un78 rfl wz (h_op (vI 0) wz rfl (h_nil ?_)))))))))))))))))
 obtain ⟨o_12, hj_13, hF⟩ := bind_some hF
 obtain ⟨hn_8, hj_13⟩ := forL_some hj_13
 refine wH_join (β := (Int)) (fun (s_9 : Int) => ([(5, (vI s_9))] : List (Nat × V))) (fun (s_9 : Int) => ([(n_3, some (.cells 9 [(vS a_2.Id), (vS a_2.Sender), (vI a_2.Kind), (vL eS a_2.Refs), (vI a_2.At), (vI a_2.Until), (vI a_2.Weight), (vL Rect.enc a_2.Areas), (vS a_2.Text)]))] : Hp)) (fun p => o_12 = .go p) ?_ ?_
 ·refine wH_block (wH_loop (β := Nat × (List Alert) × (Int)) (fun p => (fun (k_4 : Nat) (l_5 : List Alert) (s_9 : Int) => ([(0, (vL Alert.enc l_1)), (3, (.ref n_3 0 0)), (5, (vI s_9)), (10, (vL Alert.enc l_1)), (11, (vI (l_1.length : Int))), (12, (vI (k_4 : Int)))] : List (Nat × V))) p.1 p.2.1 p.2.2) (fun p => (fun (k_4 : Nat) (l_5 : List Alert) (s_9 : Int) => ([(n_3, some (.cells 9 [(vS a_2.Id), (vS a_2.Sender), (vI a_2.Kind), (vL eS a_2.Refs), (vI a_2.At), (vI a_2.Until), (vI a_2.Weight), (vL Rect.enc a_2.Areas), (vS a_2.Text)]))] : Hp)) p.1 p.2.1 p.2.2) (fun p => forR (fun k x s => ref_endOf_L1 a_2 l_1 k x s) p.2.1 p.1 p.2.2 = some o_12 ∧ (l_1).drop p.1 = p.2.1) (fun p => p.2.1.length) (0, l_1, a_2.Until) ⟨hj_13, rfl⟩ rfl (pre_r rfl) ?_)
  rintro ⟨k_4, l_5, s_9⟩ ⟨hL_11, hD_7⟩
  dsimp only at hL_11 hD_7
  cases l_5 with
  | nil =>
   obtain rfl := some_inj hL_11
   refine wH_seq (wH_region (h_op (vB (decide ((k_4 : Int) < (l_1.length : Int)))) wz rfl (h_nil ?_)))
   refine wH_seq (wH_iff rfl (drop_nil hD_7) (wH_exit ?_))
   exact cut_mk (s_9) rfl rfl (pre_r rfl)
  | cons x_6 l_5 =>
   obtain ⟨c_, hc_10, hL_11⟩ := bind_some hL_11
   refine wH_seq (wH_region (h_op (vB (decide ((k_4 : Int) < (l_1.length : Int)))) wz rfl (h_nil ?_)))
   refine wH_seq (wH_ift rfl (drop_cons hD_7) (wH_skip ?_))
   unfold ref_endOf_L1 at hc_10
   refine wH_seq (wH_block (wH_seq (wH_region (h_ia es78 rfl rfl (drop_idx hD_7) rfl wz (h_ldc sz82 ag82 rfl (.d (.agg (Alert.enc x_6))) rfl wz (h_alloc 0 (.inl rfl) z82 rfl wz (fun n_14 => h_str 0 il ft 1 sz82 rfl rfl [(vS x_6.Id), (vS x_6.Sender), (vI x_6.Kind), (vL eS x_6.Refs), (vI x_6.At), (vI x_6.Until), (vI x_6.Weight), (vL Rect.enc x_6.Areas), (vS x_6.Text)] rfl wz (h_nil (wH_seq ?_)))))))))
   obtain ⟨v_15, h_16, hc_10⟩ := bind_some hc_10
   refine wH_join (β := Unit) (fun _ => ([(0, (vL Alert.enc l_1)), (3, (.ref n_3 0 0)), (5, (vI s_9)), (7, (.ref n_14 0 0)), (10, (vL Alert.enc l_1)), (11, (vI (l_1.length : Int))), (12, (vI (k_4 : Int))), (27, (vB v_15))] : List (Nat × V))) (fun _ => ([(n_3, some (.cells 9 [(vS a_2.Id), (vS a_2.Sender), (vI a_2.Kind), (vL eS a_2.Refs), (vI a_2.At), (vI a_2.Until), (vI a_2.Weight), (vL Rect.enc a_2.Areas), (vS a_2.Text)])), (n_14, some (.cells 9 [(vS x_6.Id), (vS x_6.Sender), (vI x_6.Kind), (vL eS x_6.Refs), (vI x_6.At), (vI x_6.Until), (vI x_6.Weight), (vL Rect.enc x_6.Areas), (vS x_6.Text)]))] : Hp)) (fun _ => True) ?_ ?_
   ·refine wH_region (h_far pl82_3 rfl 3 rfl wz (h_ldr 0 1 il ft sz80 ag80 rfl rfl (vL eS x_6.Refs) rfl wz (h_far pl82_0 rfl 0 rfl wz (h_ldr 0 0 il ft sz9 ag9 rfl rfl (vS a_2.Id) rfl wz ?_))))
    obtain ⟨r_17, hr_18, h_16⟩ := bind_some h_16
    refine h_call0 (slices_Contains_string_string_ok hr_18) rfl hb52 rfl rfl rfl rfl wz ?_
    rcases cond_some h_16 with ⟨hc_19, h_16⟩ | ⟨hc_19, h_16⟩
    ·refine h_movb rfl hc_19 wz (h_op (vL Alert.enc l_1) wa rfl (h_ldr 0 1 il ft sz82 ag82 rfl rfl (.d (.agg (Alert.enc x_6))) rfl wa (h_far pl82_0 rfl 0 rfl wa (h_ldr 0 0 il ft sz9 ag9 rfl rfl (vS a_2.Id) rfl wa ?_))))
     obtain ⟨r_20, hr_21, h_16⟩ := bind_some h_16
     refine h_call0 (ref_holds_ok hr_21) rfl hb208 rfl rfl rfl rfl wa (h_op (vB r_20) wz rfl (h_nil ?_))
     obtain rfl := some_inj h_16
     exact cu
    ·refine h_movb rfl hc_19 wz (h_skip wa (h_skip wa (h_skip wa (h_skip wa (h_skip wa (h_op (vB false) wz rfl (h_nil ?_)))))))
     obtain rfl := some_inj h_16
     exact cu
   ·rintro ⟨⟩ _ sl_ H_ hp_ hq_
    refine wH_at _ hp_ hq_ ?_
    obtain ⟨v_22, h_23, hc_10⟩ := bind_some hc_10
    refine wH_join (β := Unit) (fun _ => ([(0, (vL Alert.enc l_1)), (3, (.ref n_3 0 0)), (5, (vI v_22)), (10, (vL Alert.enc l_1)), (11, (vI (l_1.length : Int))), (12, (vI (k_4 : Int)))] : List (Nat × V))) (fun _ => ([(n_3, some (.cells 9 [(vS a_2.Id), (vS a_2.Sender), (vI a_2.Kind), (vL eS a_2.Refs), (vI a_2.At), (vI a_2.Until), (vI a_2.Weight), (vL Rect.enc a_2.Areas), (vS a_2.Text)])), (n_14, some (.cells 9 [(vS x_6.Id), (vS x_6.Sender), (vI x_6.Kind), (vL eS x_6.Refs), (vI x_6.At), (vI x_6.Until), (vI x_6.Weight), (vL Rect.enc x_6.Areas), (vS x_6.Text)]))] : Hp)) (fun _ => True) ?_ ?_
    ·rcases cond_some h_23 with ⟨hc_24, h_23⟩ | ⟨hc_24, h_23⟩
     ·refine wH_ift rfl hc_24 (wH_region (h_op (vI s_9) wz rfl (h_far pl82_4 rfl 4 rfl wz (h_ldr 0 1 il ft sz3 ag3 rfl rfl (vI x_6.At) rfl wz (h_minmax (vI (minI s_9 x_6.At)) rfl (.inl rfl) wz (h_op (vI (minI s_9 x_6.At)) wz rfl (h_nil ?_)))))))
      obtain rfl := some_inj h_23
      exact cu
     ·refine wH_iff rfl hc_24 (wH_skip ?_)
      obtain rfl := some_inj h_23
      exact cu
    ·rintro ⟨⟩ _ sl_ H_ hp_ hq_
     refine wH_at _ hp_ hq_ (wH_region (h_opw (w64_next hD_7 hn_8) wz rfl (h_op (vI ((k_4 + 1 : Nat) : Int)) wz rfl (h_nil ?_))))
     obtain rfl := some_inj hc_10
     exact loop_mk (k_4 + 1, l_5, v_22) ⟨hL_11, drop_next hD_7⟩ (Nat.lt_succ_self _) rfl (pre_r rfl)
 ·rintro s_9 ho_ sl_ H_ hp_ hq_
  subst ho_
  refine wH_at _ hp_ hq_ (wH_seq (wH_region (h_op (vI s_9) wz rfl (h_op (vI s_9) wz rfl (h_nil ?_)))))
  obtain rfl := some_inj hF
  exact wH_ret (fin0 (.inr rfl) [(vI s_9)] ⟨rfl, trivial⟩ rfl rfl rfl)
theorem ref_forced_ok {l_1 : (List Alert)} {a_2 : Alert} {atv_3 : Int} {r : Bool} (hF : ref_forced l_1 a_2 atv_3 = some r) :
  FnM Tryz.prog 126 [(vL Alert.enc l_1), (.d (.agg (Alert.enc a_2))), (vI atv_3)] [] (vB r) [] := by
 refine FnM.of_wH ⟨Tryz.prog, 23, [], []⟩ rfl Tryz.func126 rfl rfl (Nat.le_of_ble_eq_true rfl) (by kernel_rfl) ?_
 unfold ref_forced at hF
 refine wH_seq (wH_region (h_box 0 (.inl rfl) [(vS a_2.Id), (vS a_2.Sender), (vI a_2.Kind), (vL eS a_2.Refs), (vI a_2.At), (vI a_2.Until), (vI a_2.Weight), (vL Rect.enc a_2.Areas), (vS a_2.Text)] rfl rfl wz (fun n_4 => h_op (vB false) wz rfl (h_nil (wH_seq ?_)))))
 obtain ⟨v_5, h_6, hF⟩ := bind_some hF
 refine wH_join (β := Unit) (fun _ => ([(6, (vB v_5))] : List (Nat × V))) (fun _ => ([(n_4, some (.cells 9 [(vS a_2.Id), (vS a_2.Sender), (vI a_2.Kind), (vL eS a_2.Refs), (vI a_2.At), (vI a_2.Until), (vI a_2.Weight), (vL Rect.enc a_2.Areas), (vS a_2.Text)]))] : Hp)) (fun _ => True) ?_ ?_
 ·refine wH_region (h_far pl82_2 rfl 2 rfl wz (h_ldr 0 0 il ft sz3 ag3 rfl rfl (vI a_2.Kind) rfl wz (h_op (vB (a_2.Kind != 3)) wz rfl ?_)))
  rcases cond_some h_6 with ⟨hc_7, h_6⟩ | ⟨hc_7, h_6⟩
  ·refine h_movb rfl hc_7 wz (h_far pl82_4 rfl 4 rfl wa (h_ldr 0 0 il ft sz3 ag3 rfl rfl (vI a_2.At) rfl wa (h_op (vI atv_3) wa rfl (h_op (vB (decide (a_2.At ≤ atv_3))) wa rfl (h_op (vB (decide (a_2.At ≤ atv_3))) wz rfl ?_)))))
   rcases cond_some h_6 with ⟨hc_8, h_6⟩ | ⟨hc_8, h_6⟩
   ·refine h_movb rfl hc_8 wz (h_op (vI atv_3) wa rfl (h_op (vL Alert.enc l_1) wa rfl (h_ldr 0 0 il ft sz82 ag82 rfl rfl (.d (.agg (Alert.enc a_2))) rfl wa ?_)))
    obtain ⟨r_9, hr_10, h_6⟩ := bind_some h_6
    refine h_call0 (ref_endOf_ok hr_10) rfl hb162 rfl rfl rfl rfl wa (h_op (vB (decide (atv_3 < r_9))) wa rfl (h_op (vB (decide (atv_3 < r_9))) wz rfl (h_op (vB (decide (atv_3 < r_9))) wz rfl (h_nil ?_))))
    obtain rfl := some_inj h_6
    exact cu
   ·refine h_movb rfl hc_8 wz (h_skip wa (h_skip wa (h_skip wa (h_skip wa (h_skip wa (h_op (vB false) wz rfl (h_op (vB false) wz rfl (h_nil ?_))))))))
    obtain rfl := some_inj h_6
    exact cu
  ·refine h_movb rfl hc_7 wz (h_skip wa (h_skip wa (h_skip wa (h_skip wa (h_op (vB false) wz rfl (h_op (vB false) wz rfl (h_skip wa (h_skip wa (h_skip wa (h_skip wa (h_skip wa (h_op (vB false) wz rfl (h_op (vB false) wz rfl (h_nil ?_))))))))))))))
   obtain rfl := some_inj h_6
   exact cu
 ·rintro ⟨⟩ _ sl_ H_ hp_ hq_
  refine wH_at _ hp_ hq_ ?_
  obtain rfl := some_inj hF
  exact wH_ret (fin0 (.inr rfl) [(vB v_5)] ⟨rfl, trivial⟩ rfl rfl rfl)
theorem ref_has_ok {r_1 : Rect} {x_2 : Int} {y_3 : Int} {r : Bool} (hF : ref_has r_1 x_2 y_3 = some r) :
  FnM Tryz.prog 199 [(.d (.agg (Rect.enc r_1))), (vI x_2), (vI y_3)] [] (vB r) [] := by
 refine FnM.of_wH ⟨Tryz.prog, 29, [], []⟩ rfl Tryz.func199 rfl rfl (Nat.le_of_ble_eq_true rfl) (by kernel_rfl) ?_
 unfold ref_has at hF
 refine wH_seq (wH_region (h_box 0 (.inl rfl) [(vI r_1.X), (vI r_1.Y), (vI r_1.W), (vI r_1.H)] rfl rfl wz (fun n_4 => h_op (vB false) wz rfl (h_nil (wH_seq ?_)))))
 obtain ⟨v_5, h_6, hF⟩ := bind_some hF
 refine wH_join (β := Unit) (fun _ => ([(6, (vB v_5))] : List (Nat × V))) (fun _ => ([(n_4, some (.cells 4 [(vI r_1.X), (vI r_1.Y), (vI r_1.W), (vI r_1.H)]))] : Hp)) (fun _ => True) ?_ ?_
 ·refine wH_region (h_op (vI x_2) wz rfl (h_far pl45_0 rfl 0 rfl wz (h_ldr 0 0 il ft sz3 ag3 rfl rfl (vI r_1.X) rfl wz (h_far pl45_0 rfl 0 rfl wz (h_ldr 0 0 il ft sz3 ag3 rfl rfl (vI r_1.X) rfl wz (h_far pl45_2 rfl 2 rfl wz (h_ldr 0 0 il ft sz3 ag3 rfl rfl (vI r_1.W) rfl wz (h_op (vI (w64 (r_1.X + r_1.W))) wz rfl (h_op (vI (w64 ((w64 (r_1.X + r_1.W)) - 1))) wz rfl ?_)))))))))
  obtain ⟨r_7, hr_8, h_6⟩ := bind_some h_6
  refine h_call0 (ref_in_ok hr_8) rfl hb122 rfl rfl rfl rfl wz ?_
  rcases cond_some h_6 with ⟨hc_9, h_6⟩ | ⟨hc_9, h_6⟩
  ·refine h_movb rfl hc_9 wz (h_op (vI y_3) wa rfl (h_far pl45_1 rfl 1 rfl wa (h_ldr 0 0 il ft sz3 ag3 rfl rfl (vI r_1.Y) rfl wa (h_far pl45_1 rfl 1 rfl wa (h_ldr 0 0 il ft sz3 ag3 rfl rfl (vI r_1.Y) rfl wa (h_far pl45_3 rfl 3 rfl wa (h_ldr 0 0 il ft sz3 ag3 rfl rfl (vI r_1.H) rfl wa (h_op (vI (w64 (r_1.Y + r_1.H))) wa rfl (h_op (vI (w64 ((w64 (r_1.Y + r_1.H)) - 1))) wa rfl ?_)))))))))
   obtain ⟨r_10, hr_11, h_6⟩ := bind_some h_6
   refine h_call0 (ref_in_ok hr_11) rfl hb122 rfl rfl rfl rfl wa (h_op (vB r_10) wz rfl (h_op (vB r_10) wz rfl (h_nil ?_)))
   obtain rfl := some_inj h_6
   exact cu
  ·refine h_movb rfl hc_9 wz (h_skip wa (h_skip wa (h_skip wa (h_skip wa (h_skip wa (h_skip wa (h_skip wa (h_skip wa (h_skip wa (h_skip wa (h_op (vB false) wz rfl (h_op (vB false) wz rfl (h_nil ?_)))))))))))))
   obtain rfl := some_inj h_6
   exact cu
 ·rintro ⟨⟩ _ sl_ H_ hp_ hq_
  refine wH_at _ hp_ hq_ ?_
  obtain rfl := some_inj hF
  exact wH_ret (fin0 (.inr rfl) [(vB v_5)] ⟨rfl, trivial⟩ rfl rfl rfl)
theorem ref_some_1_ok {r_1 : Rect} {p_2 : Int} {p_3 : Int} {r : Bool} (hF : ref_some_1 r_1 p_2 p_3 = some r) :
  FnM Tryz.prog 198 [(.d (.agg (Rect.enc r_1))), (.ref (extN 0) 0 0), (.ref (extN 1) 0 0)] [(.cells 1 [(vI p_2)]), (.cells 1 [(vI p_3)])] (vB r) [some (.cells 1 [(vI p_2)]), some (.cells 1 [(vI p_3)])] := by
 refine FnM.of_wH ⟨Tryz.prog, 9, [], []⟩ rfl Tryz.func198 rfl rfl (Nat.le_of_ble_eq_true rfl) (by kernel_rfl) ?_
 unfold ref_some_1 at hF
 refine wH_seq (wH_region (h_box 0 (.inl rfl) [(vI r_1.X), (vI r_1.Y), (vI r_1.W), (vI r_1.H)] rfl rfl wz (fun n_4 => h_op (vB false) wz rfl (h_nil (wH_seq (wH_region (h_ldr 0 2 il ft sz45 ag45 rfl rfl (.d (.agg (Rect.enc r_1))) rfl wz (h_ldr 0 0 il ft sz3 ag3 rfl rfl (vI p_2) rfl wz (h_ldr 0 1 il ft sz3 ag3 rfl rfl (vI p_3) rfl wz ?_)))))))))
 obtain ⟨r_5, hr_6, hF⟩ := bind_some hF
 refine h_call0 (ref_has_ok hr_6) rfl hb199 rfl rfl rfl rfl wz (h_op (vB r_5) wz rfl (h_nil ?_))
 obtain rfl := some_inj hF
 exact wH_ret (finB (.inr rfl) [(vB r_5)] _ [0, 1] [extN 0, extN 1] ⟨rfl, trivial⟩ (.cons (co_data rfl rfl) (.nil)) (by kernel_rfl) ⟨(by kernel_rfl), ⟨(by kernel_rfl), trivial⟩⟩ (by decide) (by kernel_rfl))
theorem ref_some_ok {l_1 : (List Rect)} {x_2 : Int} {y_3 : Int} {r : Bool} (hF : ref_some l_1 x_2 y_3 = some r) :
  FnM Tryz.prog 130 [(vL Rect.enc l_1), (vI x_2), (vI y_3)] [] (vB r) [] := by
 refine FnM.of_wH ⟨Tryz.prog, 10, [], []⟩ rfl Tryz.func130 rfl rfl (Nat.le_of_ble_eq_true rfl) (by kernel_rfl) ?_
 unfold ref_some at hF
 refine wH_seq (wH_region (h_box 0 (.inl rfl) [(vI x_2)] rfl rfl wz (fun n_4 => h_box 0 (.inl rfl) [(vI y_3)] rfl rfl wz (fun n_5 => h_op (vB false) wz rfl (h_nil (wH_seq (wH_region (h_op (vL Rect.enc l_1) wz rfl (h_op (.fn 198 [(.ref n_4 0 0), (.ref n_5 0 0)]) wz rfl ?_)))))))))
 obtain ⟨r_6, hr_7, hF⟩ := bind_some hF
 refine h_callq 0 [0, 1] il ft (slices_ContainsFunc_api_Rect_api_Rect_ok (gid := 198) (caps := [.ref (extN 0) 0 0, .ref (extN 1) 0 0]) (Sin := [(.cells 1 [(vI x_2)]), (.cells 1 [(vI y_3)])]) (fun _ _ h_ => ref_some_1_ok h_) hb198 ⟨rfl, rfl⟩ (by kernel_rfl) (all_ok (by kernel_rfl)) (all_mut (by kernel_rfl)) hr_7) rfl hb190 rfl (by kernel_rfl) (by kernel_rfl) (by kernel_rfl) (by kernel_rfl) (by kernel_rfl) (by kernel_rfl) (by kernel_rfl) (by decide) (by kernel_rfl) wz (vB r_6) (by kernel_rfl) ([(n_4, some (.cells 1 [(vI x_2)])), (n_5, some (.cells 1 [(vI y_3)]))] : Hp) (by kernel_rfl) (h_op (vB r_6) wz rfl (h_nil ?_))
 obtain rfl := some_inj hF
 exact wH_ret (fin0 (.inr rfl) [(vB r_6)] ⟨rfl, trivial⟩ rfl rfl rfl)
theorem ref_ReachesOf_ok {a_1 : Alert} {p_2 : Post} {r : Bool} (hF : ref_ReachesOf a_1 p_2 = some r) :
  FnM Tryz.prog 48 [(.d (.agg (Alert.enc a_1))), (.d (.agg (Post.enc p_2)))] [] (vB r) [] := by
 refine FnM.of_wH ⟨Tryz.prog, 12, [], []⟩ rfl Tryz.func48 rfl rfl (Nat.le_of_ble_eq_true rfl) (by kernel_rfl) ?_
 unfold ref_ReachesOf at hF
 refine wH_seq (wH_region (h_box 0 (.inl rfl) [(vS a_1.Id), (vS a_1.Sender), (vI a_1.Kind), (vL eS a_1.Refs), (vI a_1.At), (vI a_1.Until), (vI a_1.Weight), (vL Rect.enc a_1.Areas), (vS a_1.Text)] rfl rfl wz (fun n_3 => h_box 0 (.inl rfl) [(vS p_2.Player), (vI p_2.X), (vI p_2.Y)] rfl rfl wz (fun n_4 => h_op (vB false) wz rfl (h_nil (wH_seq (wH_region (h_far pl82_7 rfl 7 rfl wz (h_ldr 0 0 il ft sz50 ag50 rfl rfl (vL Rect.enc a_1.Areas) rfl wz (h_far pl77_1 rfl 1 rfl wz (h_ldr 0 1 il ft sz3 ag3 rfl rfl (vI p_2.X) rfl wz (h_far pl77_2 rfl 2 rfl wz (h_ldr 0 1 il ft sz3 ag3 rfl rfl (vI p_2.Y) rfl wz ?_)))))))))))))
 obtain ⟨r_5, hr_6, hF⟩ := bind_some hF
 refine h_call0 (ref_some_ok hr_6) rfl hb130 rfl rfl rfl rfl wz (h_op (vB r_5) wz rfl (h_nil ?_))
 obtain rfl := some_inj hF
 exact wH_ret (fin0 (.inr rfl) [(vB r_5)] ⟨rfl, trivial⟩ rfl rfl rfl)
theorem slices_Compare_int_int_ok {s1_1 : (List Int)} {s2_2 : (List Int)} {r : Int} (hF : slices_Compare_int_int s1_1 s2_2 = some r) :
  FnM Tryz.prog 128 [(vL eI s1_1), (vL eI s2_2)] [] (vI r) [] := by
 refine FnM.of_wH ⟨Tryz.prog, 36, [], []⟩ rfl Tryz.func128 rfl rfl (Nat.le_of_ble_eq_true rfl) (by kernel_rfl) ?_
 unfold slices_Compare_int_int at hF
 refine wH_seq (wH_region (h_op (vI 0) wz rfl (h_nil (wH_seq (wH_seq (wH_region (h_op (vL eI s1_1) wz rfl (h_len un22 rfl wz (h_op (vI 0) wz rfl (h_nil ?_))))))))))
 obtain ⟨o_11, hj_12, hF⟩ := bind_some hF
 obtain ⟨hn_7, hj_12⟩ := forL_some hj_12
 refine wH_join (β := (Unit)) (fun (s_8 : Unit) => ([(0, (vL eI s1_1)), (1, (vL eI s2_2))] : List (Nat × V))) (fun (s_8 : Unit) => ([] : Hp)) (fun p => o_11 = .go p) ?_ ?_
 ·refine wH_block (wH_loop (β := Nat × (List Int) × (Unit)) (fun p => (fun (k_3 : Nat) (l_4 : List Int) (s_8 : Unit) => ([(0, (vL eI s1_1)), (1, (vL eI s2_2)), (9, (vL eI s1_1)), (10, (vI (s1_1.length : Int))), (11, (vI (k_3 : Int)))] : List (Nat × V))) p.1 p.2.1 p.2.2) (fun p => (fun (k_3 : Nat) (l_4 : List Int) (s_8 : Unit) => ([] : Hp)) p.1 p.2.1 p.2.2) (fun p => forR (fun k x s => slices_Compare_int_int_L1 s2_2 k x s) p.2.1 p.1 p.2.2 = some o_11 ∧ (s1_1).drop p.1 = p.2.1) (fun p => p.2.1.length) (0, s1_1, ()) ⟨hj_12, rfl⟩ rfl (pre_r rfl) ?_)
  rintro ⟨k_3, l_4, s_8⟩ ⟨hL_10, hD_6⟩
  dsimp only at hL_10 hD_6
  cases l_4 with
  | nil =>
   obtain rfl := some_inj hL_10
   refine wH_seq (wH_region (h_op (vB (decide ((k_3 : Int) < (s1_1.length : Int)))) wz rfl (h_nil ?_)))
   refine wH_seq (wH_iff rfl (drop_nil hD_6) (wH_exit ?_))
   exact cut_mk (s_8) rfl rfl (pre_r rfl)
  | cons x_5 l_4 =>
   obtain ⟨c_, hc_9, hL_10⟩ := bind_some hL_10
   refine wH_seq (wH_region (h_op (vB (decide ((k_3 : Int) < (s1_1.length : Int)))) wz rfl (h_nil ?_)))
   refine wH_seq (wH_ift rfl (drop_cons hD_6) (wH_skip ?_))
   unfold slices_Compare_int_int_L1 at hc_9
   refine wH_seq (wH_block (wH_seq (wH_region (h_op (vI (k_3 : Int)) wz rfl (h_ia es22 rfl rfl (drop_idx hD_6) rfl wz (h_ldc sz3 ag3 rfl (vI x_5) rfl wz (h_op (vI (k_3 : Int)) wz rfl (h_op (vI x_5) wz rfl (h_nil (wH_seq (wH_seq (wH_region (h_op (vI (k_3 : Int)) wz rfl (h_op (vL eI s2_2) wz rfl (h_len un22 rfl wz (h_op (vB (decide ((k_3 : Int) ≥ (s2_2.length : Int)))) wz rfl (h_nil ?_)))))))))))))))))
   rcases cond_some hc_9 with ⟨hc_13, hc_9⟩ | ⟨hc_13, hc_9⟩
   ·refine wH_ift rfl hc_13 (wH_seq (wH_region (h_op (vI 1) wz rfl (h_nil ?_))))
    obtain rfl := some_inj hc_9
    obtain rfl := some_inj hL_10
    obtain rfl := some_inj hF
    exact wH_ret (fin0 (.inr rfl) [(vI 1)] ⟨rfl, trivial⟩ rfl rfl rfl)
   ·refine wH_iff rfl hc_13 (wH_skip (wH_seq (wH_region (h_op (vL eI s2_2) wz rfl (h_op (vI (k_3 : Int)) wz rfl ?_)))))
    obtain ⟨y_14, hy_15, hc_9⟩ := bind_some hc_9
    refine h_ia es22 rfl rfl hy_15 rfl wz (h_ldc sz3 ag3 rfl (vI y_14) rfl wz (h_op (vI y_14) wz rfl (h_nil (wH_seq (wH_region (h_op (vI x_5) wz rfl (h_op (vI y_14) wz rfl ?_)))))))
    obtain ⟨r_16, hr_17, hc_9⟩ := bind_some hc_9
    refine h_call0 (cmp_Compare_int_ok hr_17) rfl hb147 rfl rfl rfl rfl wz (h_op (vI r_16) wz rfl (h_nil (wH_seq (wH_region (h_op (vI r_16) wz rfl (h_op (vB (r_16 != 0)) wz rfl (h_nil ?_)))))))
    rcases cond_some hc_9 with ⟨hc_18, hc_9⟩ | ⟨hc_18, hc_9⟩
    ·refine wH_ift rfl hc_18 (wH_seq (wH_region (h_op (vI r_16) wz rfl (h_op (vI r_16) wz rfl (h_nil ?_)))))
     obtain rfl := some_inj hc_9
     obtain rfl := some_inj hL_10
     obtain rfl := some_inj hF
     exact wH_ret (fin0 (.inr rfl) [(vI r_16)] ⟨rfl, trivial⟩ rfl rfl rfl)
    ·refine wH_iff rfl hc_18 (wH_skip (wH_region (h_opw (w64_next hD_6 hn_7) wz rfl (h_op (vI ((k_3 + 1 : Nat) : Int)) wz rfl (h_nil ?_)))))
     obtain rfl := some_inj hc_9
     exact loop_mk (k_3 + 1, l_4, ()) ⟨hL_10, drop_next hD_6⟩ (Nat.lt_succ_self _) rfl (pre_r rfl)
 ·rintro s_8 ho_ sl_ H_ hp_ hq_
  subst ho_
  refine wH_at _ hp_ hq_ (wH_seq (wH_seq (wH_region (h_op (vL eI s1_1) wz rfl (h_len un22 rfl wz (h_op (vL eI s2_2) wz rfl (h_len un22 rfl wz (h_op (vB (decide ((s1_1.length : Int) < (s2_2.length : Int)))) wz rfl (h_nil ?_)))))))))
  rcases cond_some hF with ⟨hc_19, hF⟩ | ⟨hc_19, hF⟩
  ·refine wH_ift rfl hc_19 (wH_seq (wH_region (h_op (vI (-1)) wz rfl (h_nil ?_))))
   obtain rfl := some_inj hF
   exact wH_ret (fin0 (.inr rfl) [(vI (-1))] ⟨rfl, trivial⟩ rfl rfl rfl)
  ·refine wH_iff rfl hc_19 (wH_skip (wH_seq (wH_region (h_op (vI 0) wz rfl (h_nil ?_)))))
   obtain rfl := some_inj hF
   exact wH_ret (fin0 (.inr rfl) [(vI 0)] ⟨rfl, trivial⟩ rfl rfl rfl)
theorem ref_RankedOf_1_ok {a_1 : Alert} {b_2 : Alert} {r : Int} (hF : ref_RankedOf_1 a_1 b_2 = some r) :
  FnM Tryz.prog 127 [(.d (.agg (Alert.enc a_1))), (.d (.agg (Alert.enc b_2)))] [] (vI r) [] := by
 refine FnM.of_wH ⟨Tryz.prog, 25, [], []⟩ rfl Tryz.func127 rfl rfl (Nat.le_of_ble_eq_true rfl) (by kernel_rfl) ?_
 unfold ref_RankedOf_1 at hF
 refine wH_seq (wH_region (h_box 0 (.inl rfl) [(vS a_1.Id), (vS a_1.Sender), (vI a_1.Kind), (vL eS a_1.Refs), (vI a_1.At), (vI a_1.Until), (vI a_1.Weight), (vL Rect.enc a_1.Areas), (vS a_1.Text)] rfl rfl wz (fun n_3 => h_box 0 (.inl rfl) [(vS b_2.Id), (vS b_2.Sender), (vI b_2.Kind), (vL eS b_2.Refs), (vI b_2.At), (vI b_2.Until), (vI b_2.Weight), (vL Rect.enc b_2.Areas), (vS b_2.Text)] rfl rfl wz (fun n_4 => h_op (vI 0) wz rfl (h_nil (wH_seq (wH_seq (wH_region (h_far pl82_6 rfl 6 rfl wz (h_ldr 0 1 il ft sz3 ag3 rfl rfl (vI b_2.Weight) rfl wz (h_far pl82_4 rfl 4 rfl wz (h_ldr 0 1 il ft sz3 ag3 rfl rfl (vI b_2.At) rfl wz (h_lit (([b_2.Weight, b_2.At] : List Int).map eI) es22 ez22 rfl rfl rfl rfl rfl wz (h_far pl82_6 rfl 6 rfl wz (h_ldr 0 0 il ft sz3 ag3 rfl rfl (vI a_1.Weight) rfl wz (h_far pl82_4 rfl 4 rfl wz (h_ldr 0 0 il ft sz3 ag3 rfl rfl (vI a_1.At) rfl wz (h_lit (([a_1.Weight, a_1.At] : List Int).map eI) es22 ez22 rfl rfl rfl rfl rfl wz ?_))))))))))))))))))
 obtain ⟨r_5, hr_6, hF⟩ := bind_some hF
 refine h_call0 (slices_Compare_int_int_ok hr_6) rfl hb128 rfl rfl rfl rfl wz (h_op (vI r_5) wz rfl (h_nil (wH_seq (wH_region (h_op (vI r_5) wz rfl (h_op (vB (r_5 != 0)) wz rfl (h_nil ?_)))))))
 rcases cond_some hF with ⟨hc_7, hF⟩ | ⟨hc_7, hF⟩
 ·refine wH_ift rfl hc_7 (wH_seq (wH_region (h_op (vI r_5) wz rfl (h_op (vI r_5) wz rfl (h_nil ?_)))))
  obtain rfl := some_inj hF
  exact wH_ret (fin0 (.inr rfl) [(vI r_5)] ⟨rfl, trivial⟩ rfl rfl rfl)
 ·refine wH_iff rfl hc_7 (wH_skip (wH_seq (wH_region (h_far pl82_0 rfl 0 rfl wz (h_ldr 0 0 il ft sz9 ag9 rfl rfl (vS a_1.Id) rfl wz (h_far pl82_0 rfl 0 rfl wz (h_ldr 0 1 il ft sz9 ag9 rfl rfl (vS b_2.Id) rfl wz ?_)))))))
  obtain ⟨r_8, hr_9, hF⟩ := bind_some hF
  refine h_call0 (strings_Compare_ok hr_9) rfl hb129 rfl rfl rfl rfl wz (h_op (vI r_8) wz rfl (h_nil ?_))
  obtain rfl := some_inj hF
  exact wH_ret (fin0 (.inr rfl) [(vI r_8)] ⟨rfl, trivial⟩ rfl rfl rfl)
theorem slices_insertionSortCmpFunc_api_Alert_v3_ok {data_1 : (List Alert)} {a_2 : Int} {b_3 : Int} {r : (List Alert)} (hF : slices_insertionSortCmpFunc_api_Alert_v3 data_1 a_2 b_3 = some r) :
  FnM Tryz.prog 223 [(dV (extN 0) 9 data_1), (vI a_2), (vI b_3), (.fn 127 [])] (([] : List Box) ++ gI 9 Alert.enc data_1) (.tup []) (([] : List Box).map some ++ gT data_1 (gB 9 Alert.enc r)) := by
 refine FnM.of_wHv ⟨Tryz.prog, 53, [], []⟩ rfl Tryz.func223 rfl rfl (Nat.le_of_ble_eq_true rfl) (by kernel_rfl) ?_
 unfold slices_insertionSortCmpFunc_api_Alert_v3 at hF
 refine wH_seq (wH_region (h_op (vI a_2) wz rfl (h_op (vI (w64 (a_2 + 1))) wz rfl (h_op (vI (w64 (a_2 + 1))) wz rfl (h_nil ?_)))))
 obtain ⟨o_13, hj_14, hF⟩ := bind_some hF
 obtain ⟨nq_51, hj_14⟩ := loopO_iter hj_14
 refine wH_join (β := ((List Alert) × Int)) (fun (s_10 : (List Alert) × Int) => ([] : List (Nat × V))) (fun (s_10 : (List Alert) × Int) => ([((extN 0), gB 9 Alert.enc s_10.1)] : Hp)) (fun p => o_13 = .go p) ?_ ?_
 ·refine wH_block (wH_loop (β := Nat × ((List Alert) × Int)) (fun p => (fun (k_5 : Nat) (s_10 : (List Alert) × Int) => ([(0, (dV (extN 0) 9 s_10.1)), (1, (vI a_2)), (2, (vI b_3)), (3, (.fn 127 [])), (8, (vI s_10.2))] : List (Nat × V))) p.1 p.2) (fun p => (fun (k_5 : Nat) (s_10 : (List Alert) × Int) => ([((extN 0), gB 9 Alert.enc s_10.1)] : Hp)) p.1 p.2) (fun p => iterN (fun s => slices_insertionSortCmpFunc_api_Alert_v3_L2 b_3 a_2 s) p.1 p.2 = some o_13) (fun p => p.1) (nq_51, (data_1, (w64 (a_2 + 1)))) hj_14 rfl (pre_r rfl) ?_)
  rintro ⟨k_5, s_10⟩ hL_12
  dsimp only at hL_12
  cases k_5 with
  | zero => cases hL_12
  | succ k_5 =>
   obtain ⟨c_, hc_11, hL_12⟩ := bind_some hL_12
   unfold slices_insertionSortCmpFunc_api_Alert_v3_L2 at hc_11
   refine wH_seq (wH_seq (wH_region (h_op (vI s_10.2) wz rfl (h_op (vI b_3) wz rfl (h_op (vB (decide (s_10.2 < b_3))) wz rfl (h_nil ?_))))))
   rcases cond_some hc_11 with ⟨hc_15, hc_11⟩ | ⟨hc_15, hc_11⟩
   ·refine wH_ift rfl hc_15 (wH_skip (wH_seq (wH_block (wH_seq (wH_region (h_op (vI s_10.2) wz rfl (h_op (vI s_10.2) wz rfl (h_nil ?_))))))))
    obtain ⟨o_24, hj_25, hc_11⟩ := bind_some hc_11
    obtain ⟨nq_50, hj_25⟩ := loopO_iter hj_25
    refine wH_join (β := ((List Alert) × Int)) (fun (s_21 : (List Alert) × Int) => ([(0, (dV (extN 0) 9 s_21.1)), (1, (vI a_2)), (2, (vI b_3)), (3, (.fn 127 [])), (8, (vI s_10.2))] : List (Nat × V))) (fun (s_21 : (List Alert) × Int) => ([((extN 0), gB 9 Alert.enc s_21.1)] : Hp)) (fun p => o_24 = .go p) ?_ ?_
    ·refine wH_block (wH_loop (β := Nat × ((List Alert) × Int)) (fun p => (fun (k_16 : Nat) (s_21 : (List Alert) × Int) => ([(0, (dV (extN 0) 9 s_21.1)), (1, (vI a_2)), (2, (vI b_3)), (3, (.fn 127 [])), (8, (vI s_10.2)), (9, (vI s_21.2))] : List (Nat × V))) p.1 p.2) (fun p => (fun (k_16 : Nat) (s_21 : (List Alert) × Int) => ([((extN 0), gB 9 Alert.enc s_21.1)] : Hp)) p.1 p.2) (fun p => iterN (fun s => slices_insertionSortCmpFunc_api_Alert_v3_L1 a_2 s) p.1 p.2 = some o_24) (fun p => p.1) (nq_50, (s_10.1, s_10.2)) hj_25 rfl (pre_r rfl) ?_)
     rintro ⟨k_16, s_21⟩ hL_23
     dsimp only at hL_23
     cases k_16 with
     | zero => cases hL_23
     | succ k_16 =>
      obtain ⟨c_, hc_22, hL_23⟩ := bind_some hL_23
      unfold slices_insertionSortCmpFunc_api_Alert_v3_L1 at hc_22
      refine wH_seq (wH_seq ?_)
      obtain ⟨v_26, h_27, hc_22⟩ := bind_some hc_22
      refine wH_join (β := Unit) (fun _ => ([(0, (dV (extN 0) 9 s_21.1)), (1, (vI a_2)), (2, (vI b_3)), (3, (.fn 127 [])), (8, (vI s_10.2)), (9, (vI s_21.2)), (34, (vB v_26))] : List (Nat × V))) (fun _ => ([((extN 0), gB 9 Alert.enc s_21.1)] : Hp)) (fun _ => True) ?_ ?_
      ·refine wH_draws (h_op (vI s_21.2) wz rfl (h_op (vI a_2) wz rfl (h_op (vB (decide (s_21.2 > a_2))) wz rfl ?_)))
       rcases cond_some h_27 with ⟨hc_28, h_27⟩ | ⟨hc_28, h_27⟩
       ·refine h_movb rfl hc_28 wz (h_op (.fn 127 []) wa rfl (h_op (dV (extN 0) 9 s_21.1) wa rfl (h_op (vI s_21.2) wa rfl ?_)))
        obtain ⟨_, hi_29, h_27⟩ := bind_some h_27
        refine h_iavd es78 rfl rfl (inR_0 hi_29) (inR_lt hi_29) wa ?_
        obtain ⟨e_30, hy_31, h_27⟩ := bind_some h_27
        refine h_ldvg 8 0 (.inr (by kernel_rfl)) (fun _ _ ag => trivial) sz82 ag82 rfl rfl hy_31 (.d (.agg (Alert.enc e_30))) rfl wa (h_op (dV (extN 0) 9 s_21.1) wa rfl (h_op (vI s_21.2) wa rfl (h_op (vI (w64 (s_21.2 - 1))) wa rfl ?_)))
        obtain ⟨_, hi_32, h_27⟩ := bind_some h_27
        refine h_iavd es78 rfl rfl (inR_0 hi_32) (inR_lt hi_32) wa ?_
        obtain ⟨e_33, hy_34, h_27⟩ := bind_some h_27
        refine h_ldvg 13 0 (.inr (by kernel_rfl)) (fun _ _ ag => ⟨.inl ⟨rfl, rfl⟩, trivial⟩) sz82 ag82 rfl rfl hy_34 (.d (.agg (Alert.enc e_33))) rfl wa ?_
        obtain ⟨r_35, hr_36, h_27⟩ := bind_some h_27
        refine h_call0 (ref_RankedOf_1_ok hr_36) rfl hb127 rfl rfl rfl rfl wa (h_op (vB (decide (r_35 < 0))) wa rfl (h_op (vB (decide (r_35 < 0))) wz rfl (h_nil ?_)))
        obtain rfl := some_inj h_27
        exact cu
       ·refine h_movb rfl hc_28 wz (h_skip wa (h_skip wa (h_skip wa (h_skip wa (h_skip wa (h_skip wa (h_skip wa (h_skip wa (h_skip wa (h_skip wa (h_skip wa (h_skip wa (h_op (vB false) wz rfl (h_nil ?_))))))))))))))
        obtain rfl := some_inj h_27
        exact cu
      ·rintro ⟨⟩ _ sl_ H_ hp_ hq_
       refine wH_at _ hp_ hq_ ?_
       rcases cond_some hc_22 with ⟨hc_37, hc_22⟩ | ⟨hc_37, hc_22⟩
       ·refine wH_ift rfl hc_37 (wH_skip (wH_seq (wH_block (wH_draws (h_op (dV (extN 0) 9 s_21.1) wz rfl (h_op (vI s_21.2) wz rfl (h_op (dV (extN 0) 9 s_21.1) wz rfl (h_op (vI s_21.2) wz rfl (h_op (vI (w64 (s_21.2 - 1))) wz rfl (h_op (dV (extN 0) 9 s_21.1) wz rfl (h_op (vI s_21.2) wz rfl (h_op (vI (w64 (s_21.2 - 1))) wz rfl ?_))))))))))))
        obtain ⟨_, hi_38, hc_22⟩ := bind_some hc_22
        refine h_iavd es78 rfl rfl (inR_0 hi_38) (inR_lt hi_38) wz ?_
        obtain ⟨e_39, hy_40, hc_22⟩ := bind_some hc_22
        refine h_ldvg 9 0 (.inr (by kernel_rfl)) (fun _ _ ag => trivial) sz82 ag82 rfl rfl hy_40 (.d (.agg (Alert.enc e_39))) rfl wz (h_op (dV (extN 0) 9 s_21.1) wz rfl (h_op (vI s_21.2) wz rfl ?_))
        obtain ⟨_, hi_41, hc_22⟩ := bind_some hc_22
        refine h_iavd es78 rfl rfl (inR_0 hi_41) (inR_lt hi_41) wz ?_
        obtain ⟨e_42, hy_43, hc_22⟩ := bind_some hc_22
        refine h_ldvg 13 0 (.inr (by kernel_rfl)) (fun _ _ ag => ⟨.inl ⟨rfl, rfl⟩, trivial⟩) sz82 ag82 rfl rfl hy_43 (.d (.agg (Alert.enc e_42))) rfl wz ?_
        obtain ⟨_, hi_44, hc_22⟩ := bind_some hc_22
        refine h_iavd es78 rfl rfl (inR_0 hi_44) (inR_lt hi_44) wz ?_
        obtain ⟨e_45, hy_46, hc_22⟩ := bind_some hc_22
        refine h_stvg 15 (.inr (by kernel_rfl)) (fun _ _ ag => ⟨.inr (.inr (by kernel_rfl)), ⟨.inr (.inr (by kernel_rfl)), trivial⟩⟩) 0 sz82 rfl rfl hy_46 e_39 rfl wz (h_re (v' := (dV (extN 0) 9 (s_21.1.set (0 + (s_21.2).toNat) e_39))) 0 rfl (dV_len (by simp)) (h_re (v' := (dV (extN 0) 9 (s_21.1.set (0 + (s_21.2).toNat) e_39))) 37 rfl (dV_len (by simp)) (h_re (v' := (dV (extN 0) 9 (s_21.1.set (0 + (s_21.2).toNat) e_39))) 39 rfl (dV_len (by simp)) (h_re (v' := (dV (extN 0) 9 (s_21.1.set (0 + (s_21.2).toNat) e_39))) 42 rfl (dV_len (by simp)) (h_re (v' := (dV (extN 0) 9 (s_21.1.set (0 + (s_21.2).toNat) e_39))) 47 rfl (dV_len (by simp)) ?_)))))
        obtain ⟨_, hi_47, hc_22⟩ := bind_some hc_22
        refine h_iavd es78 rfl rfl (inR_0 hi_47) (inR_lt hi_47) wz ?_
        obtain ⟨e_48, hy_49, hc_22⟩ := bind_some hc_22
        refine h_stvg 17 (.inr (by kernel_rfl)) (fun _ _ ag => ⟨.inr (.inr (by kernel_rfl)), ⟨.inr (.inr (by kernel_rfl)), ⟨.inr (.inr (by kernel_rfl)), trivial⟩⟩⟩) 0 sz82 rfl rfl hy_49 e_42 rfl wz (h_re (v' := (dV (extN 0) 9 ((s_21.1.set (0 + (s_21.2).toNat) e_39).set (0 + ((w64 (s_21.2 - 1))).toNat) e_42))) 0 rfl (dV_len (by simp)) (h_re (v' := (dV (extN 0) 9 ((s_21.1.set (0 + (s_21.2).toNat) e_39).set (0 + ((w64 (s_21.2 - 1))).toNat) e_42))) 37 rfl (dV_len (by simp)) (h_re (v' := (dV (extN 0) 9 ((s_21.1.set (0 + (s_21.2).toNat) e_39).set (0 + ((w64 (s_21.2 - 1))).toNat) e_42))) 39 rfl (dV_len (by simp)) (h_re (v' := (dV (extN 0) 9 ((s_21.1.set (0 + (s_21.2).toNat) e_39).set (0 + ((w64 (s_21.2 - 1))).toNat) e_42))) 42 rfl (dV_len (by simp)) (h_re (v' := (dV (extN 0) 9 ((s_21.1.set (0 + (s_21.2).toNat) e_39).set (0 + ((w64 (s_21.2 - 1))).toNat) e_42))) 47 rfl (dV_len (by simp)) (h_nil (wH_region (h_op (vI s_21.2) wz rfl (h_op (vI (w64 (s_21.2 - 1))) wz rfl (h_op (vI (w64 (s_21.2 - 1))) wz rfl (h_nil ?_)))))))))))
        obtain rfl := some_inj hc_22
        exact loop_mk (k_16, (((s_21.1.set (0 + (s_21.2).toNat) e_39).set (0 + ((w64 (s_21.2 - 1))).toNat) e_42), (w64 (s_21.2 - 1)))) hL_23 (Nat.lt_succ_self _) rfl (pre_r rfl)
       ·refine wH_iff rfl hc_37 (wH_exit ?_)
        obtain rfl := some_inj hc_22
        obtain rfl := some_inj hL_23
        exact cut_mk ((s_21.1, s_21.2)) rfl rfl (pre_r rfl)
    ·rintro s_21 ho_ sl_ H_ hp_ hq_
     subst ho_
     refine wH_at _ hp_ hq_ (wH_region (h_op (vI s_10.2) wz rfl (h_op (vI (w64 (s_10.2 + 1))) wz rfl (h_op (vI (w64 (s_10.2 + 1))) wz rfl (h_nil ?_)))))
     obtain rfl := some_inj hc_11
     exact loop_mk (k_5, (s_21.1, (w64 (s_10.2 + 1)))) hL_12 (Nat.lt_succ_self _) rfl (pre_r rfl)
   ·refine wH_iff rfl hc_15 (wH_exit ?_)
    obtain rfl := some_inj hc_11
    obtain rfl := some_inj hL_12
    exact cut_mk ((s_10.1, s_10.2)) rfl rfl (pre_r rfl)
 ·rintro s_10 ho_ sl_ H_ hp_ hq_
  subst ho_
  show finH _ _ _ _ _ _ _ _
  obtain rfl := some_inj hF
  exact finH_at (H0 := ([((extN 0), gB 9 Alert.enc s_10.1)] : Hp)) (sl' := envS []) hq_ (finV (bs := ([] : List Box)) (os := ([] : List Box)) (xs := data_1) (o := gB 9 Alert.enc s_10.1) (.inl rfl) [] trivial rfl rfl rfl rfl rfl (by kernel_rfl) gB_ok rfl)
theorem slices_pdqsortCmpFunc_api_Alert_v3_ok {data_1 : (List Alert)} {a_2 : Int} {b_3 : Int} {limit_4 : Int} {r : (List Alert)} (hF : slices_pdqsortCmpFunc_api_Alert_v3 data_1 a_2 b_3 limit_4 = some r) :
  FnM Tryz.prog 188 [(dV (extN 0) 9 data_1), (vI a_2), (vI b_3), (vI limit_4), (.fn 127 [])] (([] : List Box) ++ gI 9 Alert.enc data_1) (.tup []) (([] : List Box).map some ++ gT data_1 (gB 9 Alert.enc r)) := by
 refine FnM.of_wHv ⟨Tryz.prog, 148, [], []⟩ rfl Tryz.func188 rfl rfl (Nat.le_of_ble_eq_true rfl) (by kernel_rfl) ?_
 unfold slices_pdqsortCmpFunc_api_Alert_v3 at hF
 refine wH_seq (wH_region (h_op (vB true) wz rfl (h_nil (wH_seq (wH_region (h_op (vB true) wz rfl (h_nil ?_)))))))
 obtain ⟨o_14, hj_15, hF⟩ := bind_some hF
 obtain ⟨nq_21, hj_15⟩ := loopO_iter hj_15
 refine wH_join (β := (Unit)) (fun (s_11 : Unit) => ([] : List (Nat × V))) (fun (s_11 : Unit) => ([((extN 0), gB 9 Alert.enc data_1)] : Hp)) (fun p => o_14 = .go p) ?_ ?_
 ·refine wH_block (wH_loop (β := Nat × (Unit)) (fun p => (fun (k_6 : Nat) (s_11 : Unit) => ([(0, (dV (extN 0) 9 data_1)), (1, (vI a_2)), (2, (vI b_3)), (3, (vI limit_4)), (4, (.fn 127 [])), (10, (vB true)), (11, (vB true))] : List (Nat × V))) p.1 p.2) (fun p => (fun (k_6 : Nat) (s_11 : Unit) => ([((extN 0), gB 9 Alert.enc data_1)] : Hp)) p.1 p.2) (fun p => iterN (fun s => slices_pdqsortCmpFunc_api_Alert_v3_L1 b_3 a_2 data_1 limit_4 s) p.1 p.2 = some o_14) (fun p => p.1) (nq_21, ()) hj_15 rfl (pre_r rfl) ?_)
  rintro ⟨k_6, s_11⟩ hL_13
  dsimp only at hL_13
  cases k_6 with
  | zero => cases hL_13
  | succ k_6 =>
   obtain ⟨c_, hc_12, hL_13⟩ := bind_some hL_13
   unfold slices_pdqsortCmpFunc_api_Alert_v3_L1 at hc_12
   refine wH_block (wH_seq (wH_region (h_op (vI b_3) wz rfl (h_op (vI a_2) wz rfl (h_op (vI (w64 (b_3 - a_2))) wz rfl (h_op (vI (w64 (b_3 - a_2))) wz rfl (h_nil (wH_seq (wH_seq (wH_region (h_op (vI (w64 (b_3 - a_2))) wz rfl (h_op (vB (decide ((w64 (b_3 - a_2)) ≤ 12))) wz rfl (h_nil ?_)))))))))))))
   rcases cond_some hc_12 with ⟨hc_16, hc_12⟩ | ⟨hc_16, hc_12⟩
   ·refine wH_ift rfl hc_16 (wH_seq (wH_region (h_op (dV (extN 0) 9 data_1) wz rfl (h_op (vI a_2) wz rfl (h_op (vI b_3) wz rfl (h_op (.fn 127 []) wz rfl ?_))))))
    obtain ⟨r_17, hr_18, hc_12⟩ := bind_some hc_12
    obtain ⟨_, hs_19, hc_12⟩ := bind_some hc_12
    replace hs_19 := sameL_eq hs_19
    refine h_callv 0 [] 0 0 il ft (slices_insertionSortCmpFunc_api_Alert_v3_ok hr_18) rfl hb223 rfl rfl rfl (by kernel_rfl) rfl (.inr (.inl rfl)) rfl (by kernel_rfl) (by kernel_rfl) (by kernel_rfl) (by kernel_rfl) rfl (by decide) (by kernel_rfl) gB_ok (gB_ho hs_19) wz ([((extN 0), gB 9 Alert.enc r_17)] : Hp) (by kernel_rfl) (h_re (v' := (dV (extN 0) 9 r_17)) 0 rfl (dV_len hs_19.symm) (h_re (v' := (dV (extN 0) 9 r_17)) 26 rfl (dV_len hs_19.symm) (h_nil ?_)))
    obtain rfl := some_inj hc_12
    obtain rfl := some_inj hL_13
    obtain rfl := some_inj hF
    exact wH_ret (finV (bs := ([] : List Box)) (os := ([] : List Box)) (xs := data_1) (o := gB 9 Alert.enc r_17) (.inr rfl) [] trivial rfl rfl rfl rfl rfl (by kernel_rfl) gB_ok rfl)
   ·refine wH_iff rfl hc_16 (wH_skip (wH_seq (wH_seq (wH_region (h_op (vI limit_4) wz rfl (h_op (vB (limit_4 == 0)) wz rfl (h_nil ?_)))))))
    rcases cond_some hc_12 with ⟨hc_20, hc_12⟩ | ⟨hc_20, hc_12⟩
    ·refine wH_ift rfl hc_20 (wH_seq (wH_region (h_op (dV (extN 0) 9 data_1) wz rfl (h_op (vI a_2) wz rfl (h_op (vI b_3) wz rfl (h_op (.fn 127 []) wz rfl ?_))))))
     cases hc_12
    ·refine wH_iff rfl hc_20 (wH_skip (wH_seq (wH_seq (wH_region (h_op (vB true) wz rfl (h_op (vB false) wz rfl (h_nil (wH_iff rfl rfl (wH_skip (wH_seq (wH_region (h_op (dV (extN 0) 9 data_1) wz rfl (h_op (vI a_2) wz rfl (h_op (vI b_3) wz rfl (h_op (.fn 127 []) wz rfl ?_)))))))))))))))
     cases hc_12
 ·rintro s_11 ho_ sl_ H_ hp_ hq_
  subst ho_
  show finH _ _ _ _ _ _ _ _
  obtain rfl := some_inj hF
  exact finH_at (H0 := ([((extN 0), gB 9 Alert.enc data_1)] : Hp)) (sl' := envS []) hq_ (finV (bs := ([] : List Box)) (os := ([] : List Box)) (xs := data_1) (o := gB 9 Alert.enc data_1) (.inl rfl) [] trivial rfl rfl rfl rfl rfl (by kernel_rfl) gB_ok rfl)
theorem slices_SortFunc_api_Alert_api_Alert_v3_ok {x_1 : (List Alert)} {r : (List Alert)} (hF : slices_SortFunc_api_Alert_api_Alert_v3 x_1 = some r) :
  FnM Tryz.prog 109 [(dV (extN 0) 9 x_1), (.fn 127 [])] (([] : List Box) ++ gI 9 Alert.enc x_1) (.tup []) (([] : List Box).map some ++ gT x_1 (gB 9 Alert.enc r)) := by
 refine FnM.of_wHv ⟨Tryz.prog, 14, [], []⟩ rfl Tryz.func109 rfl rfl (Nat.le_of_ble_eq_true rfl) (by kernel_rfl) ?_
 unfold slices_SortFunc_api_Alert_api_Alert_v3 at hF
 refine wH_seq (wH_region (h_op (dV (extN 0) 9 x_1) wz rfl (h_lend un78 rfl wz (h_op (vI (x_1.length : Int)) wz rfl (h_nil (wH_region (h_op (dV (extN 0) 9 x_1) wz rfl (h_op (vI (x_1.length : Int)) wz rfl (h_op (vI (x_1.length : Int)) wz rfl (h_conv un3 un268 rfl wz ?_))))))))))
 obtain ⟨r_3, hr_4, hF⟩ := bind_some hF
 refine h_call0 (math_bits_Len_ok hr_4) rfl hb189 rfl rfl rfl rfl wz (h_op (.fn 127 []) wz rfl ?_)
 obtain ⟨r_5, hr_6, hF⟩ := bind_some hF
 obtain ⟨_, hs_7, hF⟩ := bind_some hF
 replace hs_7 := sameL_eq hs_7
 refine h_callv 0 [] 0 0 il ft (slices_pdqsortCmpFunc_api_Alert_v3_ok hr_6) rfl hb188 rfl rfl rfl (by kernel_rfl) rfl (.inr (.inl rfl)) rfl (by kernel_rfl) (by kernel_rfl) (by kernel_rfl) (by kernel_rfl) rfl (by decide) (by kernel_rfl) gB_ok (gB_ho hs_7) wz ([((extN 0), gB 9 Alert.enc r_5)] : Hp) (by kernel_rfl) (h_re (v' := (dV (extN 0) 9 r_5)) 0 rfl (dV_len hs_7.symm) (h_re (v' := (dV (extN 0) 9 r_5)) 5 rfl (dV_len hs_7.symm) (h_re (v' := (dV (extN 0) 9 r_5)) 7 rfl (dV_len hs_7.symm) (h_nil ?_))))
 show finH _ _ _ _ _ _ _ _
 obtain rfl := some_inj hF
 exact finV (bs := ([] : List Box)) (os := ([] : List Box)) (xs := x_1) (o := gB 9 Alert.enc r_5) (.inl rfl) [] trivial rfl rfl rfl rfl rfl (by kernel_rfl) gB_ok rfl
theorem ref_RankedOf_ok {l_1 : (List Alert)} {p_2 : Post} {atv_3 : Int} {r : (List ByteArray)} (hF : ref_RankedOf l_1 p_2 atv_3 = some r) :
  FnM Tryz.prog 45 [(vL Alert.enc l_1), (.d (.agg (Post.enc p_2))), (vI atv_3)] [] (vL eS r) [] := by
 refine FnM.of_wH ⟨Tryz.prog, 48, [], []⟩ rfl Tryz.func45 rfl rfl (Nat.le_of_ble_eq_true rfl) (by kernel_rfl) ?_
 unfold ref_RankedOf at hF
 refine wH_seq (wH_region (h_box 0 (.inl rfl) [(vS p_2.Player), (vI p_2.X), (vI p_2.Y)] rfl rfl wz (fun n_4 => h_op .nil wz rfl (h_nil (wH_seq (wH_region (h_op .nil wz rfl (h_nil (wH_seq (wH_seq (wH_region (h_op (vL Alert.enc l_1) wz rfl (h_len un78 rfl wz (h_op (vI 0) wz rfl (h_nil (wH_new (fun n_11 => ?_)))))))))))))))))
 obtain ⟨o_16, hj_17, hF⟩ := bind_some hF
 obtain ⟨hn_9, hj_17⟩ := forL_some hj_17
 refine wH_join (β := ((List Alert)) × Nm) (fun p => (fun (s_10 : (List Alert)) (n_13 : Nm) => ([(7, (gV n_13 9 s_10))] : List (Nat × V))) p.1 p.2) (fun p => (fun (s_10 : (List Alert)) (n_13 : Nm) => ([(n_4, some (.cells 3 [(vS p_2.Player), (vI p_2.X), (vI p_2.Y)])), (n_13, gB 9 Alert.enc s_10)] : Hp)) p.1 p.2) (fun p => o_16 = .go p.1) ?_ ?_
 ·refine wH_block (wH_loop (β := Nat × (List Alert) × ((List Alert)) × Nm) (fun p => (fun (k_5 : Nat) (l_6 : List Alert) (s_10 : (List Alert)) (n_13 : Nm) => ([(0, (vL Alert.enc l_1)), (2, (vI atv_3)), (4, (.ref n_4 0 0)), (7, (gV n_13 9 s_10)), (13, (vL Alert.enc l_1)), (14, (vI (l_1.length : Int))), (15, (vI (k_5 : Int)))] : List (Nat × V))) p.1 p.2.1 p.2.2.1 p.2.2.2) (fun p => (fun (k_5 : Nat) (l_6 : List Alert) (s_10 : (List Alert)) (n_13 : Nm) => ([(n_4, some (.cells 3 [(vS p_2.Player), (vI p_2.X), (vI p_2.Y)])), (n_13, gB 9 Alert.enc s_10)] : Hp)) p.1 p.2.1 p.2.2.1 p.2.2.2) (fun p => forR (fun k x s => ref_RankedOf_L1 l_1 atv_3 p_2 k x s) p.2.1 p.1 p.2.2.1 = some o_16 ∧ (l_1).drop p.1 = p.2.1) (fun p => p.2.1.length) (0, l_1, ([] : List Alert), n_11) ⟨hj_17, rfl⟩ rfl (pre_r rfl) ?_)
  rintro ⟨k_5, l_6, s_10, n_13⟩ ⟨hL_15, hD_8⟩
  dsimp only at hL_15 hD_8
  cases l_6 with
  | nil =>
   obtain rfl := some_inj hL_15
   refine wH_seq (wH_region (h_op (vB (decide ((k_5 : Int) < (l_1.length : Int)))) wz rfl (h_nil ?_)))
   refine wH_seq (wH_iff rfl (drop_nil hD_8) (wH_exit ?_))
   exact cut_mk (s_10, n_13) rfl rfl (pre_r rfl)
  | cons x_7 l_6 =>
   obtain ⟨c_, hc_14, hL_15⟩ := bind_some hL_15
   refine wH_seq (wH_region (h_op (vB (decide ((k_5 : Int) < (l_1.length : Int)))) wz rfl (h_nil ?_)))
   refine wH_seq (wH_ift rfl (drop_cons hD_8) (wH_skip ?_))
   unfold ref_RankedOf_L1 at hc_14
   refine wH_seq (wH_block (wH_seq (wH_region (h_ia es78 rfl rfl (drop_idx hD_8) rfl wz (h_ldc sz82 ag82 rfl (.d (.agg (Alert.enc x_7))) rfl wz (h_alloc 0 (.inl rfl) z82 rfl wz (fun n_18 => h_str 0 il ft 2 sz82 rfl rfl [(vS x_7.Id), (vS x_7.Sender), (vI x_7.Kind), (vL eS x_7.Refs), (vI x_7.At), (vI x_7.Until), (vI x_7.Weight), (vL Rect.enc x_7.Areas), (vS x_7.Text)] rfl wz (h_nil (wH_seq ?_)))))))))
   obtain ⟨v_19, h_20, hc_14⟩ := bind_some hc_14
   refine wH_join (β := Unit) (fun _ => ([(0, (vL Alert.enc l_1)), (2, (vI atv_3)), (4, (.ref n_4 0 0)), (7, (gV n_13 9 s_10)), (9, (.ref n_18 0 0)), (13, (vL Alert.enc l_1)), (14, (vI (l_1.length : Int))), (15, (vI (k_5 : Int))), (27, (vB v_19))] : List (Nat × V))) (fun _ => ([(n_4, some (.cells 3 [(vS p_2.Player), (vI p_2.X), (vI p_2.Y)])), (n_13, gB 9 Alert.enc s_10), (n_18, some (.cells 9 [(vS x_7.Id), (vS x_7.Sender), (vI x_7.Kind), (vL eS x_7.Refs), (vI x_7.At), (vI x_7.Until), (vI x_7.Weight), (vL Rect.enc x_7.Areas), (vS x_7.Text)]))] : Hp)) (fun _ => True) ?_ ?_
   ·refine wH_region (h_op (vL Alert.enc l_1) wz rfl (h_ldr 0 2 il ft sz82 ag82 rfl rfl (.d (.agg (Alert.enc x_7))) rfl wz (h_op (vI atv_3) wz rfl ?_)))
    obtain ⟨r_21, hr_22, h_20⟩ := bind_some h_20
    refine h_call0 (ref_forced_ok hr_22) rfl hb126 rfl rfl rfl rfl wz ?_
    rcases cond_some h_20 with ⟨hc_23, h_20⟩ | ⟨hc_23, h_20⟩
    ·refine h_movb rfl hc_23 wz (h_ldr 0 2 il ft sz82 ag82 rfl rfl (.d (.agg (Alert.enc x_7))) rfl wa (h_ldr 0 0 il ft sz77 ag77 rfl rfl (.d (.agg (Post.enc p_2))) rfl wa ?_))
     obtain ⟨r_24, hr_25, h_20⟩ := bind_some h_20
     refine h_call0 (ref_ReachesOf_ok hr_25) rfl hb48 rfl rfl rfl rfl wa (h_op (vB r_24) wz rfl (h_nil ?_))
     obtain rfl := some_inj h_20
     exact cu
    ·refine h_movb rfl hc_23 wz (h_skip wa (h_skip wa (h_skip wa (h_op (vB false) wz rfl (h_nil ?_)))))
     obtain rfl := some_inj h_20
     exact cu
   ·rintro ⟨⟩ _ sl_ H_ hp_ hq_
    refine wH_at _ hp_ hq_ ?_
    obtain ⟨v_26, h_27, hc_14⟩ := bind_some hc_14
    refine wH_join (β := Nm) (fun (n_28 : Nm) => ([(0, (vL Alert.enc l_1)), (2, (vI atv_3)), (4, (.ref n_4 0 0)), (7, (gV n_28 9 v_26)), (13, (vL Alert.enc l_1)), (14, (vI (l_1.length : Int))), (15, (vI (k_5 : Int)))] : List (Nat × V))) (fun (n_28 : Nm) => ([(n_4, some (.cells 3 [(vS p_2.Player), (vI p_2.X), (vI p_2.Y)])), (n_28, gB 9 Alert.enc v_26), (n_18, some (.cells 9 [(vS x_7.Id), (vS x_7.Sender), (vI x_7.Kind), (vL eS x_7.Refs), (vI x_7.At), (vI x_7.Until), (vI x_7.Weight), (vL Rect.enc x_7.Areas), (vS x_7.Text)]))] : Hp)) (fun _ => True) ?_ ?_
    ·rcases cond_some h_27 with ⟨hc_29, h_27⟩ | ⟨hc_29, h_27⟩
     ·refine wH_ift rfl hc_29 (wH_region (h_op (gV n_13 9 s_10) wz rfl (h_ldr 0 2 il ft sz82 ag82 rfl rfl (.d (.agg (Alert.enc x_7))) rfl wz (h_lit (([x_7] : List Alert).map Alert.enc) es78 ez78 rfl rfl rfl rfl rfl wz ?_))))
      obtain ⟨a_30, hz_31, h_27⟩ := bind_some h_27
      refine h_appg 0 il ft (i := 1) el78 el78 sz82 z82 rfl (by decide) by82 (by decide) (fun _ => rfl) rfl rfl rfl hz_31 wz (fun n_32 => h_op (gV n_32 9 a_30) wz rfl (h_nil ?_))
      obtain rfl := some_inj h_27
      exact cut_mk n_32 trivial rfl (pre_r rfl)
     ·refine wH_iff rfl hc_29 (wH_skip ?_)
      obtain rfl := some_inj h_27
      exact cut_mk n_13 trivial rfl (pre_r rfl)
    ·rintro n_28 _ sl_ H_ hp_ hq_
     refine wH_at _ hp_ hq_ (wH_region (h_opw (w64_next hD_8 hn_9) wz rfl (h_op (vI ((k_5 + 1 : Nat) : Int)) wz rfl (h_nil ?_))))
     obtain rfl := some_inj hc_14
     exact loop_mk (k_5 + 1, l_6, v_26, n_28) ⟨hL_15, drop_next hD_8⟩ (Nat.lt_succ_self _) rfl (pre_r rfl)
 ·rintro ⟨s_10, n_13⟩ ho_ sl_ H_ hp_ hq_
  subst ho_
  refine wH_at _ hp_ hq_ (wH_seq (wH_region (h_op (gV n_13 9 s_10) wz rfl ?_)))
  obtain ⟨r_33, hr_34, hF⟩ := bind_some hF
  obtain ⟨_, hs_35, hF⟩ := bind_some hF
  replace hs_35 := sameL_eq hs_35
  refine h_callv 0 [] 1 0 il ft (slices_SortFunc_api_Alert_api_Alert_v3_ok hr_34) rfl hb109 rfl rfl rfl (by kernel_rfl) rfl (.inl rfl) rfl (by kernel_rfl) (by kernel_rfl) (by kernel_rfl) (by kernel_rfl) rfl (by decide) (by kernel_rfl) gB_ok (gB_ho hs_35) wz ([(n_4, some (.cells 3 [(vS p_2.Player), (vI p_2.X), (vI p_2.Y)])), (n_13, gB 9 Alert.enc r_33)] : Hp) (by kernel_rfl) (h_re (v' := (gV n_13 9 r_33)) 33 rfl (gV_len hs_35.symm) (h_re (v' := (gV n_13 9 r_33)) 7 rfl (gV_len hs_35.symm) (h_nil (wH_seq (wH_region (h_op .nil wz rfl (h_nil (wH_seq (wH_seq (wH_region (h_op (gV n_13 9 r_33) wz rfl (h_leng un78 rfl wz (h_op (vI 0) wz rfl (h_nil (wH_frozg 1 rfl (wH_cog 7 1 rfl rfl (wH_cog 33 1 rfl rfl (wH_cog 35 1 rfl rfl (wH_new (fun n_42 => ?_))))))))))))))))))))
  obtain ⟨o_47, hj_48, hF⟩ := bind_some hF
  obtain ⟨hn_40, hj_48⟩ := forL_some hj_48
  refine wH_join (β := ((List ByteArray)) × Nm) (fun p => (fun (s_41 : (List ByteArray)) (n_44 : Nm) => ([(10, (gV n_44 1 s_41))] : List (Nat × V))) p.1 p.2) (fun p => (fun (s_41 : (List ByteArray)) (n_44 : Nm) => ([(n_4, some (.cells 3 [(vS p_2.Player), (vI p_2.X), (vI p_2.Y)])), (n_13, gF 9 Alert.enc r_33), (n_44, gB 1 eS s_41)] : Hp)) p.1 p.2) (fun p => o_47 = .go p.1) ?_ ?_
  ·refine wH_block (wH_loop (β := Nat × (List Alert) × ((List ByteArray)) × Nm) (fun p => (fun (k_36 : Nat) (l_37 : List Alert) (s_41 : (List ByteArray)) (n_44 : Nm) => ([(10, (gV n_44 1 s_41)), (35, (vL Alert.enc r_33)), (36, (vI (r_33.length : Int))), (37, (vI (k_36 : Int)))] : List (Nat × V))) p.1 p.2.1 p.2.2.1 p.2.2.2) (fun p => (fun (k_36 : Nat) (l_37 : List Alert) (s_41 : (List ByteArray)) (n_44 : Nm) => ([(n_4, some (.cells 3 [(vS p_2.Player), (vI p_2.X), (vI p_2.Y)])), (n_13, gF 9 Alert.enc r_33), (n_44, gB 1 eS s_41)] : Hp)) p.1 p.2.1 p.2.2.1 p.2.2.2) (fun p => forR (fun k x s => ref_RankedOf_L2 k x s) p.2.1 p.1 p.2.2.1 = some o_47 ∧ (r_33).drop p.1 = p.2.1) (fun p => p.2.1.length) (0, r_33, ([] : List ByteArray), n_42) ⟨hj_48, rfl⟩ rfl (pre_r rfl) ?_)
   rintro ⟨k_36, l_37, s_41, n_44⟩ ⟨hL_46, hD_39⟩
   dsimp only at hL_46 hD_39
   cases l_37 with
   | nil =>
    obtain rfl := some_inj hL_46
    refine wH_seq (wH_region (h_op (vB (decide ((k_36 : Int) < (r_33.length : Int)))) wz rfl (h_nil ?_)))
    refine wH_seq (wH_iff rfl (drop_nil hD_39) (wH_exit ?_))
    exact cut_mk (s_41, n_44) rfl rfl (pre_r rfl)
   | cons x_38 l_37 =>
    obtain ⟨c_, hc_45, hL_46⟩ := bind_some hL_46
    refine wH_seq (wH_region (h_op (vB (decide ((k_36 : Int) < (r_33.length : Int)))) wz rfl (h_nil ?_)))
    refine wH_seq (wH_ift rfl (drop_cons hD_39) (wH_skip ?_))
    unfold ref_RankedOf_L2 at hc_45
    refine wH_seq (wH_block (wH_seq (wH_region (h_ia es78 rfl rfl (drop_idx hD_39) rfl wz (h_ldc sz82 ag82 rfl (.d (.agg (Alert.enc x_38))) rfl wz (h_alloc 0 (.inl rfl) z82 rfl wz (fun n_49 => h_str 0 il ft 3 sz82 rfl rfl [(vS x_38.Id), (vS x_38.Sender), (vI x_38.Kind), (vL eS x_38.Refs), (vI x_38.At), (vI x_38.Until), (vI x_38.Weight), (vL Rect.enc x_38.Areas), (vS x_38.Text)] rfl wz (h_nil (wH_region (h_op (gV n_44 1 s_41) wz rfl (h_far pl82_0 rfl 0 rfl wz (h_ldr 0 3 il ft sz9 ag9 rfl rfl (vS x_38.Id) rfl wz (h_lit (([x_38.Id] : List ByteArray).map eS) es80 ez80 rfl rfl rfl rfl rfl wz ?_)))))))))))))
    obtain ⟨a_50, hz_51, hc_45⟩ := bind_some hc_45
    refine h_appg 0 il ft (i := 2) el80 el80 sz9 z9 rfl (by decide) by9 (by decide) (fun _ => rfl) rfl rfl rfl hz_51 wz (fun n_52 => h_op (gV n_52 1 a_50) wz rfl (h_nil (wH_region (h_opw (w64_next hD_39 hn_40) wz rfl (h_op (vI ((k_36 + 1 : Nat) : Int)) wz rfl (h_nil ?_))))))
    obtain rfl := some_inj hc_45
    exact loop_mk (k_36 + 1, l_37, a_50, n_52) ⟨hL_46, drop_next hD_39⟩ (Nat.lt_succ_self _) rfl (pre_r rfl)
  ·rintro ⟨s_41, n_44⟩ ho_ sl_ H_ hp_ hq_
   subst ho_
   refine wH_at _ hp_ hq_ (wH_seq (wH_region (h_op (gV n_44 1 s_41) wz rfl (h_op (gV n_44 1 s_41) wz rfl (h_nil (wH_frozg 2 rfl (wH_cog 6 2 rfl rfl (wH_cog 10 2 rfl rfl (wH_cog 47 2 rfl rfl ?_)))))))))
   obtain rfl := some_inj hF
   exact wH_ret (fin0 (.inr rfl) [(vL eS s_41)] ⟨rfl, trivial⟩ rfl rfl rfl)
theorem ref_ShownAlert_ok {l_1 : (List Alert)} {p_2 : Post} {atv_3 : Int} {r : ByteArray × Bool} (hF : ref_ShownAlert l_1 p_2 atv_3 = some r) :
  FnM Tryz.prog 46 [(vL Alert.enc l_1), (.d (.agg (Post.enc p_2))), (vI atv_3)] [] (.tup [(vS r.1), (vB r.2)]) [] := by
 refine FnM.of_wH ⟨Tryz.prog, 19, [], []⟩ rfl Tryz.func46 rfl rfl (Nat.le_of_ble_eq_true rfl) (by kernel_rfl) ?_
 unfold ref_ShownAlert at hF
 refine wH_seq (wH_region (h_box 0 (.inl rfl) [(vS p_2.Player), (vI p_2.X), (vI p_2.Y)] rfl rfl wz (fun n_4 => h_op (vS (⟨#[]⟩ : ByteArray)) wz rfl (h_op (vB false) wz rfl (h_nil (wH_seq (wH_region (h_op (vL Alert.enc l_1) wz rfl (h_ldr 0 0 il ft sz77 ag77 rfl rfl (.d (.agg (Post.enc p_2))) rfl wz (h_op (vI atv_3) wz rfl ?_))))))))))
 obtain ⟨r_5, hr_6, hF⟩ := bind_some hF
 refine h_call0 (ref_RankedOf_ok hr_6) rfl hb45 rfl rfl rfl rfl wz (h_op (vL eS r_5) wz rfl (h_nil (wH_seq (wH_seq (wH_region (h_op (vL eS r_5) wz rfl (h_len un80 rfl wz (h_op (vB ((r_5.length : Int) == 0)) wz rfl (h_nil ?_)))))))))
 rcases cond_some hF with ⟨hc_7, hF⟩ | ⟨hc_7, hF⟩
 ·refine wH_ift rfl hc_7 (wH_seq (wH_region (h_op (vS (⟨#[]⟩ : ByteArray)) wz rfl (h_op (vB false) wz rfl (h_nil ?_)))))
  obtain rfl := some_inj hF
  exact wH_ret (fin0 (.inr rfl) [(vS (⟨#[]⟩ : ByteArray)), (vB false)] ⟨rfl, ⟨rfl, trivial⟩⟩ rfl rfl rfl)
 ·refine wH_iff rfl hc_7 (wH_skip (wH_seq (wH_region (h_op (vL eS r_5) wz rfl ?_))))
  obtain ⟨y_8, hy_9, hF⟩ := bind_some hF
  refine h_ia es80 rfl rfl hy_9 rfl wz (h_ldc sz9 ag9 rfl (vS y_8) rfl wz (h_op (vS y_8) wz rfl (h_op (vB true) wz rfl (h_nil ?_))))
  obtain rfl := some_inj hF
  exact wH_ret (fin0 (.inr rfl) [(vS y_8), (vB true)] ⟨rfl, ⟨rfl, trivial⟩⟩ rfl rfl rfl)
theorem ref_CoveredPosts_ok {l_1 : (List Alert)} {posts_2 : (List Post)} {atv_3 : Int} {r : (List Pair)} (hF : ref_CoveredPosts l_1 posts_2 atv_3 = some r) :
  FnM Tryz.prog 40 [(vL Alert.enc l_1), (vL Post.enc posts_2), (vI atv_3)] [] (vL Pair.enc r) [] := by
 refine FnM.of_wH ⟨Tryz.prog, 35, [], []⟩ rfl Tryz.func40 rfl rfl (Nat.le_of_ble_eq_true rfl) (by kernel_rfl) ?_
 unfold ref_CoveredPosts at hF
 refine wH_seq (wH_region (h_op .nil wz rfl (h_nil (wH_seq (wH_region (h_op .nil wz rfl (h_nil (wH_seq (wH_seq (wH_region (h_op (vL Post.enc posts_2) wz rfl (h_len un86 rfl wz (h_op (vI 0) wz rfl (h_nil (wH_new (fun n_10 => ?_))))))))))))))))
 obtain ⟨o_15, hj_16, hF⟩ := bind_some hF
 obtain ⟨hn_8, hj_16⟩ := forL_some hj_16
 refine wH_join (β := ((List Pair)) × Nm) (fun p => (fun (s_9 : (List Pair)) (n_12 : Nm) => ([(7, (gV n_12 2 s_9))] : List (Nat × V))) p.1 p.2) (fun p => (fun (s_9 : (List Pair)) (n_12 : Nm) => ([(n_12, gB 2 Pair.enc s_9)] : Hp)) p.1 p.2) (fun p => o_15 = .go p.1) ?_ ?_
 ·refine wH_block (wH_loop (β := Nat × (List Post) × ((List Pair)) × Nm) (fun p => (fun (k_4 : Nat) (l_5 : List Post) (s_9 : (List Pair)) (n_12 : Nm) => ([(0, (vL Alert.enc l_1)), (2, (vI atv_3)), (7, (gV n_12 2 s_9)), (12, (vL Post.enc posts_2)), (13, (vI (posts_2.length : Int))), (14, (vI (k_4 : Int)))] : List (Nat × V))) p.1 p.2.1 p.2.2.1 p.2.2.2) (fun p => (fun (k_4 : Nat) (l_5 : List Post) (s_9 : (List Pair)) (n_12 : Nm) => ([(n_12, gB 2 Pair.enc s_9)] : Hp)) p.1 p.2.1 p.2.2.1 p.2.2.2) (fun p => forR (fun k x s => ref_CoveredPosts_L1 l_1 atv_3 k x s) p.2.1 p.1 p.2.2.1 = some o_15 ∧ (posts_2).drop p.1 = p.2.1) (fun p => p.2.1.length) (0, posts_2, ([] : List Pair), n_10) ⟨hj_16, rfl⟩ rfl (pre_r rfl) ?_)
  rintro ⟨k_4, l_5, s_9, n_12⟩ ⟨hL_14, hD_7⟩
  dsimp only at hL_14 hD_7
  cases l_5 with
  | nil =>
   obtain rfl := some_inj hL_14
   refine wH_seq (wH_region (h_op (vB (decide ((k_4 : Int) < (posts_2.length : Int)))) wz rfl (h_nil ?_)))
   refine wH_seq (wH_iff rfl (drop_nil hD_7) (wH_exit ?_))
   exact cut_mk (s_9, n_12) rfl rfl (pre_r rfl)
  | cons x_6 l_5 =>
   obtain ⟨c_, hc_13, hL_14⟩ := bind_some hL_14
   refine wH_seq (wH_region (h_op (vB (decide ((k_4 : Int) < (posts_2.length : Int)))) wz rfl (h_nil ?_)))
   refine wH_seq (wH_ift rfl (drop_cons hD_7) (wH_skip ?_))
   unfold ref_CoveredPosts_L1 at hc_13
   refine wH_seq (wH_block (wH_seq (wH_region (h_ia es86 rfl rfl (drop_idx hD_7) rfl wz (h_ldc sz77 ag77 rfl (.d (.agg (Post.enc x_6))) rfl wz (h_alloc 0 (.inl rfl) z77 rfl wz (fun n_17 => h_str 0 il ft 1 sz77 rfl rfl [(vS x_6.Player), (vI x_6.X), (vI x_6.Y)] rfl wz (h_nil (wH_seq (wH_region (h_op (vL Alert.enc l_1) wz rfl (h_ldr 0 1 il ft sz77 ag77 rfl rfl (.d (.agg (Post.enc x_6))) rfl wz (h_op (vI atv_3) wz rfl ?_)))))))))))))
   obtain ⟨r_18, hr_19, hc_13⟩ := bind_some hc_13
   refine h_call0 (ref_ShownAlert_ok hr_19) rfl hb46 rfl rfl rfl rfl wz (h_op (.tup [(vS r_18.1), (vB r_18.2)]) wz rfl (h_op (vS r_18.1) wz rfl (h_op (vB r_18.2) wz rfl (h_op (vS r_18.1) wz rfl (h_op (vB r_18.2) wz rfl (h_nil (wH_seq (wH_region (h_op (vB r_18.2) wz rfl (h_nil ?_))))))))))
   obtain ⟨v_20, h_21, hc_13⟩ := bind_some hc_13
   refine wH_join (β := Nm) (fun (n_22 : Nm) => ([(0, (vL Alert.enc l_1)), (2, (vI atv_3)), (7, (gV n_22 2 v_20)), (12, (vL Post.enc posts_2)), (13, (vI (posts_2.length : Int))), (14, (vI (k_4 : Int)))] : List (Nat × V))) (fun (n_22 : Nm) => ([(n_22, gB 2 Pair.enc v_20), (n_17, some (.cells 3 [(vS x_6.Player), (vI x_6.X), (vI x_6.Y)]))] : Hp)) (fun _ => True) ?_ ?_
   ·rcases cond_some h_21 with ⟨hc_23, h_21⟩ | ⟨hc_23, h_21⟩
    ·refine wH_ift rfl hc_23 (wH_region (h_op (gV n_12 2 s_9) wz rfl (h_far pl77_0 rfl 0 rfl wz (h_ldr 0 1 il ft sz9 ag9 rfl rfl (vS x_6.Player) rfl wz (h_op (vS r_18.1) wz rfl (h_op (.d (.agg (Pair.enc (⟨x_6.Player, r_18.1⟩ : Pair)))) wz (by kernel_rfl) (h_lit (([(⟨x_6.Player, r_18.1⟩ : Pair)] : List Pair).map Pair.enc) es89 ez89 rfl rfl rfl rfl rfl wz ?_)))))))
     obtain ⟨a_24, hz_25, h_21⟩ := bind_some h_21
     refine h_appg 0 il ft (i := 0) el89 el89 sz98 z98 rfl (by decide) by98 (by decide) (fun _ => rfl) rfl rfl rfl hz_25 wz (fun n_26 => h_op (gV n_26 2 a_24) wz rfl (h_nil ?_))
     obtain rfl := some_inj h_21
     exact cut_mk n_26 trivial rfl (pre_r rfl)
    ·refine wH_iff rfl hc_23 (wH_skip ?_)
     obtain rfl := some_inj h_21
     exact cut_mk n_12 trivial rfl (pre_r rfl)
   ·rintro n_22 _ sl_ H_ hp_ hq_
    refine wH_at _ hp_ hq_ (wH_region (h_opw (w64_next hD_7 hn_8) wz rfl (h_op (vI ((k_4 + 1 : Nat) : Int)) wz rfl (h_nil ?_))))
    obtain rfl := some_inj hc_13
    exact loop_mk (k_4 + 1, l_5, v_20, n_22) ⟨hL_14, drop_next hD_7⟩ (Nat.lt_succ_self _) rfl (pre_r rfl)
 ·rintro ⟨s_9, n_12⟩ ho_ sl_ H_ hp_ hq_
  subst ho_
  refine wH_at _ hp_ hq_ (wH_seq (wH_region (h_op (gV n_12 2 s_9) wz rfl (h_op (gV n_12 2 s_9) wz rfl (h_nil (wH_frozg 0 rfl (wH_cog 6 0 rfl rfl (wH_cog 7 0 rfl rfl (wH_cog 34 0 rfl rfl ?_)))))))))
  obtain rfl := some_inj hF
  exact wH_ret (fin0 (.inr rfl) [(vL Pair.enc s_9)] ⟨rfl, trivial⟩ rfl rfl rfl)
theorem slices_Equal_api_Pair_api_Pair_ok {s1_1 : (List Pair)} {s2_2 : (List Pair)} {r : Bool} (hF : slices_Equal_api_Pair_api_Pair s1_1 s2_2 = some r) :
  FnM Tryz.prog 42 [(vL Pair.enc s1_1), (vL Pair.enc s2_2)] [] (vB r) [] := by
 refine FnM.of_wH ⟨Tryz.prog, 26, [], []⟩ rfl Tryz.func42 rfl rfl (Nat.le_of_ble_eq_true rfl) (by kernel_rfl) ?_
 unfold slices_Equal_api_Pair_api_Pair at hF
 refine wH_seq (wH_region (h_op (vB false) wz rfl (h_nil (wH_seq (wH_seq (wH_region (h_op (vL Pair.enc s1_1) wz rfl (h_len un89 rfl wz (h_op (vL Pair.enc s2_2) wz rfl (h_len un89 rfl wz (h_op (vB ((s1_1.length : Int) != (s2_2.length : Int))) wz rfl (h_nil ?_))))))))))))
 rcases cond_some hF with ⟨hc_3, hF⟩ | ⟨hc_3, hF⟩
 ·refine wH_ift rfl hc_3 (wH_seq (wH_region (h_op (vB false) wz rfl (h_nil ?_))))
  obtain rfl := some_inj hF
  exact wH_ret (fin0 (.inr rfl) [(vB false)] ⟨rfl, trivial⟩ rfl rfl rfl)
 ·refine wH_iff rfl hc_3 (wH_skip (wH_seq (wH_seq (wH_region (h_op (vL Pair.enc s1_1) wz rfl (h_len un89 rfl wz (h_op (vI 0) wz rfl (h_nil ?_))))))))
  obtain ⟨o_12, hj_13, hF⟩ := bind_some hF
  obtain ⟨hn_8, hj_13⟩ := forL_some hj_13
  refine wH_join (β := (Unit)) (fun (s_9 : Unit) => ([] : List (Nat × V))) (fun (s_9 : Unit) => ([] : Hp)) (fun p => o_12 = .go p) ?_ ?_
  ·refine wH_block (wH_loop (β := Nat × (List Pair) × (Unit)) (fun p => (fun (k_4 : Nat) (l_5 : List Pair) (s_9 : Unit) => ([(0, (vL Pair.enc s1_1)), (1, (vL Pair.enc s2_2)), (12, (vI (s1_1.length : Int))), (13, (vI (k_4 : Int)))] : List (Nat × V))) p.1 p.2.1 p.2.2) (fun p => (fun (k_4 : Nat) (l_5 : List Pair) (s_9 : Unit) => ([] : Hp)) p.1 p.2.1 p.2.2) (fun p => forR (fun k x s => slices_Equal_api_Pair_api_Pair_L1 s2_2 k x s) p.2.1 p.1 p.2.2 = some o_12 ∧ (s1_1).drop p.1 = p.2.1) (fun p => p.2.1.length) (0, s1_1, ()) ⟨hj_13, rfl⟩ rfl (pre_r rfl) ?_)
   rintro ⟨k_4, l_5, s_9⟩ ⟨hL_11, hD_7⟩
   dsimp only at hL_11 hD_7
   cases l_5 with
   | nil =>
    obtain rfl := some_inj hL_11
    refine wH_seq (wH_region (h_op (vB (decide ((k_4 : Int) < (s1_1.length : Int)))) wz rfl (h_nil ?_)))
    refine wH_seq (wH_iff rfl (drop_nil hD_7) (wH_exit ?_))
    exact cut_mk (s_9) rfl rfl (pre_r rfl)
   | cons x_6 l_5 =>
    obtain ⟨c_, hc_10, hL_11⟩ := bind_some hL_11
    refine wH_seq (wH_region (h_op (vB (decide ((k_4 : Int) < (s1_1.length : Int)))) wz rfl (h_nil ?_)))
    refine wH_seq (wH_ift rfl (drop_cons hD_7) (wH_skip ?_))
    unfold slices_Equal_api_Pair_api_Pair_L1 at hc_10
    refine wH_seq (wH_block (wH_seq (wH_region (h_op (vI (k_4 : Int)) wz rfl (h_op (vI (k_4 : Int)) wz rfl (h_nil (wH_seq (wH_draws (h_op (vL Pair.enc s1_1) wz rfl (h_op (vI (k_4 : Int)) wz rfl (h_ia es89 rfl rfl (drop_idx hD_7) rfl wz (h_ldc sz98 ag98 rfl (.d (.agg (Pair.enc x_6))) rfl wz (h_op (vL Pair.enc s2_2) wz rfl (h_op (vI (k_4 : Int)) wz rfl ?_))))))))))))))
    obtain ⟨y_14, hy_15, hc_10⟩ := bind_some hc_10
    refine h_ia es89 rfl rfl hy_15 rfl wz (h_ldc sz98 ag98 rfl (.d (.agg (Pair.enc y_14))) rfl wz (h_op (vB (!((x_6.Name.toList == y_14.Name.toList) && ((x_6.Value.toList == y_14.Value.toList) && true)))) wz (by kernel_rfl) (h_nil ?_)))
    rcases cond_some hc_10 with ⟨hc_16, hc_10⟩ | ⟨hc_16, hc_10⟩
    ·refine wH_ift rfl hc_16 (wH_seq (wH_region (h_op (vB false) wz rfl (h_nil ?_))))
     obtain rfl := some_inj hc_10
     obtain rfl := some_inj hL_11
     obtain rfl := some_inj hF
     exact wH_ret (fin0 (.inr rfl) [(vB false)] ⟨rfl, trivial⟩ rfl rfl rfl)
    ·refine wH_iff rfl hc_16 (wH_skip (wH_region (h_opw (w64_next hD_7 hn_8) wz rfl (h_op (vI ((k_4 + 1 : Nat) : Int)) wz rfl (h_nil ?_)))))
     obtain rfl := some_inj hc_10
     exact loop_mk (k_4 + 1, l_5, ()) ⟨hL_11, drop_next hD_7⟩ (Nat.lt_succ_self _) rfl (pre_r rfl)
  ·rintro s_9 ho_ sl_ H_ hp_ hq_
   subst ho_
   refine wH_at _ hp_ hq_ (wH_seq (wH_region (h_op (vB true) wz rfl (h_nil ?_))))
   obtain rfl := some_inj hF
   exact wH_ret (fin0 (.inr rfl) [(vB true)] ⟨rfl, trivial⟩ rfl rfl rfl)
theorem slices_Equal_string_string_ok {s1_1 : (List ByteArray)} {s2_2 : (List ByteArray)} {r : Bool} (hF : slices_Equal_string_string s1_1 s2_2 = some r) :
  FnM Tryz.prog 47 [(vL eS s1_1), (vL eS s2_2)] [] (vB r) [] := by
 refine FnM.of_wH ⟨Tryz.prog, 26, [], []⟩ rfl Tryz.func47 rfl rfl (Nat.le_of_ble_eq_true rfl) (by kernel_rfl) ?_
 unfold slices_Equal_string_string at hF
 refine wH_seq (wH_region (h_op (vB false) wz rfl (h_nil (wH_seq (wH_seq (wH_region (h_op (vL eS s1_1) wz rfl (h_len un80 rfl wz (h_op (vL eS s2_2) wz rfl (h_len un80 rfl wz (h_op (vB ((s1_1.length : Int) != (s2_2.length : Int))) wz rfl (h_nil ?_))))))))))))
 rcases cond_some hF with ⟨hc_3, hF⟩ | ⟨hc_3, hF⟩
 ·refine wH_ift rfl hc_3 (wH_seq (wH_region (h_op (vB false) wz rfl (h_nil ?_))))
  obtain rfl := some_inj hF
  exact wH_ret (fin0 (.inr rfl) [(vB false)] ⟨rfl, trivial⟩ rfl rfl rfl)
 ·refine wH_iff rfl hc_3 (wH_skip (wH_seq (wH_seq (wH_region (h_op (vL eS s1_1) wz rfl (h_len un80 rfl wz (h_op (vI 0) wz rfl (h_nil ?_))))))))
  obtain ⟨o_12, hj_13, hF⟩ := bind_some hF
  obtain ⟨hn_8, hj_13⟩ := forL_some hj_13
  refine wH_join (β := (Unit)) (fun (s_9 : Unit) => ([] : List (Nat × V))) (fun (s_9 : Unit) => ([] : Hp)) (fun p => o_12 = .go p) ?_ ?_
  ·refine wH_block (wH_loop (β := Nat × (List ByteArray) × (Unit)) (fun p => (fun (k_4 : Nat) (l_5 : List ByteArray) (s_9 : Unit) => ([(0, (vL eS s1_1)), (1, (vL eS s2_2)), (12, (vI (s1_1.length : Int))), (13, (vI (k_4 : Int)))] : List (Nat × V))) p.1 p.2.1 p.2.2) (fun p => (fun (k_4 : Nat) (l_5 : List ByteArray) (s_9 : Unit) => ([] : Hp)) p.1 p.2.1 p.2.2) (fun p => forR (fun k x s => slices_Equal_string_string_L1 s2_2 k x s) p.2.1 p.1 p.2.2 = some o_12 ∧ (s1_1).drop p.1 = p.2.1) (fun p => p.2.1.length) (0, s1_1, ()) ⟨hj_13, rfl⟩ rfl (pre_r rfl) ?_)
   rintro ⟨k_4, l_5, s_9⟩ ⟨hL_11, hD_7⟩
   dsimp only at hL_11 hD_7
   cases l_5 with
   | nil =>
    obtain rfl := some_inj hL_11
    refine wH_seq (wH_region (h_op (vB (decide ((k_4 : Int) < (s1_1.length : Int)))) wz rfl (h_nil ?_)))
    refine wH_seq (wH_iff rfl (drop_nil hD_7) (wH_exit ?_))
    exact cut_mk (s_9) rfl rfl (pre_r rfl)
   | cons x_6 l_5 =>
    obtain ⟨c_, hc_10, hL_11⟩ := bind_some hL_11
    refine wH_seq (wH_region (h_op (vB (decide ((k_4 : Int) < (s1_1.length : Int)))) wz rfl (h_nil ?_)))
    refine wH_seq (wH_ift rfl (drop_cons hD_7) (wH_skip ?_))
    unfold slices_Equal_string_string_L1 at hc_10
    refine wH_seq (wH_block (wH_seq (wH_region (h_op (vI (k_4 : Int)) wz rfl (h_op (vI (k_4 : Int)) wz rfl (h_nil (wH_seq (wH_draws (h_op (vL eS s1_1) wz rfl (h_op (vI (k_4 : Int)) wz rfl (h_ia es80 rfl rfl (drop_idx hD_7) rfl wz (h_ldc sz9 ag9 rfl (vS x_6) rfl wz (h_op (vL eS s2_2) wz rfl (h_op (vI (k_4 : Int)) wz rfl ?_))))))))))))))
    obtain ⟨y_14, hy_15, hc_10⟩ := bind_some hc_10
    refine h_ia es80 rfl rfl hy_15 rfl wz (h_ldc sz9 ag9 rfl (vS y_14) rfl wz (h_op (vB (sNe x_6 y_14)) wz rfl (h_nil ?_)))
    rcases cond_some hc_10 with ⟨hc_16, hc_10⟩ | ⟨hc_16, hc_10⟩
    ·refine wH_ift rfl hc_16 (wH_seq (wH_region (h_op (vB false) wz rfl (h_nil ?_))))
     obtain rfl := some_inj hc_10
     obtain rfl := some_inj hL_11
     obtain rfl := some_inj hF
     exact wH_ret (fin0 (.inr rfl) [(vB false)] ⟨rfl, trivial⟩ rfl rfl rfl)
    ·refine wH_iff rfl hc_16 (wH_skip (wH_region (h_opw (w64_next hD_7 hn_8) wz rfl (h_op (vI ((k_4 + 1 : Nat) : Int)) wz rfl (h_nil ?_)))))
     obtain rfl := some_inj hc_10
     exact loop_mk (k_4 + 1, l_5, ()) ⟨hL_11, drop_next hD_7⟩ (Nat.lt_succ_self _) rfl (pre_r rfl)
  ·rintro s_9 ho_ sl_ H_ hp_ hq_
   subst ho_
   refine wH_at _ hp_ hq_ (wH_seq (wH_region (h_op (vB true) wz rfl (h_nil ?_))))
   obtain rfl := some_inj hF
   exact wH_ret (fin0 (.inr rfl) [(vB true)] ⟨rfl, trivial⟩ rfl rfl rfl)
theorem law_warned_ok {r : Bool} (hF : law_warned  = some r) :
  FnM Tryz.prog 49 [] [] (vB r) [] := by
 refine FnM.of_wH ⟨Tryz.prog, 18, [], []⟩ rfl Tryz.func49 rfl rfl (Nat.le_of_ble_eq_true rfl) (by kernel_rfl) ?_
 unfold law_warned at hF
 refine wH_seq (wH_region (h_op (vB false) wz rfl (h_nil (wH_seq (wH_region (h_op (.d (.agg (Rect.enc (⟨0, 0, 2, 2⟩ : Rect)))) wz (by kernel_rfl) (h_lit (([(⟨0, 0, 2, 2⟩ : Rect)] : List Rect).map Rect.enc) es50 ez50 rfl rfl rfl rfl rfl wz (h_op (.agg [(vS (⟨#[97]⟩ : ByteArray)), (vS (⟨#[115]⟩ : ByteArray)), (vI 1), .nil, (vI 0), (vI 5), (vI 1), (vL Rect.enc ([(⟨0, 0, 2, 2⟩ : Rect)] : List Rect)), (vS (⟨#[120]⟩ : ByteArray))]) wz (by kernel_rfl) (h_alloc 0 (.inl rfl) z82 rfl wz (fun n_1 => h_str 0 il ft 0 sz82 rfl rfl [(vS (⟨#[97]⟩ : ByteArray)), (vS (⟨#[115]⟩ : ByteArray)), (vI 1), .nil, (vI 0), (vI 5), (vI 1), (vL Rect.enc ([(⟨0, 0, 2, 2⟩ : Rect)] : List Rect)), (vS (⟨#[120]⟩ : ByteArray))] rfl wz (h_nil (wH_seq (wH_region (h_ldr 0 0 il ft sz82 ag82 rfl rfl (.agg [(vS (⟨#[97]⟩ : ByteArray)), (vS (⟨#[115]⟩ : ByteArray)), (vI 1), .nil, (vI 0), (vI 5), (vI 1), (vL Rect.enc ([(⟨0, 0, 2, 2⟩ : Rect)] : List Rect)), (vS (⟨#[120]⟩ : ByteArray))]) rfl wz (h_op (.d (.agg (Post.enc (⟨(⟨#[112]⟩ : ByteArray), 1, 1⟩ : Post)))) wz (by kernel_rfl) ?_)))))))))))))))
 obtain ⟨r_2, hr_3, hF⟩ := bind_some hF
 refine h_call0 (alert_Reaches_ok hr_3) rfl hb30 rfl rfl rfl rfl wz (h_op (.tup [(vB r_2.1), (vI r_2.2)]) wz rfl (h_op (vB r_2.1) wz rfl (h_op (vI r_2.2) wz rfl (h_op (vB r_2.1) wz rfl (h_op (vI r_2.2) wz rfl (h_nil (wH_seq ?_)))))))
 obtain ⟨v_4, h_5, hF⟩ := bind_some hF
 refine wH_join (β := Unit) (fun _ => ([(0, (vB v_4))] : List (Nat × V))) (fun _ => ([(n_1, some (.cells 9 [(vS (⟨#[97]⟩ : ByteArray)), (vS (⟨#[115]⟩ : ByteArray)), (vI 1), .nil, (vI 0), (vI 5), (vI 1), (vL Rect.enc ([(⟨0, 0, 2, 2⟩ : Rect)] : List Rect)), (vS (⟨#[120]⟩ : ByteArray))]))] : Hp)) (fun _ => True) ?_ ?_
 ·refine wH_region (h_op (vI r_2.2) wz rfl (h_op (vB (r_2.2 == 0)) wz rfl ?_))
  rcases cond_some h_5 with ⟨hc_6, h_5⟩ | ⟨hc_6, h_5⟩
  ·refine h_movb rfl hc_6 wz (h_op (vB r_2.1) wa rfl (h_op (vB r_2.1) wz rfl (h_op (vB r_2.1) wz rfl (h_nil ?_))))
   obtain rfl := some_inj h_5
   exact cu
  ·refine h_movb rfl hc_6 wz (h_skip wa (h_op (vB false) wz rfl (h_op (vB false) wz rfl (h_nil ?_))))
   obtain rfl := some_inj h_5
   exact cu
 ·rintro ⟨⟩ _ sl_ H_ hp_ hq_
  refine wH_at _ hp_ hq_ ?_
  obtain rfl := some_inj hF
  exact wH_ret (fin0 (.inr rfl) [(vB v_4)] ⟨rfl, trivial⟩ rfl rfl rfl)
end Go.Proofs.YtpojeclokolkaaaGreatDoor.Law

