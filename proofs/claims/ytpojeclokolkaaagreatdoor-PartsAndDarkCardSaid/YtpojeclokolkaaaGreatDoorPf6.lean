/-
 The machine computes these plain functions (written by a program of ours).
-/
import Derived.Test.YtpojeclokolkaaaGreatDoorFacts
import Derived.Test.YtpojeclokolkaaaGreatDoorDefs
import Derived.Test.YtpojeclokolkaaaGreatDoorPf5
open Go Go.Eng Go.Proofs
namespace Go.Proofs.YtpojeclokolkaaaGreatDoor.Law
set_option maxRecDepth 100000
set_option linter.unusedVariables false
set_option maxHeartbeats 1000000
theorem mk_Stream_RightRect_ok {s_1 : Stream} {r : Rect × Stream} (hF : mk_Stream_RightRect s_1 = some r) :
  FnM Tryz.prog 18 [(.ref (extN 0) 0 0)] [(.cells 2 [(vL eI s_1.L), (vI s_1.f_at)])] (.d (.agg (Rect.enc r.1))) [some (.cells 2 [(vL eI r.2.L), (vI r.2.f_at)])] := by
 refine FnM.of_wH ⟨Tryz.prog, 12, [], []⟩ rfl Tryz.func18 rfl rfl (Nat.le_of_ble_eq_true rfl) (by kernel_rfl) ?_
 unfold mk_Stream_RightRect at hF
 refine wH_seq (wH_region (h_alloc 0 (.inl rfl) z45 rfl wz (fun n_2 => h_nil (wH_seq (wH_region (h_op (.ref (extN 0) 0 0) wz rfl ?_))))))
 obtain ⟨r_3, hr_4, hF⟩ := bind_some hF
 refine h_callq 0 [0] il ft (mk_Stream_Range_ok hr_4) rfl hb13 rfl (by kernel_rfl) (by kernel_rfl) (by kernel_rfl) (by kernel_rfl) (by kernel_rfl) (by kernel_rfl) (by kernel_rfl) (by decide) (by kernel_rfl) wz (vI r_3.1) (by kernel_rfl) ([((extN 0), some (.cells 2 [(vL eI r_3.2.L), (vI r_3.2.f_at)])), (n_2, some (.cells 4 [(vI 0), (vI 0), (vI 0), (vI 0)]))] : Hp) (by kernel_rfl) (h_op (.ref (extN 0) 0 0) wz rfl ?_)
 obtain ⟨r_6, hr_7, hF⟩ := bind_some hF
 refine h_callq 0 [0] il ft (mk_Stream_Range_ok hr_7) rfl hb13 rfl (by kernel_rfl) (by kernel_rfl) (by kernel_rfl) (by kernel_rfl) (by kernel_rfl) (by kernel_rfl) (by kernel_rfl) (by decide) (by kernel_rfl) wz (vI r_6.1) (by kernel_rfl) ([((extN 0), some (.cells 2 [(vL eI r_6.2.L), (vI r_6.2.f_at)])), (n_2, some (.cells 4 [(vI 0), (vI 0), (vI 0), (vI 0)]))] : Hp) (by kernel_rfl) (h_op (.ref (extN 0) 0 0) wz rfl ?_)
 obtain ⟨r_9, hr_10, hF⟩ := bind_some hF
 refine h_callq 0 [0] il ft (mk_Stream_Range_ok hr_10) rfl hb13 rfl (by kernel_rfl) (by kernel_rfl) (by kernel_rfl) (by kernel_rfl) (by kernel_rfl) (by kernel_rfl) (by kernel_rfl) (by decide) (by kernel_rfl) wz (vI r_9.1) (by kernel_rfl) ([((extN 0), some (.cells 2 [(vL eI r_9.2.L), (vI r_9.2.f_at)])), (n_2, some (.cells 4 [(vI 0), (vI 0), (vI 0), (vI 0)]))] : Hp) (by kernel_rfl) (h_op (.ref (extN 0) 0 0) wz rfl ?_)
 obtain ⟨r_12, hr_13, hF⟩ := bind_some hF
 refine h_callq 0 [0] il ft (mk_Stream_Range_ok hr_13) rfl hb13 rfl (by kernel_rfl) (by kernel_rfl) (by kernel_rfl) (by kernel_rfl) (by kernel_rfl) (by kernel_rfl) (by kernel_rfl) (by decide) (by kernel_rfl) wz (vI r_12.1) (by kernel_rfl) ([((extN 0), some (.cells 2 [(vL eI r_12.2.L), (vI r_12.2.f_at)])), (n_2, some (.cells 4 [(vI 0), (vI 0), (vI 0), (vI 0)]))] : Hp) (by kernel_rfl) (h_op (.d (.agg (Rect.enc (⟨r_3.1, r_6.1, r_9.1, r_12.1⟩ : Rect)))) wz (by kernel_rfl) (h_str 0 il ft 1 sz45 rfl rfl [(vI r_3.1), (vI r_6.1), (vI r_9.1), (vI r_12.1)] rfl wz (h_nil ?_)))
 obtain rfl := some_inj hF
 exact wH_ret (finB (.inr rfl) [(.d (.agg (Rect.enc (⟨r_3.1, r_6.1, r_9.1, r_12.1⟩ : Rect))))] _ [0] [extN 0] ⟨⟨1, _, _, _, _, _, _, _, rfl, rfl, sz45, ag45, rfl⟩, trivial⟩ (.cons (co_data rfl rfl) (.nil)) (by kernel_rfl) ⟨(by kernel_rfl), trivial⟩ (by decide) (by kernel_rfl))
theorem screen_isSide_ok {n_1 : Int} {r : Bool} (hF : screen_isSide n_1 = some r) :
  FnM Tryz.prog 187 [(vI n_1)] [] (vB r) [] := by
 refine FnM.of_wH ⟨Tryz.prog, 6, [], []⟩ rfl Tryz.func187 rfl rfl (Nat.le_of_ble_eq_true rfl) (by kernel_rfl) ?_
 unfold screen_isSide at hF
 refine wH_seq (wH_region (h_op (vB false) wz rfl (h_nil (wH_seq (wH_region (h_op (vI n_1) wz rfl ?_))))))
 obtain ⟨r_2, hr_3, hF⟩ := bind_some hF
 refine h_call0 (kit_Outside_ok hr_3) rfl hb86 rfl rfl rfl rfl wz (h_op (vB (!r_2)) wz rfl (h_op (vB (!r_2)) wz rfl (h_nil ?_)))
 obtain rfl := some_inj hF
 exact wH_ret (fin0 (.inr rfl) [(vB (!r_2))] ⟨rfl, trivial⟩ rfl rfl rfl)
theorem screen_sidesFault_ok {l_1 : (List Int)} {r : Int} (hF : screen_sidesFault l_1 = some r) :
  FnM Tryz.prog 106 [(vL eI l_1)] [] (vI r) [] := by
 refine FnM.of_wH ⟨Tryz.prog, 15, [], []⟩ rfl Tryz.func106 rfl rfl (Nat.le_of_ble_eq_true rfl) (by kernel_rfl) ?_
 unfold screen_sidesFault at hF
 refine wH_seq (wH_region (h_op (vI 0) wz rfl (h_nil (wH_seq (wH_seq (wH_region (h_op (vL eI l_1) wz rfl (h_len un22 rfl wz (h_op (vI 0) wz rfl (h_nil ?_))))))))))
 obtain ⟨o_10, hj_11, hF⟩ := bind_some hF
 obtain ⟨hn_6, hj_11⟩ := forL_some hj_11
 refine wH_join (β := (Unit)) (fun (s_7 : Unit) => ([] : List (Nat × V))) (fun (s_7 : Unit) => ([] : Hp)) (fun p => o_10 = .go p) ?_ ?_
 ·refine wH_block (wH_loop (β := Nat × (List Int) × (Unit)) (fun p => (fun (k_2 : Nat) (l_3 : List Int) (s_7 : Unit) => ([(5, (vL eI l_1)), (6, (vI (l_1.length : Int))), (7, (vI (k_2 : Int)))] : List (Nat × V))) p.1 p.2.1 p.2.2) (fun p => (fun (k_2 : Nat) (l_3 : List Int) (s_7 : Unit) => ([] : Hp)) p.1 p.2.1 p.2.2) (fun p => forR (fun k x s => screen_sidesFault_L1 k x s) p.2.1 p.1 p.2.2 = some o_10 ∧ (l_1).drop p.1 = p.2.1) (fun p => p.2.1.length) (0, l_1, ()) ⟨hj_11, rfl⟩ rfl (pre_r rfl) ?_)
  rintro ⟨k_2, l_3, s_7⟩ ⟨hL_9, hD_5⟩
  dsimp only at hL_9 hD_5
  cases l_3 with
  | nil =>
   obtain rfl := some_inj hL_9
   refine wH_seq (wH_region (h_op (vB (decide ((k_2 : Int) < (l_1.length : Int)))) wz rfl (h_nil ?_)))
   refine wH_seq (wH_iff rfl (drop_nil hD_5) (wH_exit ?_))
   exact cut_mk (s_7) rfl rfl (pre_r rfl)
  | cons x_4 l_3 =>
   obtain ⟨c_, hc_8, hL_9⟩ := bind_some hL_9
   refine wH_seq (wH_region (h_op (vB (decide ((k_2 : Int) < (l_1.length : Int)))) wz rfl (h_nil ?_)))
   refine wH_seq (wH_ift rfl (drop_cons hD_5) (wH_skip ?_))
   unfold screen_sidesFault_L1 at hc_8
   refine wH_seq (wH_block (wH_seq (wH_region (h_ia es22 rfl rfl (drop_idx hD_5) rfl wz (h_ldc sz3 ag3 rfl (vI x_4) rfl wz (h_op (vI x_4) wz rfl (h_nil (wH_seq (wH_region (h_op (vI x_4) wz rfl ?_))))))))))
   obtain ⟨r_12, hr_13, hc_8⟩ := bind_some hc_8
   refine h_call0 (screen_isSide_ok hr_13) rfl hb187 rfl rfl rfl rfl wz (h_op (vB (!r_12)) wz rfl (h_nil ?_))
   rcases cond_some hc_8 with ⟨hc_14, hc_8⟩ | ⟨hc_14, hc_8⟩
   ·refine wH_ift rfl hc_14 (wH_seq (wH_region (h_op (vI 1) wz rfl (h_nil ?_))))
    obtain rfl := some_inj hc_8
    obtain rfl := some_inj hL_9
    obtain rfl := some_inj hF
    exact wH_ret (fin0 (.inr rfl) [(vI 1)] ⟨rfl, trivial⟩ rfl rfl rfl)
   ·refine wH_iff rfl hc_14 (wH_skip (wH_region (h_opw (w64_next hD_5 hn_6) wz rfl (h_op (vI ((k_2 + 1 : Nat) : Int)) wz rfl (h_nil ?_)))))
    obtain rfl := some_inj hc_8
    exact loop_mk (k_2 + 1, l_3, ()) ⟨hL_9, drop_next hD_5⟩ (Nat.lt_succ_self _) rfl (pre_r rfl)
 ·rintro s_7 ho_ sl_ H_ hp_ hq_
  subst ho_
  refine wH_at _ hp_ hq_ (wH_seq (wH_region (h_op (vI 0) wz rfl (h_nil ?_))))
  obtain rfl := some_inj hF
  exact wH_ret (fin0 (.inr rfl) [(vI 0)] ⟨rfl, trivial⟩ rfl rfl rfl)
theorem screen_inside_ok {r_1 : Rect} {wv_2 : Int} {h_3 : Int} {r : Bool} (hF : screen_inside r_1 wv_2 h_3 = some r) :
  FnM Tryz.prog 107 [(.d (.agg (Rect.enc r_1))), (vI wv_2), (vI h_3)] [] (vB r) [] := by
 refine FnM.of_wH ⟨Tryz.prog, 33, [], []⟩ rfl Tryz.func107 rfl rfl (Nat.le_of_ble_eq_true rfl) (by kernel_rfl) ?_
 unfold screen_inside at hF
 refine wH_seq (wH_region (h_box 0 (.inl rfl) [(vI r_1.X), (vI r_1.Y), (vI r_1.W), (vI r_1.H)] rfl rfl wz (fun n_4 => h_op (vB false) wz rfl (h_nil (wH_seq ?_)))))
 obtain ⟨v_5, h_6, hF⟩ := bind_some hF
 refine wH_join (β := Unit) (fun _ => ([(6, (vB v_5))] : List (Nat × V))) (fun _ => ([(n_4, some (.cells 4 [(vI r_1.X), (vI r_1.Y), (vI r_1.W), (vI r_1.H)]))] : Hp)) (fun _ => True) ?_ ?_
 ·refine wH_region (h_far pl45_0 rfl 0 rfl wz (h_ldr 0 0 il ft sz3 ag3 rfl rfl (vI r_1.X) rfl wz (h_op (vB (decide (r_1.X ≥ 0))) wz rfl ?_)))
  rcases cond_some h_6 with ⟨hc_7, h_6⟩ | ⟨hc_7, h_6⟩
  ·refine h_movb rfl hc_7 wz (h_far pl45_1 rfl 1 rfl wa (h_ldr 0 0 il ft sz3 ag3 rfl rfl (vI r_1.Y) rfl wa (h_op (vB (decide (r_1.Y ≥ 0))) wa rfl (h_op (vB (decide (r_1.Y ≥ 0))) wz rfl ?_))))
   rcases cond_some h_6 with ⟨hc_8, h_6⟩ | ⟨hc_8, h_6⟩
   ·refine h_movb rfl hc_8 wz (h_far pl45_0 rfl 0 rfl wa (h_ldr 0 0 il ft sz3 ag3 rfl rfl (vI r_1.X) rfl wa (h_far pl45_2 rfl 2 rfl wa (h_ldr 0 0 il ft sz3 ag3 rfl rfl (vI r_1.W) rfl wa (h_op (vI (w64 (r_1.X + r_1.W))) wa rfl (h_op (vI wv_2) wa rfl (h_op (vB (decide ((w64 (r_1.X + r_1.W)) ≤ wv_2))) wa rfl (h_op (vB (decide ((w64 (r_1.X + r_1.W)) ≤ wv_2))) wz rfl ?_))))))))
    rcases cond_some h_6 with ⟨hc_9, h_6⟩ | ⟨hc_9, h_6⟩
    ·refine h_movb rfl hc_9 wz (h_far pl45_1 rfl 1 rfl wa (h_ldr 0 0 il ft sz3 ag3 rfl rfl (vI r_1.Y) rfl wa (h_far pl45_3 rfl 3 rfl wa (h_ldr 0 0 il ft sz3 ag3 rfl rfl (vI r_1.H) rfl wa (h_op (vI (w64 (r_1.Y + r_1.H))) wa rfl (h_op (vI h_3) wa rfl (h_op (vB (decide ((w64 (r_1.Y + r_1.H)) ≤ h_3))) wa rfl (h_op (vB (decide ((w64 (r_1.Y + r_1.H)) ≤ h_3))) wz rfl (h_op (vB (decide ((w64 (r_1.Y + r_1.H)) ≤ h_3))) wz rfl (h_nil ?_))))))))))
     obtain rfl := some_inj h_6
     exact cu
    ·refine h_movb rfl hc_9 wz (h_skip wa (h_skip wa (h_skip wa (h_skip wa (h_skip wa (h_skip wa (h_skip wa (h_op (vB false) wz rfl (h_op (vB false) wz rfl (h_nil ?_))))))))))
     obtain rfl := some_inj h_6
     exact cu
   ·refine h_movb rfl hc_8 wz (h_skip wa (h_skip wa (h_skip wa (h_skip wa (h_skip wa (h_skip wa (h_skip wa (h_op (vB false) wz rfl (h_op (vB false) wz rfl (h_skip wa (h_skip wa (h_skip wa (h_skip wa (h_skip wa (h_skip wa (h_skip wa (h_op (vB false) wz rfl (h_op (vB false) wz rfl (h_nil ?_)))))))))))))))))))
    obtain rfl := some_inj h_6
    exact cu
  ·refine h_movb rfl hc_7 wz (h_skip wa (h_skip wa (h_skip wa (h_op (vB false) wz rfl (h_op (vB false) wz rfl (h_skip wa (h_skip wa (h_skip wa (h_skip wa (h_skip wa (h_skip wa (h_skip wa (h_op (vB false) wz rfl (h_op (vB false) wz rfl (h_skip wa (h_skip wa (h_skip wa (h_skip wa (h_skip wa (h_skip wa (h_skip wa (h_op (vB false) wz rfl (h_op (vB false) wz rfl ?_)))))))))))))))))))))))
   refine h_nil ?_
   obtain rfl := some_inj h_6
   exact cu
 ·rintro ⟨⟩ _ sl_ H_ hp_ hq_
  refine wH_at _ hp_ hq_ ?_
  obtain rfl := some_inj hF
  exact wH_ret (fin0 (.inr rfl) [(vB v_5)] ⟨rfl, trivial⟩ rfl rfl rfl)
theorem screen_meet_ok {a_1 : Rect} {b_2 : Rect} {r : Rect × Bool} (hF : screen_meet a_1 b_2 = some r) :
  FnM Tryz.prog 97 [(.d (.agg (Rect.enc a_1))), (.d (.agg (Rect.enc b_2)))] [] (.tup [(.d (.agg (Rect.enc r.1))), (vB r.2)]) [] := by
 refine FnM.of_wH ⟨Tryz.prog, 58, [], []⟩ rfl Tryz.func97 rfl rfl (Nat.le_of_ble_eq_true rfl) (by kernel_rfl) ?_
 unfold screen_meet at hF
 refine wH_seq (wH_region (h_box 0 (.inl rfl) [(vI a_1.X), (vI a_1.Y), (vI a_1.W), (vI a_1.H)] rfl rfl wz (fun n_3 => h_box 0 (.inl rfl) [(vI b_2.X), (vI b_2.Y), (vI b_2.W), (vI b_2.H)] rfl rfl wz (fun n_4 => h_alloc 0 (.inl rfl) z45 rfl wz (fun n_5 => h_op (vB false) wz rfl (h_nil (wH_seq (wH_draws (h_far pl45_0 rfl 0 rfl wz (h_ldr 1 0 (.inr (by kernel_rfl)) (fun _ _ ag => trivial) sz3 ag3 rfl rfl (vI a_1.X) rfl wz (h_far pl45_0 rfl 0 rfl wz (h_ldr 3 1 (.inr (by kernel_rfl)) (fun _ _ ag => ⟨.inl ⟨rfl, rfl⟩, trivial⟩) sz3 ag3 rfl rfl (vI b_2.X) rfl wz (h_minmax (vI (maxI a_1.X b_2.X)) rfl (.inr rfl) wz (h_far pl45_1 rfl 1 rfl wz (h_ldr 6 0 (.inr (by kernel_rfl)) (fun _ _ ag => ⟨.inl ⟨rfl, rfl⟩, ⟨.inl ⟨rfl, rfl⟩, trivial⟩⟩) sz3 ag3 rfl rfl (vI a_1.Y) rfl wz (h_far pl45_1 rfl 1 rfl wz (h_ldr 8 1 (.inr (by kernel_rfl)) (fun _ _ ag => ⟨.inl ⟨rfl, rfl⟩, ⟨.inl ⟨rfl, rfl⟩, ⟨.inl ⟨rfl, rfl⟩, trivial⟩⟩⟩) sz3 ag3 rfl rfl (vI b_2.Y) rfl wz (h_minmax (vI (maxI a_1.Y b_2.Y)) rfl (.inr rfl) wz (h_op (vI (maxI a_1.X b_2.X)) wz rfl (h_op (vI (maxI a_1.Y b_2.Y)) wz rfl (h_nil (wH_seq (wH_draws ?_)))))))))))))))))))))))
 refine h_far pl45_0 rfl 0 rfl wz (h_ldr 1 0 (.inr (by kernel_rfl)) (fun _ _ ag => trivial) sz3 ag3 rfl rfl (vI a_1.X) rfl wz (h_far pl45_2 rfl 2 rfl wz (h_ldr 3 0 (.inr (by kernel_rfl)) (fun _ _ ag => ⟨.inl ⟨rfl, rfl⟩, trivial⟩) sz3 ag3 rfl rfl (vI a_1.W) rfl wz (h_op (vI (w64 (a_1.X + a_1.W))) wz rfl (h_far pl45_0 rfl 0 rfl wz (h_ldr 6 1 (.inr (by kernel_rfl)) (fun _ _ ag => ⟨.inl ⟨rfl, rfl⟩, ⟨.inl ⟨rfl, rfl⟩, trivial⟩⟩) sz3 ag3 rfl rfl (vI b_2.X) rfl wz (h_far pl45_2 rfl 2 rfl wz (h_ldr 8 1 (.inr (by kernel_rfl)) (fun _ _ ag => ⟨.inl ⟨rfl, rfl⟩, ⟨.inl ⟨rfl, rfl⟩, ⟨.inl ⟨rfl, rfl⟩, trivial⟩⟩⟩) sz3 ag3 rfl rfl (vI b_2.W) rfl wz (h_op (vI (w64 (b_2.X + b_2.W))) wz rfl (h_minmax (vI (minI (w64 (a_1.X + a_1.W)) (w64 (b_2.X + b_2.W)))) rfl (.inl rfl) wz (h_op (vI (maxI a_1.X b_2.X)) wz rfl (h_op (vI (w64 ((minI (w64 (a_1.X + a_1.W)) (w64 (b_2.X + b_2.W))) - (maxI a_1.X b_2.X)))) wz rfl (h_far pl45_1 rfl 1 rfl wz (h_ldr 14 0 (.inr (by kernel_rfl)) (fun _ _ ag => ⟨.inl ⟨rfl, rfl⟩, ⟨.inl ⟨rfl, rfl⟩, ⟨.inl ⟨rfl, rfl⟩, ⟨.inl ⟨rfl, rfl⟩, trivial⟩⟩⟩⟩) sz3 ag3 rfl rfl (vI a_1.Y) rfl wz (h_far pl45_3 rfl 3 rfl wz (h_ldr 16 0 (.inr (by kernel_rfl)) (fun _ _ ag => ⟨.inl ⟨rfl, rfl⟩, ⟨.inl ⟨rfl, rfl⟩, ⟨.inl ⟨rfl, rfl⟩, ⟨.inl ⟨rfl, rfl⟩, ⟨.inl ⟨rfl, rfl⟩, trivial⟩⟩⟩⟩⟩) sz3 ag3 rfl rfl (vI a_1.H) rfl wz (h_op (vI (w64 (a_1.Y + a_1.H))) wz rfl (h_far pl45_1 rfl 1 rfl wz (h_ldr 19 1 (.inr (by kernel_rfl)) (fun _ _ ag => ⟨.inl ⟨rfl, rfl⟩, ⟨.inl ⟨rfl, rfl⟩, ⟨.inl ⟨rfl, rfl⟩, ⟨.inl ⟨rfl, rfl⟩, ⟨.inl ⟨rfl, rfl⟩, ⟨.inl ⟨rfl, rfl⟩, trivial⟩⟩⟩⟩⟩⟩) sz3 ag3 rfl rfl (vI b_2.Y) rfl wz (h_far pl45_3 rfl 3 rfl wz (h_ldr 21 1 (.inr (by kernel_rfl)) (fun _ _ ag => ⟨.inl ⟨rfl, rfl⟩, ⟨.inl ⟨rfl, rfl⟩, ⟨.inl ⟨rfl, rfl⟩, ⟨.inl ⟨rfl, rfl⟩, ⟨.inl ⟨rfl, rfl⟩, ⟨.inl ⟨rfl, rfl⟩, ⟨.inl ⟨rfl, rfl⟩, trivial⟩⟩⟩⟩⟩⟩⟩) sz3 ag3 rfl rfl (vI b_2.H) rfl wz (h_op (vI (w64 (b_2.Y + b_2.H))) wz rfl (h_minmax (vI (minI (w64 (a_1.Y + a_1.H)) (w64 (b_2.Y + b_2.H)))) rfl (.inl rfl) wz ?_)))))))))))))))))))))))
 refine h_op (vI (maxI a_1.Y b_2.Y)) wz rfl (h_op (vI (w64 ((minI (w64 (a_1.Y + a_1.H)) (w64 (b_2.Y + b_2.H))) - (maxI a_1.Y b_2.Y)))) wz rfl (h_op (vI (w64 ((minI (w64 (a_1.X + a_1.W)) (w64 (b_2.X + b_2.W))) - (maxI a_1.X b_2.X)))) wz rfl (h_op (vI (w64 ((minI (w64 (a_1.Y + a_1.H)) (w64 (b_2.Y + b_2.H))) - (maxI a_1.Y b_2.Y)))) wz rfl (h_nil (wH_at (H0 := ([(n_3, some (.cells 4 [(vI a_1.X), (vI a_1.Y), (vI a_1.W), (vI a_1.H)])), (n_4, some (.cells 4 [(vI b_2.X), (vI b_2.Y), (vI b_2.W), (vI b_2.H)])), (n_5, some (.cells 4 [(vI 0), (vI 0), (vI 0), (vI 0)]))] : Hp)) ([(4, (.ref n_5 0 0)), (6, (vI (maxI a_1.X b_2.X))), (7, (vI (maxI a_1.Y b_2.Y))), (8, (vI (w64 ((minI (w64 (a_1.X + a_1.W)) (w64 (b_2.X + b_2.W))) - (maxI a_1.X b_2.X))))), (9, (vI (w64 ((minI (w64 (a_1.Y + a_1.H)) (w64 (b_2.Y + b_2.H))) - (maxI a_1.Y b_2.Y)))))] : List (Nat × V)) (by kernel_rfl) (pre_mk (by kernel_rfl)) (wH_seq (wH_seq ?_)))))))
 obtain ⟨v_6, h_7, hF⟩ := bind_some hF
 refine wH_join (β := Unit) (fun _ => ([(4, (.ref n_5 0 0)), (6, (vI (maxI a_1.X b_2.X))), (7, (vI (maxI a_1.Y b_2.Y))), (8, (vI (w64 ((minI (w64 (a_1.X + a_1.W)) (w64 (b_2.X + b_2.W))) - (maxI a_1.X b_2.X))))), (9, (vI (w64 ((minI (w64 (a_1.Y + a_1.H)) (w64 (b_2.Y + b_2.H))) - (maxI a_1.Y b_2.Y))))), (51, (vB v_6))] : List (Nat × V))) (fun _ => ([(n_3, some (.cells 4 [(vI a_1.X), (vI a_1.Y), (vI a_1.W), (vI a_1.H)])), (n_4, some (.cells 4 [(vI b_2.X), (vI b_2.Y), (vI b_2.W), (vI b_2.H)])), (n_5, some (.cells 4 [(vI 0), (vI 0), (vI 0), (vI 0)]))] : Hp)) (fun _ => True) ?_ ?_
 ·refine wH_region (h_op (vI (w64 ((minI (w64 (a_1.X + a_1.W)) (w64 (b_2.X + b_2.W))) - (maxI a_1.X b_2.X)))) wz rfl (h_op (vB (decide ((w64 ((minI (w64 (a_1.X + a_1.W)) (w64 (b_2.X + b_2.W))) - (maxI a_1.X b_2.X))) ≤ 0))) wz rfl ?_))
  rcases cond_some h_7 with ⟨hc_8, h_7⟩ | ⟨hc_8, h_7⟩
  ·refine h_movb rfl hc_8 wz (h_skip wa (h_skip wa (h_op (vB true) wz rfl (h_nil ?_))))
   obtain rfl := some_inj h_7
   exact cu
  ·refine h_movb rfl hc_8 wz (h_op (vI (w64 ((minI (w64 (a_1.Y + a_1.H)) (w64 (b_2.Y + b_2.H))) - (maxI a_1.Y b_2.Y)))) wa rfl (h_op (vB (decide ((w64 ((minI (w64 (a_1.Y + a_1.H)) (w64 (b_2.Y + b_2.H))) - (maxI a_1.Y b_2.Y))) ≤ 0))) wa rfl (h_op (vB (decide ((w64 ((minI (w64 (a_1.Y + a_1.H)) (w64 (b_2.Y + b_2.H))) - (maxI a_1.Y b_2.Y))) ≤ 0))) wz rfl (h_nil ?_))))
   obtain rfl := some_inj h_7
   exact cu
 ·rintro ⟨⟩ _ sl_ H_ hp_ hq_
  refine wH_at _ hp_ hq_ ?_
  rcases cond_some hF with ⟨hc_9, hF⟩ | ⟨hc_9, hF⟩
  ·refine wH_ift rfl hc_9 (wH_seq (wH_region (h_op (.d (.agg (Rect.enc (⟨0, 0, 0, 0⟩ : Rect)))) wz (by kernel_rfl) (h_str 0 il ft 2 sz45 rfl rfl [(vI 0), (vI 0), (vI 0), (vI 0)] rfl wz (h_op (vB false) wz rfl (h_nil ?_))))))
   obtain rfl := some_inj hF
   exact wH_ret (fin0 (.inr rfl) [(.d (.agg (Rect.enc (⟨0, 0, 0, 0⟩ : Rect)))), (vB false)] ⟨⟨2, _, _, _, _, _, _, _, rfl, rfl, sz45, ag45, rfl⟩, ⟨rfl, trivial⟩⟩ rfl rfl rfl)
  ·refine wH_iff rfl hc_9 (wH_skip (wH_seq (wH_region (h_op (vI (maxI a_1.X b_2.X)) wz rfl (h_op (vI (maxI a_1.Y b_2.Y)) wz rfl (h_op (vI (w64 ((minI (w64 (a_1.X + a_1.W)) (w64 (b_2.X + b_2.W))) - (maxI a_1.X b_2.X)))) wz rfl (h_op (vI (w64 ((minI (w64 (a_1.Y + a_1.H)) (w64 (b_2.Y + b_2.H))) - (maxI a_1.Y b_2.Y)))) wz rfl (h_op (.d (.agg (Rect.enc (⟨(maxI a_1.X b_2.X), (maxI a_1.Y b_2.Y), (w64 ((minI (w64 (a_1.X + a_1.W)) (w64 (b_2.X + b_2.W))) - (maxI a_1.X b_2.X))), (w64 ((minI (w64 (a_1.Y + a_1.H)) (w64 (b_2.Y + b_2.H))) - (maxI a_1.Y b_2.Y)))⟩ : Rect)))) wz (by kernel_rfl) (h_str 0 il ft 2 sz45 rfl rfl [(vI (maxI a_1.X b_2.X)), (vI (maxI a_1.Y b_2.Y)), (vI (w64 ((minI (w64 (a_1.X + a_1.W)) (w64 (b_2.X + b_2.W))) - (maxI a_1.X b_2.X)))), (vI (w64 ((minI (w64 (a_1.Y + a_1.H)) (w64 (b_2.Y + b_2.H))) - (maxI a_1.Y b_2.Y))))] rfl wz (h_op (vB true) wz rfl (h_nil ?_)))))))))))
   obtain rfl := some_inj hF
   exact wH_ret (fin0 (.inr rfl) [(.d (.agg (Rect.enc (⟨(maxI a_1.X b_2.X), (maxI a_1.Y b_2.Y), (w64 ((minI (w64 (a_1.X + a_1.W)) (w64 (b_2.X + b_2.W))) - (maxI a_1.X b_2.X))), (w64 ((minI (w64 (a_1.Y + a_1.H)) (w64 (b_2.Y + b_2.H))) - (maxI a_1.Y b_2.Y)))⟩ : Rect)))), (vB true)] ⟨⟨2, _, _, _, _, _, _, _, rfl, rfl, sz45, ag45, rfl⟩, ⟨rfl, trivial⟩⟩ rfl rfl rfl)
theorem screen_CheckWall_ok {wv_1 : Wall} {r : Int} (hF : screen_CheckWall wv_1 = some r) :
  FnM Tryz.prog 95 [(.d (.agg (Wall.enc wv_1)))] [] (vI r) [] := by
 refine FnM.of_wH ⟨Tryz.prog, 99, [], []⟩ rfl Tryz.func95 rfl rfl (Nat.le_of_ble_eq_true rfl) (by kernel_rfl) ?_
 unfold screen_CheckWall at hF
 refine wH_seq (wH_region (h_box 0 (.inl rfl) [(vS wv_1.Key), (vI wv_1.W), (vI wv_1.H), (vL Screen.enc wv_1.Screens)] rfl rfl wz (fun n_2 => h_op (vI 0) wz rfl (h_nil (wH_seq (wH_seq (wH_region (h_far pl42_0 rfl 0 rfl wz (h_ldr 0 0 il ft sz9 ag9 rfl rfl (vS wv_1.Key) rfl wz ?_)))))))))
 obtain ⟨r_3, hr_4, hF⟩ := bind_some hF
 refine h_call0 (kit_IsKey_ok hr_4) rfl hb124 rfl rfl rfl rfl wz (h_op (vB (!r_3)) wz rfl (h_nil ?_))
 rcases cond_some hF with ⟨hc_5, hF⟩ | ⟨hc_5, hF⟩
 ·refine wH_ift rfl hc_5 (wH_seq (wH_region (h_op (vI 5) wz rfl (h_nil ?_))))
  obtain rfl := some_inj hF
  exact wH_ret (fin0 (.inr rfl) [(vI 5)] ⟨rfl, trivial⟩ rfl rfl rfl)
 ·refine wH_iff rfl hc_5 (wH_skip (wH_seq (wH_seq (wH_region (h_far pl42_1 rfl 1 rfl wz (h_ldr 0 0 il ft sz3 ag3 rfl rfl (vI wv_1.W) rfl wz (h_far pl42_2 rfl 2 rfl wz (h_ldr 0 0 il ft sz3 ag3 rfl rfl (vI wv_1.H) rfl wz (h_lit (([wv_1.W, wv_1.H] : List Int).map eI) es22 ez22 rfl rfl rfl rfl rfl wz ?_)))))))))
  obtain ⟨r_6, hr_7, hF⟩ := bind_some hF
  refine h_call0 (screen_sidesFault_ok hr_7) rfl hb106 rfl rfl rfl rfl wz (h_op (vI r_6) wz rfl (h_nil (wH_seq (wH_region (h_op (vI r_6) wz rfl (h_op (vB (r_6 != 0)) wz rfl (h_nil ?_)))))))
  rcases cond_some hF with ⟨hc_8, hF⟩ | ⟨hc_8, hF⟩
  ·refine wH_ift rfl hc_8 (wH_seq (wH_region (h_op (vI r_6) wz rfl (h_op (vI r_6) wz rfl (h_nil ?_)))))
   obtain rfl := some_inj hF
   exact wH_ret (fin0 (.inr rfl) [(vI r_6)] ⟨rfl, trivial⟩ rfl rfl rfl)
  ·refine wH_iff rfl hc_8 (wH_skip (wH_seq (wH_seq (wH_region (h_far pl42_3 rfl 3 rfl wz (h_ldr 0 0 il ft sz40 ag40 rfl rfl (vL Screen.enc wv_1.Screens) rfl wz (h_len un40 rfl wz (h_op (vB (decide ((wv_1.Screens.length : Int) > 50))) wz rfl (h_nil ?_)))))))))
   rcases cond_some hF with ⟨hc_9, hF⟩ | ⟨hc_9, hF⟩
   ·refine wH_ift rfl hc_9 (wH_seq (wH_region (h_op (vI 2) wz rfl (h_nil ?_))))
    obtain rfl := some_inj hF
    exact wH_ret (fin0 (.inr rfl) [(vI 2)] ⟨rfl, trivial⟩ rfl rfl rfl)
   ·refine wH_iff rfl hc_9 (wH_skip (wH_seq (wH_seq (wH_region (h_far pl42_3 rfl 3 rfl wz (h_ldr 0 0 il ft sz40 ag40 rfl rfl (vL Screen.enc wv_1.Screens) rfl wz (h_len un40 rfl wz (h_op (vI 0) wz rfl (h_nil ?_)))))))))
    obtain ⟨o_18, hj_19, hF⟩ := bind_some hF
    obtain ⟨hn_14, hj_19⟩ := forL_some hj_19
    refine wH_join (β := (Unit)) (fun (s_15 : Unit) => ([(1, (.ref n_2 0 0))] : List (Nat × V))) (fun (s_15 : Unit) => ([(n_2, some (.cells 4 [(vS wv_1.Key), (vI wv_1.W), (vI wv_1.H), (vL Screen.enc wv_1.Screens)]))] : Hp)) (fun p => o_18 = .go p) ?_ ?_
    ·refine wH_block (wH_loop (β := Nat × (List Screen) × (Unit)) (fun p => (fun (k_10 : Nat) (l_11 : List Screen) (s_15 : Unit) => ([(1, (.ref n_2 0 0)), (31, (vL Screen.enc wv_1.Screens)), (32, (vI (wv_1.Screens.length : Int))), (33, (vI (k_10 : Int)))] : List (Nat × V))) p.1 p.2.1 p.2.2) (fun p => (fun (k_10 : Nat) (l_11 : List Screen) (s_15 : Unit) => ([(n_2, some (.cells 4 [(vS wv_1.Key), (vI wv_1.W), (vI wv_1.H), (vL Screen.enc wv_1.Screens)]))] : Hp)) p.1 p.2.1 p.2.2) (fun p => forR (fun k x s => screen_CheckWall_L1 wv_1 k x s) p.2.1 p.1 p.2.2 = some o_18 ∧ (wv_1.Screens).drop p.1 = p.2.1) (fun p => p.2.1.length) (0, wv_1.Screens, ()) ⟨hj_19, rfl⟩ rfl (pre_r rfl) ?_)
     rintro ⟨k_10, l_11, s_15⟩ ⟨hL_17, hD_13⟩
     dsimp only at hL_17 hD_13
     cases l_11 with
     | nil =>
      obtain rfl := some_inj hL_17
      refine wH_seq (wH_region (h_op (vB (decide ((k_10 : Int) < (wv_1.Screens.length : Int)))) wz rfl (h_nil ?_)))
      refine wH_seq (wH_iff rfl (drop_nil hD_13) (wH_exit ?_))
      exact cut_mk (s_15) rfl rfl (pre_r rfl)
     | cons x_12 l_11 =>
      obtain ⟨c_, hc_16, hL_17⟩ := bind_some hL_17
      refine wH_seq (wH_region (h_op (vB (decide ((k_10 : Int) < (wv_1.Screens.length : Int)))) wz rfl (h_nil ?_)))
      refine wH_seq (wH_ift rfl (drop_cons hD_13) (wH_skip ?_))
      unfold screen_CheckWall_L1 at hc_16
      refine wH_seq (wH_block (wH_seq (wH_region (h_op (vI (k_10 : Int)) wz rfl (h_ia es40 rfl rfl (drop_idx hD_13) rfl wz (h_ldc sz139 ag139 rfl (.d (.agg (Screen.enc x_12))) rfl wz (h_alloc 0 (.inl rfl) z139 rfl wz (fun n_20 => h_op (vI (k_10 : Int)) wz rfl (h_str 0 il ft 1 sz139 rfl rfl [(vS x_12.Key), (vI x_12.On.X), (vI x_12.On.Y), (vI x_12.On.W), (vI x_12.On.H)] rfl wz (h_nil (wH_seq (wH_seq (wH_region (h_far pl139_0 rfl 0 rfl wz (h_ldr 0 1 il ft sz9 ag9 rfl rfl (vS x_12.Key) rfl wz ?_)))))))))))))))
      obtain ⟨r_21, hr_22, hc_16⟩ := bind_some hc_16
      refine h_call0 (kit_IsKey_ok hr_22) rfl hb124 rfl rfl rfl rfl wz (h_op (vB (!r_21)) wz rfl (h_nil ?_))
      rcases cond_some hc_16 with ⟨hc_23, hc_16⟩ | ⟨hc_23, hc_16⟩
      ·refine wH_ift rfl hc_23 (wH_seq (wH_region (h_op (vI 5) wz rfl (h_nil ?_))))
       obtain rfl := some_inj hc_16
       obtain rfl := some_inj hL_17
       obtain rfl := some_inj hF
       exact wH_ret (fin0 (.inr rfl) [(vI 5)] ⟨rfl, trivial⟩ rfl rfl rfl)
      ·refine wH_iff rfl hc_23 (wH_skip (wH_seq (wH_seq (wH_region (h_far pl139_1 rfl 1 rfl wz (h_ldr 0 1 il ft sz45 ag45 rfl rfl (.d (.agg (Rect.enc x_12.On))) rfl wz ?_))))))
       obtain ⟨r_24, hr_25, hc_16⟩ := bind_some hc_16
       refine h_call0 (screen_CheckRect_ok hr_25) rfl hb96 rfl rfl rfl rfl wz (h_op (vI r_24) wz rfl (h_nil (wH_seq (wH_region (h_op (vI r_24) wz rfl (h_op (vB (r_24 != 0)) wz rfl (h_nil ?_)))))))
       rcases cond_some hc_16 with ⟨hc_26, hc_16⟩ | ⟨hc_26, hc_16⟩
       ·refine wH_ift rfl hc_26 (wH_seq (wH_region (h_op (vI r_24) wz rfl (h_op (vI r_24) wz rfl (h_nil ?_)))))
        obtain rfl := some_inj hc_16
        obtain rfl := some_inj hL_17
        obtain rfl := some_inj hF
        exact wH_ret (fin0 (.inr rfl) [(vI r_24)] ⟨rfl, trivial⟩ rfl rfl rfl)
       ·refine wH_iff rfl hc_26 (wH_skip (wH_seq (wH_seq (wH_region (h_far pl139_1 rfl 1 rfl wz (h_ldr 0 1 il ft sz45 ag45 rfl rfl (.d (.agg (Rect.enc x_12.On))) rfl wz (h_far pl42_1 rfl 1 rfl wz (h_ldr 0 0 il ft sz3 ag3 rfl rfl (vI wv_1.W) rfl wz (h_far pl42_2 rfl 2 rfl wz (h_ldr 0 0 il ft sz3 ag3 rfl rfl (vI wv_1.H) rfl wz ?_))))))))))
        obtain ⟨r_27, hr_28, hc_16⟩ := bind_some hc_16
        refine h_call0 (screen_inside_ok hr_28) rfl hb107 rfl rfl rfl rfl wz (h_op (vB (!r_27)) wz rfl (h_nil ?_))
        rcases cond_some hc_16 with ⟨hc_29, hc_16⟩ | ⟨hc_29, hc_16⟩
        ·refine wH_ift rfl hc_29 (wH_seq (wH_region (h_op (vI 3) wz rfl (h_nil ?_))))
         obtain rfl := some_inj hc_16
         obtain rfl := some_inj hL_17
         obtain rfl := some_inj hF
         exact wH_ret (fin0 (.inr rfl) [(vI 3)] ⟨rfl, trivial⟩ rfl rfl rfl)
        ·refine wH_iff rfl hc_29 (wH_skip (wH_seq ?_))
         obtain ⟨v_30, h_31, hc_16⟩ := bind_some hc_16
         refine wH_join (β := Unit) (fun _ => ([(1, (.ref n_2 0 0)), (31, (vL Screen.enc wv_1.Screens)), (32, (vI (wv_1.Screens.length : Int))), (33, (vI (k_10 : Int))), (69, (vB v_30))] : List (Nat × V))) (fun _ => ([(n_2, some (.cells 4 [(vS wv_1.Key), (vI wv_1.W), (vI wv_1.H), (vL Screen.enc wv_1.Screens)])), (n_20, some (.cells 5 [(vS x_12.Key), (vI x_12.On.X), (vI x_12.On.Y), (vI x_12.On.W), (vI x_12.On.H)]))] : Hp)) (fun _ => True) ?_ ?_
         ·refine wH_draws (h_op (vI (k_10 : Int)) wz rfl (h_op (vB (decide ((k_10 : Int) > 0))) wz rfl ?_))
          rcases cond_some h_31 with ⟨hc_32, h_31⟩ | ⟨hc_32, h_31⟩
          ·refine h_movb rfl hc_32 wz (h_far pl139_0 rfl 0 rfl wa (h_ldr 4 1 (.inr (by kernel_rfl)) (fun _ _ ag => trivial) sz9 ag9 rfl rfl (vS x_12.Key) rfl wa (h_far pl42_3 rfl 3 rfl wa (h_ldr 6 0 (.inr (by kernel_rfl)) (fun _ _ ag => ⟨.inl ⟨rfl, rfl⟩, trivial⟩) sz40 ag40 rfl rfl (vL Screen.enc wv_1.Screens) rfl wa (h_op (vI (k_10 : Int)) wa rfl (h_op (vI (w64 ((k_10 : Int) - 1))) wa rfl ?_))))))
           obtain ⟨y_33, hy_34, h_31⟩ := bind_some h_31
           refine h_ia es40 rfl rfl hy_34 rfl wa (h_fac pl139_0 rfl [.str y_33.Key, .int .i64 y_33.On.X, .int .i64 y_33.On.Y, .int .i64 y_33.On.W, .int .i64 y_33.On.H] rfl rfl wa (h_ldc sz9 ag9 rfl (vS y_33.Key) rfl wa (h_op (vB (sLe x_12.Key y_33.Key)) wa rfl (h_op (vB (sLe x_12.Key y_33.Key)) wz rfl (h_nil ?_)))))
           obtain rfl := some_inj h_31
           exact cu
          ·refine h_movb rfl hc_32 wz (h_skip wa (h_skip wa (h_skip wa (h_skip wa (h_skip wa (h_skip wa (h_skip wa (h_skip wa (h_skip wa (h_skip wa (h_op (vB false) wz rfl (h_nil ?_))))))))))))
           obtain rfl := some_inj h_31
           exact cu
         ·rintro ⟨⟩ _ sl_ H_ hp_ hq_
          refine wH_at _ hp_ hq_ ?_
          rcases cond_some hc_16 with ⟨hc_35, hc_16⟩ | ⟨hc_35, hc_16⟩
          ·refine wH_ift rfl hc_35 (wH_seq (wH_region (h_op (vI 7) wz rfl (h_nil ?_))))
           obtain rfl := some_inj hc_16
           obtain rfl := some_inj hL_17
           obtain rfl := some_inj hF
           exact wH_ret (fin0 (.inr rfl) [(vI 7)] ⟨rfl, trivial⟩ rfl rfl rfl)
          ·refine wH_iff rfl hc_35 (wH_skip (wH_region (h_opw (w64_next hD_13 hn_14) wz rfl (h_op (vI ((k_10 + 1 : Nat) : Int)) wz rfl (h_nil ?_)))))
           obtain rfl := some_inj hc_16
           exact loop_mk (k_10 + 1, l_11, ()) ⟨hL_17, drop_next hD_13⟩ (Nat.lt_succ_self _) rfl (pre_r rfl)
    ·rintro s_15 ho_ sl_ H_ hp_ hq_
     subst ho_
     refine wH_at _ hp_ hq_ (wH_seq (wH_seq (wH_region (h_far pl42_3 rfl 3 rfl wz (h_ldr 0 0 il ft sz40 ag40 rfl rfl (vL Screen.enc wv_1.Screens) rfl wz (h_len un40 rfl wz (h_op (vI 0) wz rfl (h_nil ?_))))))))
     obtain ⟨o_44, hj_45, hF⟩ := bind_some hF
     obtain ⟨hn_40, hj_45⟩ := forL_some hj_45
     refine wH_join (β := (Unit)) (fun (s_41 : Unit) => ([] : List (Nat × V))) (fun (s_41 : Unit) => ([(n_2, some (.cells 4 [(vS wv_1.Key), (vI wv_1.W), (vI wv_1.H), (vL Screen.enc wv_1.Screens)]))] : Hp)) (fun p => o_44 = .go p) ?_ ?_
     ·refine wH_block (wH_loop (β := Nat × (List Screen) × (Unit)) (fun p => (fun (k_36 : Nat) (l_37 : List Screen) (s_41 : Unit) => ([(1, (.ref n_2 0 0)), (72, (vL Screen.enc wv_1.Screens)), (73, (vI (wv_1.Screens.length : Int))), (74, (vI (k_36 : Int)))] : List (Nat × V))) p.1 p.2.1 p.2.2) (fun p => (fun (k_36 : Nat) (l_37 : List Screen) (s_41 : Unit) => ([(n_2, some (.cells 4 [(vS wv_1.Key), (vI wv_1.W), (vI wv_1.H), (vL Screen.enc wv_1.Screens)]))] : Hp)) p.1 p.2.1 p.2.2) (fun p => forR (fun k x s => screen_CheckWall_L3 wv_1 k x s) p.2.1 p.1 p.2.2 = some o_44 ∧ (wv_1.Screens).drop p.1 = p.2.1) (fun p => p.2.1.length) (0, wv_1.Screens, ()) ⟨hj_45, rfl⟩ rfl (pre_r rfl) ?_)
      rintro ⟨k_36, l_37, s_41⟩ ⟨hL_43, hD_39⟩
      dsimp only at hL_43 hD_39
      cases l_37 with
      | nil =>
       obtain rfl := some_inj hL_43
       refine wH_seq (wH_region (h_op (vB (decide ((k_36 : Int) < (wv_1.Screens.length : Int)))) wz rfl (h_nil ?_)))
       refine wH_seq (wH_iff rfl (drop_nil hD_39) (wH_exit ?_))
       exact cut_mk (s_41) rfl rfl (pre_r rfl)
      | cons x_38 l_37 =>
       obtain ⟨c_, hc_42, hL_43⟩ := bind_some hL_43
       refine wH_seq (wH_region (h_op (vB (decide ((k_36 : Int) < (wv_1.Screens.length : Int)))) wz rfl (h_nil ?_)))
       refine wH_seq (wH_ift rfl (drop_cons hD_39) (wH_skip ?_))
       unfold screen_CheckWall_L3 at hc_42
       refine wH_seq (wH_block (wH_seq (wH_region (h_op (vI (k_36 : Int)) wz rfl (h_ia es40 rfl rfl (drop_idx hD_39) rfl wz (h_ldc sz139 ag139 rfl (.d (.agg (Screen.enc x_38))) rfl wz (h_alloc 0 (.inl rfl) z139 rfl wz (fun n_46 => h_op (vI (k_36 : Int)) wz rfl (h_str 0 il ft 1 sz139 rfl rfl [(vS x_38.Key), (vI x_38.On.X), (vI x_38.On.Y), (vI x_38.On.W), (vI x_38.On.H)] rfl wz (h_nil (wH_seq (wH_region (h_far pl42_3 rfl 3 rfl wz (h_ldr 0 0 il ft sz40 ag40 rfl rfl (vL Screen.enc wv_1.Screens) rfl wz (h_op (vI (k_36 : Int)) wz rfl ?_)))))))))))))))
       obtain ⟨y_47, hy_48, hc_42⟩ := bind_some hc_42
       refine h_sublFalseTrue un40 sz139 (fun _ => rfl) rfl rfl hy_48 wz (h_len un40 rfl wz (h_op (vI 0) wz rfl (h_nil ?_)))
       obtain ⟨o_57, hj_58, hc_42⟩ := bind_some hc_42
       obtain ⟨hn_53, hj_58⟩ := forL_some hj_58
       refine wH_join (β := (Unit)) (fun (s_54 : Unit) => ([(1, (.ref n_2 0 0)), (72, (vL Screen.enc wv_1.Screens)), (73, (vI (wv_1.Screens.length : Int))), (74, (vI (k_36 : Int)))] : List (Nat × V))) (fun (s_54 : Unit) => ([(n_2, some (.cells 4 [(vS wv_1.Key), (vI wv_1.W), (vI wv_1.H), (vL Screen.enc wv_1.Screens)])), (n_46, some (.cells 5 [(vS x_38.Key), (vI x_38.On.X), (vI x_38.On.Y), (vI x_38.On.W), (vI x_38.On.H)]))] : Hp)) (fun p => o_57 = .go p) ?_ ?_
       ·refine wH_block (wH_loop (β := Nat × (List Screen) × (Unit)) (fun p => (fun (k_49 : Nat) (l_50 : List Screen) (s_54 : Unit) => ([(1, (.ref n_2 0 0)), (8, (.ref n_46 0 0)), (72, (vL Screen.enc wv_1.Screens)), (73, (vI (wv_1.Screens.length : Int))), (74, (vI (k_36 : Int))), (82, (vL Screen.enc y_47)), (83, (vI (y_47.length : Int))), (84, (vI (k_49 : Int)))] : List (Nat × V))) p.1 p.2.1 p.2.2) (fun p => (fun (k_49 : Nat) (l_50 : List Screen) (s_54 : Unit) => ([(n_2, some (.cells 4 [(vS wv_1.Key), (vI wv_1.W), (vI wv_1.H), (vL Screen.enc wv_1.Screens)])), (n_46, some (.cells 5 [(vS x_38.Key), (vI x_38.On.X), (vI x_38.On.Y), (vI x_38.On.W), (vI x_38.On.H)]))] : Hp)) p.1 p.2.1 p.2.2) (fun p => forR (fun k x s => screen_CheckWall_L2 x_38 k x s) p.2.1 p.1 p.2.2 = some o_57 ∧ (y_47).drop p.1 = p.2.1) (fun p => p.2.1.length) (0, y_47, ()) ⟨hj_58, rfl⟩ rfl (pre_r rfl) ?_)
        rintro ⟨k_49, l_50, s_54⟩ ⟨hL_56, hD_52⟩
        dsimp only at hL_56 hD_52
        cases l_50 with
        | nil =>
         obtain rfl := some_inj hL_56
         refine wH_seq (wH_region (h_op (vB (decide ((k_49 : Int) < (y_47.length : Int)))) wz rfl (h_nil ?_)))
         refine wH_seq (wH_iff rfl (drop_nil hD_52) (wH_exit ?_))
         exact cut_mk (s_54) rfl rfl (pre_r rfl)
        | cons x_51 l_50 =>
         obtain ⟨c_, hc_55, hL_56⟩ := bind_some hL_56
         refine wH_seq (wH_region (h_op (vB (decide ((k_49 : Int) < (y_47.length : Int)))) wz rfl (h_nil ?_)))
         refine wH_seq (wH_ift rfl (drop_cons hD_52) (wH_skip ?_))
         unfold screen_CheckWall_L2 at hc_55
         refine wH_seq (wH_block (wH_seq (wH_region (h_ia es40 rfl rfl (drop_idx hD_52) rfl wz (h_ldc sz139 ag139 rfl (.d (.agg (Screen.enc x_51))) rfl wz (h_alloc 0 (.inl rfl) z139 rfl wz (fun n_59 => h_str 0 il ft 2 sz139 rfl rfl [(vS x_51.Key), (vI x_51.On.X), (vI x_51.On.Y), (vI x_51.On.W), (vI x_51.On.H)] rfl wz (h_nil (wH_seq (wH_region (h_far pl139_1 rfl 1 rfl wz (h_ldr 0 1 il ft sz45 ag45 rfl rfl (.d (.agg (Rect.enc x_38.On))) rfl wz (h_far pl139_1 rfl 1 rfl wz (h_ldr 0 2 il ft sz45 ag45 rfl rfl (.d (.agg (Rect.enc x_51.On))) rfl wz ?_))))))))))))))
         obtain ⟨r_60, hr_61, hc_55⟩ := bind_some hc_55
         refine h_call0 (screen_meet_ok hr_61) rfl hb97 rfl rfl rfl rfl wz (h_op (.tup [(.d (.agg (Rect.enc r_60.1))), (vB r_60.2)]) wz rfl (h_op (.d (.agg (Rect.enc r_60.1))) wz rfl (h_op (vB r_60.2) wz rfl (h_alloc 0 (.inl rfl) z45 rfl wz (fun n_62 => h_str 0 il ft 3 sz45 rfl rfl [(vI r_60.1.X), (vI r_60.1.Y), (vI r_60.1.W), (vI r_60.1.H)] rfl wz (h_op (vB r_60.2) wz rfl (h_nil (wH_seq (wH_region (h_op (vB r_60.2) wz rfl (h_nil ?_)))))))))))
         rcases cond_some hc_55 with ⟨hc_63, hc_55⟩ | ⟨hc_63, hc_55⟩
         ·refine wH_ift rfl hc_63 (wH_seq (wH_region (h_op (vI 13) wz rfl (h_nil ?_))))
          obtain rfl := some_inj hc_55
          obtain rfl := some_inj hL_56
          obtain rfl := some_inj hc_42
          obtain rfl := some_inj hL_43
          obtain rfl := some_inj hF
          exact wH_ret (fin0 (.inr rfl) [(vI 13)] ⟨rfl, trivial⟩ rfl rfl rfl)
         ·refine wH_iff rfl hc_63 (wH_skip (wH_region (h_opw (w64_next hD_52 hn_53) wz rfl (h_op (vI ((k_49 + 1 : Nat) : Int)) wz rfl (h_nil ?_)))))
          obtain rfl := some_inj hc_55
          exact loop_mk (k_49 + 1, l_50, ()) ⟨hL_56, drop_next hD_52⟩ (Nat.lt_succ_self _) rfl (pre_r rfl)
       ·rintro s_54 ho_ sl_ H_ hp_ hq_
        subst ho_
        refine wH_at _ hp_ hq_ (wH_region (h_opw (w64_next hD_39 hn_40) wz rfl (h_op (vI ((k_36 + 1 : Nat) : Int)) wz rfl (h_nil ?_))))
        obtain rfl := some_inj hc_42
        exact loop_mk (k_36 + 1, l_37, ()) ⟨hL_43, drop_next hD_39⟩ (Nat.lt_succ_self _) rfl (pre_r rfl)
     ·rintro s_41 ho_ sl_ H_ hp_ hq_
      subst ho_
      refine wH_at _ hp_ hq_ (wH_seq (wH_region (h_op (vI 0) wz rfl (h_nil ?_))))
      obtain rfl := some_inj hF
      exact wH_ret (fin0 (.inr rfl) [(vI 0)] ⟨rfl, trivial⟩ rfl rfl rfl)
theorem screen_moved_ok {r_1 : Rect} {byv_2 : Rect} {r : Rect} (hF : screen_moved r_1 byv_2 = some r) :
  FnM Tryz.prog 98 [(.d (.agg (Rect.enc r_1))), (.d (.agg (Rect.enc byv_2)))] [] (.d (.agg (Rect.enc r))) [] := by
 refine FnM.of_wH ⟨Tryz.prog, 20, [], []⟩ rfl Tryz.func98 rfl rfl (Nat.le_of_ble_eq_true rfl) (by kernel_rfl) ?_
 unfold screen_moved at hF
 refine wH_seq (wH_region (h_box 0 (.inl rfl) [(vI r_1.X), (vI r_1.Y), (vI r_1.W), (vI r_1.H)] rfl rfl wz (fun n_3 => h_box 0 (.inl rfl) [(vI byv_2.X), (vI byv_2.Y), (vI byv_2.W), (vI byv_2.H)] rfl rfl wz (fun n_4 => h_alloc 0 (.inl rfl) z45 rfl wz (fun n_5 => h_nil (wH_seq (wH_region (h_far pl45_0 rfl 0 rfl wz (h_ldr 0 0 il ft sz3 ag3 rfl rfl (vI r_1.X) rfl wz (h_far pl45_0 rfl 0 rfl wz (h_ldr 0 1 il ft sz3 ag3 rfl rfl (vI byv_2.X) rfl wz (h_op (vI (w64 (r_1.X - byv_2.X))) wz rfl (h_far pl45_1 rfl 1 rfl wz (h_ldr 0 0 il ft sz3 ag3 rfl rfl (vI r_1.Y) rfl wz (h_far pl45_1 rfl 1 rfl wz (h_ldr 0 1 il ft sz3 ag3 rfl rfl (vI byv_2.Y) rfl wz (h_op (vI (w64 (r_1.Y - byv_2.Y))) wz rfl (h_far pl45_2 rfl 2 rfl wz (h_ldr 0 0 il ft sz3 ag3 rfl rfl (vI r_1.W) rfl wz (h_far pl45_3 rfl 3 rfl wz (h_ldr 0 0 il ft sz3 ag3 rfl rfl (vI r_1.H) rfl wz (h_op (.d (.agg (Rect.enc (⟨(w64 (r_1.X - byv_2.X)), (w64 (r_1.Y - byv_2.Y)), r_1.W, r_1.H⟩ : Rect)))) wz (by kernel_rfl) (h_str 0 il ft 2 sz45 rfl rfl [(vI (w64 (r_1.X - byv_2.X))), (vI (w64 (r_1.Y - byv_2.Y))), (vI r_1.W), (vI r_1.H)] rfl wz ?_)))))))))))))))))))))))
 refine h_nil ?_
 obtain rfl := some_inj hF
 exact wH_ret (fin0 (.inr rfl) [(.d (.agg (Rect.enc (⟨(w64 (r_1.X - byv_2.X)), (w64 (r_1.Y - byv_2.Y)), r_1.W, r_1.H⟩ : Rect))))] ⟨⟨2, _, _, _, _, _, _, _, rfl, rfl, sz45, ag45, rfl⟩, trivial⟩ rfl rfl rfl)
theorem screen_Parts_ok {wv_1 : Wall} {r_2 : Rect} {r : (List Patch) × Int} (hF : screen_Parts wv_1 r_2 = some r) :
  FnM Tryz.prog 19 [(.d (.agg (Wall.enc wv_1))), (.d (.agg (Rect.enc r_2)))] [] (.tup [(vL Patch.enc r.1), (vI r.2)]) [] := by
 refine FnM.of_wH ⟨Tryz.prog, 53, [], []⟩ rfl Tryz.func19 rfl rfl (Nat.le_of_ble_eq_true rfl) (by kernel_rfl) ?_
 unfold screen_Parts at hF
 refine wH_seq (wH_region (h_box 0 (.inl rfl) [(vS wv_1.Key), (vI wv_1.W), (vI wv_1.H), (vL Screen.enc wv_1.Screens)] rfl rfl wz (fun n_3 => h_box 0 (.inl rfl) [(vI r_2.X), (vI r_2.Y), (vI r_2.W), (vI r_2.H)] rfl rfl wz (fun n_4 => h_op .nil wz rfl (h_op (vI 0) wz rfl (h_nil (wH_seq (wH_seq (wH_region (h_ldr 0 0 il ft sz42 ag42 rfl rfl (.d (.agg (Wall.enc wv_1))) rfl wz ?_))))))))))
 obtain ⟨r_5, hr_6, hF⟩ := bind_some hF
 refine h_call0 (screen_CheckWall_ok hr_6) rfl hb95 rfl rfl rfl rfl wz (h_op (vI r_5) wz rfl (h_nil (wH_seq (wH_region (h_op (vI r_5) wz rfl (h_op (vB (r_5 != 0)) wz rfl (h_nil ?_)))))))
 rcases cond_some hF with ⟨hc_7, hF⟩ | ⟨hc_7, hF⟩
 ·refine wH_ift rfl hc_7 (wH_seq (wH_region (h_op (vI r_5) wz rfl (h_op .nil wz rfl (h_op (vI r_5) wz rfl (h_nil ?_))))))
  obtain rfl := some_inj hF
  exact wH_ret (fin0 (.inr rfl) [.nil, (vI r_5)] ⟨rfl, ⟨rfl, trivial⟩⟩ rfl rfl rfl)
 ·refine wH_iff rfl hc_7 (wH_skip (wH_seq (wH_seq (wH_region (h_ldr 0 1 il ft sz45 ag45 rfl rfl (.d (.agg (Rect.enc r_2))) rfl wz ?_)))))
  obtain ⟨r_8, hr_9, hF⟩ := bind_some hF
  refine h_call0 (screen_CheckRect_ok hr_9) rfl hb96 rfl rfl rfl rfl wz (h_op (vI r_8) wz rfl (h_nil (wH_seq (wH_region (h_op (vI r_8) wz rfl (h_op (vB (r_8 != 0)) wz rfl (h_nil ?_)))))))
  rcases cond_some hF with ⟨hc_10, hF⟩ | ⟨hc_10, hF⟩
  ·refine wH_ift rfl hc_10 (wH_seq (wH_region (h_op (vI r_8) wz rfl (h_op .nil wz rfl (h_op (vI r_8) wz rfl (h_nil ?_))))))
   obtain rfl := some_inj hF
   exact wH_ret (fin0 (.inr rfl) [.nil, (vI r_8)] ⟨rfl, ⟨rfl, trivial⟩⟩ rfl rfl rfl)
  ·refine wH_iff rfl hc_10 (wH_skip (wH_seq (wH_region (h_op .nil wz rfl (h_nil (wH_seq (wH_seq (wH_region (h_far pl42_3 rfl 3 rfl wz (h_ldr 0 0 il ft sz40 ag40 rfl rfl (vL Screen.enc wv_1.Screens) rfl wz (h_len un40 rfl wz (h_op (vI 0) wz rfl (h_nil (wH_new (fun n_17 => ?_)))))))))))))))
   obtain ⟨o_22, hj_23, hF⟩ := bind_some hF
   obtain ⟨hn_15, hj_23⟩ := forL_some hj_23
   refine wH_join (β := ((List Patch)) × Nm) (fun p => (fun (s_16 : (List Patch)) (n_19 : Nm) => ([(8, (gV n_19 9 s_16))] : List (Nat × V))) p.1 p.2) (fun p => (fun (s_16 : (List Patch)) (n_19 : Nm) => ([(n_3, some (.cells 4 [(vS wv_1.Key), (vI wv_1.W), (vI wv_1.H), (vL Screen.enc wv_1.Screens)])), (n_4, some (.cells 4 [(vI r_2.X), (vI r_2.Y), (vI r_2.W), (vI r_2.H)])), (n_19, gB 9 Patch.enc s_16)] : Hp)) p.1 p.2) (fun p => o_22 = .go p.1) ?_ ?_
   ·refine wH_block (wH_loop (β := Nat × (List Screen) × ((List Patch)) × Nm) (fun p => (fun (k_11 : Nat) (l_12 : List Screen) (s_16 : (List Patch)) (n_19 : Nm) => ([(3, (.ref n_4 0 0)), (8, (gV n_19 9 s_16)), (24, (vL Screen.enc wv_1.Screens)), (25, (vI (wv_1.Screens.length : Int))), (26, (vI (k_11 : Int)))] : List (Nat × V))) p.1 p.2.1 p.2.2.1 p.2.2.2) (fun p => (fun (k_11 : Nat) (l_12 : List Screen) (s_16 : (List Patch)) (n_19 : Nm) => ([(n_3, some (.cells 4 [(vS wv_1.Key), (vI wv_1.W), (vI wv_1.H), (vL Screen.enc wv_1.Screens)])), (n_4, some (.cells 4 [(vI r_2.X), (vI r_2.Y), (vI r_2.W), (vI r_2.H)])), (n_19, gB 9 Patch.enc s_16)] : Hp)) p.1 p.2.1 p.2.2.1 p.2.2.2) (fun p => forR (fun k x s => screen_Parts_L1 r_2 k x s) p.2.1 p.1 p.2.2.1 = some o_22 ∧ (wv_1.Screens).drop p.1 = p.2.1) (fun p => p.2.1.length) (0, wv_1.Screens, ([] : List Patch), n_17) ⟨hj_23, rfl⟩ rfl (pre_r rfl) ?_)
    rintro ⟨k_11, l_12, s_16, n_19⟩ ⟨hL_21, hD_14⟩
    dsimp only at hL_21 hD_14
    cases l_12 with
    | nil =>
     obtain rfl := some_inj hL_21
     refine wH_seq (wH_region (h_op (vB (decide ((k_11 : Int) < (wv_1.Screens.length : Int)))) wz rfl (h_nil ?_)))
     refine wH_seq (wH_iff rfl (drop_nil hD_14) (wH_exit ?_))
     exact cut_mk (s_16, n_19) rfl rfl (pre_r rfl)
    | cons x_13 l_12 =>
     obtain ⟨c_, hc_20, hL_21⟩ := bind_some hL_21
     refine wH_seq (wH_region (h_op (vB (decide ((k_11 : Int) < (wv_1.Screens.length : Int)))) wz rfl (h_nil ?_)))
     refine wH_seq (wH_ift rfl (drop_cons hD_14) (wH_skip ?_))
     unfold screen_Parts_L1 at hc_20
     refine wH_seq (wH_block (wH_seq (wH_region (h_ia es40 rfl rfl (drop_idx hD_14) rfl wz (h_ldc sz139 ag139 rfl (.d (.agg (Screen.enc x_13))) rfl wz (h_alloc 0 (.inl rfl) z139 rfl wz (fun n_24 => h_str 0 il ft 3 sz139 rfl rfl [(vS x_13.Key), (vI x_13.On.X), (vI x_13.On.Y), (vI x_13.On.W), (vI x_13.On.H)] rfl wz (h_nil (wH_seq (wH_region (h_far pl139_1 rfl 1 rfl wz (h_ldr 0 3 il ft sz45 ag45 rfl rfl (.d (.agg (Rect.enc x_13.On))) rfl wz (h_ldr 0 1 il ft sz45 ag45 rfl rfl (.d (.agg (Rect.enc r_2))) rfl wz ?_)))))))))))))
     obtain ⟨r_25, hr_26, hc_20⟩ := bind_some hc_20
     refine h_call0 (screen_meet_ok hr_26) rfl hb97 rfl rfl rfl rfl wz (h_op (.tup [(.d (.agg (Rect.enc r_25.1))), (vB r_25.2)]) wz rfl (h_op (.d (.agg (Rect.enc r_25.1))) wz rfl (h_op (vB r_25.2) wz rfl (h_alloc 0 (.inl rfl) z45 rfl wz (fun n_27 => h_str 0 il ft 4 sz45 rfl rfl [(vI r_25.1.X), (vI r_25.1.Y), (vI r_25.1.W), (vI r_25.1.H)] rfl wz (h_op (vB r_25.2) wz rfl (h_nil (wH_seq (wH_region (h_op (vB r_25.2) wz rfl (h_nil ?_)))))))))))
     obtain ⟨v_28, h_29, hc_20⟩ := bind_some hc_20
     refine wH_join (β := Nm) (fun (n_30 : Nm) => ([(3, (.ref n_4 0 0)), (8, (gV n_30 9 v_28)), (24, (vL Screen.enc wv_1.Screens)), (25, (vI (wv_1.Screens.length : Int))), (26, (vI (k_11 : Int)))] : List (Nat × V))) (fun (n_30 : Nm) => ([(n_3, some (.cells 4 [(vS wv_1.Key), (vI wv_1.W), (vI wv_1.H), (vL Screen.enc wv_1.Screens)])), (n_4, some (.cells 4 [(vI r_2.X), (vI r_2.Y), (vI r_2.W), (vI r_2.H)])), (n_30, gB 9 Patch.enc v_28), (n_24, some (.cells 5 [(vS x_13.Key), (vI x_13.On.X), (vI x_13.On.Y), (vI x_13.On.W), (vI x_13.On.H)])), (n_27, some (.cells 4 [(vI r_25.1.X), (vI r_25.1.Y), (vI r_25.1.W), (vI r_25.1.H)]))] : Hp)) (fun _ => True) ?_ ?_
     ·rcases cond_some h_29 with ⟨hc_31, h_29⟩ | ⟨hc_31, h_29⟩
      ·refine wH_ift rfl hc_31 (wH_draws (h_op (gV n_19 9 s_16) wz rfl (h_far pl139_0 rfl 0 rfl wz (h_ldr 2 3 (.inr (by kernel_rfl)) (fun _ _ ag => trivial) sz9 ag9 rfl rfl (vS x_13.Key) rfl wz (h_ldr 3 4 (.inr (by kernel_rfl)) (fun _ _ ag => ⟨.inl ⟨rfl, rfl⟩, trivial⟩) sz45 ag45 rfl rfl (.d (.agg (Rect.enc r_25.1))) rfl wz (h_far pl139_1 rfl 1 rfl wz (h_ldr 5 3 (.inr (by kernel_rfl)) (fun _ _ ag => ⟨.inl ⟨rfl, rfl⟩, ⟨.inl ⟨rfl, rfl⟩, trivial⟩⟩) sz45 ag45 rfl rfl (.d (.agg (Rect.enc x_13.On))) rfl wz ?_)))))))
       obtain ⟨r_32, hr_33, h_29⟩ := bind_some h_29
       refine h_call0 (screen_moved_ok hr_33) rfl hb98 rfl rfl rfl rfl wz (h_ldr 7 4 (.inr (by kernel_rfl)) (fun _ _ ag => ⟨.inl ⟨rfl, rfl⟩, ⟨.inl ⟨rfl, rfl⟩, ⟨.inl ⟨rfl, rfl⟩, trivial⟩⟩⟩) sz45 ag45 rfl rfl (.d (.agg (Rect.enc r_25.1))) rfl wz (h_ldr 8 1 (.inr (by kernel_rfl)) (fun _ _ ag => ⟨.inl ⟨rfl, rfl⟩, ⟨.inl ⟨rfl, rfl⟩, ⟨.inl ⟨rfl, rfl⟩, ⟨.inl ⟨rfl, rfl⟩, trivial⟩⟩⟩⟩) sz45 ag45 rfl rfl (.d (.agg (Rect.enc r_2))) rfl wz ?_))
       obtain ⟨r_34, hr_35, h_29⟩ := bind_some h_29
       refine h_call0 (screen_moved_ok hr_35) rfl hb98 rfl rfl rfl rfl wz (h_op (.d (.agg (Patch.enc (⟨x_13.Key, r_32, r_34⟩ : Patch)))) wz (by kernel_rfl) (h_lit (([(⟨x_13.Key, r_32, r_34⟩ : Patch)] : List Patch).map Patch.enc) es47 ez47 rfl rfl rfl rfl rfl wz ?_))
       obtain ⟨a_36, hz_37, h_29⟩ := bind_some h_29
       refine h_appg 12 (.inr (by kernel_rfl)) (fun _ _ ag => ⟨.inr (.inr (by kernel_rfl)), ⟨.inr (.inr (by kernel_rfl)), ⟨.inr (.inr (by kernel_rfl)), ⟨.inr (.inr (by kernel_rfl)), ⟨.inr (.inr (by kernel_rfl)), trivial⟩⟩⟩⟩⟩) (i := 2) el47 el47 sz54 z54 rfl (by decide) by54 (by decide) (fun _ => rfl) rfl rfl rfl hz_37 wz (fun n_38 => h_op (gV n_38 9 a_36) wz rfl (h_nil ?_))
       obtain rfl := some_inj h_29
       exact cut_mk n_38 trivial rfl (pre_r rfl)
      ·refine wH_iff rfl hc_31 (wH_skip ?_)
       obtain rfl := some_inj h_29
       exact cut_mk n_19 trivial rfl (pre_r rfl)
     ·rintro n_30 _ sl_ H_ hp_ hq_
      refine wH_at _ hp_ hq_ (wH_region (h_opw (w64_next hD_14 hn_15) wz rfl (h_op (vI ((k_11 + 1 : Nat) : Int)) wz rfl (h_nil ?_))))
      obtain rfl := some_inj hc_20
      exact loop_mk (k_11 + 1, l_12, v_28, n_30) ⟨hL_21, drop_next hD_14⟩ (Nat.lt_succ_self _) rfl (pre_r rfl)
   ·rintro ⟨s_16, n_19⟩ ho_ sl_ H_ hp_ hq_
    subst ho_
    refine wH_at _ hp_ hq_ (wH_seq (wH_region (h_op (gV n_19 9 s_16) wz rfl (h_op (gV n_19 9 s_16) wz rfl (h_op (vI 0) wz rfl (h_nil (wH_frozg 2 rfl (wH_cog 4 2 rfl rfl (wH_cog 8 2 rfl rfl (wH_cog 52 2 rfl rfl ?_))))))))))
    obtain rfl := some_inj hF
    exact wH_ret (fin0 (.inr rfl) [(vL Patch.enc s_16), (vI 0)] ⟨rfl, ⟨rfl, trivial⟩⟩ rfl rfl rfl)
theorem screen_lit_ok {wv_1 : Wall} {r : (List Rect)} (hF : screen_lit wv_1 = some r) :
  FnM Tryz.prog 101 [(.d (.agg (Wall.enc wv_1)))] [] (vL Rect.enc r) [] := by
 refine FnM.of_wH ⟨Tryz.prog, 20, [], []⟩ rfl Tryz.func101 rfl rfl (Nat.le_of_ble_eq_true rfl) (by kernel_rfl) ?_
 unfold screen_lit at hF
 refine wH_seq (wH_region (h_box 0 (.inl rfl) [(vS wv_1.Key), (vI wv_1.W), (vI wv_1.H), (vL Screen.enc wv_1.Screens)] rfl rfl wz (fun n_2 => h_op .nil wz rfl (h_nil (wH_seq (wH_region (h_op .nil wz rfl (h_nil (wH_seq (wH_seq (wH_region (h_far pl42_3 rfl 3 rfl wz (h_ldr 0 0 il ft sz40 ag40 rfl rfl (vL Screen.enc wv_1.Screens) rfl wz (h_len un40 rfl wz (h_op (vI 0) wz rfl (h_nil (wH_new (fun n_9 => ?_))))))))))))))))))
 obtain ⟨o_14, hj_15, hF⟩ := bind_some hF
 obtain ⟨hn_7, hj_15⟩ := forL_some hj_15
 refine wH_join (β := ((List Rect)) × Nm) (fun p => (fun (s_8 : (List Rect)) (n_11 : Nm) => ([(3, (gV n_11 4 s_8))] : List (Nat × V))) p.1 p.2) (fun p => (fun (s_8 : (List Rect)) (n_11 : Nm) => ([(n_2, some (.cells 4 [(vS wv_1.Key), (vI wv_1.W), (vI wv_1.H), (vL Screen.enc wv_1.Screens)])), (n_11, gB 4 Rect.enc s_8)] : Hp)) p.1 p.2) (fun p => o_14 = .go p.1) ?_ ?_
 ·refine wH_block (wH_loop (β := Nat × (List Screen) × ((List Rect)) × Nm) (fun p => (fun (k_3 : Nat) (l_4 : List Screen) (s_8 : (List Rect)) (n_11 : Nm) => ([(3, (gV n_11 4 s_8)), (7, (vL Screen.enc wv_1.Screens)), (8, (vI (wv_1.Screens.length : Int))), (9, (vI (k_3 : Int)))] : List (Nat × V))) p.1 p.2.1 p.2.2.1 p.2.2.2) (fun p => (fun (k_3 : Nat) (l_4 : List Screen) (s_8 : (List Rect)) (n_11 : Nm) => ([(n_2, some (.cells 4 [(vS wv_1.Key), (vI wv_1.W), (vI wv_1.H), (vL Screen.enc wv_1.Screens)])), (n_11, gB 4 Rect.enc s_8)] : Hp)) p.1 p.2.1 p.2.2.1 p.2.2.2) (fun p => forR (fun k x s => screen_lit_L1 k x s) p.2.1 p.1 p.2.2.1 = some o_14 ∧ (wv_1.Screens).drop p.1 = p.2.1) (fun p => p.2.1.length) (0, wv_1.Screens, ([] : List Rect), n_9) ⟨hj_15, rfl⟩ rfl (pre_r rfl) ?_)
  rintro ⟨k_3, l_4, s_8, n_11⟩ ⟨hL_13, hD_6⟩
  dsimp only at hL_13 hD_6
  cases l_4 with
  | nil =>
   obtain rfl := some_inj hL_13
   refine wH_seq (wH_region (h_op (vB (decide ((k_3 : Int) < (wv_1.Screens.length : Int)))) wz rfl (h_nil ?_)))
   refine wH_seq (wH_iff rfl (drop_nil hD_6) (wH_exit ?_))
   exact cut_mk (s_8, n_11) rfl rfl (pre_r rfl)
  | cons x_5 l_4 =>
   obtain ⟨c_, hc_12, hL_13⟩ := bind_some hL_13
   refine wH_seq (wH_region (h_op (vB (decide ((k_3 : Int) < (wv_1.Screens.length : Int)))) wz rfl (h_nil ?_)))
   refine wH_seq (wH_ift rfl (drop_cons hD_6) (wH_skip ?_))
   unfold screen_lit_L1 at hc_12
   refine wH_seq (wH_block (wH_seq (wH_region (h_ia es40 rfl rfl (drop_idx hD_6) rfl wz (h_ldc sz139 ag139 rfl (.d (.agg (Screen.enc x_5))) rfl wz (h_alloc 0 (.inl rfl) z139 rfl wz (fun n_16 => h_str 0 il ft 2 sz139 rfl rfl [(vS x_5.Key), (vI x_5.On.X), (vI x_5.On.Y), (vI x_5.On.W), (vI x_5.On.H)] rfl wz (h_nil (wH_region (h_op (gV n_11 4 s_8) wz rfl (h_far pl139_1 rfl 1 rfl wz (h_ldr 0 2 il ft sz45 ag45 rfl rfl (.d (.agg (Rect.enc x_5.On))) rfl wz (h_lit (([x_5.On] : List Rect).map Rect.enc) es50 ez50 rfl rfl rfl rfl rfl wz ?_)))))))))))))
   obtain ⟨a_17, hz_18, hc_12⟩ := bind_some hc_12
   refine h_appg 0 il ft (i := 1) el50 el50 sz45 z45 rfl (by decide) by45 (by decide) (fun _ => rfl) rfl rfl rfl hz_18 wz (fun n_19 => h_op (gV n_19 4 a_17) wz rfl (h_nil (wH_region (h_opw (w64_next hD_6 hn_7) wz rfl (h_op (vI ((k_3 + 1 : Nat) : Int)) wz rfl (h_nil ?_))))))
   obtain rfl := some_inj hc_12
   exact loop_mk (k_3 + 1, l_4, a_17, n_19) ⟨hL_13, drop_next hD_6⟩ (Nat.lt_succ_self _) rfl (pre_r rfl)
 ·rintro ⟨s_8, n_11⟩ ho_ sl_ H_ hp_ hq_
  subst ho_
  refine wH_at _ hp_ hq_ (wH_seq (wH_region (h_op (gV n_11 4 s_8) wz rfl (h_op (gV n_11 4 s_8) wz rfl (h_nil (wH_frozg 1 rfl (wH_cog 2 1 rfl rfl (wH_cog 3 1 rfl rfl (wH_cog 19 1 rfl rfl ?_)))))))))
  obtain rfl := some_inj hF
  exact wH_ret (fin0 (.inr rfl) [(vL Rect.enc s_8)] ⟨rfl, trivial⟩ rfl rfl rfl)
theorem screen_bounded_ok {l_1 : (List Rect)} {r : (List Rect) × Int} (hF : screen_bounded l_1 = some r) :
  FnM Tryz.prog 99 [(vL Rect.enc l_1)] [] (.tup [(vL Rect.enc r.1), (vI r.2)]) [] := by
 refine FnM.of_wH ⟨Tryz.prog, 8, [], []⟩ rfl Tryz.func99 rfl rfl (Nat.le_of_ble_eq_true rfl) (by kernel_rfl) ?_
 unfold screen_bounded at hF
 refine wH_seq (wH_region (h_op .nil wz rfl (h_op (vI 0) wz rfl (h_nil (wH_seq (wH_seq (wH_region (h_op (vL Rect.enc l_1) wz rfl (h_len un50 rfl wz (h_op (vB (decide ((l_1.length : Int) > 2000))) wz rfl (h_nil ?_)))))))))))
 rcases cond_some hF with ⟨hc_2, hF⟩ | ⟨hc_2, hF⟩
 ·refine wH_ift rfl hc_2 (wH_seq (wH_region (h_op .nil wz rfl (h_op (vI 2) wz rfl (h_nil ?_)))))
  obtain rfl := some_inj hF
  exact wH_ret (fin0 (.inr rfl) [.nil, (vI 2)] ⟨rfl, ⟨rfl, trivial⟩⟩ rfl rfl rfl)
 ·refine wH_iff rfl hc_2 (wH_skip (wH_seq (wH_region (h_op (vL Rect.enc l_1) wz rfl (h_op (vL Rect.enc l_1) wz rfl (h_op (vI 0) wz rfl (h_nil ?_)))))))
  obtain rfl := some_inj hF
  exact wH_ret (fin0 (.inr rfl) [(vL Rect.enc l_1), (vI 0)] ⟨rfl, ⟨rfl, trivial⟩⟩ rfl rfl rfl)
theorem screen_Dark_ok {wv_1 : Wall} {r : (List Rect) × Int} (hF : screen_Dark wv_1 = some r) :
  FnM Tryz.prog 20 [(.d (.agg (Wall.enc wv_1)))] [] (.tup [(vL Rect.enc r.1), (vI r.2)]) [] := by
 refine FnM.of_wH ⟨Tryz.prog, 22, [], []⟩ rfl Tryz.func20 rfl rfl (Nat.le_of_ble_eq_true rfl) (by kernel_rfl) ?_
 unfold screen_Dark at hF
 refine wH_seq (wH_region (h_box 0 (.inl rfl) [(vS wv_1.Key), (vI wv_1.W), (vI wv_1.H), (vL Screen.enc wv_1.Screens)] rfl rfl wz (fun n_2 => h_op .nil wz rfl (h_op (vI 0) wz rfl (h_nil (wH_seq (wH_seq (wH_region (h_ldr 0 0 il ft sz42 ag42 rfl rfl (.d (.agg (Wall.enc wv_1))) rfl wz ?_)))))))))
 obtain ⟨r_3, hr_4, hF⟩ := bind_some hF
 refine h_call0 (screen_CheckWall_ok hr_4) rfl hb95 rfl rfl rfl rfl wz (h_op (vI r_3) wz rfl (h_nil (wH_seq (wH_region (h_op (vI r_3) wz rfl (h_op (vB (r_3 != 0)) wz rfl (h_nil ?_)))))))
 rcases cond_some hF with ⟨hc_5, hF⟩ | ⟨hc_5, hF⟩
 ·refine wH_ift rfl hc_5 (wH_seq (wH_region (h_op (vI r_3) wz rfl (h_op .nil wz rfl (h_op (vI r_3) wz rfl (h_nil ?_))))))
  obtain rfl := some_inj hF
  exact wH_ret (fin0 (.inr rfl) [.nil, (vI r_3)] ⟨rfl, ⟨rfl, trivial⟩⟩ rfl rfl rfl)
 ·refine wH_iff rfl hc_5 (wH_skip (wH_seq (wH_draws (h_far pl42_1 rfl 1 rfl wz (h_ldr 1 0 (.inr (by kernel_rfl)) (fun _ _ ag => trivial) sz3 ag3 rfl rfl (vI wv_1.W) rfl wz (h_far pl42_2 rfl 2 rfl wz (h_ldr 3 0 (.inr (by kernel_rfl)) (fun _ _ ag => ⟨.inl ⟨rfl, rfl⟩, trivial⟩) sz3 ag3 rfl rfl (vI wv_1.H) rfl wz (h_op (.d (.agg (Rect.enc (⟨0, 0, wv_1.W, wv_1.H⟩ : Rect)))) wz (by kernel_rfl) (h_lit (([(⟨0, 0, wv_1.W, wv_1.H⟩ : Rect)] : List Rect).map Rect.enc) es50 ez50 rfl rfl rfl rfl rfl wz (h_ldr 6 0 (.inr (by kernel_rfl)) (fun _ _ ag => ⟨.inl ⟨rfl, rfl⟩, ⟨.inl ⟨rfl, rfl⟩, trivial⟩⟩) sz42 ag42 rfl rfl (.d (.agg (Wall.enc wv_1))) rfl wz ?_))))))))))
  obtain ⟨r_6, hr_7, hF⟩ := bind_some hF
  refine h_call0 (screen_lit_ok hr_7) rfl hb101 rfl rfl rfl rfl wz ?_
  obtain ⟨r_8, hr_9, hF⟩ := bind_some hF
  refine h_call0 (screen_region_ok hr_9) rfl hb100 rfl rfl rfl rfl wz ?_
  obtain ⟨r_10, hr_11, hF⟩ := bind_some hF
  refine h_call0 (screen_bounded_ok hr_11) rfl hb99 rfl rfl rfl rfl wz (h_op (vL Rect.enc r_10.1) wz rfl (h_op (vI r_10.2) wz rfl (h_op (vL Rect.enc r_10.1) wz rfl (h_op (vI r_10.2) wz rfl (h_nil ?_)))))
  obtain rfl := some_inj hF
  exact wH_ret (fin0 (.inr rfl) [(vL Rect.enc r_10.1), (vI r_10.2)] ⟨rfl, ⟨rfl, trivial⟩⟩ rfl rfl rfl)
theorem screen_Meet_ok {a_1 : Rect} {b_2 : Rect} {r : Rect × Bool × Int} (hF : screen_Meet a_1 b_2 = some r) :
  FnM Tryz.prog 21 [(.d (.agg (Rect.enc a_1))), (.d (.agg (Rect.enc b_2)))] [] (.tup [(.d (.agg (Rect.enc r.1))), (vB r.2.1), (vI r.2.2)]) [] := by
 refine FnM.of_wH ⟨Tryz.prog, 33, [], []⟩ rfl Tryz.func21 rfl rfl (Nat.le_of_ble_eq_true rfl) (by kernel_rfl) ?_
 unfold screen_Meet at hF
 refine wH_seq (wH_region (h_box 0 (.inl rfl) [(vI a_1.X), (vI a_1.Y), (vI a_1.W), (vI a_1.H)] rfl rfl wz (fun n_3 => h_box 0 (.inl rfl) [(vI b_2.X), (vI b_2.Y), (vI b_2.W), (vI b_2.H)] rfl rfl wz (fun n_4 => h_alloc 0 (.inl rfl) z45 rfl wz (fun n_5 => h_op (vB false) wz rfl (h_op (vI 0) wz rfl (h_nil (wH_seq (wH_seq (wH_region (h_ldr 0 0 il ft sz45 ag45 rfl rfl (.d (.agg (Rect.enc a_1))) rfl wz (h_ldr 0 1 il ft sz45 ag45 rfl rfl (.d (.agg (Rect.enc b_2))) rfl wz (h_op (.d (.agg [.int .i64 a_1.X, .int .i64 a_1.Y, .int .i64 a_1.W, .int .i64 a_1.H, .int .i64 b_2.X, .int .i64 b_2.Y, .int .i64 b_2.W, .int .i64 b_2.H])) wz (by kernel_rfl) (h_op (vI 0) wz rfl (h_nil ?_)))))))))))))))
 obtain ⟨o_14, hj_15, hF⟩ := bind_some hF
 obtain ⟨hn_10, hj_15⟩ := forL_some hj_15
 refine wH_join (β := (Unit)) (fun (s_11 : Unit) => ([(2, (.ref n_3 0 0)), (3, (.ref n_4 0 0)), (4, (.ref n_5 0 0))] : List (Nat × V))) (fun (s_11 : Unit) => ([(n_3, some (.cells 4 [(vI a_1.X), (vI a_1.Y), (vI a_1.W), (vI a_1.H)])), (n_4, some (.cells 4 [(vI b_2.X), (vI b_2.Y), (vI b_2.W), (vI b_2.H)])), (n_5, some (.cells 4 [(vI 0), (vI 0), (vI 0), (vI 0)]))] : Hp)) (fun p => o_14 = .go p) ?_ ?_
 ·refine wH_block (wH_loop (β := Nat × (List Nat) × (Unit)) (fun p => (fun (k_6 : Nat) (l_7 : List Nat) (s_11 : Unit) => ([(2, (.ref n_3 0 0)), (3, (.ref n_4 0 0)), (4, (.ref n_5 0 0)), (14, (.d (.agg [.int .i64 a_1.X, .int .i64 a_1.Y, .int .i64 a_1.W, .int .i64 a_1.H, .int .i64 b_2.X, .int .i64 b_2.Y, .int .i64 b_2.W, .int .i64 b_2.H]))), (15, (vI (k_6 : Int)))] : List (Nat × V))) p.1 p.2.1 p.2.2) (fun p => (fun (k_6 : Nat) (l_7 : List Nat) (s_11 : Unit) => ([(n_3, some (.cells 4 [(vI a_1.X), (vI a_1.Y), (vI a_1.W), (vI a_1.H)])), (n_4, some (.cells 4 [(vI b_2.X), (vI b_2.Y), (vI b_2.W), (vI b_2.H)])), (n_5, some (.cells 4 [(vI 0), (vI 0), (vI 0), (vI 0)]))] : Hp)) p.1 p.2.1 p.2.2) (fun p => forR (fun k x s => screen_Meet_L1 a_1 b_2 k x s) p.2.1 p.1 p.2.2 = some o_14 ∧ ((List.range (2 : Int).toNat)).drop p.1 = p.2.1) (fun p => p.2.1.length) (0, (List.range (2 : Int).toNat), ()) ⟨hj_15, rfl⟩ rfl (pre_r rfl) ?_)
  rintro ⟨k_6, l_7, s_11⟩ ⟨hL_13, hD_9⟩
  dsimp only at hL_13 hD_9
  cases l_7 with
  | nil =>
   obtain rfl := some_inj hL_13
   refine wH_seq (wH_region (h_op (vB (decide ((k_6 : Int) < 2))) wz rfl (h_nil ?_)))
   refine wH_seq (wH_iff rfl (range_nil hD_9) (wH_exit ?_))
   exact cut_mk (s_11) rfl rfl (pre_r rfl)
  | cons x_8 l_7 =>
   obtain ⟨c_, hc_12, hL_13⟩ := bind_some hL_13
   refine wH_seq (wH_region (h_op (vB (decide ((k_6 : Int) < 2))) wz rfl (h_nil ?_)))
   refine wH_seq (wH_ift rfl (range_cons hD_9) (wH_skip ?_))
   unfold screen_Meet_L1 at hc_12
   refine wH_seq (wH_block (wH_seq (wH_region ?_)))
   obtain ⟨y_16, hy_17, hc_12⟩ := bind_some hc_12
   refine h_idxa (enc := Rect.enc) (xs := ([a_1, b_2] : List Rect)) un186 sz45 ag45 rfl rfl rfl rfl hy_17 (fun _ => rfl) (.inl rfl) (.d (.agg (Rect.enc y_16))) rfl wz (h_alloc 0 (.inl rfl) z45 rfl wz (fun n_18 => h_str 0 il ft 3 sz45 rfl rfl [(vI y_16.X), (vI y_16.Y), (vI y_16.W), (vI y_16.H)] rfl wz (h_nil (wH_seq (wH_region (h_ldr 0 3 il ft sz45 ag45 rfl rfl (.d (.agg (Rect.enc y_16))) rfl wz ?_))))))
   obtain ⟨r_19, hr_20, hc_12⟩ := bind_some hc_12
   refine h_call0 (screen_CheckRect_ok hr_20) rfl hb96 rfl rfl rfl rfl wz (h_op (vI r_19) wz rfl (h_nil (wH_seq (wH_region (h_op (vI r_19) wz rfl (h_op (vB (r_19 != 0)) wz rfl (h_nil ?_)))))))
   rcases cond_some hc_12 with ⟨hc_21, hc_12⟩ | ⟨hc_21, hc_12⟩
   ·refine wH_ift rfl hc_21 (wH_seq (wH_region (h_op (.d (.agg (Rect.enc (⟨0, 0, 0, 0⟩ : Rect)))) wz (by kernel_rfl) (h_op (vI r_19) wz rfl (h_str 0 il ft 2 sz45 rfl rfl [(vI 0), (vI 0), (vI 0), (vI 0)] rfl wz (h_op (vB false) wz rfl (h_op (vI r_19) wz rfl (h_nil ?_))))))))
    obtain rfl := some_inj hc_12
    obtain rfl := some_inj hL_13
    obtain rfl := some_inj hF
    exact wH_ret (fin0 (.inr rfl) [(.d (.agg (Rect.enc (⟨0, 0, 0, 0⟩ : Rect)))), (vB false), (vI r_19)] ⟨⟨2, _, _, _, _, _, _, _, rfl, rfl, sz45, ag45, rfl⟩, ⟨rfl, ⟨rfl, trivial⟩⟩⟩ rfl rfl rfl)
   ·refine wH_iff rfl hc_21 (wH_skip (wH_region (h_opw (w64_nextr hD_9 hn_10) wz rfl (h_op (vI ((k_6 + 1 : Nat) : Int)) wz rfl (h_nil ?_)))))
    obtain rfl := some_inj hc_12
    exact loop_mk (k_6 + 1, l_7, ()) ⟨hL_13, drop_next hD_9⟩ (Nat.lt_succ_self _) rfl (pre_r rfl)
 ·rintro s_11 ho_ sl_ H_ hp_ hq_
  subst ho_
  refine wH_at _ hp_ hq_ (wH_seq (wH_region (h_ldr 0 0 il ft sz45 ag45 rfl rfl (.d (.agg (Rect.enc a_1))) rfl wz (h_ldr 0 1 il ft sz45 ag45 rfl rfl (.d (.agg (Rect.enc b_2))) rfl wz ?_))))
  obtain ⟨r_22, hr_23, hF⟩ := bind_some hF
  refine h_call0 (screen_meet_ok hr_23) rfl hb97 rfl rfl rfl rfl wz (h_op (.tup [(.d (.agg (Rect.enc r_22.1))), (vB r_22.2)]) wz rfl (h_op (.d (.agg (Rect.enc r_22.1))) wz rfl (h_op (vB r_22.2) wz rfl (h_alloc 0 (.inl rfl) z45 rfl wz (fun n_24 => h_str 0 il ft 3 sz45 rfl rfl [(vI r_22.1.X), (vI r_22.1.Y), (vI r_22.1.W), (vI r_22.1.H)] rfl wz (h_op (vB r_22.2) wz rfl (h_nil (wH_seq (wH_region (h_ldr 0 3 il ft sz45 ag45 rfl rfl (.d (.agg (Rect.enc r_22.1))) rfl wz (h_op (vB r_22.2) wz rfl (h_str 0 il ft 2 sz45 rfl rfl [(vI r_22.1.X), (vI r_22.1.Y), (vI r_22.1.W), (vI r_22.1.H)] rfl wz (h_op (vB r_22.2) wz rfl (h_op (vI 0) wz rfl (h_nil ?_)))))))))))))))
  obtain rfl := some_inj hF
  exact wH_ret (fin0 (.inr rfl) [(.d (.agg (Rect.enc r_22.1))), (vB r_22.2), (vI 0)] ⟨⟨2, _, _, _, _, _, _, _, rfl, rfl, sz45, ag45, rfl⟩, ⟨rfl, ⟨rfl, trivial⟩⟩⟩ rfl rfl rfl)
theorem keep_PartsAndDark_ok {l_1 : (List Int)} {r : Bool} (hF : keep_PartsAndDark l_1 = some r) :
  FnM Tryz.prog 4 [(vL eI l_1)] [] (vB r) [] := by
 refine FnM.of_wH ⟨Tryz.prog, 166, [], []⟩ rfl Tryz.func4 rfl rfl (Nat.le_of_ble_eq_true rfl) (by kernel_rfl) ?_
 unfold keep_PartsAndDark at hF
 refine wH_seq (wH_region (h_op (vB false) wz rfl (h_nil (wH_seq (wH_region (h_op (vL eI l_1) wz rfl (h_op (.d (.agg (Stream.enc (⟨l_1, 0⟩ : Stream)))) wz (by kernel_rfl) (h_box 0 (.inl rfl) [(vL eI l_1), (vI 0)] rfl rfl wz (fun n_2 => h_op (.ref n_2 0 0) wz rfl (h_nil (wH_seq (wH_region (h_op (.ref n_2 0 0) wz rfl ?_)))))))))))))
 obtain ⟨r_3, hr_4, hF⟩ := bind_some hF
 refine h_callq 0 [0] il ft (mk_Stream_RightWall_ok hr_4) rfl hb17 rfl (by kernel_rfl) (by kernel_rfl) (by kernel_rfl) (by kernel_rfl) (by kernel_rfl) (by kernel_rfl) (by kernel_rfl) (by decide) (by kernel_rfl) wz (.d (.agg (Wall.enc r_3.1))) (by kernel_rfl) ([(n_2, some (.cells 2 [(vL eI r_3.2.L), (vI r_3.2.f_at)]))] : Hp) (by kernel_rfl) (h_op (.ref n_2 0 0) wz rfl ?_)
 obtain ⟨r_6, hr_7, hF⟩ := bind_some hF
 refine h_callq 0 [0] il ft (mk_Stream_RightRect_ok hr_7) rfl hb18 rfl (by kernel_rfl) (by kernel_rfl) (by kernel_rfl) (by kernel_rfl) (by kernel_rfl) (by kernel_rfl) (by kernel_rfl) (by decide) (by kernel_rfl) wz (.d (.agg (Rect.enc r_6.1))) (by kernel_rfl) ([(n_2, some (.cells 2 [(vL eI r_6.2.L), (vI r_6.2.f_at)]))] : Hp) (by kernel_rfl) (h_alloc 0 (.inl rfl) z42 rfl wz (fun n_9 => h_alloc 0 (.inl rfl) z45 rfl wz (fun n_10 => h_str 0 il ft 1 sz42 rfl rfl [(vS r_3.1.Key), (vI r_3.1.W), (vI r_3.1.H), (vL Screen.enc r_3.1.Screens)] rfl wz (h_str 0 il ft 2 sz45 rfl rfl [(vI r_6.1.X), (vI r_6.1.Y), (vI r_6.1.W), (vI r_6.1.H)] rfl wz (h_nil (wH_seq (wH_region (h_ldr 0 1 il ft sz42 ag42 rfl rfl (.d (.agg (Wall.enc r_3.1))) rfl wz (h_ldr 0 2 il ft sz45 ag45 rfl rfl (.d (.agg (Rect.enc r_6.1))) rfl wz ?_)))))))))
 obtain ⟨r_11, hr_12, hF⟩ := bind_some hF
 refine h_call0 (screen_Parts_ok hr_12) rfl hb19 rfl rfl rfl rfl wz (h_op (.tup [(vL Patch.enc r_11.1), (vI r_11.2)]) wz rfl (h_op (vL Patch.enc r_11.1) wz rfl (h_op (vI r_11.2) wz rfl (h_op (vL Patch.enc r_11.1) wz rfl (h_op (vI r_11.2) wz rfl (h_nil (wH_seq (wH_region (h_ldr 0 1 il ft sz42 ag42 rfl rfl (.d (.agg (Wall.enc r_3.1))) rfl wz ?_)))))))))
 obtain ⟨r_13, hr_14, hF⟩ := bind_some hF
 refine h_call0 (screen_Dark_ok hr_14) rfl hb20 rfl rfl rfl rfl wz (h_op (.tup [(vL Rect.enc r_13.1), (vI r_13.2)]) wz rfl (h_op (vL Rect.enc r_13.1) wz rfl (h_op (vI r_13.2) wz rfl (h_op (vL Rect.enc r_13.1) wz rfl (h_op (vI r_13.2) wz rfl (h_nil (wH_seq (wH_seq ?_))))))))
 obtain ⟨v_15, h_16, hF⟩ := bind_some hF
 refine wH_join (β := Unit) (fun _ => ([(4, (.ref n_9 0 0)), (5, (.ref n_10 0 0)), (6, (vL Patch.enc r_11.1)), (8, (vL Rect.enc r_13.1)), (43, (vB v_15))] : List (Nat × V))) (fun _ => ([(n_2, some (.cells 2 [(vL eI r_6.2.L), (vI r_6.2.f_at)])), (n_9, some (.cells 4 [(vS r_3.1.Key), (vI r_3.1.W), (vI r_3.1.H), (vL Screen.enc r_3.1.Screens)])), (n_10, some (.cells 4 [(vI r_6.1.X), (vI r_6.1.Y), (vI r_6.1.W), (vI r_6.1.H)]))] : Hp)) (fun _ => True) ?_ ?_
 ·refine wH_region (h_op (vI r_11.2) wz rfl (h_op (vB (r_11.2 != 0)) wz rfl ?_))
  rcases cond_some h_16 with ⟨hc_17, h_16⟩ | ⟨hc_17, h_16⟩
  ·refine h_movb rfl hc_17 wz (h_skip wa (h_skip wa (h_op (vB true) wz rfl (h_nil ?_))))
   obtain rfl := some_inj h_16
   exact cu
  ·refine h_movb rfl hc_17 wz (h_op (vI r_13.2) wa rfl (h_op (vB (r_13.2 != 0)) wa rfl (h_op (vB (r_13.2 != 0)) wz rfl (h_nil ?_))))
   obtain rfl := some_inj h_16
   exact cu
 ·rintro ⟨⟩ _ sl_ H_ hp_ hq_
  refine wH_at _ hp_ hq_ ?_
  rcases cond_some hF with ⟨hc_18, hF⟩ | ⟨hc_18, hF⟩
  ·refine wH_ift rfl hc_18 (wH_seq (wH_region (h_op (vB false) wz rfl (h_nil ?_))))
   obtain rfl := some_inj hF
   exact wH_ret (fin0 (.inr rfl) [(vB false)] ⟨rfl, trivial⟩ rfl rfl rfl)
  ·refine wH_iff rfl hc_18 (wH_skip (wH_seq (wH_region (h_op (vI 0) wz rfl (h_nil (wH_seq (wH_seq (wH_region (h_op (vL Patch.enc r_11.1) wz rfl (h_len un47 rfl wz (h_op (vI 0) wz rfl (h_nil ?_))))))))))))
   obtain ⟨o_27, hj_28, hF⟩ := bind_some hF
   obtain ⟨hn_23, hj_28⟩ := forL_some hj_28
   refine wH_join (β := (Int)) (fun (s_24 : Int) => ([(4, (.ref n_9 0 0)), (5, (.ref n_10 0 0)), (8, (vL Rect.enc r_13.1)), (10, (vI s_24))] : List (Nat × V))) (fun (s_24 : Int) => ([(n_2, some (.cells 2 [(vL eI r_6.2.L), (vI r_6.2.f_at)])), (n_9, some (.cells 4 [(vS r_3.1.Key), (vI r_3.1.W), (vI r_3.1.H), (vL Screen.enc r_3.1.Screens)])), (n_10, some (.cells 4 [(vI r_6.1.X), (vI r_6.1.Y), (vI r_6.1.W), (vI r_6.1.H)]))] : Hp)) (fun p => o_27 = .go p) ?_ ?_
   ·refine wH_block (wH_loop (β := Nat × (List Patch) × (Int)) (fun p => (fun (k_19 : Nat) (l_20 : List Patch) (s_24 : Int) => ([(4, (.ref n_9 0 0)), (5, (.ref n_10 0 0)), (8, (vL Rect.enc r_13.1)), (10, (vI s_24)), (44, (vL Patch.enc r_11.1)), (45, (vI (r_11.1.length : Int))), (46, (vI (k_19 : Int)))] : List (Nat × V))) p.1 p.2.1 p.2.2) (fun p => (fun (k_19 : Nat) (l_20 : List Patch) (s_24 : Int) => ([(n_2, some (.cells 2 [(vL eI r_6.2.L), (vI r_6.2.f_at)])), (n_9, some (.cells 4 [(vS r_3.1.Key), (vI r_3.1.W), (vI r_3.1.H), (vL Screen.enc r_3.1.Screens)])), (n_10, some (.cells 4 [(vI r_6.1.X), (vI r_6.1.Y), (vI r_6.1.W), (vI r_6.1.H)]))] : Hp)) p.1 p.2.1 p.2.2) (fun p => forR (fun k x s => keep_PartsAndDark_L1 r_6 k x s) p.2.1 p.1 p.2.2 = some o_27 ∧ (r_11.1).drop p.1 = p.2.1) (fun p => p.2.1.length) (0, r_11.1, 0) ⟨hj_28, rfl⟩ rfl (pre_r rfl) ?_)
    rintro ⟨k_19, l_20, s_24⟩ ⟨hL_26, hD_22⟩
    dsimp only at hL_26 hD_22
    cases l_20 with
    | nil =>
     obtain rfl := some_inj hL_26
     refine wH_seq (wH_region (h_op (vB (decide ((k_19 : Int) < (r_11.1.length : Int)))) wz rfl (h_nil ?_)))
     refine wH_seq (wH_iff rfl (drop_nil hD_22) (wH_exit ?_))
     exact cut_mk (s_24) rfl rfl (pre_r rfl)
    | cons x_21 l_20 =>
     obtain ⟨c_, hc_25, hL_26⟩ := bind_some hL_26
     refine wH_seq (wH_region (h_op (vB (decide ((k_19 : Int) < (r_11.1.length : Int)))) wz rfl (h_nil ?_)))
     refine wH_seq (wH_ift rfl (drop_cons hD_22) (wH_skip ?_))
     unfold keep_PartsAndDark_L1 at hc_25
     refine wH_seq (wH_block (wH_seq (wH_region (h_ia es47 rfl rfl (drop_idx hD_22) rfl wz (h_ldc sz54 ag54 rfl (.d (.agg (Patch.enc x_21))) rfl wz (h_alloc 0 (.inl rfl) z54 rfl wz (fun n_29 => h_str 0 il ft 3 sz54 rfl rfl [(vS x_21.Screen), (vI x_21.On.X), (vI x_21.On.Y), (vI x_21.On.W), (vI x_21.On.H), (vI x_21.Of.X), (vI x_21.Of.Y), (vI x_21.Of.W), (vI x_21.Of.H)] rfl wz (h_nil (wH_seq (wH_seq ?_))))))))))
     obtain ⟨v_30, h_31, hc_25⟩ := bind_some hc_25
     refine wH_join (β := Unit) (fun _ => ([(4, (.ref n_9 0 0)), (5, (.ref n_10 0 0)), (8, (vL Rect.enc r_13.1)), (10, (vI s_24)), (12, (.ref n_29 0 0)), (44, (vL Patch.enc r_11.1)), (45, (vI (r_11.1.length : Int))), (46, (vI (k_19 : Int))), (101, (vB v_30))] : List (Nat × V))) (fun _ => ([(n_2, some (.cells 2 [(vL eI r_6.2.L), (vI r_6.2.f_at)])), (n_9, some (.cells 4 [(vS r_3.1.Key), (vI r_3.1.W), (vI r_3.1.H), (vL Screen.enc r_3.1.Screens)])), (n_10, some (.cells 4 [(vI r_6.1.X), (vI r_6.1.Y), (vI r_6.1.W), (vI r_6.1.H)])), (n_29, some (.cells 9 [(vS x_21.Screen), (vI x_21.On.X), (vI x_21.On.Y), (vI x_21.On.W), (vI x_21.On.H), (vI x_21.Of.X), (vI x_21.Of.Y), (vI x_21.Of.W), (vI x_21.Of.H)]))] : Hp)) (fun _ => True) ?_ ?_
     ·refine wH_region (h_far pl54_1 rfl 1 rfl wz (h_far pl45_2 rfl 3 rfl wz (h_ldr 0 3 il ft sz3 ag3 rfl rfl (vI x_21.On.W) rfl wz (h_far pl54_2 rfl 5 rfl wz (h_far pl45_2 rfl 7 rfl wz (h_ldr 0 3 il ft sz3 ag3 rfl rfl (vI x_21.Of.W) rfl wz (h_op (vB (x_21.On.W != x_21.Of.W)) wz rfl ?_)))))))
      rcases cond_some h_31 with ⟨hc_32, h_31⟩ | ⟨hc_32, h_31⟩
      ·refine h_movb rfl hc_32 wz (h_skip wa (h_skip wa (h_skip wa (h_skip wa (h_skip wa (h_skip wa (h_skip wa (h_op (vB true) wz rfl (h_op (vB true) wz rfl (h_skip wa (h_skip wa (h_skip wa (h_skip wa (h_op (vB true) wz rfl (h_op (vB true) wz rfl (h_skip wa (h_skip wa (h_skip wa (h_skip wa (h_op (vB true) wz rfl (h_op (vB true) wz rfl (h_skip wa (h_skip wa ?_)))))))))))))))))))))))
       refine h_skip wa (h_skip wa (h_skip wa (h_skip wa (h_skip wa (h_skip wa (h_skip wa (h_skip wa (h_op (vB true) wz rfl (h_op (vB true) wz rfl (h_skip wa (h_skip wa (h_skip wa (h_skip wa (h_skip wa (h_skip wa (h_skip wa (h_skip wa (h_skip wa (h_skip wa (h_op (vB true) wz rfl (h_nil ?_)))))))))))))))))))))
       obtain rfl := some_inj h_31
       exact cu
      ·refine h_movb rfl hc_32 wz (h_far pl54_1 rfl 1 rfl wa (h_far pl45_3 rfl 4 rfl wa (h_ldr 0 3 il ft sz3 ag3 rfl rfl (vI x_21.On.H) rfl wa (h_far pl54_2 rfl 5 rfl wa (h_far pl45_3 rfl 8 rfl wa (h_ldr 0 3 il ft sz3 ag3 rfl rfl (vI x_21.Of.H) rfl wa (h_op (vB (x_21.On.H != x_21.Of.H)) wa rfl (h_op (vB (x_21.On.H != x_21.Of.H)) wz rfl ?_))))))))
       rcases cond_some h_31 with ⟨hc_33, h_31⟩ | ⟨hc_33, h_31⟩
       ·refine h_movb rfl hc_33 wz (h_skip wa (h_skip wa (h_skip wa (h_skip wa (h_op (vB true) wz rfl (h_op (vB true) wz rfl (h_skip wa (h_skip wa (h_skip wa (h_skip wa (h_op (vB true) wz rfl (h_op (vB true) wz rfl (h_skip wa (h_skip wa (h_skip wa (h_skip wa (h_skip wa (h_skip wa (h_skip wa (h_skip wa (h_skip wa (h_skip wa (h_op (vB true) wz rfl ?_)))))))))))))))))))))))
        refine h_op (vB true) wz rfl (h_skip wa (h_skip wa (h_skip wa (h_skip wa (h_skip wa (h_skip wa (h_skip wa (h_skip wa (h_skip wa (h_skip wa (h_op (vB true) wz rfl (h_nil ?_))))))))))))
        obtain rfl := some_inj h_31
        exact cu
       ·refine h_movb rfl hc_33 wz (h_far pl54_2 rfl 5 rfl wa (h_far pl45_0 rfl 5 rfl wa (h_ldr 0 3 il ft sz3 ag3 rfl rfl (vI x_21.Of.X) rfl wa (h_op (vB (decide (x_21.Of.X < 0))) wa rfl (h_op (vB (decide (x_21.Of.X < 0))) wz rfl ?_)))))
        rcases cond_some h_31 with ⟨hc_34, h_31⟩ | ⟨hc_34, h_31⟩
        ·refine h_movb rfl hc_34 wz (h_skip wa (h_skip wa (h_skip wa (h_skip wa (h_op (vB true) wz rfl (h_op (vB true) wz rfl (h_skip wa (h_skip wa (h_skip wa (h_skip wa (h_skip wa (h_skip wa (h_skip wa (h_skip wa (h_skip wa (h_skip wa (h_op (vB true) wz rfl (h_op (vB true) wz rfl (h_skip wa (h_skip wa (h_skip wa (h_skip wa (h_skip wa ?_)))))))))))))))))))))))
         refine h_skip wa (h_skip wa (h_skip wa (h_skip wa (h_skip wa (h_op (vB true) wz rfl (h_nil ?_))))))
         obtain rfl := some_inj h_31
         exact cu
        ·refine h_movb rfl hc_34 wz (h_far pl54_2 rfl 5 rfl wa (h_far pl45_1 rfl 6 rfl wa (h_ldr 0 3 il ft sz3 ag3 rfl rfl (vI x_21.Of.Y) rfl wa (h_op (vB (decide (x_21.Of.Y < 0))) wa rfl (h_op (vB (decide (x_21.Of.Y < 0))) wz rfl ?_)))))
         rcases cond_some h_31 with ⟨hc_35, h_31⟩ | ⟨hc_35, h_31⟩
         ·refine h_movb rfl hc_35 wz (h_skip wa (h_skip wa (h_skip wa (h_skip wa (h_skip wa (h_skip wa (h_skip wa (h_skip wa (h_skip wa (h_skip wa (h_op (vB true) wz rfl (h_op (vB true) wz rfl (h_skip wa (h_skip wa (h_skip wa (h_skip wa (h_skip wa (h_skip wa (h_skip wa (h_skip wa (h_skip wa (h_skip wa (h_op (vB true) wz rfl ?_)))))))))))))))))))))))
          refine h_nil ?_
          obtain rfl := some_inj h_31
          exact cu
         ·refine h_movb rfl hc_35 wz (h_far pl54_2 rfl 5 rfl wa (h_far pl45_0 rfl 5 rfl wa (h_ldr 0 3 il ft sz3 ag3 rfl rfl (vI x_21.Of.X) rfl wa (h_far pl54_2 rfl 5 rfl wa (h_far pl45_2 rfl 7 rfl wa (h_ldr 0 3 il ft sz3 ag3 rfl rfl (vI x_21.Of.W) rfl wa (h_op (vI (w64 (x_21.Of.X + x_21.Of.W))) wa rfl (h_far pl45_2 rfl 2 rfl wa (h_ldr 0 2 il ft sz3 ag3 rfl rfl (vI r_6.1.W) rfl wa (h_op (vB (decide ((w64 (x_21.Of.X + x_21.Of.W)) > r_6.1.W))) wa rfl (h_op (vB (decide ((w64 (x_21.Of.X + x_21.Of.W)) > r_6.1.W))) wz rfl ?_)))))))))))
          rcases cond_some h_31 with ⟨hc_36, h_31⟩ | ⟨hc_36, h_31⟩
          ·refine h_movb rfl hc_36 wz (h_skip wa (h_skip wa (h_skip wa (h_skip wa (h_skip wa (h_skip wa (h_skip wa (h_skip wa (h_skip wa (h_skip wa (h_op (vB true) wz rfl (h_nil ?_))))))))))))
           obtain rfl := some_inj h_31
           exact cu
          ·refine h_movb rfl hc_36 wz (h_far pl54_2 rfl 5 rfl wa (h_far pl45_1 rfl 6 rfl wa (h_ldr 0 3 il ft sz3 ag3 rfl rfl (vI x_21.Of.Y) rfl wa (h_far pl54_2 rfl 5 rfl wa (h_far pl45_3 rfl 8 rfl wa (h_ldr 0 3 il ft sz3 ag3 rfl rfl (vI x_21.Of.H) rfl wa (h_op (vI (w64 (x_21.Of.Y + x_21.Of.H))) wa rfl (h_far pl45_3 rfl 3 rfl wa (h_ldr 0 2 il ft sz3 ag3 rfl rfl (vI r_6.1.H) rfl wa (h_op (vB (decide ((w64 (x_21.Of.Y + x_21.Of.H)) > r_6.1.H))) wa rfl (h_op (vB (decide ((w64 (x_21.Of.Y + x_21.Of.H)) > r_6.1.H))) wz rfl (h_nil ?_))))))))))))
           obtain rfl := some_inj h_31
           exact cu
     ·rintro ⟨⟩ _ sl_ H_ hp_ hq_
      refine wH_at _ hp_ hq_ ?_
      rcases cond_some hc_25 with ⟨hc_37, hc_25⟩ | ⟨hc_37, hc_25⟩
      ·refine wH_ift rfl hc_37 (wH_seq (wH_region (h_op (vB false) wz rfl (h_nil ?_))))
       obtain rfl := some_inj hc_25
       obtain rfl := some_inj hL_26
       obtain rfl := some_inj hF
       exact wH_ret (fin0 (.inr rfl) [(vB false)] ⟨rfl, trivial⟩ rfl rfl rfl)
      ·refine wH_iff rfl hc_37 (wH_skip (wH_region (h_op (vI s_24) wz rfl (h_far pl54_1 rfl 1 rfl wz (h_far pl45_2 rfl 3 rfl wz (h_ldr 0 3 il ft sz3 ag3 rfl rfl (vI x_21.On.W) rfl wz (h_far pl54_1 rfl 1 rfl wz (h_far pl45_3 rfl 4 rfl wz (h_ldr 0 3 il ft sz3 ag3 rfl rfl (vI x_21.On.H) rfl wz (h_op (vI (w64 (x_21.On.W * x_21.On.H))) wz rfl (h_op (vI (w64 (s_24 + (w64 (x_21.On.W * x_21.On.H))))) wz rfl (h_op (vI (w64 (s_24 + (w64 (x_21.On.W * x_21.On.H))))) wz rfl (h_nil (wH_region (h_opw (w64_next hD_22 hn_23) wz rfl (h_op (vI ((k_19 + 1 : Nat) : Int)) wz rfl (h_nil ?_)))))))))))))))))
       obtain rfl := some_inj hc_25
       exact loop_mk (k_19 + 1, l_20, (w64 (s_24 + (w64 (x_21.On.W * x_21.On.H))))) ⟨hL_26, drop_next hD_22⟩ (Nat.lt_succ_self _) rfl (pre_r rfl)
   ·rintro s_24 ho_ sl_ H_ hp_ hq_
    subst ho_
    refine wH_at _ hp_ hq_ (wH_seq (wH_region (h_ldr 0 2 il ft sz45 ag45 rfl rfl (.d (.agg (Rect.enc r_6.1))) rfl wz (h_far pl42_1 rfl 1 rfl wz (h_ldr 0 1 il ft sz3 ag3 rfl rfl (vI r_3.1.W) rfl wz (h_far pl42_2 rfl 2 rfl wz (h_ldr 0 1 il ft sz3 ag3 rfl rfl (vI r_3.1.H) rfl wz (h_op (.d (.agg (Rect.enc (⟨0, 0, r_3.1.W, r_3.1.H⟩ : Rect)))) wz (by kernel_rfl) ?_))))))))
    obtain ⟨r_38, hr_39, hF⟩ := bind_some hF
    refine h_call0 (screen_Meet_ok hr_39) rfl hb21 rfl rfl rfl rfl wz (h_op (.tup [(.d (.agg (Rect.enc r_38.1))), (vB r_38.2.1), (vI r_38.2.2)]) wz rfl (h_op (.d (.agg (Rect.enc r_38.1))) wz rfl (h_op (vB r_38.2.1) wz rfl (h_op (vI r_38.2.2) wz rfl (h_alloc 0 (.inl rfl) z45 rfl wz (fun n_40 => h_str 0 il ft 3 sz45 rfl rfl [(vI r_38.1.X), (vI r_38.1.Y), (vI r_38.1.W), (vI r_38.1.H)] rfl wz (h_op (vB r_38.2.1) wz rfl (h_op (vI r_38.2.2) wz rfl (h_nil (wH_seq (wH_seq (wH_region (h_op (vI r_38.2.2) wz rfl (h_op (vB (r_38.2.2 != 0)) wz rfl (h_nil ?_)))))))))))))))
    rcases cond_some hF with ⟨hc_41, hF⟩ | ⟨hc_41, hF⟩
    ·refine wH_ift rfl hc_41 (wH_seq (wH_region (h_op (vB false) wz rfl (h_nil ?_))))
     obtain rfl := some_inj hF
     exact wH_ret (fin0 (.inr rfl) [(vB false)] ⟨rfl, trivial⟩ rfl rfl rfl)
    ·refine wH_iff rfl hc_41 (wH_skip (wH_seq (wH_seq (wH_region (h_op (vB r_38.2.1) wz rfl (h_op (vB (!r_38.2.1)) wz rfl (h_nil ?_)))))))
     rcases cond_some hF with ⟨hc_42, hF⟩ | ⟨hc_42, hF⟩
     ·refine wH_ift rfl hc_42 (wH_seq ?_)
      obtain ⟨v_43, h_44, hF⟩ := bind_some hF
      refine wH_join (β := Unit) (fun _ => ([(2, (vB v_43))] : List (Nat × V))) (fun _ => ([(n_2, some (.cells 2 [(vL eI r_6.2.L), (vI r_6.2.f_at)])), (n_9, some (.cells 4 [(vS r_3.1.Key), (vI r_3.1.W), (vI r_3.1.H), (vL Screen.enc r_3.1.Screens)])), (n_10, some (.cells 4 [(vI r_6.1.X), (vI r_6.1.Y), (vI r_6.1.W), (vI r_6.1.H)])), (n_40, some (.cells 4 [(vI r_38.1.X), (vI r_38.1.Y), (vI r_38.1.W), (vI r_38.1.H)]))] : Hp)) (fun _ => True) ?_ ?_
      ·refine wH_region (h_op (vI s_24) wz rfl (h_op (vB (s_24 == 0)) wz rfl ?_))
       rcases cond_some h_44 with ⟨hc_45, h_44⟩ | ⟨hc_45, h_44⟩
       ·refine h_movb rfl hc_45 wz ?_
        obtain ⟨r_46, hr_47, h_44⟩ := bind_some h_44
        refine h_call0 (keep_ready_ok hr_47) rfl hb16 rfl rfl rfl rfl wa (h_op (vB r_46) wz rfl (h_op (vB r_46) wz rfl (h_nil ?_)))
        obtain rfl := some_inj h_44
        exact cu
       ·refine h_movb rfl hc_45 wz (h_skip wa (h_op (vB false) wz rfl (h_op (vB false) wz rfl (h_nil ?_))))
        obtain rfl := some_inj h_44
        exact cu
      ·rintro ⟨⟩ _ sl_ H_ hp_ hq_
       refine wH_at _ hp_ hq_ ?_
       obtain rfl := some_inj hF
       exact wH_ret (fin0 (.inr rfl) [(vB v_43)] ⟨rfl, trivial⟩ rfl rfl rfl)
     ·refine wH_iff rfl hc_42 (wH_skip (wH_seq (wH_seq (wH_region (h_op (vL Rect.enc r_13.1) wz rfl (h_len un50 rfl wz (h_op (vI 0) wz rfl (h_nil ?_))))))))
      obtain ⟨o_56, hj_57, hF⟩ := bind_some hF
      obtain ⟨hn_52, hj_57⟩ := forL_some hj_57
      refine wH_join (β := (Int)) (fun (s_53 : Int) => ([(10, (vI s_53)), (13, (.ref n_40 0 0))] : List (Nat × V))) (fun (s_53 : Int) => ([(n_2, some (.cells 2 [(vL eI r_6.2.L), (vI r_6.2.f_at)])), (n_9, some (.cells 4 [(vS r_3.1.Key), (vI r_3.1.W), (vI r_3.1.H), (vL Screen.enc r_3.1.Screens)])), (n_10, some (.cells 4 [(vI r_6.1.X), (vI r_6.1.Y), (vI r_6.1.W), (vI r_6.1.H)])), (n_40, some (.cells 4 [(vI r_38.1.X), (vI r_38.1.Y), (vI r_38.1.W), (vI r_38.1.H)]))] : Hp)) (fun p => o_56 = .go p) ?_ ?_
      ·refine wH_block (wH_loop (β := Nat × (List Rect) × (Int)) (fun p => (fun (k_48 : Nat) (l_49 : List Rect) (s_53 : Int) => ([(10, (vI s_53)), (13, (.ref n_40 0 0)), (132, (vL Rect.enc r_13.1)), (133, (vI (r_13.1.length : Int))), (134, (vI (k_48 : Int)))] : List (Nat × V))) p.1 p.2.1 p.2.2) (fun p => (fun (k_48 : Nat) (l_49 : List Rect) (s_53 : Int) => ([(n_2, some (.cells 2 [(vL eI r_6.2.L), (vI r_6.2.f_at)])), (n_9, some (.cells 4 [(vS r_3.1.Key), (vI r_3.1.W), (vI r_3.1.H), (vL Screen.enc r_3.1.Screens)])), (n_10, some (.cells 4 [(vI r_6.1.X), (vI r_6.1.Y), (vI r_6.1.W), (vI r_6.1.H)])), (n_40, some (.cells 4 [(vI r_38.1.X), (vI r_38.1.Y), (vI r_38.1.W), (vI r_38.1.H)]))] : Hp)) p.1 p.2.1 p.2.2) (fun p => forR (fun k x s => keep_PartsAndDark_L2 r_38 k x s) p.2.1 p.1 p.2.2 = some o_56 ∧ (r_13.1).drop p.1 = p.2.1) (fun p => p.2.1.length) (0, r_13.1, s_24) ⟨hj_57, rfl⟩ rfl (pre_r rfl) ?_)
       rintro ⟨k_48, l_49, s_53⟩ ⟨hL_55, hD_51⟩
       dsimp only at hL_55 hD_51
       cases l_49 with
       | nil =>
        obtain rfl := some_inj hL_55
        refine wH_seq (wH_region (h_op (vB (decide ((k_48 : Int) < (r_13.1.length : Int)))) wz rfl (h_nil ?_)))
        refine wH_seq (wH_iff rfl (drop_nil hD_51) (wH_exit ?_))
        exact cut_mk (s_53) rfl rfl (pre_r rfl)
       | cons x_50 l_49 =>
        obtain ⟨c_, hc_54, hL_55⟩ := bind_some hL_55
        refine wH_seq (wH_region (h_op (vB (decide ((k_48 : Int) < (r_13.1.length : Int)))) wz rfl (h_nil ?_)))
        refine wH_seq (wH_ift rfl (drop_cons hD_51) (wH_skip ?_))
        unfold keep_PartsAndDark_L2 at hc_54
        refine wH_seq (wH_block (wH_seq (wH_region (h_ia es50 rfl rfl (drop_idx hD_51) rfl wz (h_ldc sz45 ag45 rfl (.d (.agg (Rect.enc x_50))) rfl wz (h_alloc 0 (.inl rfl) z45 rfl wz (fun n_58 => h_str 0 il ft 4 sz45 rfl rfl [(vI x_50.X), (vI x_50.Y), (vI x_50.W), (vI x_50.H)] rfl wz (h_nil (wH_seq (wH_region (h_ldr 0 4 il ft sz45 ag45 rfl rfl (.d (.agg (Rect.enc x_50))) rfl wz (h_ldr 0 3 il ft sz45 ag45 rfl rfl (.d (.agg (Rect.enc r_38.1))) rfl wz ?_))))))))))))
        obtain ⟨r_59, hr_60, hc_54⟩ := bind_some hc_54
        refine h_call0 (screen_Meet_ok hr_60) rfl hb21 rfl rfl rfl rfl wz (h_op (.tup [(.d (.agg (Rect.enc r_59.1))), (vB r_59.2.1), (vI r_59.2.2)]) wz rfl (h_op (.d (.agg (Rect.enc r_59.1))) wz rfl (h_op (vB r_59.2.1) wz rfl (h_op (vI r_59.2.2) wz rfl (h_alloc 0 (.inl rfl) z45 rfl wz (fun n_61 => h_str 0 il ft 5 sz45 rfl rfl [(vI r_59.1.X), (vI r_59.1.Y), (vI r_59.1.W), (vI r_59.1.H)] rfl wz (h_op (vB r_59.2.1) wz rfl (h_op (vI r_59.2.2) wz rfl (h_nil (wH_seq (wH_seq (wH_region (h_op (vI r_59.2.2) wz rfl (h_op (vB (r_59.2.2 != 0)) wz rfl (h_nil ?_)))))))))))))))
        rcases cond_some hc_54 with ⟨hc_62, hc_54⟩ | ⟨hc_62, hc_54⟩
        ·refine wH_ift rfl hc_62 (wH_seq (wH_region (h_op (vB false) wz rfl (h_nil ?_))))
         obtain rfl := some_inj hc_54
         obtain rfl := some_inj hL_55
         obtain rfl := some_inj hF
         exact wH_ret (fin0 (.inr rfl) [(vB false)] ⟨rfl, trivial⟩ rfl rfl rfl)
        ·refine wH_iff rfl hc_62 (wH_skip (wH_seq (wH_region (h_op (vB r_59.2.1) wz rfl (h_nil ?_)))))
         obtain ⟨v_63, h_64, hc_54⟩ := bind_some hc_54
         refine wH_join (β := Unit) (fun _ => ([(10, (vI v_63)), (13, (.ref n_40 0 0)), (132, (vL Rect.enc r_13.1)), (133, (vI (r_13.1.length : Int))), (134, (vI (k_48 : Int)))] : List (Nat × V))) (fun _ => ([(n_2, some (.cells 2 [(vL eI r_6.2.L), (vI r_6.2.f_at)])), (n_9, some (.cells 4 [(vS r_3.1.Key), (vI r_3.1.W), (vI r_3.1.H), (vL Screen.enc r_3.1.Screens)])), (n_10, some (.cells 4 [(vI r_6.1.X), (vI r_6.1.Y), (vI r_6.1.W), (vI r_6.1.H)])), (n_40, some (.cells 4 [(vI r_38.1.X), (vI r_38.1.Y), (vI r_38.1.W), (vI r_38.1.H)])), (n_58, some (.cells 4 [(vI x_50.X), (vI x_50.Y), (vI x_50.W), (vI x_50.H)])), (n_61, some (.cells 4 [(vI r_59.1.X), (vI r_59.1.Y), (vI r_59.1.W), (vI r_59.1.H)]))] : Hp)) (fun _ => True) ?_ ?_
         ·rcases cond_some h_64 with ⟨hc_65, h_64⟩ | ⟨hc_65, h_64⟩
          ·refine wH_ift rfl hc_65 (wH_region (h_op (vI s_53) wz rfl (h_far pl45_2 rfl 2 rfl wz (h_ldr 0 5 il ft sz3 ag3 rfl rfl (vI r_59.1.W) rfl wz (h_far pl45_3 rfl 3 rfl wz (h_ldr 0 5 il ft sz3 ag3 rfl rfl (vI r_59.1.H) rfl wz (h_op (vI (w64 (r_59.1.W * r_59.1.H))) wz rfl (h_op (vI (w64 (s_53 + (w64 (r_59.1.W * r_59.1.H))))) wz rfl (h_op (vI (w64 (s_53 + (w64 (r_59.1.W * r_59.1.H))))) wz rfl (h_nil ?_))))))))))
           obtain rfl := some_inj h_64
           exact cu
          ·refine wH_iff rfl hc_65 (wH_skip ?_)
           obtain rfl := some_inj h_64
           exact cu
         ·rintro ⟨⟩ _ sl_ H_ hp_ hq_
          refine wH_at _ hp_ hq_ (wH_region (h_opw (w64_next hD_51 hn_52) wz rfl (h_op (vI ((k_48 + 1 : Nat) : Int)) wz rfl (h_nil ?_))))
          obtain rfl := some_inj hc_54
          exact loop_mk (k_48 + 1, l_49, v_63) ⟨hL_55, drop_next hD_51⟩ (Nat.lt_succ_self _) rfl (pre_r rfl)
      ·rintro s_53 ho_ sl_ H_ hp_ hq_
       subst ho_
       refine wH_at _ hp_ hq_ (wH_seq ?_)
       obtain ⟨v_66, h_67, hF⟩ := bind_some hF
       refine wH_join (β := Unit) (fun _ => ([(2, (vB v_66))] : List (Nat × V))) (fun _ => ([(n_2, some (.cells 2 [(vL eI r_6.2.L), (vI r_6.2.f_at)])), (n_9, some (.cells 4 [(vS r_3.1.Key), (vI r_3.1.W), (vI r_3.1.H), (vL Screen.enc r_3.1.Screens)])), (n_10, some (.cells 4 [(vI r_6.1.X), (vI r_6.1.Y), (vI r_6.1.W), (vI r_6.1.H)])), (n_40, some (.cells 4 [(vI r_38.1.X), (vI r_38.1.Y), (vI r_38.1.W), (vI r_38.1.H)]))] : Hp)) (fun _ => True) ?_ ?_
       ·refine wH_region (h_op (vI s_53) wz rfl (h_far pl45_2 rfl 2 rfl wz (h_ldr 0 3 il ft sz3 ag3 rfl rfl (vI r_38.1.W) rfl wz (h_far pl45_3 rfl 3 rfl wz (h_ldr 0 3 il ft sz3 ag3 rfl rfl (vI r_38.1.H) rfl wz (h_op (vI (w64 (r_38.1.W * r_38.1.H))) wz rfl (h_op (vB (s_53 == (w64 (r_38.1.W * r_38.1.H)))) wz rfl ?_)))))))
        rcases cond_some h_67 with ⟨hc_68, h_67⟩ | ⟨hc_68, h_67⟩
        ·refine h_movb rfl hc_68 wz ?_
         obtain ⟨r_69, hr_70, h_67⟩ := bind_some h_67
         refine h_call0 (keep_ready_ok hr_70) rfl hb16 rfl rfl rfl rfl wa (h_op (vB r_69) wz rfl (h_op (vB r_69) wz rfl (h_nil ?_)))
         obtain rfl := some_inj h_67
         exact cu
        ·refine h_movb rfl hc_68 wz (h_skip wa (h_op (vB false) wz rfl (h_op (vB false) wz rfl (h_nil ?_))))
         obtain rfl := some_inj h_67
         exact cu
       ·rintro ⟨⟩ _ sl_ H_ hp_ hq_
        refine wH_at _ hp_ hq_ ?_
        obtain rfl := some_inj hF
        exact wH_ret (fin0 (.inr rfl) [(vB v_66)] ⟨rfl, trivial⟩ rfl rfl rfl)
end Go.Proofs.YtpojeclokolkaaaGreatDoor.Law

