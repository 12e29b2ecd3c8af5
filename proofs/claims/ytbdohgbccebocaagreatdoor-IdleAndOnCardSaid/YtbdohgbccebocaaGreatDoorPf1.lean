/-
 The machine computes these plain functions (written by a program of ours).
-/
import Derived.Test.YtbdohgbccebocaaGreatDoorFacts
import Derived.Test.YtbdohgbccebocaaGreatDoorDefs
open Go Go.Eng Go.Proofs
namespace Go.Proofs.YtbdohgbccebocaaGreatDoor.Law
set_option maxRecDepth 100000
set_option linter.unusedVariables false
set_option maxHeartbeats 1000000
theorem mk_Below_ok {x_1 : Int} {n_2 : Int} {r : Int} (hF : mk_Below x_1 n_2 = some r) :
  FnM Tryz.prog 128 [(vI x_1), (vI n_2)] [] (vI r) [] := by
 refine FnM.of_wH ⟨Tryz.prog, 16, [], []⟩ rfl Tryz.func128 rfl rfl (Nat.le_of_ble_eq_true rfl) (by kernel_rfl) ?_
 unfold mk_Below at hF
 refine wH_seq (wH_region (h_op (vI 0) wz rfl (h_nil (wH_seq (wH_seq (wH_region (h_op (vI n_2) wz rfl (h_op (vB (decide (n_2 < 1))) wz rfl (h_nil ?_)))))))))
 rcases cond_some hF with ⟨hc_3, hF⟩ | ⟨hc_3, hF⟩
 ·refine wH_ift rfl hc_3 (wH_seq (wH_region (h_op (vI 0) wz rfl (h_nil ?_))))
  obtain rfl := some_inj hF
  exact wH_ret (fin0 (.inr rfl) [(vI 0)] ⟨rfl, trivial⟩ rfl rfl rfl)
 ·refine wH_iff rfl hc_3 (wH_skip (wH_seq (wH_region (h_op (vI x_1) wz rfl (h_op (vI n_2) wz rfl ?_)))))
  obtain ⟨q_4, hz_5, hF⟩ := bind_some hF
  refine h_rem rfl rfl hz_5 wz (h_op (vI q_4) wz rfl (h_nil (wH_seq (wH_seq (wH_region (h_op (vI q_4) wz rfl (h_op (vB (decide (q_4 < 0))) wz rfl (h_nil ?_))))))))
  obtain ⟨v_6, h_7, hF⟩ := bind_some hF
  refine wH_join (β := Unit) (fun _ => ([(0, (vI v_6))] : List (Nat × V))) (fun _ => ([] : Hp)) (fun _ => True) ?_ ?_
  ·rcases cond_some h_7 with ⟨hc_8, h_7⟩ | ⟨hc_8, h_7⟩
   ·refine wH_ift rfl hc_8 (wH_region (h_op (vI q_4) wz rfl (h_op (vI n_2) wz rfl (h_op (vI (w64 (q_4 + n_2))) wz rfl (h_op (vI (w64 (q_4 + n_2))) wz rfl (h_nil ?_))))))
    obtain rfl := some_inj h_7
    exact cut_mk () trivial rfl (pre_r rfl)
   ·refine wH_iff rfl hc_8 (wH_skip ?_)
    obtain rfl := some_inj h_7
    exact cut_mk () trivial rfl (pre_r rfl)
  ·rintro ⟨⟩ _ sl_ H_ hp_ hq_
   refine wH_at _ hp_ hq_ (wH_seq (wH_region (h_op (vI v_6) wz rfl (h_op (vI v_6) wz rfl (h_nil ?_)))))
   obtain rfl := some_inj hF
   exact wH_ret (fin0 (.inr rfl) [(vI v_6)] ⟨rfl, trivial⟩ rfl rfl rfl)
theorem mk_Stream_Next_ok {s_1 : Stream} {n_2 : Int} {r : Int × Stream} (hF : mk_Stream_Next s_1 n_2 = some r) :
  FnM Tryz.prog 70 [(.ref (extN 0) 0 0), (vI n_2)] [(.cells 2 [(vL eI s_1.L), (vI s_1.f_at)])] (vI r.1) [some (.cells 2 [(vL eI r.2.L), (vI r.2.f_at)])] := by
 refine FnM.of_wH ⟨Tryz.prog, 64, [], []⟩ rfl Tryz.func70 rfl rfl (Nat.le_of_ble_eq_true rfl) (by kernel_rfl) ?_
 unfold mk_Stream_Next at hF
 refine wH_seq (wH_region (h_op (vI 0) wz rfl (h_nil (wH_seq (wH_region (h_op (.ref (extN 0) 0 0) wz rfl (h_op (.ref (extN 0) 0 0) wz rfl (h_far pl25_1 rfl 1 rfl wz (h_ldr 0 0 il ft sz3 ag3 rfl rfl (vI s_1.f_at) rfl wz (h_op (vI (w64 (s_1.f_at + 1))) wz rfl (h_op (.ref (extN 0) 0 0) wz rfl (h_far pl25_1 rfl 1 rfl wz (h_str 0 il ft 0 sz3 rfl rfl [(vL eI s_1.L), (vI (w64 (s_1.f_at + 1)))] rfl wz (h_nil (wH_seq (wH_seq (wH_region (h_op (.ref (extN 0) 0 0) wz rfl (h_op (.ref (extN 0) 0 0) wz rfl (h_far pl25_0 rfl 0 rfl wz (h_ldr 0 0 il ft sz22 ag22 rfl rfl (vL eI s_1.L) rfl wz (h_len un22 rfl wz (h_op (vB ((s_1.L.length : Int) == 0)) wz rfl ?_)))))))))))))))))))))))
 refine h_nil ?_
 rcases cond_some hF with ⟨hc_3, hF⟩ | ⟨hc_3, hF⟩
 ·refine wH_ift rfl hc_3 (wH_seq (wH_region (h_op (.ref (extN 0) 0 0) wz rfl (h_op (.ref (extN 0) 0 0) wz rfl (h_far pl25_1 rfl 1 rfl wz (h_ldr 0 0 il ft sz3 ag3 rfl rfl (vI (w64 (s_1.f_at + 1))) rfl wz (h_op (vI (w64 ((w64 (s_1.f_at + 1)) * 7919))) wz rfl (h_op (vI n_2) wz rfl ?_))))))))
  obtain ⟨r_4, hr_5, hF⟩ := bind_some hF
  refine h_call0 (mk_Below_ok hr_5) rfl hb128 rfl rfl rfl rfl wz (h_op (vI r_4) wz rfl (h_nil ?_))
  obtain rfl := some_inj hF
  exact wH_ret (finB (.inr rfl) [(vI r_4)] _ [0] [extN 0] ⟨rfl, trivial⟩ (.cons (co_data rfl rfl) (.nil)) (by kernel_rfl) ⟨(by kernel_rfl), trivial⟩ (by decide) (by kernel_rfl))
 ·refine wH_iff rfl hc_3 (wH_skip (wH_seq (wH_draws (h_op (.ref (extN 0) 0 0) wz rfl (h_op (.ref (extN 0) 0 0) wz rfl (h_far pl25_1 rfl 1 rfl wz (h_ldr 3 0 (.inr (by kernel_rfl)) (fun _ _ ag => trivial) sz3 ag3 rfl rfl (vI (w64 (s_1.f_at + 1))) rfl wz (h_op (vI (w64 ((w64 (s_1.f_at + 1)) - 1))) wz rfl (h_op (.ref (extN 0) 0 0) wz rfl (h_op (.ref (extN 0) 0 0) wz rfl (h_far pl25_0 rfl 0 rfl wz (h_ldr 8 0 (.inr (by kernel_rfl)) (fun _ _ ag => ⟨.inl ⟨rfl, rfl⟩, trivial⟩) sz22 ag22 rfl rfl (vL eI s_1.L) rfl wz (h_len un22 rfl wz ?_)))))))))))))
  obtain ⟨q_6, hz_7, hF⟩ := bind_some hF
  refine h_rem rfl rfl hz_7 wz (h_op (vI q_6) wz rfl (h_nil (wH_seq (wH_draws (h_op (.ref (extN 0) 0 0) wz rfl (h_op (.ref (extN 0) 0 0) wz rfl (h_far pl25_1 rfl 1 rfl wz (h_ldr 3 0 (.inr (by kernel_rfl)) (fun _ _ ag => trivial) sz3 ag3 rfl rfl (vI (w64 (s_1.f_at + 1))) rfl wz (h_op (vI (w64 ((w64 (s_1.f_at + 1)) - 1))) wz rfl (h_op (.ref (extN 0) 0 0) wz rfl (h_op (.ref (extN 0) 0 0) wz rfl (h_far pl25_0 rfl 0 rfl wz (h_ldr 8 0 (.inr (by kernel_rfl)) (fun _ _ ag => ⟨.inl ⟨rfl, rfl⟩, trivial⟩) sz22 ag22 rfl rfl (vL eI s_1.L) rfl wz (h_len un22 rfl wz ?_))))))))))))))
  obtain ⟨q_8, hz_9, hF⟩ := bind_some hF
  refine h_quo rfl rfl hz_9 wz (h_op (vI q_8) wz rfl (h_nil (wH_at (H0 := ([((extN 0), some (.cells 2 [(vL eI s_1.L), (vI (w64 (s_1.f_at + 1)))]))] : Hp)) ([(0, (.ref (extN 0) 0 0)), (1, (vI n_2)), (5, (vI q_6)), (6, (vI q_8))] : List (Nat × V)) (by kernel_rfl) (pre_mk (by kernel_rfl)) (wH_seq (wH_region (h_op (.ref (extN 0) 0 0) wz rfl (h_op (.ref (extN 0) 0 0) wz rfl (h_far pl25_0 rfl 0 rfl wz (h_ldr 0 0 il ft sz22 ag22 rfl rfl (vL eI s_1.L) rfl wz (h_op (vI q_6) wz rfl ?_))))))))))
  obtain ⟨y_10, hy_11, hF⟩ := bind_some hF
  refine h_ia es22 rfl rfl hy_11 rfl wz (h_ldc sz3 ag3 rfl (vI y_10) rfl wz ?_)
  obtain ⟨r_12, hr_13, hF⟩ := bind_some hF
  refine h_call0 (mk_Below_ok hr_13) rfl hb128 rfl rfl rfl rfl wz (h_op (vI q_8) wz rfl (h_op (vI q_6) wz rfl (h_op (vI (w64 (7919 + q_6))) wz rfl (h_op (vI (w64 (q_8 * (w64 (7919 + q_6))))) wz rfl (h_op (vI (w64 (r_12 + (w64 (q_8 * (w64 (7919 + q_6))))))) wz rfl (h_op (vI n_2) wz rfl ?_))))))
  obtain ⟨r_14, hr_15, hF⟩ := bind_some hF
  refine h_call0 (mk_Below_ok hr_15) rfl hb128 rfl rfl rfl rfl wz (h_op (vI r_14) wz rfl (h_nil ?_))
  obtain rfl := some_inj hF
  exact wH_ret (finB (.inr rfl) [(vI r_14)] _ [0] [extN 0] ⟨rfl, trivial⟩ (.cons (co_data rfl rfl) (.nil)) (by kernel_rfl) ⟨(by kernel_rfl), trivial⟩ (by decide) (by kernel_rfl))
theorem mk_Stream_Pick_ok {s_1 : Stream} {l_2 : (List Int)} {r : Int × Stream} (hF : mk_Stream_Pick s_1 l_2 = some r) :
  FnM Tryz.prog 55 [(.ref (extN 0) 0 0), (vL eI l_2)] [(.cells 2 [(vL eI s_1.L), (vI s_1.f_at)])] (vI r.1) [some (.cells 2 [(vL eI r.2.L), (vI r.2.f_at)])] := by
 refine FnM.of_wH ⟨Tryz.prog, 12, [], []⟩ rfl Tryz.func55 rfl rfl (Nat.le_of_ble_eq_true rfl) (by kernel_rfl) ?_
 unfold mk_Stream_Pick at hF
 refine wH_seq (wH_region (h_op (vI 0) wz rfl (h_nil (wH_seq (wH_region (h_op (vL eI l_2) wz rfl (h_op (.ref (extN 0) 0 0) wz rfl (h_op (vL eI l_2) wz rfl (h_len un22 rfl wz ?_)))))))))
 obtain ⟨r_3, hr_4, hF⟩ := bind_some hF
 refine h_callq 0 [0] il ft (mk_Stream_Next_ok hr_4) rfl hb70 rfl (by kernel_rfl) (by kernel_rfl) (by kernel_rfl) (by kernel_rfl) (by kernel_rfl) (by kernel_rfl) (by kernel_rfl) (by decide) (by kernel_rfl) wz (vI r_3.1) (by kernel_rfl) ([((extN 0), some (.cells 2 [(vL eI r_3.2.L), (vI r_3.2.f_at)]))] : Hp) (by kernel_rfl) ?_
 obtain ⟨y_6, hy_7, hF⟩ := bind_some hF
 refine h_ia es22 rfl rfl hy_7 rfl wz (h_ldc sz3 ag3 rfl (vI y_6) rfl wz (h_op (vI y_6) wz rfl (h_nil ?_)))
 obtain rfl := some_inj hF
 exact wH_ret (finB (.inr rfl) [(vI y_6)] _ [0] [extN 0] ⟨rfl, trivial⟩ (.cons (co_data rfl rfl) (.nil)) (by kernel_rfl) ⟨(by kernel_rfl), trivial⟩ (by decide) (by kernel_rfl))
theorem mk_Stream_Range_ok {s_1 : Stream} {low_2 : Int} {high_3 : Int} {r : Int × Stream} (hF : mk_Stream_Range s_1 low_2 high_3 = some r) :
  FnM Tryz.prog 11 [(.ref (extN 0) 0 0), (vI low_2), (vI high_3)] [(.cells 2 [(vL eI s_1.L), (vI s_1.f_at)])] (vI r.1) [some (.cells 2 [(vL eI r.2.L), (vI r.2.f_at)])] := by
 refine FnM.of_wH ⟨Tryz.prog, 19, [], []⟩ rfl Tryz.func11 rfl rfl (Nat.le_of_ble_eq_true rfl) (by kernel_rfl) ?_
 unfold mk_Stream_Range at hF
 refine wH_seq (wH_region (h_op (vI 0) wz rfl (h_nil (wH_seq (wH_seq (wH_region (h_op (vI high_3) wz rfl (h_op (vI low_2) wz rfl (h_op (vB (decide (high_3 < low_2))) wz rfl (h_nil ?_))))))))))
 rcases cond_some hF with ⟨hc_4, hF⟩ | ⟨hc_4, hF⟩
 ·refine wH_ift rfl hc_4 (wH_seq (wH_region (h_op (vI low_2) wz rfl (h_op (vI low_2) wz rfl (h_nil ?_)))))
  obtain rfl := some_inj hF
  exact wH_ret (finB (.inr rfl) [(vI low_2)] _ [0] [extN 0] ⟨rfl, trivial⟩ (.cons (co_data rfl rfl) (.nil)) (by kernel_rfl) ⟨(by kernel_rfl), trivial⟩ (by decide) (by kernel_rfl))
 ·refine wH_iff rfl hc_4 (wH_skip (wH_seq (wH_region (h_op (vI low_2) wz rfl (h_op (.ref (extN 0) 0 0) wz rfl (h_op (vI high_3) wz rfl (h_op (vI low_2) wz rfl (h_op (vI (w64 (high_3 - low_2))) wz rfl (h_op (vI (w64 ((w64 (high_3 - low_2)) + 1))) wz rfl ?_)))))))))
  obtain ⟨r_5, hr_6, hF⟩ := bind_some hF
  refine h_callq 0 [0] il ft (mk_Stream_Next_ok hr_6) rfl hb70 rfl (by kernel_rfl) (by kernel_rfl) (by kernel_rfl) (by kernel_rfl) (by kernel_rfl) (by kernel_rfl) (by kernel_rfl) (by decide) (by kernel_rfl) wz (vI r_5.1) (by kernel_rfl) ([((extN 0), some (.cells 2 [(vL eI r_5.2.L), (vI r_5.2.f_at)]))] : Hp) (by kernel_rfl) (h_op (vI (w64 (low_2 + r_5.1))) wz rfl (h_op (vI (w64 (low_2 + r_5.1))) wz rfl (h_nil ?_)))
  obtain rfl := some_inj hF
  exact wH_ret (finB (.inr rfl) [(vI (w64 (low_2 + r_5.1)))] _ [0] [extN 0] ⟨rfl, trivial⟩ (.cons (co_data rfl rfl) (.nil)) (by kernel_rfl) ⟨(by kernel_rfl), trivial⟩ (by decide) (by kernel_rfl))
theorem mk_Stream_Some_ok {s_1 : Stream} {l_2 : (List ByteArray)} {r : ByteArray × Stream} (hF : mk_Stream_Some s_1 l_2 = some r) :
  FnM Tryz.prog 69 [(.ref (extN 0) 0 0), (vL eS l_2)] [(.cells 2 [(vL eI s_1.L), (vI s_1.f_at)])] (vS r.1) [some (.cells 2 [(vL eI r.2.L), (vI r.2.f_at)])] := by
 refine FnM.of_wH ⟨Tryz.prog, 12, [], []⟩ rfl Tryz.func69 rfl rfl (Nat.le_of_ble_eq_true rfl) (by kernel_rfl) ?_
 unfold mk_Stream_Some at hF
 refine wH_seq (wH_region (h_op (vS (⟨#[]⟩ : ByteArray)) wz rfl (h_nil (wH_seq (wH_region (h_op (vL eS l_2) wz rfl (h_op (.ref (extN 0) 0 0) wz rfl (h_op (vL eS l_2) wz rfl (h_len un56 rfl wz ?_)))))))))
 obtain ⟨r_3, hr_4, hF⟩ := bind_some hF
 refine h_callq 0 [0] il ft (mk_Stream_Next_ok hr_4) rfl hb70 rfl (by kernel_rfl) (by kernel_rfl) (by kernel_rfl) (by kernel_rfl) (by kernel_rfl) (by kernel_rfl) (by kernel_rfl) (by decide) (by kernel_rfl) wz (vI r_3.1) (by kernel_rfl) ([((extN 0), some (.cells 2 [(vL eI r_3.2.L), (vI r_3.2.f_at)]))] : Hp) (by kernel_rfl) ?_
 obtain ⟨y_6, hy_7, hF⟩ := bind_some hF
 refine h_ia es56 rfl rfl hy_7 rfl wz (h_ldc sz9 ag9 rfl (vS y_6) rfl wz (h_op (vS y_6) wz rfl (h_nil ?_)))
 obtain rfl := some_inj hF
 exact wH_ret (finB (.inr rfl) [(vS y_6)] _ [0] [extN 0] ⟨rfl, trivial⟩ (.cons (co_data rfl rfl) (.nil)) (by kernel_rfl) ⟨(by kernel_rfl), trivial⟩ (by decide) (by kernel_rfl))
theorem mk_Stream_RightPlays_ok {s_1 : Stream} {most_2 : Int} {r : (List Play) × Stream} (hF : mk_Stream_RightPlays s_1 most_2 = some r) :
  FnM Tryz.prog 10 [(.ref (extN 0) 0 0), (vI most_2)] [(.cells 2 [(vL eI s_1.L), (vI s_1.f_at)])] (vL Play.enc r.1) [some (.cells 2 [(vL eI r.2.L), (vI r.2.f_at)])] := by
 refine FnM.of_wH ⟨Tryz.prog, 45, [], []⟩ rfl Tryz.func10 rfl rfl (Nat.le_of_ble_eq_true rfl) (by kernel_rfl) ?_
 unfold mk_Stream_RightPlays at hF
 refine wH_seq (wH_region (h_op .nil wz rfl (h_nil (wH_seq (wH_region (h_op .nil wz rfl (h_nil (wH_seq (wH_seq (wH_region (h_lit (([(⟨#[112, 97]⟩ : ByteArray), (⟨#[112, 98]⟩ : ByteArray)] : List ByteArray).map eS) es56 ez56 rfl rfl rfl rfl rfl wz (h_len un56 rfl wz (h_op (vI 0) wz rfl (h_nil (wH_new (fun n_9 => ?_))))))))))))))))
 obtain ⟨o_14, hj_15, hF⟩ := bind_some hF
 obtain ⟨hn_7, hj_15⟩ := forL_some hj_15
 refine wH_join (β := ((List Play) × (List Int) × Int) × Nm) (fun p => (fun (s_8 : (List Play) × (List Int) × Int) (n_11 : Nm) => ([(5, (gV n_11 4 s_8.1))] : List (Nat × V))) p.1 p.2) (fun p => (fun (s_8 : (List Play) × (List Int) × Int) (n_11 : Nm) => ([((extN 0), some (.cells 2 [(vL eI s_8.2.1), (vI s_8.2.2)])), (n_11, gB 4 Play.enc s_8.1)] : Hp)) p.1 p.2) (fun p => o_14 = .go p.1) ?_ ?_
 ·refine wH_block (wH_loop (β := Nat × (List ByteArray) × ((List Play) × (List Int) × Int) × Nm) (fun p => (fun (k_3 : Nat) (l_4 : List ByteArray) (s_8 : (List Play) × (List Int) × Int) (n_11 : Nm) => ([(0, (.ref (extN 0) 0 0)), (1, (vI most_2)), (5, (gV n_11 4 s_8.1)), (10, (vL eS ([(⟨#[112, 97]⟩ : ByteArray), (⟨#[112, 98]⟩ : ByteArray)] : List ByteArray))), (11, (vI (([(⟨#[112, 97]⟩ : ByteArray), (⟨#[112, 98]⟩ : ByteArray)] : List ByteArray).length : Int))), (12, (vI (k_3 : Int)))] : List (Nat × V))) p.1 p.2.1 p.2.2.1 p.2.2.2) (fun p => (fun (k_3 : Nat) (l_4 : List ByteArray) (s_8 : (List Play) × (List Int) × Int) (n_11 : Nm) => ([((extN 0), some (.cells 2 [(vL eI s_8.2.1), (vI s_8.2.2)])), (n_11, gB 4 Play.enc s_8.1)] : Hp)) p.1 p.2.1 p.2.2.1 p.2.2.2) (fun p => forR (fun k x s => mk_Stream_RightPlays_L2 most_2 k x s) p.2.1 p.1 p.2.2.1 = some o_14 ∧ (([(⟨#[112, 97]⟩ : ByteArray), (⟨#[112, 98]⟩ : ByteArray)] : List ByteArray)).drop p.1 = p.2.1) (fun p => p.2.1.length) (0, ([(⟨#[112, 97]⟩ : ByteArray), (⟨#[112, 98]⟩ : ByteArray)] : List ByteArray), (([] : List Play), s_1.L, s_1.f_at), n_9) ⟨hj_15, rfl⟩ rfl (pre_r rfl) ?_)
  rintro ⟨k_3, l_4, s_8, n_11⟩ ⟨hL_13, hD_6⟩
  dsimp only at hL_13 hD_6
  cases l_4 with
  | nil =>
   obtain rfl := some_inj hL_13
   refine wH_seq (wH_region (h_op (vB (decide ((k_3 : Int) < (([(⟨#[112, 97]⟩ : ByteArray), (⟨#[112, 98]⟩ : ByteArray)] : List ByteArray).length : Int)))) wz rfl (h_nil ?_)))
   refine wH_seq (wH_iff rfl (drop_nil hD_6) (wH_exit ?_))
   exact cut_mk (s_8, n_11) rfl rfl (pre_r rfl)
  | cons x_5 l_4 =>
   obtain ⟨c_, hc_12, hL_13⟩ := bind_some hL_13
   refine wH_seq (wH_region (h_op (vB (decide ((k_3 : Int) < (([(⟨#[112, 97]⟩ : ByteArray), (⟨#[112, 98]⟩ : ByteArray)] : List ByteArray).length : Int)))) wz rfl (h_nil ?_)))
   refine wH_seq (wH_ift rfl (drop_cons hD_6) (wH_skip ?_))
   unfold mk_Stream_RightPlays_L2 at hc_12
   refine wH_seq (wH_block (wH_seq (wH_region (h_ia es56 rfl rfl (drop_idx hD_6) rfl wz (h_ldc sz9 ag9 rfl (vS x_5) rfl wz (h_op (vS x_5) wz rfl (h_nil (wH_seq (wH_region (h_op (.ref (extN 0) 0 0) wz rfl (h_lit (([0, 5, 86399990] : List Int).map eI) es22 ez22 rfl rfl rfl rfl rfl wz ?_)))))))))))
   obtain ⟨r_16, hr_17, hc_12⟩ := bind_some hc_12
   refine h_callq 0 [0] il ft (mk_Stream_Pick_ok hr_17) rfl hb55 rfl (by kernel_rfl) (by kernel_rfl) (by kernel_rfl) (by kernel_rfl) (by kernel_rfl) (by kernel_rfl) (by kernel_rfl) (by decide) (by kernel_rfl) wz (vI r_16.1) (by kernel_rfl) ([((extN 0), some (.cells 2 [(vL eI r_16.2.L), (vI r_16.2.f_at)])), (n_11, gB 4 Play.enc s_8.1)] : Hp) (by kernel_rfl) (h_op (vI r_16.1) wz rfl (h_nil (wH_seq (wH_region (h_op (.ref (extN 0) 0 0) wz rfl (h_op (vI most_2) wz rfl ?_))))))
   obtain ⟨r_19, hr_20, hc_12⟩ := bind_some hc_12
   refine h_callq 0 [0] il ft (mk_Stream_Range_ok hr_20) rfl hb11 rfl (by kernel_rfl) (by kernel_rfl) (by kernel_rfl) (by kernel_rfl) (by kernel_rfl) (by kernel_rfl) (by kernel_rfl) (by decide) (by kernel_rfl) wz (vI r_19.1) (by kernel_rfl) ([((extN 0), some (.cells 2 [(vL eI r_19.2.L), (vI r_19.2.f_at)])), (n_11, gB 4 Play.enc s_8.1)] : Hp) (by kernel_rfl) (h_op (vI 0) wz rfl (h_nil ?_))
   obtain ⟨o_32, hj_33, hc_12⟩ := bind_some hc_12
   obtain ⟨hn_26, hj_33⟩ := forL_some hj_33
   refine wH_join (β := ((List Play) × Int × (List Int) × Int) × Nm) (fun p => (fun (s_27 : (List Play) × Int × (List Int) × Int) (n_29 : Nm) => ([(0, (.ref (extN 0) 0 0)), (1, (vI most_2)), (5, (gV n_29 4 s_27.1)), (10, (vL eS ([(⟨#[112, 97]⟩ : ByteArray), (⟨#[112, 98]⟩ : ByteArray)] : List ByteArray))), (11, (vI (([(⟨#[112, 97]⟩ : ByteArray), (⟨#[112, 98]⟩ : ByteArray)] : List ByteArray).length : Int))), (12, (vI (k_3 : Int)))] : List (Nat × V))) p.1 p.2) (fun p => (fun (s_27 : (List Play) × Int × (List Int) × Int) (n_29 : Nm) => ([((extN 0), some (.cells 2 [(vL eI s_27.2.2.1), (vI s_27.2.2.2)])), (n_29, gB 4 Play.enc s_27.1)] : Hp)) p.1 p.2) (fun p => o_32 = .go p.1) ?_ ?_
   ·refine wH_block (wH_loop (β := Nat × (List Nat) × ((List Play) × Int × (List Int) × Int) × Nm) (fun p => (fun (k_22 : Nat) (l_23 : List Nat) (s_27 : (List Play) × Int × (List Int) × Int) (n_29 : Nm) => ([(0, (.ref (extN 0) 0 0)), (1, (vI most_2)), (5, (gV n_29 4 s_27.1)), (7, (vS x_5)), (8, (vI s_27.2.1)), (10, (vL eS ([(⟨#[112, 97]⟩ : ByteArray), (⟨#[112, 98]⟩ : ByteArray)] : List ByteArray))), (11, (vI (([(⟨#[112, 97]⟩ : ByteArray), (⟨#[112, 98]⟩ : ByteArray)] : List ByteArray).length : Int))), (12, (vI (k_3 : Int))), (21, (vI r_19.1)), (22, (vI (k_22 : Int)))] : List (Nat × V))) p.1 p.2.1 p.2.2.1 p.2.2.2) (fun p => (fun (k_22 : Nat) (l_23 : List Nat) (s_27 : (List Play) × Int × (List Int) × Int) (n_29 : Nm) => ([((extN 0), some (.cells 2 [(vL eI s_27.2.2.1), (vI s_27.2.2.2)])), (n_29, gB 4 Play.enc s_27.1)] : Hp)) p.1 p.2.1 p.2.2.1 p.2.2.2) (fun p => forR (fun k x s => mk_Stream_RightPlays_L1 x_5 k x s) p.2.1 p.1 p.2.2.1 = some o_32 ∧ ((List.range (r_19.1).toNat)).drop p.1 = p.2.1) (fun p => p.2.1.length) (0, (List.range (r_19.1).toNat), (s_8.1, r_16.1, r_19.2.L, r_19.2.f_at), n_11) ⟨hj_33, rfl⟩ rfl (pre_r rfl) ?_)
    rintro ⟨k_22, l_23, s_27, n_29⟩ ⟨hL_31, hD_25⟩
    dsimp only at hL_31 hD_25
    cases l_23 with
    | nil =>
     obtain rfl := some_inj hL_31
     refine wH_seq (wH_region (h_op (vB (decide ((k_22 : Int) < r_19.1))) wz rfl (h_nil ?_)))
     refine wH_seq (wH_iff rfl (range_nil hD_25) (wH_exit ?_))
     exact cut_mk (s_27, n_29) rfl rfl (pre_r rfl)
    | cons x_24 l_23 =>
     obtain ⟨c_, hc_30, hL_31⟩ := bind_some hL_31
     refine wH_seq (wH_region (h_op (vB (decide ((k_22 : Int) < r_19.1))) wz rfl (h_nil ?_)))
     refine wH_seq (wH_ift rfl (range_cons hD_25) (wH_skip ?_))
     unfold mk_Stream_RightPlays_L1 at hc_30
     refine wH_seq (wH_block (wH_seq (wH_region (h_op (vS x_5) wz rfl (h_op (.ref (extN 0) 0 0) wz rfl (h_lit (([(⟨#[105, 97]⟩ : ByteArray), (⟨#[105, 98]⟩ : ByteArray)] : List ByteArray).map eS) es56 ez56 rfl rfl rfl rfl rfl wz ?_))))))
     obtain ⟨r_34, hr_35, hc_30⟩ := bind_some hc_30
     refine h_callq 0 [0] il ft (mk_Stream_Some_ok hr_35) rfl hb69 rfl (by kernel_rfl) (by kernel_rfl) (by kernel_rfl) (by kernel_rfl) (by kernel_rfl) (by kernel_rfl) (by kernel_rfl) (by decide) (by kernel_rfl) wz (vS r_34.1) (by kernel_rfl) ([((extN 0), some (.cells 2 [(vL eI r_34.2.L), (vI r_34.2.f_at)])), (n_29, gB 4 Play.enc s_27.1)] : Hp) (by kernel_rfl) (h_op (vI s_27.2.1) wz rfl (h_op (.ref (extN 0) 0 0) wz rfl (h_lit (([1, 5, 10, 20] : List Int).map eI) es22 ez22 rfl rfl rfl rfl rfl wz ?_)))
     obtain ⟨r_37, hr_38, hc_30⟩ := bind_some hc_30
     refine h_callq 0 [0] il ft (mk_Stream_Pick_ok hr_38) rfl hb55 rfl (by kernel_rfl) (by kernel_rfl) (by kernel_rfl) (by kernel_rfl) (by kernel_rfl) (by kernel_rfl) (by kernel_rfl) (by decide) (by kernel_rfl) wz (vI r_37.1) (by kernel_rfl) ([((extN 0), some (.cells 2 [(vL eI r_37.2.L), (vI r_37.2.f_at)])), (n_29, gB 4 Play.enc s_27.1)] : Hp) (by kernel_rfl) (h_op (.d (.agg (Play.enc (⟨x_5, r_34.1, s_27.2.1, r_37.1⟩ : Play)))) wz (by kernel_rfl) (h_alloc 0 (.inl rfl) z37 rfl wz (fun n_40 => h_str 0 il ft 2 sz37 rfl rfl [(vS x_5), (vS r_34.1), (vI s_27.2.1), (vI r_37.1)] rfl wz (h_nil (wH_seq (wH_region (h_op (vI s_27.2.1) wz rfl (h_op (.ref (extN 0) 0 0) wz rfl (h_lit (([1, 5, 10, 30] : List Int).map eI) es22 ez22 rfl rfl rfl rfl rfl wz ?_)))))))))
     obtain ⟨r_41, hr_42, hc_30⟩ := bind_some hc_30
     refine h_callq 0 [0] il ft (mk_Stream_Pick_ok hr_42) rfl hb55 rfl (by kernel_rfl) (by kernel_rfl) (by kernel_rfl) (by kernel_rfl) (by kernel_rfl) (by kernel_rfl) (by kernel_rfl) (by decide) (by kernel_rfl) wz (vI r_41.1) (by kernel_rfl) ([((extN 0), some (.cells 2 [(vL eI r_41.2.L), (vI r_41.2.f_at)])), (n_29, gB 4 Play.enc s_27.1), (n_40, some (.cells 4 [(vS x_5), (vS r_34.1), (vI s_27.2.1), (vI r_37.1)]))] : Hp) (by kernel_rfl) (h_op (vI (w64 (s_27.2.1 + r_41.1))) wz rfl (h_op (vI (w64 (s_27.2.1 + r_41.1))) wz rfl (h_nil (wH_region (h_op (gV n_29 4 s_27.1) wz rfl (h_ldr 0 2 il ft sz37 ag37 rfl rfl (.d (.agg (Play.enc (⟨x_5, r_34.1, s_27.2.1, r_37.1⟩ : Play)))) rfl wz (h_lit (([(⟨x_5, r_34.1, s_27.2.1, r_37.1⟩ : Play)] : List Play).map Play.enc) es26 ez26 rfl rfl rfl rfl rfl wz ?_)))))))
     obtain ⟨a_44, hz_45, hc_30⟩ := bind_some hc_30
     refine h_appg 0 il ft (i := 1) el26 el26 sz37 z37 rfl (by decide) by37 (by decide) (fun _ => rfl) rfl rfl rfl hz_45 wz (fun n_46 => h_op (gV n_46 4 a_44) wz rfl (h_nil (wH_region (h_opw (w64_nextr hD_25 hn_26) wz rfl (h_op (vI ((k_22 + 1 : Nat) : Int)) wz rfl (h_nil ?_))))))
     obtain rfl := some_inj hc_30
     exact loop_mk (k_22 + 1, l_23, (a_44, (w64 (s_27.2.1 + r_41.1)), r_41.2.L, r_41.2.f_at), n_46) ⟨hL_31, drop_next hD_25⟩ (Nat.lt_succ_self _) rfl (pre_r rfl)
   ·rintro ⟨s_27, n_29⟩ ho_ sl_ H_ hp_ hq_
    subst ho_
    refine wH_at _ hp_ hq_ (wH_region (h_opw (w64_next hD_6 hn_7) wz rfl (h_op (vI ((k_3 + 1 : Nat) : Int)) wz rfl (h_nil ?_))))
    obtain rfl := some_inj hc_12
    exact loop_mk (k_3 + 1, l_4, (s_27.1, s_27.2.2.1, s_27.2.2.2), n_29) ⟨hL_13, drop_next hD_6⟩ (Nat.lt_succ_self _) rfl (pre_r rfl)
 ·rintro ⟨s_8, n_11⟩ ho_ sl_ H_ hp_ hq_
  subst ho_
  refine wH_at _ hp_ hq_ (wH_seq (wH_region (h_op (gV n_11 4 s_8.1) wz rfl (h_op (gV n_11 4 s_8.1) wz rfl (h_nil (wH_frozg 1 rfl (wH_cog 4 1 rfl rfl (wH_cog 5 1 rfl rfl (wH_cog 44 1 rfl rfl ?_)))))))))
  obtain rfl := some_inj hF
  exact wH_ret (finB (.inr rfl) [(vL Play.enc s_8.1)] _ [0] [extN 0] ⟨rfl, trivial⟩ (.cons (co_data rfl rfl) (.nil)) (by kernel_rfl) ⟨(by kernel_rfl), trivial⟩ (by decide) (by kernel_rfl))
theorem kit_IsKey_ok {s_1 : ByteArray} {r : Bool} (hF : kit_IsKey s_1 = some r) :
  FnM Tryz.prog 72 [(vS s_1)] [] (vB r) [] := by
 refine FnM.of_wH ⟨Tryz.prog, 48, [], []⟩ rfl Tryz.func72 rfl rfl (Nat.le_of_ble_eq_true rfl) (by kernel_rfl) ?_
 unfold kit_IsKey at hF
 refine wH_seq (wH_region (h_op (vB false) wz rfl (h_nil (wH_seq (wH_seq (wH_region (h_op (vI 0) wz rfl (h_nil ?_))))))))
 obtain ⟨o_10, hj_11, hF⟩ := bind_some hF
 obtain ⟨nq_33, hj_11⟩ := loopO_iter hj_11
 refine wH_join (β := (Int)) (fun (s_7 : Int) => ([(0, (vS s_1))] : List (Nat × V))) (fun (s_7 : Int) => ([] : Hp)) (fun p => o_10 = .go p) ?_ ?_
 ·refine wH_block (wH_loop (β := Nat × (Int)) (fun p => (fun (k_2 : Nat) (s_7 : Int) => ([(0, (vS s_1)), (3, (vI s_7))] : List (Nat × V))) p.1 p.2) (fun p => (fun (k_2 : Nat) (s_7 : Int) => ([] : Hp)) p.1 p.2) (fun p => iterN (fun s => kit_IsKey_L1 s_1 s) p.1 p.2 = some o_10) (fun p => p.1) (nq_33, 0) hj_11 rfl (pre_r rfl) ?_)
  rintro ⟨k_2, s_7⟩ hL_9
  dsimp only at hL_9
  cases k_2 with
  | zero => cases hL_9
  | succ k_2 =>
   obtain ⟨c_, hc_8, hL_9⟩ := bind_some hL_9
   unfold kit_IsKey_L1 at hc_8
   refine wH_seq (wH_seq (wH_region (h_op (vI s_7) wz rfl (h_op (vS s_1) wz rfl (h_lens un9 rfl wz (h_op (vB (decide (s_7 < (s_1.size : Int)))) wz rfl (h_nil ?_)))))))
   rcases cond_some hc_8 with ⟨hc_12, hc_8⟩ | ⟨hc_12, hc_8⟩
   ·refine wH_ift rfl hc_12 (wH_skip (wH_seq (wH_block (wH_seq (wH_region (h_op (vS s_1) wz rfl (h_op (vI s_7) wz rfl ?_)))))))
    obtain ⟨b_13, hy_14, hc_8⟩ := bind_some hc_8
    refine h_idxs un9 rfl rfl hy_14 wz (h_op (.d (.int .u8 (b_13.toNat : Int))) wz rfl (h_nil (wH_seq ?_)))
    obtain ⟨v_15, h_16, hc_8⟩ := bind_some hc_8
    refine wH_join (β := Unit) (fun _ => ([(0, (vS s_1)), (3, (vI s_7)), (40, (vB v_15))] : List (Nat × V))) (fun _ => ([] : Hp)) (fun _ => True) ?_ ?_
    ·refine wH_region (h_op (.d (.int .u8 (b_13.toNat : Int))) wz rfl (h_op (vB (decide ((b_13.toNat : Int) ≥ 97))) wz rfl ?_))
     rcases cond_some h_16 with ⟨hc_17, h_16⟩ | ⟨hc_17, h_16⟩
     ·refine h_movb rfl hc_17 wz (h_op (.d (.int .u8 (b_13.toNat : Int))) (wg rfl rfl rfl) rfl (h_op (vB (decide ((b_13.toNat : Int) ≤ 122))) (wg rfl rfl rfl) rfl (h_op (vB (decide ((b_13.toNat : Int) ≤ 122))) wz rfl ?_)))
      rcases cond_some h_16 with ⟨hc_18, h_16⟩ | ⟨hc_18, h_16⟩
      ·refine h_movb rfl hc_18 wz (h_skip (wg rfl rfl rfl) (h_skip (wg rfl rfl rfl) (h_skip (wg rfl rfl rfl) (h_skip (wn rfl rfl) (h_skip (wn rfl rfl) (h_skip (wn rfl rfl) (h_skip (wn rfl rfl) (h_skip (wn rfl rfl) (h_skip (wn rfl rfl) (h_skip (wn rfl rfl) (h_skip (wn rfl rfl) (h_skip (wn rfl rfl) (h_skip (wn rfl rfl) (h_skip (wn rfl rfl) (h_skip (wn rfl rfl) (h_skip (wn rfl rfl) (h_skip (wn rfl rfl) (h_skip (wg rfl rfl rfl) (h_op (vB true) wz rfl (h_op (vB false) wz rfl (h_nil ?_)))))))))))))))))))))
       obtain rfl := some_inj h_16
       exact cut_mk () trivial rfl (pre_r rfl)
      ·refine h_movb rfl hc_18 wz (h_op (vI s_7) (wg rfl rfl rfl) rfl (h_op (vB (decide (s_7 > 0))) (wg rfl rfl rfl) rfl ?_))
       rcases cond_some h_16 with ⟨hc_19, h_16⟩ | ⟨hc_19, h_16⟩
       ·refine h_movb rfl hc_19 (wg rfl rfl rfl) (h_op (.d (.int .u8 (b_13.toNat : Int))) (wg rfl rfl rfl) rfl (h_op (vB (decide ((b_13.toNat : Int) ≥ 48))) (wg rfl rfl rfl) rfl ?_))
        rcases cond_some h_16 with ⟨hc_20, h_16⟩ | ⟨hc_20, h_16⟩
        ·refine h_movb rfl hc_20 (wg rfl rfl rfl) (h_op (.d (.int .u8 (b_13.toNat : Int))) (wg rfl rfl rfl) rfl (h_op (vB (decide ((b_13.toNat : Int) ≤ 57))) (wg rfl rfl rfl) rfl (h_op (vB (decide ((b_13.toNat : Int) ≤ 57))) (wg rfl rfl rfl) rfl ?_)))
         rcases cond_some h_16 with ⟨hc_21, h_16⟩ | ⟨hc_21, h_16⟩
         ·refine h_movb rfl hc_21 (wg rfl rfl rfl) (h_skip (wg rfl rfl rfl) (h_skip (wg rfl rfl rfl) (h_op (vB true) (wg rfl rfl rfl) rfl (h_op (vB true) (wg rfl rfl rfl) rfl (h_skip (wg rfl rfl rfl) (h_skip (wg rfl rfl rfl) (h_op (vB true) (wg rfl rfl rfl) rfl (h_op (vB true) (wg rfl rfl rfl) rfl (h_op (vB true) wz rfl (h_op (vB false) wz rfl (h_nil ?_)))))))))))
          obtain rfl := some_inj h_16
          exact cut_mk () trivial rfl (pre_r rfl)
         ·refine h_movb rfl hc_21 (wg rfl rfl rfl) (h_op (.d (.int .u8 (b_13.toNat : Int))) (wg rfl rfl rfl) rfl (h_op (vB ((b_13.toNat : Int) == 45)) (wg rfl rfl rfl) rfl (h_op (vB ((b_13.toNat : Int) == 45)) (wg rfl rfl rfl) rfl ?_)))
          rcases cond_some h_16 with ⟨hc_22, h_16⟩ | ⟨hc_22, h_16⟩
          ·refine h_movb rfl hc_22 (wg rfl rfl rfl) (h_skip (wg rfl rfl rfl) (h_skip (wg rfl rfl rfl) (h_op (vB true) (wg rfl rfl rfl) rfl (h_op (vB true) (wg rfl rfl rfl) rfl (h_op (vB true) wz rfl (h_op (vB false) wz rfl (h_nil ?_)))))))
           obtain rfl := some_inj h_16
           exact cut_mk () trivial rfl (pre_r rfl)
          ·refine h_movb rfl hc_22 (wg rfl rfl rfl) (h_op (.d (.int .u8 (b_13.toNat : Int))) (wg rfl rfl rfl) rfl (h_op (vB ((b_13.toNat : Int) == 95)) (wg rfl rfl rfl) rfl (h_op (vB ((b_13.toNat : Int) == 95)) (wg rfl rfl rfl) rfl (h_op (vB ((b_13.toNat : Int) == 95)) (wg rfl rfl rfl) rfl (h_op (vB ((b_13.toNat : Int) == 95)) wz rfl (h_op (vB (!((b_13.toNat : Int) == 95))) wz rfl (h_nil ?_)))))))
           obtain rfl := some_inj h_16
           exact cut_mk () trivial rfl (pre_r rfl)
        ·refine h_movb rfl hc_20 (wg rfl rfl rfl) (h_skip (wg rfl rfl rfl) (h_skip (wg rfl rfl rfl) (h_op (vB false) (wg rfl rfl rfl) rfl (h_op (vB false) (wg rfl rfl rfl) rfl (h_op (.d (.int .u8 (b_13.toNat : Int))) (wg rfl rfl rfl) rfl (h_op (vB ((b_13.toNat : Int) == 45)) (wg rfl rfl rfl) rfl (h_op (vB ((b_13.toNat : Int) == 45)) (wg rfl rfl rfl) rfl ?_)))))))
         rcases cond_some h_16 with ⟨hc_23, h_16⟩ | ⟨hc_23, h_16⟩
         ·refine h_movb rfl hc_23 (wg rfl rfl rfl) (h_skip (wg rfl rfl rfl) (h_skip (wg rfl rfl rfl) (h_op (vB true) (wg rfl rfl rfl) rfl (h_op (vB true) (wg rfl rfl rfl) rfl (h_op (vB true) wz rfl (h_op (vB false) wz rfl (h_nil ?_)))))))
          obtain rfl := some_inj h_16
          exact cut_mk () trivial rfl (pre_r rfl)
         ·refine h_movb rfl hc_23 (wg rfl rfl rfl) (h_op (.d (.int .u8 (b_13.toNat : Int))) (wg rfl rfl rfl) rfl (h_op (vB ((b_13.toNat : Int) == 95)) (wg rfl rfl rfl) rfl (h_op (vB ((b_13.toNat : Int) == 95)) (wg rfl rfl rfl) rfl (h_op (vB ((b_13.toNat : Int) == 95)) (wg rfl rfl rfl) rfl (h_op (vB ((b_13.toNat : Int) == 95)) wz rfl (h_op (vB (!((b_13.toNat : Int) == 95))) wz rfl (h_nil ?_)))))))
          obtain rfl := some_inj h_16
          exact cut_mk () trivial rfl (pre_r rfl)
       ·refine h_movb rfl hc_19 (wg rfl rfl rfl) (h_skip (wg rfl rfl rfl) (h_skip (wg rfl rfl rfl) (h_skip (wg rfl rfl rfl) (h_skip (wn rfl rfl) (h_skip (wn rfl rfl) (h_skip (wg rfl rfl rfl) (h_skip (wg rfl rfl rfl) (h_skip (wn rfl rfl) (h_skip (wn rfl rfl) (h_skip (wg rfl rfl rfl) (h_skip (wg rfl rfl rfl) (h_skip (wn rfl rfl) (h_skip (wn rfl rfl) (h_skip (wg rfl rfl rfl) (h_op (vB false) (wg rfl rfl rfl) rfl (h_op (vB false) wz rfl (h_op (vB true) wz rfl (h_nil ?_))))))))))))))))))
        obtain rfl := some_inj h_16
        exact cut_mk () trivial rfl (pre_r rfl)
     ·refine h_movb rfl hc_17 wz (h_skip (wg rfl rfl rfl) (h_skip (wg rfl rfl rfl) (h_op (vB false) wz rfl (h_op (vB false) wz rfl (h_op (vI s_7) (wg rfl rfl rfl) rfl (h_op (vB (decide (s_7 > 0))) (wg rfl rfl rfl) rfl ?_))))))
      rcases cond_some h_16 with ⟨hc_24, h_16⟩ | ⟨hc_24, h_16⟩
      ·refine h_movb rfl hc_24 (wg rfl rfl rfl) (h_op (.d (.int .u8 (b_13.toNat : Int))) (wg rfl rfl rfl) rfl (h_op (vB (decide ((b_13.toNat : Int) ≥ 48))) (wg rfl rfl rfl) rfl ?_))
       rcases cond_some h_16 with ⟨hc_25, h_16⟩ | ⟨hc_25, h_16⟩
       ·refine h_movb rfl hc_25 (wg rfl rfl rfl) (h_op (.d (.int .u8 (b_13.toNat : Int))) (wg rfl rfl rfl) rfl (h_op (vB (decide ((b_13.toNat : Int) ≤ 57))) (wg rfl rfl rfl) rfl (h_op (vB (decide ((b_13.toNat : Int) ≤ 57))) (wg rfl rfl rfl) rfl ?_)))
        rcases cond_some h_16 with ⟨hc_26, h_16⟩ | ⟨hc_26, h_16⟩
        ·refine h_movb rfl hc_26 (wg rfl rfl rfl) (h_skip (wg rfl rfl rfl) (h_skip (wg rfl rfl rfl) (h_op (vB true) (wg rfl rfl rfl) rfl (h_op (vB true) (wg rfl rfl rfl) rfl (h_skip (wg rfl rfl rfl) (h_skip (wg rfl rfl rfl) (h_op (vB true) (wg rfl rfl rfl) rfl (h_op (vB true) (wg rfl rfl rfl) rfl (h_op (vB true) wz rfl (h_op (vB false) wz rfl (h_nil ?_)))))))))))
         obtain rfl := some_inj h_16
         exact cut_mk () trivial rfl (pre_r rfl)
        ·refine h_movb rfl hc_26 (wg rfl rfl rfl) (h_op (.d (.int .u8 (b_13.toNat : Int))) (wg rfl rfl rfl) rfl (h_op (vB ((b_13.toNat : Int) == 45)) (wg rfl rfl rfl) rfl (h_op (vB ((b_13.toNat : Int) == 45)) (wg rfl rfl rfl) rfl ?_)))
         rcases cond_some h_16 with ⟨hc_27, h_16⟩ | ⟨hc_27, h_16⟩
         ·refine h_movb rfl hc_27 (wg rfl rfl rfl) (h_skip (wg rfl rfl rfl) (h_skip (wg rfl rfl rfl) (h_op (vB true) (wg rfl rfl rfl) rfl (h_op (vB true) (wg rfl rfl rfl) rfl (h_op (vB true) wz rfl (h_op (vB false) wz rfl (h_nil ?_)))))))
          obtain rfl := some_inj h_16
          exact cut_mk () trivial rfl (pre_r rfl)
         ·refine h_movb rfl hc_27 (wg rfl rfl rfl) (h_op (.d (.int .u8 (b_13.toNat : Int))) (wg rfl rfl rfl) rfl (h_op (vB ((b_13.toNat : Int) == 95)) (wg rfl rfl rfl) rfl (h_op (vB ((b_13.toNat : Int) == 95)) (wg rfl rfl rfl) rfl (h_op (vB ((b_13.toNat : Int) == 95)) (wg rfl rfl rfl) rfl (h_op (vB ((b_13.toNat : Int) == 95)) wz rfl (h_op (vB (!((b_13.toNat : Int) == 95))) wz rfl (h_nil ?_)))))))
          obtain rfl := some_inj h_16
          exact cut_mk () trivial rfl (pre_r rfl)
       ·refine h_movb rfl hc_25 (wg rfl rfl rfl) (h_skip (wg rfl rfl rfl) (h_skip (wg rfl rfl rfl) (h_op (vB false) (wg rfl rfl rfl) rfl (h_op (vB false) (wg rfl rfl rfl) rfl (h_op (.d (.int .u8 (b_13.toNat : Int))) (wg rfl rfl rfl) rfl (h_op (vB ((b_13.toNat : Int) == 45)) (wg rfl rfl rfl) rfl (h_op (vB ((b_13.toNat : Int) == 45)) (wg rfl rfl rfl) rfl ?_)))))))
        rcases cond_some h_16 with ⟨hc_28, h_16⟩ | ⟨hc_28, h_16⟩
        ·refine h_movb rfl hc_28 (wg rfl rfl rfl) (h_skip (wg rfl rfl rfl) (h_skip (wg rfl rfl rfl) (h_op (vB true) (wg rfl rfl rfl) rfl (h_op (vB true) (wg rfl rfl rfl) rfl (h_op (vB true) wz rfl (h_op (vB false) wz rfl (h_nil ?_)))))))
         obtain rfl := some_inj h_16
         exact cut_mk () trivial rfl (pre_r rfl)
        ·refine h_movb rfl hc_28 (wg rfl rfl rfl) (h_op (.d (.int .u8 (b_13.toNat : Int))) (wg rfl rfl rfl) rfl (h_op (vB ((b_13.toNat : Int) == 95)) (wg rfl rfl rfl) rfl (h_op (vB ((b_13.toNat : Int) == 95)) (wg rfl rfl rfl) rfl (h_op (vB ((b_13.toNat : Int) == 95)) (wg rfl rfl rfl) rfl (h_op (vB ((b_13.toNat : Int) == 95)) wz rfl (h_op (vB (!((b_13.toNat : Int) == 95))) wz rfl (h_nil ?_)))))))
         obtain rfl := some_inj h_16
         exact cut_mk () trivial rfl (pre_r rfl)
      ·refine h_movb rfl hc_24 (wg rfl rfl rfl) (h_skip (wg rfl rfl rfl) (h_skip (wg rfl rfl rfl) (h_skip (wg rfl rfl rfl) (h_skip (wn rfl rfl) (h_skip (wn rfl rfl) (h_skip (wg rfl rfl rfl) (h_skip (wg rfl rfl rfl) (h_skip (wn rfl rfl) (h_skip (wn rfl rfl) (h_skip (wg rfl rfl rfl) (h_skip (wg rfl rfl rfl) (h_skip (wn rfl rfl) (h_skip (wn rfl rfl) (h_skip (wg rfl rfl rfl) (h_op (vB false) (wg rfl rfl rfl) rfl (h_op (vB false) wz rfl (h_op (vB true) wz rfl (h_nil ?_))))))))))))))))))
       obtain rfl := some_inj h_16
       exact cut_mk () trivial rfl (pre_r rfl)
    ·rintro ⟨⟩ _ sl_ H_ hp_ hq_
     refine wH_at _ hp_ hq_ ?_
     rcases cond_some hc_8 with ⟨hc_29, hc_8⟩ | ⟨hc_29, hc_8⟩
     ·refine wH_ift rfl hc_29 (wH_seq (wH_region (h_op (vB false) wz rfl (h_nil ?_))))
      obtain rfl := some_inj hc_8
      obtain rfl := some_inj hL_9
      obtain rfl := some_inj hF
      exact wH_ret (fin0 (.inr rfl) [(vB false)] ⟨rfl, trivial⟩ rfl rfl rfl)
     ·refine wH_iff rfl hc_29 (wH_skip (wH_region (h_op (vI s_7) wz rfl (h_op (vI (w64 (s_7 + 1))) wz rfl (h_op (vI (w64 (s_7 + 1))) wz rfl (h_nil ?_))))))
      obtain rfl := some_inj hc_8
      exact loop_mk (k_2, (w64 (s_7 + 1))) hL_9 (Nat.lt_succ_self _) rfl (pre_r rfl)
   ·refine wH_iff rfl hc_12 (wH_exit ?_)
    obtain rfl := some_inj hc_8
    obtain rfl := some_inj hL_9
    exact cut_mk (s_7) rfl rfl (pre_r rfl)
 ·rintro s_7 ho_ sl_ H_ hp_ hq_
  subst ho_
  refine wH_at _ hp_ hq_ (wH_seq ?_)
  obtain ⟨v_30, h_31, hF⟩ := bind_some hF
  refine wH_join (β := Unit) (fun _ => ([(2, (vB v_30))] : List (Nat × V))) (fun _ => ([] : Hp)) (fun _ => True) ?_ ?_
  ·refine wH_region (h_op (vS s_1) wz rfl (h_op (vB (sNe s_1 (⟨#[]⟩ : ByteArray))) wz rfl ?_))
   rcases cond_some h_31 with ⟨hc_32, h_31⟩ | ⟨hc_32, h_31⟩
   ·refine h_movb rfl hc_32 wz (h_op (vS s_1) (wg rfl rfl rfl) rfl (h_lens un9 rfl (wg rfl rfl rfl) (h_op (vB (decide ((s_1.size : Int) ≤ 40))) (wg rfl rfl rfl) rfl (h_op (vB (decide ((s_1.size : Int) ≤ 40))) wz rfl (h_op (vB (decide ((s_1.size : Int) ≤ 40))) wz rfl (h_nil ?_))))))
    obtain rfl := some_inj h_31
    exact cut_mk () trivial rfl (pre_r rfl)
   ·refine h_movb rfl hc_32 wz (h_skip (wg rfl rfl rfl) (h_skip (wg rfl rfl rfl) (h_skip (wg rfl rfl rfl) (h_op (vB false) wz rfl (h_op (vB false) wz rfl (h_nil ?_))))))
    obtain rfl := some_inj h_31
    exact cut_mk () trivial rfl (pre_r rfl)
  ·rintro ⟨⟩ _ sl_ H_ hp_ hq_
   refine wH_at _ hp_ hq_ ?_
   obtain rfl := some_inj hF
   exact wH_ret (fin0 (.inr rfl) [(vB v_30)] ⟨rfl, trivial⟩ rfl rfl rfl)
theorem kit_IsMoment_ok {n_1 : Int} {r : Bool} (hF : kit_IsMoment n_1 = some r) :
  FnM Tryz.prog 85 [(vI n_1)] [] (vB r) [] := by
 refine FnM.of_wH ⟨Tryz.prog, 9, [], []⟩ rfl Tryz.func85 rfl rfl (Nat.le_of_ble_eq_true rfl) (by kernel_rfl) ?_
 unfold kit_IsMoment at hF
 refine wH_seq (wH_region (h_op (vB false) wz rfl (h_nil (wH_seq ?_))))
 obtain ⟨v_2, h_3, hF⟩ := bind_some hF
 refine wH_join (β := Unit) (fun _ => ([(2, (vB v_2))] : List (Nat × V))) (fun _ => ([] : Hp)) (fun _ => True) ?_ ?_
 ·refine wH_region (h_op (vI n_1) wz rfl (h_op (vB (decide (n_1 ≥ 0))) wz rfl ?_))
  rcases cond_some h_3 with ⟨hc_4, h_3⟩ | ⟨hc_4, h_3⟩
  ·refine h_movb rfl hc_4 wz (h_op (vI n_1) (wg rfl rfl rfl) rfl (h_op (vB (decide (n_1 < 345686400000))) (wg rfl rfl rfl) rfl (h_op (vB (decide (n_1 < 345686400000))) wz rfl (h_op (vB (decide (n_1 < 345686400000))) wz rfl (h_nil ?_)))))
   obtain rfl := some_inj h_3
   exact cut_mk () trivial rfl (pre_r rfl)
  ·refine h_movb rfl hc_4 wz (h_skip (wg rfl rfl rfl) (h_skip (wg rfl rfl rfl) (h_op (vB false) wz rfl (h_op (vB false) wz rfl (h_nil ?_)))))
   obtain rfl := some_inj h_3
   exact cut_mk () trivial rfl (pre_r rfl)
 ·rintro ⟨⟩ _ sl_ H_ hp_ hq_
  refine wH_at _ hp_ hq_ ?_
  obtain rfl := some_inj hF
  exact wH_ret (fin0 (.inr rfl) [(vB v_2)] ⟨rfl, trivial⟩ rfl rfl rfl)
theorem kit_Outside_ok {n_1 : Int} {low_2 : Int} {high_3 : Int} {r : Bool} (hF : kit_Outside n_1 low_2 high_3 = some r) :
  FnM Tryz.prog 73 [(vI n_1), (vI low_2), (vI high_3)] [] (vB r) [] := by
 refine FnM.of_wH ⟨Tryz.prog, 15, [], []⟩ rfl Tryz.func73 rfl rfl (Nat.le_of_ble_eq_true rfl) (by kernel_rfl) ?_
 unfold kit_Outside at hF
 refine wH_seq (wH_region (h_op (vB false) wz rfl (h_nil (wH_seq ?_))))
 obtain ⟨v_4, h_5, hF⟩ := bind_some hF
 refine wH_join (β := Unit) (fun _ => ([(6, (vB v_4))] : List (Nat × V))) (fun _ => ([] : Hp)) (fun _ => True) ?_ ?_
 ·refine wH_region (h_op (vI n_1) wz rfl (h_op (vI low_2) wz rfl (h_op (vB (decide (n_1 < low_2))) wz rfl ?_)))
  rcases cond_some h_5 with ⟨hc_6, h_5⟩ | ⟨hc_6, h_5⟩
  ·refine h_movb rfl hc_6 wz (h_skip (wg rfl rfl rfl) (h_skip (wg rfl rfl rfl) (h_skip (wg rfl rfl rfl) (h_op (vB true) wz rfl (h_op (vB true) wz rfl (h_nil ?_))))))
   obtain rfl := some_inj h_5
   exact cut_mk () trivial rfl (pre_r rfl)
  ·refine h_movb rfl hc_6 wz (h_op (vI n_1) (wg rfl rfl rfl) rfl (h_op (vI high_3) (wg rfl rfl rfl) rfl (h_op (vB (decide (n_1 > high_3))) (wg rfl rfl rfl) rfl (h_op (vB (decide (n_1 > high_3))) wz rfl (h_op (vB (decide (n_1 > high_3))) wz rfl (h_nil ?_))))))
   obtain rfl := some_inj h_5
   exact cut_mk () trivial rfl (pre_r rfl)
 ·rintro ⟨⟩ _ sl_ H_ hp_ hq_
  refine wH_at _ hp_ hq_ ?_
  obtain rfl := some_inj hF
  exact wH_ret (fin0 (.inr rfl) [(vB v_4)] ⟨rfl, trivial⟩ rfl rfl rfl)
theorem internal_bytealg_CompareString_ok {a_1 : ByteArray} {b_2 : ByteArray} {r : Int} (hF : internal_bytealg_CompareString a_1 b_2 = some r) :
  FnM Tryz.prog 143 [(vS a_1), (vS b_2)] [] (vI r) [] := by
 refine FnM.of_wH ⟨Tryz.prog, 8, [], []⟩ rfl Tryz.func143 rfl rfl (Nat.le_of_ble_eq_true rfl) (by kernel_rfl) ?_
 unfold internal_bytealg_CompareString at hF
 refine wH_seq (wH_region (h_op (vI 0) wz rfl (h_nil (wH_seq (wH_region (h_op (vS a_1) wz rfl (h_op (vS b_2) wz rfl (h_ext (ext_cmpB (f := 199) Tryz.func199 rfl rfl (by kernel_rfl) (by kernel_rfl) _ _) rfl nb199 rfl wz (h_op (vI (cmpB a_1 b_2)) wz rfl (h_nil ?_))))))))))
 obtain rfl := some_inj hF
 exact wH_ret (fin0 (.inr rfl) [(vI (cmpB a_1 b_2))] ⟨rfl, trivial⟩ rfl rfl rfl)
theorem strings_Compare_ok {a_1 : ByteArray} {b_2 : ByteArray} {r : Int} (hF : strings_Compare a_1 b_2 = some r) :
  FnM Tryz.prog 92 [(vS a_1), (vS b_2)] [] (vI r) [] := by
 refine FnM.of_wH ⟨Tryz.prog, 8, [], []⟩ rfl Tryz.func92 rfl rfl (Nat.le_of_ble_eq_true rfl) (by kernel_rfl) ?_
 unfold strings_Compare at hF
 refine wH_seq (wH_region (h_op (vI 0) wz rfl (h_nil (wH_seq (wH_region (h_op (vS a_1) wz rfl (h_op (vS b_2) wz rfl ?_)))))))
 obtain ⟨r_3, hr_4, hF⟩ := bind_some hF
 refine h_call0 (internal_bytealg_CompareString_ok hr_4) rfl hb143 rfl rfl rfl rfl wz (h_op (vI r_3) wz rfl (h_nil ?_))
 obtain rfl := some_inj hF
 exact wH_ret (fin0 (.inr rfl) [(vI r_3)] ⟨rfl, trivial⟩ rfl rfl rfl)
theorem cmp_isNaN_int_ok {x_1 : Int} {r : Bool} (hF : cmp_isNaN_int x_1 = some r) :
  FnM Tryz.prog 216 [(vI x_1)] [] (vB r) [] := by
 refine FnM.of_wH ⟨Tryz.prog, 6, [], []⟩ rfl Tryz.func216 rfl rfl (Nat.le_of_ble_eq_true rfl) (by kernel_rfl) ?_
 unfold cmp_isNaN_int at hF
 refine wH_seq (wH_region (h_op (vB false) wz rfl (h_nil (wH_seq (wH_region (h_op (vI x_1) wz rfl (h_op (vI x_1) wz rfl (h_op (vB (x_1 != x_1)) wz rfl (h_op (vB (x_1 != x_1)) wz rfl (h_nil ?_))))))))))
 obtain rfl := some_inj hF
 exact wH_ret (fin0 (.inr rfl) [(vB (x_1 != x_1))] ⟨rfl, trivial⟩ rfl rfl rfl)
theorem cmp_Compare_int_ok {x_1 : Int} {y_2 : Int} {r : Int} (hF : cmp_Compare_int x_1 y_2 = some r) :
  FnM Tryz.prog 168 [(vI x_1), (vI y_2)] [] (vI r) [] := by
 refine FnM.of_wH ⟨Tryz.prog, 20, [], []⟩ rfl Tryz.func168 rfl rfl (Nat.le_of_ble_eq_true rfl) (by kernel_rfl) ?_
 unfold cmp_Compare_int at hF
 refine wH_seq (wH_region (h_op (vI 0) wz rfl (h_nil (wH_seq (wH_region (h_op (vI x_1) wz rfl ?_))))))
 obtain ⟨r_3, hr_4, hF⟩ := bind_some hF
 refine h_call0 (cmp_isNaN_int_ok hr_4) rfl hb216 rfl rfl rfl rfl wz (h_op (vB r_3) wz rfl (h_nil (wH_seq (wH_region (h_op (vI y_2) wz rfl ?_)))))
 obtain ⟨r_5, hr_6, hF⟩ := bind_some hF
 refine h_call0 (cmp_isNaN_int_ok hr_6) rfl hb216 rfl rfl rfl rfl wz (h_op (vB r_5) wz rfl (h_nil (wH_seq (wH_seq (wH_region (h_op (vB r_3) wz rfl (h_nil ?_)))))))
 rcases cond_some hF with ⟨hc_7, hF⟩ | ⟨hc_7, hF⟩
 ·refine wH_ift rfl hc_7 (wH_seq (wH_seq (wH_region (h_op (vB r_5) wz rfl (h_nil ?_)))))
  rcases cond_some hF with ⟨hc_8, hF⟩ | ⟨hc_8, hF⟩
  ·refine wH_ift rfl hc_8 (wH_seq (wH_region (h_op (vI 0) wz rfl (h_nil ?_))))
   obtain rfl := some_inj hF
   exact wH_ret (fin0 (.inr rfl) [(vI 0)] ⟨rfl, trivial⟩ rfl rfl rfl)
  ·refine wH_iff rfl hc_8 (wH_skip (wH_seq (wH_region (h_op (vI (-1)) wz rfl (h_nil ?_)))))
   obtain rfl := some_inj hF
   exact wH_ret (fin0 (.inr rfl) [(vI (-1))] ⟨rfl, trivial⟩ rfl rfl rfl)
 ·refine wH_iff rfl hc_7 (wH_skip (wH_seq (wH_seq (wH_region (h_op (vB r_5) wz rfl (h_nil ?_))))))
  rcases cond_some hF with ⟨hc_9, hF⟩ | ⟨hc_9, hF⟩
  ·refine wH_ift rfl hc_9 (wH_seq (wH_region (h_op (vI 1) wz rfl (h_nil ?_))))
   obtain rfl := some_inj hF
   exact wH_ret (fin0 (.inr rfl) [(vI 1)] ⟨rfl, trivial⟩ rfl rfl rfl)
  ·refine wH_iff rfl hc_9 (wH_skip (wH_seq (wH_seq (wH_region (h_op (vI x_1) wz rfl (h_op (vI y_2) wz rfl (h_op (vB (decide (x_1 < y_2))) wz rfl (h_nil ?_))))))))
   rcases cond_some hF with ⟨hc_10, hF⟩ | ⟨hc_10, hF⟩
   ·refine wH_ift rfl hc_10 (wH_seq (wH_region (h_op (vI (-1)) wz rfl (h_nil ?_))))
    obtain rfl := some_inj hF
    exact wH_ret (fin0 (.inr rfl) [(vI (-1))] ⟨rfl, trivial⟩ rfl rfl rfl)
   ·refine wH_iff rfl hc_10 (wH_skip (wH_seq (wH_seq (wH_region (h_op (vI x_1) wz rfl (h_op (vI y_2) wz rfl (h_op (vB (decide (x_1 > y_2))) wz rfl (h_nil ?_))))))))
    rcases cond_some hF with ⟨hc_11, hF⟩ | ⟨hc_11, hF⟩
    ·refine wH_ift rfl hc_11 (wH_seq (wH_region (h_op (vI 1) wz rfl (h_nil ?_))))
     obtain rfl := some_inj hF
     exact wH_ret (fin0 (.inr rfl) [(vI 1)] ⟨rfl, trivial⟩ rfl rfl rfl)
    ·refine wH_iff rfl hc_11 (wH_skip (wH_seq (wH_region (h_op (vI 0) wz rfl (h_nil ?_)))))
     obtain rfl := some_inj hF
     exact wH_ret (fin0 (.inr rfl) [(vI 0)] ⟨rfl, trivial⟩ rfl rfl rfl)
theorem cmp_Or_int_ok {vals_1 : (List Int)} {r : Int} (hF : cmp_Or_int vals_1 = some r) :
  FnM Tryz.prog 91 [(vL eI vals_1)] [] (vI r) [] := by
 refine FnM.of_wH ⟨Tryz.prog, 18, [], []⟩ rfl Tryz.func91 rfl rfl (Nat.le_of_ble_eq_true rfl) (by kernel_rfl) ?_
 unfold cmp_Or_int at hF
 refine wH_seq (wH_region (h_op (vI 0) wz rfl (h_nil (wH_seq (wH_region (h_op (vI 0) wz rfl (h_nil (wH_seq (wH_seq (wH_region (h_op (vL eI vals_1) wz rfl (h_len un22 rfl wz (h_op (vI 0) wz rfl (h_nil ?_))))))))))))))
 obtain ⟨o_10, hj_11, hF⟩ := bind_some hF
 obtain ⟨hn_6, hj_11⟩ := forL_some hj_11
 refine wH_join (β := (Unit)) (fun (s_7 : Unit) => ([(3, (vI 0))] : List (Nat × V))) (fun (s_7 : Unit) => ([] : Hp)) (fun p => o_10 = .go p) ?_ ?_
 ·refine wH_block (wH_loop (β := Nat × (List Int) × (Unit)) (fun p => (fun (k_2 : Nat) (l_3 : List Int) (s_7 : Unit) => ([(3, (vI 0)), (6, (vL eI vals_1)), (7, (vI (vals_1.length : Int))), (8, (vI (k_2 : Int)))] : List (Nat × V))) p.1 p.2.1 p.2.2) (fun p => (fun (k_2 : Nat) (l_3 : List Int) (s_7 : Unit) => ([] : Hp)) p.1 p.2.1 p.2.2) (fun p => forR (fun k x s => cmp_Or_int_L1 k x s) p.2.1 p.1 p.2.2 = some o_10 ∧ (vals_1).drop p.1 = p.2.1) (fun p => p.2.1.length) (0, vals_1, ()) ⟨hj_11, rfl⟩ rfl (pre_r rfl) ?_)
  rintro ⟨k_2, l_3, s_7⟩ ⟨hL_9, hD_5⟩
  dsimp only at hL_9 hD_5
  cases l_3 with
  | nil =>
   obtain rfl := some_inj hL_9
   refine wH_seq (wH_region (h_op (vB (decide ((k_2 : Int) < (vals_1.length : Int)))) wz rfl (h_nil ?_)))
   refine wH_seq (wH_iff rfl (drop_nil hD_5) (wH_exit ?_))
   exact cut_mk (s_7) rfl rfl (pre_r rfl)
  | cons x_4 l_3 =>
   obtain ⟨c_, hc_8, hL_9⟩ := bind_some hL_9
   refine wH_seq (wH_region (h_op (vB (decide ((k_2 : Int) < (vals_1.length : Int)))) wz rfl (h_nil ?_)))
   refine wH_seq (wH_ift rfl (drop_cons hD_5) (wH_skip ?_))
   unfold cmp_Or_int_L1 at hc_8
   refine wH_seq (wH_block (wH_seq (wH_region (h_ia es22 rfl rfl (drop_idx hD_5) rfl wz (h_ldc sz3 ag3 rfl (vI x_4) rfl wz (h_op (vI x_4) wz rfl (h_nil (wH_seq (wH_region (h_op (vI x_4) wz rfl (h_op (vI 0) wz rfl (h_op (vB (x_4 != 0)) wz rfl (h_nil ?_)))))))))))))
   rcases cond_some hc_8 with ⟨hc_12, hc_8⟩ | ⟨hc_12, hc_8⟩
   ·refine wH_ift rfl hc_12 (wH_seq (wH_region (h_op (vI x_4) wz rfl (h_op (vI x_4) wz rfl (h_nil ?_)))))
    obtain rfl := some_inj hc_8
    obtain rfl := some_inj hL_9
    obtain rfl := some_inj hF
    exact wH_ret (fin0 (.inr rfl) [(vI x_4)] ⟨rfl, trivial⟩ rfl rfl rfl)
   ·refine wH_iff rfl hc_12 (wH_skip (wH_region (h_opw (w64_next hD_5 hn_6) wz rfl (h_op (vI ((k_2 + 1 : Nat) : Int)) wz rfl (h_nil ?_)))))
    obtain rfl := some_inj hc_8
    exact loop_mk (k_2 + 1, l_3, ()) ⟨hL_9, drop_next hD_5⟩ (Nat.lt_succ_self _) rfl (pre_r rfl)
 ·rintro s_7 ho_ sl_ H_ hp_ hq_
  subst ho_
  refine wH_at _ hp_ hq_ (wH_seq (wH_region (h_op (vI 0) wz rfl (h_op (vI 0) wz rfl (h_nil ?_)))))
  obtain rfl := some_inj hF
  exact wH_ret (fin0 (.inr rfl) [(vI 0)] ⟨rfl, trivial⟩ rfl rfl rfl)
theorem proof_comparePlays_ok {a_1 : Play} {b_2 : Play} {r : Int} (hF : proof_comparePlays a_1 b_2 = some r) :
  FnM Tryz.prog 129 [(.d (.agg (Play.enc a_1))), (.d (.agg (Play.enc b_2)))] [] (vI r) [] := by
 refine FnM.of_wH ⟨Tryz.prog, 17, [], []⟩ rfl Tryz.func129 rfl rfl (Nat.le_of_ble_eq_true rfl) (by kernel_rfl) ?_
 unfold proof_comparePlays at hF
 refine wH_seq (wH_region (h_box 0 (.inl rfl) [(vS a_1.Player), (vS a_1.Item), (vI a_1.At), (vI a_1.Long)] rfl rfl wz (fun n_3 => h_box 0 (.inl rfl) [(vS b_2.Player), (vS b_2.Item), (vI b_2.At), (vI b_2.Long)] rfl rfl wz (fun n_4 => h_op (vI 0) wz rfl (h_nil (wH_seq (wH_draws (h_far pl37_0 rfl 0 rfl wz (h_ldr 1 0 (.inr (by kernel_rfl)) (fun _ _ ag => trivial) sz9 ag9 rfl rfl (vS a_1.Player) rfl wz (h_far pl37_0 rfl 0 rfl wz (h_ldr 3 1 (.inr (by kernel_rfl)) (fun _ _ ag => ⟨.inl ⟨rfl, rfl⟩, trivial⟩) sz9 ag9 rfl rfl (vS b_2.Player) rfl wz ?_)))))))))))
 obtain ⟨r_5, hr_6, hF⟩ := bind_some hF
 refine h_call0 (strings_Compare_ok hr_6) rfl hb92 rfl rfl rfl rfl wz (h_far pl37_2 rfl 2 rfl wz (h_ldr 6 0 (.inr (by kernel_rfl)) (fun _ _ ag => ⟨.inl ⟨rfl, rfl⟩, ⟨.inl ⟨rfl, rfl⟩, trivial⟩⟩) sz3 ag3 rfl rfl (vI a_1.At) rfl wz (h_far pl37_2 rfl 2 rfl wz (h_ldr 8 1 (.inr (by kernel_rfl)) (fun _ _ ag => ⟨.inl ⟨rfl, rfl⟩, ⟨.inl ⟨rfl, rfl⟩, ⟨.inl ⟨rfl, rfl⟩, trivial⟩⟩⟩) sz3 ag3 rfl rfl (vI b_2.At) rfl wz ?_))))
 obtain ⟨r_7, hr_8, hF⟩ := bind_some hF
 refine h_call0 (cmp_Compare_int_ok hr_8) rfl hb168 rfl rfl rfl rfl wz (h_lit (([r_5, r_7] : List Int).map eI) es22 ez22 rfl rfl rfl rfl rfl wz ?_)
 obtain ⟨r_9, hr_10, hF⟩ := bind_some hF
 refine h_call0 (cmp_Or_int_ok hr_10) rfl hb91 rfl rfl rfl rfl wz (h_op (vI r_9) wz rfl (h_nil ?_))
 obtain rfl := some_inj hF
 exact wH_ret (fin0 (.inr rfl) [(vI r_9)] ⟨rfl, trivial⟩ rfl rfl rfl)
theorem proof_CheckPlays_ok {l_1 : (List Play)} {r : Int} (hF : proof_CheckPlays l_1 = some r) :
  FnM Tryz.prog 71 [(vL Play.enc l_1)] [] (vI r) [] := by
 refine FnM.of_wH ⟨Tryz.prog, 50, [], []⟩ rfl Tryz.func71 rfl rfl (Nat.le_of_ble_eq_true rfl) (by kernel_rfl) ?_
 unfold proof_CheckPlays at hF
 refine wH_seq (wH_region (h_op (vI 0) wz rfl (h_nil (wH_seq (wH_seq (wH_region (h_op (vL Play.enc l_1) wz rfl (h_len un26 rfl wz (h_op (vB (decide ((l_1.length : Int) > 3000))) wz rfl (h_nil ?_))))))))))
 rcases cond_some hF with ⟨hc_2, hF⟩ | ⟨hc_2, hF⟩
 ·refine wH_ift rfl hc_2 (wH_seq (wH_region (h_op (vI 2) wz rfl (h_nil ?_))))
  obtain rfl := some_inj hF
  exact wH_ret (fin0 (.inr rfl) [(vI 2)] ⟨rfl, trivial⟩ rfl rfl rfl)
 ·refine wH_iff rfl hc_2 (wH_skip (wH_seq (wH_seq (wH_region (h_op (vL Play.enc l_1) wz rfl (h_len un26 rfl wz (h_op (vI 0) wz rfl (h_nil ?_))))))))
  obtain ⟨o_11, hj_12, hF⟩ := bind_some hF
  obtain ⟨hn_7, hj_12⟩ := forL_some hj_12
  refine wH_join (β := (Unit)) (fun (s_8 : Unit) => ([] : List (Nat × V))) (fun (s_8 : Unit) => ([] : Hp)) (fun p => o_11 = .go p) ?_ ?_
  ·refine wH_block (wH_loop (β := Nat × (List Play) × (Unit)) (fun p => (fun (k_3 : Nat) (l_4 : List Play) (s_8 : Unit) => ([(0, (vL Play.enc l_1)), (8, (vL Play.enc l_1)), (9, (vI (l_1.length : Int))), (10, (vI (k_3 : Int)))] : List (Nat × V))) p.1 p.2.1 p.2.2) (fun p => (fun (k_3 : Nat) (l_4 : List Play) (s_8 : Unit) => ([] : Hp)) p.1 p.2.1 p.2.2) (fun p => forR (fun k x s => proof_CheckPlays_L1 l_1 k x s) p.2.1 p.1 p.2.2 = some o_11 ∧ (l_1).drop p.1 = p.2.1) (fun p => p.2.1.length) (0, l_1, ()) ⟨hj_12, rfl⟩ rfl (pre_r rfl) ?_)
   rintro ⟨k_3, l_4, s_8⟩ ⟨hL_10, hD_6⟩
   dsimp only at hL_10 hD_6
   cases l_4 with
   | nil =>
    obtain rfl := some_inj hL_10
    refine wH_seq (wH_region (h_op (vB (decide ((k_3 : Int) < (l_1.length : Int)))) wz rfl (h_nil ?_)))
    refine wH_seq (wH_iff rfl (drop_nil hD_6) (wH_exit ?_))
    exact cut_mk (s_8) rfl rfl (pre_r rfl)
   | cons x_5 l_4 =>
    obtain ⟨c_, hc_9, hL_10⟩ := bind_some hL_10
    refine wH_seq (wH_region (h_op (vB (decide ((k_3 : Int) < (l_1.length : Int)))) wz rfl (h_nil ?_)))
    refine wH_seq (wH_ift rfl (drop_cons hD_6) (wH_skip ?_))
    unfold proof_CheckPlays_L1 at hc_9
    refine wH_seq (wH_block (wH_seq (wH_region (h_op (vI (k_3 : Int)) wz rfl (h_ia es26 rfl rfl (drop_idx hD_6) rfl wz (h_ldc sz37 ag37 rfl (.d (.agg (Play.enc x_5))) rfl wz (h_alloc 0 (.inl rfl) z37 rfl wz (fun n_13 => h_op (vI (k_3 : Int)) wz rfl (h_str 0 il ft 0 sz37 rfl rfl [(vS x_5.Player), (vS x_5.Item), (vI x_5.At), (vI x_5.Long)] rfl wz (h_nil (wH_block (wH_seq ?_))))))))))))
    obtain ⟨v_14, h_15, hc_9⟩ := bind_some hc_9
    refine wH_join (β := Unit) (fun _ => ([(0, (vL Play.enc l_1)), (3, (vI (k_3 : Int))), (4, (.ref n_13 0 0)), (8, (vL Play.enc l_1)), (9, (vI (l_1.length : Int))), (10, (vI (k_3 : Int))), (15, (vB v_14))] : List (Nat × V))) (fun _ => ([(n_13, some (.cells 4 [(vS x_5.Player), (vS x_5.Item), (vI x_5.At), (vI x_5.Long)]))] : Hp)) (fun _ => True) ?_ ?_
    ·refine wH_region (h_far pl37_0 rfl 0 rfl wz (h_ldr 0 0 il ft sz9 ag9 rfl rfl (vS x_5.Player) rfl wz ?_))
     obtain ⟨r_16, hr_17, h_15⟩ := bind_some h_15
     refine h_call0 (kit_IsKey_ok hr_17) rfl hb72 rfl rfl rfl rfl wz (h_op (vB (!r_16)) wz rfl ?_)
     rcases cond_some h_15 with ⟨hc_18, h_15⟩ | ⟨hc_18, h_15⟩
     ·refine h_movb rfl hc_18 wz (h_skip (wg rfl rfl rfl) (h_skip (wg rfl rfl rfl) (h_skip (wg rfl rfl rfl) (h_skip (wg rfl rfl rfl) (h_op (vB true) wz rfl (h_op (vB true) wz rfl (h_nil ?_)))))))
      obtain rfl := some_inj h_15
      exact cut_mk () trivial rfl (pre_r rfl)
     ·refine h_movb rfl hc_18 wz (h_far pl37_1 rfl 1 rfl (wg rfl rfl rfl) (h_ldr 0 0 il ft sz9 ag9 rfl rfl (vS x_5.Item) rfl (wg rfl rfl rfl) ?_))
      obtain ⟨r_19, hr_20, h_15⟩ := bind_some h_15
      refine h_call0 (kit_IsKey_ok hr_20) rfl hb72 rfl rfl rfl rfl (wg rfl rfl rfl) (h_op (vB (!r_19)) (wg rfl rfl rfl) rfl (h_op (vB (!r_19)) wz rfl (h_op (vB (!r_19)) wz rfl (h_nil ?_))))
      obtain rfl := some_inj h_15
      exact cut_mk () trivial rfl (pre_r rfl)
    ·rintro ⟨⟩ _ sl_ H_ hp_ hq_
     refine wH_at _ hp_ hq_ ?_
     rcases cond_some hc_9 with ⟨hc_21, hc_9⟩ | ⟨hc_21, hc_9⟩
     ·refine wH_ift rfl hc_21 (wH_seq (wH_region (h_op (vI 5) wz rfl (h_nil ?_))))
      obtain rfl := some_inj hc_9
      obtain rfl := some_inj hL_10
      obtain rfl := some_inj hF
      exact wH_ret (fin0 (.inr rfl) [(vI 5)] ⟨rfl, trivial⟩ rfl rfl rfl)
     ·refine wH_iff rfl hc_21 (wH_seq ?_)
      obtain ⟨v_22, h_23, hc_9⟩ := bind_some hc_9
      refine wH_join (β := Unit) (fun _ => ([(0, (vL Play.enc l_1)), (3, (vI (k_3 : Int))), (4, (.ref n_13 0 0)), (8, (vL Play.enc l_1)), (9, (vI (l_1.length : Int))), (10, (vI (k_3 : Int))), (26, (vB v_22))] : List (Nat × V))) (fun _ => ([(n_13, some (.cells 4 [(vS x_5.Player), (vS x_5.Item), (vI x_5.At), (vI x_5.Long)]))] : Hp)) (fun _ => True) ?_ ?_
      ·refine wH_region (h_far pl37_2 rfl 2 rfl wz (h_ldr 0 0 il ft sz3 ag3 rfl rfl (vI x_5.At) rfl wz ?_))
       obtain ⟨r_24, hr_25, h_23⟩ := bind_some h_23
       refine h_call0 (kit_IsMoment_ok hr_25) rfl hb85 rfl rfl rfl rfl wz (h_op (vB (!r_24)) wz rfl ?_)
       rcases cond_some h_23 with ⟨hc_26, h_23⟩ | ⟨hc_26, h_23⟩
       ·refine h_movb rfl hc_26 wz (h_skip (wg rfl rfl rfl) (h_skip (wg rfl rfl rfl) (h_skip (wg rfl rfl rfl) (h_op (vB true) wz rfl (h_op (vB true) wz rfl (h_nil ?_))))))
        obtain rfl := some_inj h_23
        exact cut_mk () trivial rfl (pre_r rfl)
       ·refine h_movb rfl hc_26 wz (h_far pl37_3 rfl 3 rfl (wg rfl rfl rfl) (h_ldr 0 0 il ft sz3 ag3 rfl rfl (vI x_5.Long) rfl (wg rfl rfl rfl) ?_))
        obtain ⟨r_27, hr_28, h_23⟩ := bind_some h_23
        refine h_call0 (kit_Outside_ok hr_28) rfl hb73 rfl rfl rfl rfl (wg rfl rfl rfl) (h_op (vB r_27) wz rfl (h_op (vB r_27) wz rfl (h_nil ?_)))
        obtain rfl := some_inj h_23
        exact cut_mk () trivial rfl (pre_r rfl)
      ·rintro ⟨⟩ _ sl_ H_ hp_ hq_
       refine wH_at _ hp_ hq_ ?_
       rcases cond_some hc_9 with ⟨hc_29, hc_9⟩ | ⟨hc_29, hc_9⟩
       ·refine wH_ift rfl hc_29 (wH_seq (wH_region (h_op (vI 1) wz rfl (h_nil ?_))))
        obtain rfl := some_inj hc_9
        obtain rfl := some_inj hL_10
        obtain rfl := some_inj hF
        exact wH_ret (fin0 (.inr rfl) [(vI 1)] ⟨rfl, trivial⟩ rfl rfl rfl)
       ·refine wH_iff rfl hc_29 (wH_seq ?_)
        obtain ⟨v_30, h_31, hc_9⟩ := bind_some hc_9
        refine wH_join (β := Unit) (fun _ => ([(0, (vL Play.enc l_1)), (8, (vL Play.enc l_1)), (9, (vI (l_1.length : Int))), (10, (vI (k_3 : Int))), (36, (vB v_30))] : List (Nat × V))) (fun _ => ([(n_13, some (.cells 4 [(vS x_5.Player), (vS x_5.Item), (vI x_5.At), (vI x_5.Long)]))] : Hp)) (fun _ => True) ?_ ?_
        ·refine wH_draws (h_op (vI (k_3 : Int)) wz rfl (h_op (vB (decide ((k_3 : Int) > 0))) wz rfl ?_))
         rcases cond_some h_31 with ⟨hc_32, h_31⟩ | ⟨hc_32, h_31⟩
         ·refine h_movb rfl hc_32 wz (h_op (vL Play.enc l_1) (wg rfl rfl rfl) rfl (h_op (vI (k_3 : Int)) (wg rfl rfl rfl) rfl (h_op (vI (w64 ((k_3 : Int) - 1))) (wg rfl rfl rfl) rfl ?_)))
          obtain ⟨y_33, hy_34, h_31⟩ := bind_some h_31
          refine h_ia es26 rfl rfl hy_34 rfl (wg rfl rfl rfl) (h_ldc sz37 ag37 rfl (.d (.agg (Play.enc y_33))) rfl (wg rfl rfl rfl) (h_ldr 8 0 (.inr (by kernel_rfl)) (fun _ _ ag => trivial) sz37 ag37 rfl rfl (.d (.agg (Play.enc x_5))) rfl (wg rfl rfl rfl) ?_))
          obtain ⟨r_35, hr_36, h_31⟩ := bind_some h_31
          refine h_call0 (proof_comparePlays_ok hr_36) rfl hb129 rfl rfl rfl rfl (wg rfl rfl rfl) (h_op (vB (decide (r_35 ≥ 0))) (wg rfl rfl rfl) rfl (h_op (vB (decide (r_35 ≥ 0))) wz rfl (h_op (vB (decide (r_35 ≥ 0))) wz rfl (h_nil ?_))))
          obtain rfl := some_inj h_31
          exact cut_mk () trivial rfl (pre_r rfl)
         ·refine h_movb rfl hc_32 wz (h_skip (wg rfl rfl rfl) (h_skip (wg rfl rfl rfl) (h_skip (wg rfl rfl rfl) (h_skip (wg rfl rfl rfl) (h_skip (wg rfl rfl rfl) (h_skip (wg rfl rfl rfl) (h_skip (wg rfl rfl rfl) (h_skip (wg rfl rfl rfl) (h_op (vB false) wz rfl (h_op (vB false) wz rfl (h_nil ?_)))))))))))
          obtain rfl := some_inj h_31
          exact cut_mk () trivial rfl (pre_r rfl)
        ·rintro ⟨⟩ _ sl_ H_ hp_ hq_
         refine wH_at _ hp_ hq_ ?_
         rcases cond_some hc_9 with ⟨hc_37, hc_9⟩ | ⟨hc_37, hc_9⟩
         ·refine wH_ift rfl hc_37 (wH_seq (wH_region (h_op (vI 7) wz rfl (h_nil ?_))))
          obtain rfl := some_inj hc_9
          obtain rfl := some_inj hL_10
          obtain rfl := some_inj hF
          exact wH_ret (fin0 (.inr rfl) [(vI 7)] ⟨rfl, trivial⟩ rfl rfl rfl)
         ·refine wH_iff rfl hc_37 (wH_skip (wH_region (h_opw (w64_next hD_6 hn_7) wz rfl (h_op (vI ((k_3 + 1 : Nat) : Int)) wz rfl (h_nil ?_)))))
          obtain rfl := some_inj hc_9
          exact loop_mk (k_3 + 1, l_4, ()) ⟨hL_10, drop_next hD_6⟩ (Nat.lt_succ_self _) rfl (pre_r rfl)
  ·rintro s_8 ho_ sl_ H_ hp_ hq_
   subst ho_
   refine wH_at _ hp_ hq_ (wH_seq (wH_region (h_op (vI 0) wz rfl (h_nil ?_))))
   obtain rfl := some_inj hF
   exact wH_ret (fin0 (.inr rfl) [(vI 0)] ⟨rfl, trivial⟩ rfl rfl rfl)
theorem proof_Idle_ok {l_1 : (List Play)} {player_2 : ByteArray} {wv_3 : Window} {r : (List Window) × Int} (hF : proof_Idle l_1 player_2 wv_3 = some r) :
  FnM Tryz.prog 12 [(vL Play.enc l_1), (vS player_2), (.d (.agg (Window.enc wv_3)))] [] (.tup [(vL Window.enc r.1), (vI r.2)]) [] := by
 refine FnM.of_wH ⟨Tryz.prog, 84, [], []⟩ rfl Tryz.func12 rfl rfl (Nat.le_of_ble_eq_true rfl) (by kernel_rfl) ?_
 unfold proof_Idle at hF
 refine wH_seq (wH_region (h_box 0 (.inl rfl) [(vI wv_3.From), (vI wv_3.To)] rfl rfl wz (fun n_4 => h_op .nil wz rfl (h_op (vI 0) wz rfl (h_nil (wH_seq (wH_seq (wH_region (h_op (vL Play.enc l_1) wz rfl ?_)))))))))
 obtain ⟨r_5, hr_6, hF⟩ := bind_some hF
 refine h_call0 (proof_CheckPlays_ok hr_6) rfl hb71 rfl rfl rfl rfl wz (h_op (vI r_5) wz rfl (h_nil (wH_seq (wH_region (h_op (vI r_5) wz rfl (h_op (vB (r_5 != 0)) wz rfl (h_nil ?_)))))))
 rcases cond_some hF with ⟨hc_7, hF⟩ | ⟨hc_7, hF⟩
 ·refine wH_ift rfl hc_7 (wH_seq (wH_region (h_op (vI r_5) wz rfl (h_op .nil wz rfl (h_op (vI r_5) wz rfl (h_nil ?_))))))
  obtain rfl := some_inj hF
  exact wH_ret (fin0 (.inr rfl) [.nil, (vI r_5)] ⟨rfl, ⟨rfl, trivial⟩⟩ rfl rfl rfl)
 ·refine wH_iff rfl hc_7 (wH_skip (wH_seq (wH_seq (wH_region (h_op (vS player_2) wz rfl ?_)))))
  obtain ⟨r_8, hr_9, hF⟩ := bind_some hF
  refine h_call0 (kit_IsKey_ok hr_9) rfl hb72 rfl rfl rfl rfl wz (h_op (vB (!r_8)) wz rfl (h_nil ?_))
  rcases cond_some hF with ⟨hc_10, hF⟩ | ⟨hc_10, hF⟩
  ·refine wH_ift rfl hc_10 (wH_seq (wH_region (h_op .nil wz rfl (h_op (vI 5) wz rfl (h_nil ?_)))))
   obtain rfl := some_inj hF
   exact wH_ret (fin0 (.inr rfl) [.nil, (vI 5)] ⟨rfl, ⟨rfl, trivial⟩⟩ rfl rfl rfl)
  ·refine wH_iff rfl hc_10 (wH_skip (wH_seq (wH_seq ?_)))
   obtain ⟨v_11, h_12, hF⟩ := bind_some hF
   refine wH_join (β := Unit) (fun _ => ([(0, (vL Play.enc l_1)), (1, (vS player_2)), (5, (.ref n_4 0 0)), (31, (vB v_11))] : List (Nat × V))) (fun _ => ([(n_4, some (.cells 2 [(vI wv_3.From), (vI wv_3.To)]))] : Hp)) (fun _ => True) ?_ ?_
   ·refine wH_region (h_far pl30_0 rfl 0 rfl wz (h_ldr 0 0 il ft sz3 ag3 rfl rfl (vI wv_3.From) rfl wz (h_far pl30_1 rfl 1 rfl wz (h_ldr 0 0 il ft sz3 ag3 rfl rfl (vI wv_3.To) rfl wz ?_))))
    obtain ⟨r_13, hr_14, h_12⟩ := bind_some h_12
    refine h_call0 (kit_Outside_ok hr_14) rfl hb73 rfl rfl rfl rfl wz ?_
    rcases cond_some h_12 with ⟨hc_15, h_12⟩ | ⟨hc_15, h_12⟩
    ·refine h_movb rfl hc_15 wz (h_skip (wg rfl rfl rfl) (h_skip (wg rfl rfl rfl) (h_skip (wg rfl rfl rfl) (h_op (vB true) wz rfl (h_nil ?_)))))
     obtain rfl := some_inj h_12
     exact cut_mk () trivial rfl (pre_r rfl)
    ·refine h_movb rfl hc_15 wz (h_far pl30_1 rfl 1 rfl (wg rfl rfl rfl) (h_ldr 0 0 il ft sz3 ag3 rfl rfl (vI wv_3.To) rfl (wg rfl rfl rfl) (h_op (vB (decide (wv_3.To > 345686400000))) (wg rfl rfl rfl) rfl (h_op (vB (decide (wv_3.To > 345686400000))) wz rfl (h_nil ?_)))))
     obtain rfl := some_inj h_12
     exact cut_mk () trivial rfl (pre_r rfl)
   ·rintro ⟨⟩ _ sl_ H_ hp_ hq_
    refine wH_at _ hp_ hq_ ?_
    rcases cond_some hF with ⟨hc_16, hF⟩ | ⟨hc_16, hF⟩
    ·refine wH_ift rfl hc_16 (wH_seq (wH_region (h_op .nil wz rfl (h_op (vI 1) wz rfl (h_nil ?_)))))
     obtain rfl := some_inj hF
     exact wH_ret (fin0 (.inr rfl) [.nil, (vI 1)] ⟨rfl, ⟨rfl, trivial⟩⟩ rfl rfl rfl)
    ·refine wH_iff rfl hc_16 (wH_skip (wH_seq (wH_region (h_op .nil wz rfl (h_nil (wH_seq (wH_region (h_far pl30_0 rfl 0 rfl wz (h_ldr 0 0 il ft sz3 ag3 rfl rfl (vI wv_3.From) rfl wz (h_op (vI wv_3.From) wz rfl (h_nil (wH_seq (wH_seq (wH_region (h_op (vL Play.enc l_1) wz rfl (h_len un26 rfl wz (h_op (vI 0) wz rfl (h_nil (wH_new (fun n_23 => ?_))))))))))))))))))))
     obtain ⟨o_28, hj_29, hF⟩ := bind_some hF
     obtain ⟨hn_21, hj_29⟩ := forL_some hj_29
     refine wH_join (β := ((List Window) × Int) × Nm) (fun p => (fun (s_22 : (List Window) × Int) (n_25 : Nm) => ([(5, (.ref n_4 0 0)), (9, (gV n_25 2 s_22.1)), (10, (vI s_22.2))] : List (Nat × V))) p.1 p.2) (fun p => (fun (s_22 : (List Window) × Int) (n_25 : Nm) => ([(n_4, some (.cells 2 [(vI wv_3.From), (vI wv_3.To)])), (n_25, gB 2 Window.enc s_22.1)] : Hp)) p.1 p.2) (fun p => o_28 = .go p.1) ?_ ?_
     ·refine wH_block (wH_loop (β := Nat × (List Play) × ((List Window) × Int) × Nm) (fun p => (fun (k_17 : Nat) (l_18 : List Play) (s_22 : (List Window) × Int) (n_25 : Nm) => ([(1, (vS player_2)), (5, (.ref n_4 0 0)), (9, (gV n_25 2 s_22.1)), (10, (vI s_22.2)), (34, (vL Play.enc l_1)), (35, (vI (l_1.length : Int))), (36, (vI (k_17 : Int)))] : List (Nat × V))) p.1 p.2.1 p.2.2.1 p.2.2.2) (fun p => (fun (k_17 : Nat) (l_18 : List Play) (s_22 : (List Window) × Int) (n_25 : Nm) => ([(n_4, some (.cells 2 [(vI wv_3.From), (vI wv_3.To)])), (n_25, gB 2 Window.enc s_22.1)] : Hp)) p.1 p.2.1 p.2.2.1 p.2.2.2) (fun p => forR (fun k x s => proof_Idle_L1 player_2 wv_3 k x s) p.2.1 p.1 p.2.2.1 = some o_28 ∧ (l_1).drop p.1 = p.2.1) (fun p => p.2.1.length) (0, l_1, (([] : List Window), wv_3.From), n_23) ⟨hj_29, rfl⟩ rfl (pre_r rfl) ?_)
      rintro ⟨k_17, l_18, s_22, n_25⟩ ⟨hL_27, hD_20⟩
      dsimp only at hL_27 hD_20
      cases l_18 with
      | nil =>
       obtain rfl := some_inj hL_27
       refine wH_seq (wH_region (h_op (vB (decide ((k_17 : Int) < (l_1.length : Int)))) wz rfl (h_nil ?_)))
       refine wH_seq (wH_iff rfl (drop_nil hD_20) (wH_exit ?_))
       exact cut_mk (s_22, n_25) rfl rfl (pre_r rfl)
      | cons x_19 l_18 =>
       obtain ⟨c_, hc_26, hL_27⟩ := bind_some hL_27
       refine wH_seq (wH_region (h_op (vB (decide ((k_17 : Int) < (l_1.length : Int)))) wz rfl (h_nil ?_)))
       refine wH_seq (wH_ift rfl (drop_cons hD_20) (wH_skip ?_))
       unfold proof_Idle_L1 at hc_26
       refine wH_seq (wH_block (wH_seq (wH_region (h_ia es26 rfl rfl (drop_idx hD_20) rfl wz (h_ldc sz37 ag37 rfl (.d (.agg (Play.enc x_19))) rfl wz (h_alloc 0 (.inl rfl) z37 rfl wz (fun n_30 => h_str 0 il ft 2 sz37 rfl rfl [(vS x_19.Player), (vS x_19.Item), (vI x_19.At), (vI x_19.Long)] rfl wz (h_nil (wH_seq (wH_seq ?_))))))))))
       obtain ⟨v_31, h_32, hc_26⟩ := bind_some hc_26
       refine wH_join (β := Unit) (fun _ => ([(1, (vS player_2)), (5, (.ref n_4 0 0)), (9, (gV n_25 2 s_22.1)), (10, (vI s_22.2)), (12, (.ref n_30 0 0)), (34, (vL Play.enc l_1)), (35, (vI (l_1.length : Int))), (36, (vI (k_17 : Int))), (49, (vB v_31))] : List (Nat × V))) (fun _ => ([(n_4, some (.cells 2 [(vI wv_3.From), (vI wv_3.To)])), (n_25, gB 2 Window.enc s_22.1), (n_30, some (.cells 4 [(vS x_19.Player), (vS x_19.Item), (vI x_19.At), (vI x_19.Long)]))] : Hp)) (fun _ => True) ?_ ?_
       ·refine wH_region (h_far pl37_0 rfl 0 rfl wz (h_ldr 0 2 il ft sz9 ag9 rfl rfl (vS x_19.Player) rfl wz (h_op (vS player_2) wz rfl (h_op (vB (sNe x_19.Player player_2)) wz rfl ?_))))
        rcases cond_some h_32 with ⟨hc_33, h_32⟩ | ⟨hc_33, h_32⟩
        ·refine h_movb rfl hc_33 wz (h_skip (wg rfl rfl rfl) (h_skip (wg rfl rfl rfl) (h_skip (wg rfl rfl rfl) (h_skip (wg rfl rfl rfl) (h_op (vB true) wz rfl (h_nil ?_))))))
         obtain rfl := some_inj h_32
         exact cut_mk () trivial rfl (pre_r rfl)
        ·refine h_movb rfl hc_33 wz (h_op (vI s_22.2) (wg rfl rfl rfl) rfl (h_far pl30_1 rfl 1 rfl (wg rfl rfl rfl) (h_ldr 0 0 il ft sz3 ag3 rfl rfl (vI wv_3.To) rfl (wg rfl rfl rfl) (h_op (vB (decide (s_22.2 ≥ wv_3.To))) (wg rfl rfl rfl) rfl (h_op (vB (decide (s_22.2 ≥ wv_3.To))) wz rfl (h_nil ?_))))))
         obtain rfl := some_inj h_32
         exact cut_mk () trivial rfl (pre_r rfl)
       ·rintro ⟨⟩ _ sl_ H_ hp_ hq_
        refine wH_at _ hp_ hq_ ?_
        rcases cond_some hc_26 with ⟨hc_34, hc_26⟩ | ⟨hc_34, hc_26⟩
        ·refine wH_ift rfl hc_34 (wH_exit (wH_region (h_opw (w64_next hD_20 hn_21) wz rfl (h_op (vI ((k_17 + 1 : Nat) : Int)) wz rfl (h_nil ?_)))))
         obtain rfl := some_inj hc_26
         exact loop_mk (k_17 + 1, l_18, (s_22.1, s_22.2), n_25) ⟨hL_27, drop_next hD_20⟩ (Nat.lt_succ_self _) rfl (pre_r rfl)
        ·refine wH_iff rfl hc_34 (wH_skip (wH_seq (wH_seq (wH_region (h_far pl37_2 rfl 2 rfl wz (h_ldr 0 2 il ft sz3 ag3 rfl rfl (vI x_19.At) rfl wz (h_far pl30_1 rfl 1 rfl wz (h_ldr 0 0 il ft sz3 ag3 rfl rfl (vI wv_3.To) rfl wz (h_minmax (vI (minI x_19.At wv_3.To)) rfl (.inl rfl) wz (h_op (vI (minI x_19.At wv_3.To)) wz rfl (h_nil (wH_seq (wH_region (h_op (vI (minI x_19.At wv_3.To)) wz rfl (h_op (vI s_22.2) wz rfl (h_op (vB (decide ((minI x_19.At wv_3.To) > s_22.2))) wz rfl (h_nil ?_)))))))))))))))))
         obtain ⟨v_35, h_36, hc_26⟩ := bind_some hc_26
         refine wH_join (β := Nm) (fun (n_37 : Nm) => ([(1, (vS player_2)), (5, (.ref n_4 0 0)), (9, (gV n_37 2 v_35)), (10, (vI s_22.2)), (12, (.ref n_30 0 0)), (34, (vL Play.enc l_1)), (35, (vI (l_1.length : Int))), (36, (vI (k_17 : Int)))] : List (Nat × V))) (fun (n_37 : Nm) => ([(n_4, some (.cells 2 [(vI wv_3.From), (vI wv_3.To)])), (n_37, gB 2 Window.enc v_35), (n_30, some (.cells 4 [(vS x_19.Player), (vS x_19.Item), (vI x_19.At), (vI x_19.Long)]))] : Hp)) (fun _ => True) ?_ ?_
         ·rcases cond_some h_36 with ⟨hc_38, h_36⟩ | ⟨hc_38, h_36⟩
          ·refine wH_ift rfl hc_38 (wH_region (h_op (gV n_25 2 s_22.1) wz rfl (h_op (vI s_22.2) wz rfl (h_op (vI (minI x_19.At wv_3.To)) wz rfl (h_op (.d (.agg (Window.enc (⟨s_22.2, (minI x_19.At wv_3.To)⟩ : Window)))) wz (by kernel_rfl) (h_lit (([(⟨s_22.2, (minI x_19.At wv_3.To)⟩ : Window)] : List Window).map Window.enc) es31 ez31 rfl rfl rfl rfl rfl wz ?_))))))
           obtain ⟨a_39, hz_40, h_36⟩ := bind_some h_36
           refine h_appg 0 il ft (i := 1) el31 el31 sz30 z30 rfl (by decide) by30 (by decide) (fun _ => rfl) rfl rfl rfl hz_40 wz (fun n_41 => h_op (gV n_41 2 a_39) wz rfl (h_nil ?_))
           obtain rfl := some_inj h_36
           exact cut_mk n_41 trivial rfl (pre_r rfl)
          ·refine wH_iff rfl hc_38 (wH_skip ?_)
           obtain rfl := some_inj h_36
           exact cut_mk n_25 trivial rfl (pre_r rfl)
         ·rintro n_37 _ sl_ H_ hp_ hq_
          refine wH_at _ hp_ hq_ (wH_region (h_op (vI s_22.2) wz rfl (h_far pl37_2 rfl 2 rfl wz (h_ldr 0 2 il ft sz3 ag3 rfl rfl (vI x_19.At) rfl wz (h_far pl37_3 rfl 3 rfl wz (h_ldr 0 2 il ft sz3 ag3 rfl rfl (vI x_19.Long) rfl wz (h_op (vI (w64 (x_19.At + x_19.Long))) wz rfl (h_minmax (vI (maxI s_22.2 (w64 (x_19.At + x_19.Long)))) rfl (.inr rfl) wz (h_op (vI (maxI s_22.2 (w64 (x_19.At + x_19.Long)))) wz rfl (h_nil (wH_region (h_opw (w64_next hD_20 hn_21) wz rfl (h_op (vI ((k_17 + 1 : Nat) : Int)) wz rfl (h_nil ?_))))))))))))))
          obtain rfl := some_inj hc_26
          exact loop_mk (k_17 + 1, l_18, (v_35, (maxI s_22.2 (w64 (x_19.At + x_19.Long)))), n_37) ⟨hL_27, drop_next hD_20⟩ (Nat.lt_succ_self _) rfl (pre_r rfl)
     ·rintro ⟨s_22, n_25⟩ ho_ sl_ H_ hp_ hq_
      subst ho_
      refine wH_at _ hp_ hq_ (wH_seq (wH_seq (wH_region (h_op (vI s_22.2) wz rfl (h_far pl30_1 rfl 1 rfl wz (h_ldr 0 0 il ft sz3 ag3 rfl rfl (vI wv_3.To) rfl wz (h_op (vB (decide (s_22.2 < wv_3.To))) wz rfl (h_nil ?_))))))))
      obtain ⟨v_42, h_43, hF⟩ := bind_some hF
      refine wH_join (β := Nm) (fun (n_44 : Nm) => ([(9, (gV n_44 2 v_42))] : List (Nat × V))) (fun (n_44 : Nm) => ([(n_4, some (.cells 2 [(vI wv_3.From), (vI wv_3.To)])), (n_44, gB 2 Window.enc v_42)] : Hp)) (fun _ => True) ?_ ?_
      ·rcases cond_some h_43 with ⟨hc_45, h_43⟩ | ⟨hc_45, h_43⟩
       ·refine wH_ift rfl hc_45 (wH_region (h_op (gV n_25 2 s_22.1) wz rfl (h_op (vI s_22.2) wz rfl (h_far pl30_1 rfl 1 rfl wz (h_ldr 0 0 il ft sz3 ag3 rfl rfl (vI wv_3.To) rfl wz (h_op (.d (.agg (Window.enc (⟨s_22.2, wv_3.To⟩ : Window)))) wz (by kernel_rfl) (h_lit (([(⟨s_22.2, wv_3.To⟩ : Window)] : List Window).map Window.enc) es31 ez31 rfl rfl rfl rfl rfl wz ?_)))))))
        obtain ⟨a_46, hz_47, h_43⟩ := bind_some h_43
        refine h_appg 0 il ft (i := 1) el31 el31 sz30 z30 rfl (by decide) by30 (by decide) (fun _ => rfl) rfl rfl rfl hz_47 wz (fun n_48 => h_op (gV n_48 2 a_46) wz rfl (h_nil ?_))
        obtain rfl := some_inj h_43
        exact cut_mk n_48 trivial rfl (pre_r rfl)
       ·refine wH_iff rfl hc_45 (wH_skip ?_)
        obtain rfl := some_inj h_43
        exact cut_mk n_25 trivial rfl (pre_r rfl)
      ·rintro n_44 _ sl_ H_ hp_ hq_
       refine wH_at _ hp_ hq_ (wH_seq (wH_region (h_op (gV n_44 2 v_42) wz rfl (h_op (gV n_44 2 v_42) wz rfl (h_op (vI 0) wz rfl (h_nil (wH_frozg 1 rfl (wH_cog 6 1 rfl rfl (wH_cog 9 1 rfl rfl (wH_cog 83 1 rfl rfl ?_))))))))))
       obtain rfl := some_inj hF
       exact wH_ret (fin0 (.inr rfl) [(vL Window.enc v_42), (vI 0)] ⟨rfl, ⟨rfl, trivial⟩⟩ rfl rfl rfl)
theorem keep_IdleAndOn_1_ok {y_1 : Play} {p_2 : Int} {r : Bool} (hF : keep_IdleAndOn_1 y_1 p_2 = some r) :
  FnM Tryz.prog 14 [(.d (.agg (Play.enc y_1))), (.ref (extN 0) 0 0)] [(.cells 1 [(vI p_2)])] (vB r) [some (.cells 1 [(vI p_2)])] := by
 refine FnM.of_wH ⟨Tryz.prog, 22, [], []⟩ rfl Tryz.func14 rfl rfl (Nat.le_of_ble_eq_true rfl) (by kernel_rfl) ?_
 unfold keep_IdleAndOn_1 at hF
 refine wH_seq (wH_region (h_box 0 (.inl rfl) [(vS y_1.Player), (vS y_1.Item), (vI y_1.At), (vI y_1.Long)] rfl rfl wz (fun n_3 => h_op (vB false) wz rfl (h_nil (wH_seq ?_)))))
 obtain ⟨v_4, h_5, hF⟩ := bind_some hF
 refine wH_join (β := Unit) (fun _ => ([(3, (vB v_4))] : List (Nat × V))) (fun _ => ([((extN 0), some (.cells 1 [(vI p_2)])), (n_3, some (.cells 4 [(vS y_1.Player), (vS y_1.Item), (vI y_1.At), (vI y_1.Long)]))] : Hp)) (fun _ => True) ?_ ?_
 ·refine wH_region (h_far pl37_0 rfl 0 rfl wz (h_ldr 0 1 il ft sz9 ag9 rfl rfl (vS y_1.Player) rfl wz (h_op (vB (sEq y_1.Player (⟨#[112, 97]⟩ : ByteArray))) wz rfl ?_)))
  rcases cond_some h_5 with ⟨hc_6, h_5⟩ | ⟨hc_6, h_5⟩
  ·refine h_movb rfl hc_6 wz (h_far pl37_2 rfl 2 rfl (wg rfl rfl rfl) (h_ldr 0 1 il ft sz3 ag3 rfl rfl (vI y_1.At) rfl (wg rfl rfl rfl) (h_ldr 0 0 il ft sz3 ag3 rfl rfl (vI p_2) rfl (wg rfl rfl rfl) (h_op (vB (decide (y_1.At ≤ p_2))) (wg rfl rfl rfl) rfl (h_op (vB (decide (y_1.At ≤ p_2))) wz rfl ?_)))))
   rcases cond_some h_5 with ⟨hc_7, h_5⟩ | ⟨hc_7, h_5⟩
   ·refine h_movb rfl hc_7 wz (h_ldr 0 0 il ft sz3 ag3 rfl rfl (vI p_2) rfl (wg rfl rfl rfl) (h_far pl37_2 rfl 2 rfl (wg rfl rfl rfl) (h_ldr 0 1 il ft sz3 ag3 rfl rfl (vI y_1.At) rfl (wg rfl rfl rfl) (h_far pl37_3 rfl 3 rfl (wg rfl rfl rfl) (h_ldr 0 1 il ft sz3 ag3 rfl rfl (vI y_1.Long) rfl (wg rfl rfl rfl) (h_op (vI (w64 (y_1.At + y_1.Long))) (wg rfl rfl rfl) rfl (h_op (vB (decide (p_2 < (w64 (y_1.At + y_1.Long))))) (wg rfl rfl rfl) rfl (h_op (vB (decide (p_2 < (w64 (y_1.At + y_1.Long))))) wz rfl (h_op (vB (decide (p_2 < (w64 (y_1.At + y_1.Long))))) wz rfl (h_nil ?_))))))))))
    obtain rfl := some_inj h_5
    exact cut_mk () trivial rfl (pre_r rfl)
   ·refine h_movb rfl hc_7 wz (h_skip (wg rfl rfl rfl) (h_skip (wg rfl rfl rfl) (h_skip (wg rfl rfl rfl) (h_skip (wg rfl rfl rfl) (h_skip (wg rfl rfl rfl) (h_skip (wg rfl rfl rfl) (h_skip (wg rfl rfl rfl) (h_op (vB false) wz rfl (h_op (vB false) wz rfl (h_nil ?_))))))))))
    obtain rfl := some_inj h_5
    exact cut_mk () trivial rfl (pre_r rfl)
  ·refine h_movb rfl hc_6 wz (h_skip (wg rfl rfl rfl) (h_skip (wg rfl rfl rfl) (h_skip (wg rfl rfl rfl) (h_skip (wg rfl rfl rfl) (h_op (vB false) wz rfl (h_op (vB false) wz rfl (h_skip (wg rfl rfl rfl) (h_skip (wg rfl rfl rfl) (h_skip (wg rfl rfl rfl) (h_skip (wg rfl rfl rfl) (h_skip (wg rfl rfl rfl) (h_skip (wg rfl rfl rfl) (h_skip (wg rfl rfl rfl) (h_op (vB false) wz rfl (h_op (vB false) wz rfl (h_nil ?_))))))))))))))))
   obtain rfl := some_inj h_5
   exact cut_mk () trivial rfl (pre_r rfl)
 ·rintro ⟨⟩ _ sl_ H_ hp_ hq_
  refine wH_at _ hp_ hq_ ?_
  obtain rfl := some_inj hF
  exact wH_ret (finB (.inr rfl) [(vB v_4)] _ [0] [extN 0] ⟨rfl, trivial⟩ (.cons (co_data rfl rfl) (.nil)) (by kernel_rfl) ⟨(by kernel_rfl), trivial⟩ (by decide) (by kernel_rfl))
theorem slices_IndexFunc_api_Play_api_Play_ok {s_1 : (List Play)} {f_2 : Play → Option Bool} {r : Int} {gid : FuncId} {caps : List V} {Sin : List Box} (hfn : ∀ x0 r, f_2 x0 = some r → FnM Tryz.prog gid ([(.d (.agg (Play.enc x0)))] ++ caps) Sin (vB r) (Sin.map some)) (hbF : hasBody Tryz.prog gid = true) (hcapF : caps.flatMap frz = [] ∧ caps.map co0 = caps) (hokF : okL Sin.length caps = true) (hsF : ∀ b ∈ Sin, b.ok Sin.length = true) (hmF : ∀ b ∈ Sin, b.mut = true) (hF : slices_IndexFunc_api_Play_api_Play s_1 f_2 = some r) :
  FnM Tryz.prog 74 [(vL Play.enc s_1), (.fn gid caps)] Sin (vI r) (Sin.map some) := by
 refine FnM.of_wH ⟨Tryz.prog, 19, [], []⟩ rfl Tryz.func74 rfl rfl (Nat.le_of_ble_eq_true rfl) (by kernel_rfl) ?_
 unfold slices_IndexFunc_api_Play_api_Play at hF
 refine wH_seq (wH_region (h_op (vI 0) wz rfl (h_nil (wH_seq (wH_seq (wH_region (h_op (vL Play.enc s_1) wz rfl (h_len un26 rfl wz (h_op (vI 0) wz rfl (h_nil ?_))))))))))
 obtain ⟨o_11, hj_12, hF⟩ := bind_some hF
 obtain ⟨hn_7, hj_12⟩ := forL_some hj_12
 refine wH_join (β := (Unit)) (fun (s_8 : Unit) => ([] : List (Nat × V))) (fun (s_8 : Unit) => (initH 0 Sin)) (fun p => o_11 = .go p) ?_ ?_
 ·refine wH_block (wH_loop (β := Nat × (List Play) × (Unit)) (fun p => (fun (k_3 : Nat) (l_4 : List Play) (s_8 : Unit) => ([(0, (vL Play.enc s_1)), (1, (.fn gid caps)), (7, (vI (s_1.length : Int))), (8, (vI (k_3 : Int)))] : List (Nat × V))) p.1 p.2.1 p.2.2) (fun p => (fun (k_3 : Nat) (l_4 : List Play) (s_8 : Unit) => (initH 0 Sin)) p.1 p.2.1 p.2.2) (fun p => forR (fun k x s => slices_IndexFunc_api_Play_api_Play_L1 f_2 k x s) p.2.1 p.1 p.2.2 = some o_11 ∧ (s_1).drop p.1 = p.2.1) (fun p => p.2.1.length) (0, s_1, ()) ⟨hj_12, rfl⟩ rfl (pre_self _) ?_)
  rintro ⟨k_3, l_4, s_8⟩ ⟨hL_10, hD_6⟩
  dsimp only at hL_10 hD_6
  cases l_4 with
  | nil =>
   obtain rfl := some_inj hL_10
   refine wH_seq (wH_region (h_op (vB (decide ((k_3 : Int) < (s_1.length : Int)))) wz rfl (h_nil ?_)))
   refine wH_seq (wH_iff rfl (drop_nil hD_6) (wH_exit ?_))
   exact cut_mk (s_8) rfl rfl (pre_self _)
  | cons x_5 l_4 =>
   obtain ⟨c_, hc_9, hL_10⟩ := bind_some hL_10
   refine wH_seq (wH_region (h_op (vB (decide ((k_3 : Int) < (s_1.length : Int)))) wz rfl (h_nil ?_)))
   refine wH_seq (wH_ift rfl (drop_cons hD_6) (wH_skip ?_))
   unfold slices_IndexFunc_api_Play_api_Play_L1 at hc_9
   refine wH_seq (wH_block (wH_seq (wH_region (h_op (vI (k_3 : Int)) wz rfl (h_op (vI (k_3 : Int)) wz rfl (h_nil (wH_seq (wH_region (h_op (.fn gid caps) wz rfl (h_op (vL Play.enc s_1) wz rfl (h_op (vI (k_3 : Int)) wz rfl (h_ia es26 rfl rfl (drop_idx hD_6) rfl wz (h_ldc sz37 ag37 rfl (.d (.agg (Play.enc x_5))) rfl wz ?_)))))))))))))
   obtain ⟨r_13, hr_14, hc_9⟩ := bind_some hc_9
   refine h_callS (hfn _ _ hr_14) rfl hbF rfl rfl hcapF hokF hsF hmF rfl wz rfl (h_nil ?_)
   rcases cond_some hc_9 with ⟨hc_15, hc_9⟩ | ⟨hc_15, hc_9⟩
   ·refine wH_ift rfl hc_15 (wH_seq (wH_region (h_op (vI (k_3 : Int)) wz rfl (h_op (vI (k_3 : Int)) wz rfl (h_nil ?_)))))
    obtain rfl := some_inj hc_9
    obtain rfl := some_inj hL_10
    obtain rfl := some_inj hF
    exact wH_ret (finS hsF (.inr rfl) [(vI (k_3 : Int))] ⟨rfl, trivial⟩ rfl rfl rfl)
   ·refine wH_iff rfl hc_15 (wH_skip (wH_region (h_opw (w64_next hD_6 hn_7) wz rfl (h_op (vI ((k_3 + 1 : Nat) : Int)) wz rfl (h_nil ?_)))))
    obtain rfl := some_inj hc_9
    exact loop_mk (k_3 + 1, l_4, ()) ⟨hL_10, drop_next hD_6⟩ (Nat.lt_succ_self _) rfl (pre_self _)
 ·rintro s_8 ho_ sl_ H_ hp_ hq_
  subst ho_
  refine wH_at _ hp_ hq_ (wH_seq (wH_region (h_op (vI (-1)) wz rfl (h_nil ?_))))
  obtain rfl := some_inj hF
  exact wH_ret (finS hsF (.inr rfl) [(vI (-1))] ⟨rfl, trivial⟩ rfl rfl rfl)
theorem slices_ContainsFunc_api_Play_api_Play_ok {s_1 : (List Play)} {f_2 : Play → Option Bool} {r : Bool} {gid : FuncId} {caps : List V} {Sin : List Box} (hfn : ∀ x0 r, f_2 x0 = some r → FnM Tryz.prog gid ([(.d (.agg (Play.enc x0)))] ++ caps) Sin (vB r) (Sin.map some)) (hbF : hasBody Tryz.prog gid = true) (hcapF : caps.flatMap frz = [] ∧ caps.map co0 = caps) (hokF : okL Sin.length caps = true) (hsF : ∀ b ∈ Sin, b.ok Sin.length = true) (hmF : ∀ b ∈ Sin, b.mut = true) (hF : slices_ContainsFunc_api_Play_api_Play s_1 f_2 = some r) :
  FnM Tryz.prog 13 [(vL Play.enc s_1), (.fn gid caps)] Sin (vB r) (Sin.map some) := by
 refine FnM.of_wH ⟨Tryz.prog, 9, [], []⟩ rfl Tryz.func13 rfl rfl (Nat.le_of_ble_eq_true rfl) (by kernel_rfl) ?_
 unfold slices_ContainsFunc_api_Play_api_Play at hF
 refine wH_seq (wH_region (h_op (vB false) wz rfl (h_nil (wH_seq (wH_region (h_op (vL Play.enc s_1) wz rfl (h_op (.fn gid caps) wz rfl ?_)))))))
 obtain ⟨r_3, hr_4, hF⟩ := bind_some hF
 refine h_callS (slices_IndexFunc_api_Play_api_Play_ok (gid := gid) (caps := caps) (Sin := Sin) hfn hbF hcapF hokF hsF hmF hr_4) rfl hb74 rfl rfl ⟨rfl, rfl⟩ (by simp [okL, okV, hokF]) hsF hmF rfl wz rfl (h_op (vB (decide (r_3 ≥ 0))) wz rfl (h_op (vB (decide (r_3 ≥ 0))) wz rfl (h_nil ?_)))
 obtain rfl := some_inj hF
 exact wH_ret (finS hsF (.inr rfl) [(vB (decide (r_3 ≥ 0)))] ⟨rfl, trivial⟩ rfl rfl rfl)
theorem keep_IdleAndOn_2_ok {x_1 : Window} {p_2 : Int} {r : Bool} (hF : keep_IdleAndOn_2 x_1 p_2 = some r) :
  FnM Tryz.prog 16 [(.d (.agg (Window.enc x_1))), (.ref (extN 0) 0 0)] [(.cells 1 [(vI p_2)])] (vB r) [some (.cells 1 [(vI p_2)])] := by
 refine FnM.of_wH ⟨Tryz.prog, 14, [], []⟩ rfl Tryz.func16 rfl rfl (Nat.le_of_ble_eq_true rfl) (by kernel_rfl) ?_
 unfold keep_IdleAndOn_2 at hF
 refine wH_seq (wH_region (h_box 0 (.inl rfl) [(vI x_1.From), (vI x_1.To)] rfl rfl wz (fun n_3 => h_op (vB false) wz rfl (h_nil (wH_seq ?_)))))
 obtain ⟨v_4, h_5, hF⟩ := bind_some hF
 refine wH_join (β := Unit) (fun _ => ([(3, (vB v_4))] : List (Nat × V))) (fun _ => ([((extN 0), some (.cells 1 [(vI p_2)])), (n_3, some (.cells 2 [(vI x_1.From), (vI x_1.To)]))] : Hp)) (fun _ => True) ?_ ?_
 ·refine wH_region (h_far pl30_0 rfl 0 rfl wz (h_ldr 0 1 il ft sz3 ag3 rfl rfl (vI x_1.From) rfl wz (h_ldr 0 0 il ft sz3 ag3 rfl rfl (vI p_2) rfl wz (h_op (vB (decide (x_1.From ≤ p_2))) wz rfl ?_))))
  rcases cond_some h_5 with ⟨hc_6, h_5⟩ | ⟨hc_6, h_5⟩
  ·refine h_movb rfl hc_6 wz (h_ldr 0 0 il ft sz3 ag3 rfl rfl (vI p_2) rfl (wg rfl rfl rfl) (h_far pl30_1 rfl 1 rfl (wg rfl rfl rfl) (h_ldr 0 1 il ft sz3 ag3 rfl rfl (vI x_1.To) rfl (wg rfl rfl rfl) (h_op (vB (decide (p_2 < x_1.To))) (wg rfl rfl rfl) rfl (h_op (vB (decide (p_2 < x_1.To))) wz rfl (h_op (vB (decide (p_2 < x_1.To))) wz rfl (h_nil ?_)))))))
   obtain rfl := some_inj h_5
   exact cut_mk () trivial rfl (pre_r rfl)
  ·refine h_movb rfl hc_6 wz (h_skip (wg rfl rfl rfl) (h_skip (wg rfl rfl rfl) (h_skip (wg rfl rfl rfl) (h_skip (wg rfl rfl rfl) (h_op (vB false) wz rfl (h_op (vB false) wz rfl (h_nil ?_)))))))
   obtain rfl := some_inj h_5
   exact cut_mk () trivial rfl (pre_r rfl)
 ·rintro ⟨⟩ _ sl_ H_ hp_ hq_
  refine wH_at _ hp_ hq_ ?_
  obtain rfl := some_inj hF
  exact wH_ret (finB (.inr rfl) [(vB v_4)] _ [0] [extN 0] ⟨rfl, trivial⟩ (.cons (co_data rfl rfl) (.nil)) (by kernel_rfl) ⟨(by kernel_rfl), trivial⟩ (by decide) (by kernel_rfl))
theorem slices_IndexFunc_api_Window_api_Window_ok {s_1 : (List Window)} {f_2 : Window → Option Bool} {r : Int} {gid : FuncId} {caps : List V} {Sin : List Box} (hfn : ∀ x0 r, f_2 x0 = some r → FnM Tryz.prog gid ([(.d (.agg (Window.enc x0)))] ++ caps) Sin (vB r) (Sin.map some)) (hbF : hasBody Tryz.prog gid = true) (hcapF : caps.flatMap frz = [] ∧ caps.map co0 = caps) (hokF : okL Sin.length caps = true) (hsF : ∀ b ∈ Sin, b.ok Sin.length = true) (hmF : ∀ b ∈ Sin, b.mut = true) (hF : slices_IndexFunc_api_Window_api_Window s_1 f_2 = some r) :
  FnM Tryz.prog 75 [(vL Window.enc s_1), (.fn gid caps)] Sin (vI r) (Sin.map some) := by
 refine FnM.of_wH ⟨Tryz.prog, 19, [], []⟩ rfl Tryz.func75 rfl rfl (Nat.le_of_ble_eq_true rfl) (by kernel_rfl) ?_
 unfold slices_IndexFunc_api_Window_api_Window at hF
 refine wH_seq (wH_region (h_op (vI 0) wz rfl (h_nil (wH_seq (wH_seq (wH_region (h_op (vL Window.enc s_1) wz rfl (h_len un31 rfl wz (h_op (vI 0) wz rfl (h_nil ?_))))))))))
 obtain ⟨o_11, hj_12, hF⟩ := bind_some hF
 obtain ⟨hn_7, hj_12⟩ := forL_some hj_12
 refine wH_join (β := (Unit)) (fun (s_8 : Unit) => ([] : List (Nat × V))) (fun (s_8 : Unit) => (initH 0 Sin)) (fun p => o_11 = .go p) ?_ ?_
 ·refine wH_block (wH_loop (β := Nat × (List Window) × (Unit)) (fun p => (fun (k_3 : Nat) (l_4 : List Window) (s_8 : Unit) => ([(0, (vL Window.enc s_1)), (1, (.fn gid caps)), (7, (vI (s_1.length : Int))), (8, (vI (k_3 : Int)))] : List (Nat × V))) p.1 p.2.1 p.2.2) (fun p => (fun (k_3 : Nat) (l_4 : List Window) (s_8 : Unit) => (initH 0 Sin)) p.1 p.2.1 p.2.2) (fun p => forR (fun k x s => slices_IndexFunc_api_Window_api_Window_L1 f_2 k x s) p.2.1 p.1 p.2.2 = some o_11 ∧ (s_1).drop p.1 = p.2.1) (fun p => p.2.1.length) (0, s_1, ()) ⟨hj_12, rfl⟩ rfl (pre_self _) ?_)
  rintro ⟨k_3, l_4, s_8⟩ ⟨hL_10, hD_6⟩
  dsimp only at hL_10 hD_6
  cases l_4 with
  | nil =>
   obtain rfl := some_inj hL_10
   refine wH_seq (wH_region (h_op (vB (decide ((k_3 : Int) < (s_1.length : Int)))) wz rfl (h_nil ?_)))
   refine wH_seq (wH_iff rfl (drop_nil hD_6) (wH_exit ?_))
   exact cut_mk (s_8) rfl rfl (pre_self _)
  | cons x_5 l_4 =>
   obtain ⟨c_, hc_9, hL_10⟩ := bind_some hL_10
   refine wH_seq (wH_region (h_op (vB (decide ((k_3 : Int) < (s_1.length : Int)))) wz rfl (h_nil ?_)))
   refine wH_seq (wH_ift rfl (drop_cons hD_6) (wH_skip ?_))
   unfold slices_IndexFunc_api_Window_api_Window_L1 at hc_9
   refine wH_seq (wH_block (wH_seq (wH_region (h_op (vI (k_3 : Int)) wz rfl (h_op (vI (k_3 : Int)) wz rfl (h_nil (wH_seq (wH_region (h_op (.fn gid caps) wz rfl (h_op (vL Window.enc s_1) wz rfl (h_op (vI (k_3 : Int)) wz rfl (h_ia es31 rfl rfl (drop_idx hD_6) rfl wz (h_ldc sz30 ag30 rfl (.d (.agg (Window.enc x_5))) rfl wz ?_)))))))))))))
   obtain ⟨r_13, hr_14, hc_9⟩ := bind_some hc_9
   refine h_callS (hfn _ _ hr_14) rfl hbF rfl rfl hcapF hokF hsF hmF rfl wz rfl (h_nil ?_)
   rcases cond_some hc_9 with ⟨hc_15, hc_9⟩ | ⟨hc_15, hc_9⟩
   ·refine wH_ift rfl hc_15 (wH_seq (wH_region (h_op (vI (k_3 : Int)) wz rfl (h_op (vI (k_3 : Int)) wz rfl (h_nil ?_)))))
    obtain rfl := some_inj hc_9
    obtain rfl := some_inj hL_10
    obtain rfl := some_inj hF
    exact wH_ret (finS hsF (.inr rfl) [(vI (k_3 : Int))] ⟨rfl, trivial⟩ rfl rfl rfl)
   ·refine wH_iff rfl hc_15 (wH_skip (wH_region (h_opw (w64_next hD_6 hn_7) wz rfl (h_op (vI ((k_3 + 1 : Nat) : Int)) wz rfl (h_nil ?_)))))
    obtain rfl := some_inj hc_9
    exact loop_mk (k_3 + 1, l_4, ()) ⟨hL_10, drop_next hD_6⟩ (Nat.lt_succ_self _) rfl (pre_self _)
 ·rintro s_8 ho_ sl_ H_ hp_ hq_
  subst ho_
  refine wH_at _ hp_ hq_ (wH_seq (wH_region (h_op (vI (-1)) wz rfl (h_nil ?_))))
  obtain rfl := some_inj hF
  exact wH_ret (finS hsF (.inr rfl) [(vI (-1))] ⟨rfl, trivial⟩ rfl rfl rfl)
theorem slices_ContainsFunc_api_Window_api_Window_ok {s_1 : (List Window)} {f_2 : Window → Option Bool} {r : Bool} {gid : FuncId} {caps : List V} {Sin : List Box} (hfn : ∀ x0 r, f_2 x0 = some r → FnM Tryz.prog gid ([(.d (.agg (Window.enc x0)))] ++ caps) Sin (vB r) (Sin.map some)) (hbF : hasBody Tryz.prog gid = true) (hcapF : caps.flatMap frz = [] ∧ caps.map co0 = caps) (hokF : okL Sin.length caps = true) (hsF : ∀ b ∈ Sin, b.ok Sin.length = true) (hmF : ∀ b ∈ Sin, b.mut = true) (hF : slices_ContainsFunc_api_Window_api_Window s_1 f_2 = some r) :
  FnM Tryz.prog 15 [(vL Window.enc s_1), (.fn gid caps)] Sin (vB r) (Sin.map some) := by
 refine FnM.of_wH ⟨Tryz.prog, 9, [], []⟩ rfl Tryz.func15 rfl rfl (Nat.le_of_ble_eq_true rfl) (by kernel_rfl) ?_
 unfold slices_ContainsFunc_api_Window_api_Window at hF
 refine wH_seq (wH_region (h_op (vB false) wz rfl (h_nil (wH_seq (wH_region (h_op (vL Window.enc s_1) wz rfl (h_op (.fn gid caps) wz rfl ?_)))))))
 obtain ⟨r_3, hr_4, hF⟩ := bind_some hF
 refine h_callS (slices_IndexFunc_api_Window_api_Window_ok (gid := gid) (caps := caps) (Sin := Sin) hfn hbF hcapF hokF hsF hmF hr_4) rfl hb75 rfl rfl ⟨rfl, rfl⟩ (by simp [okL, okV, hokF]) hsF hmF rfl wz rfl (h_op (vB (decide (r_3 ≥ 0))) wz rfl (h_op (vB (decide (r_3 ≥ 0))) wz rfl (h_nil ?_)))
 obtain rfl := some_inj hF
 exact wH_ret (finS hsF (.inr rfl) [(vB (decide (r_3 ≥ 0)))] ⟨rfl, trivial⟩ rfl rfl rfl)
theorem screen_CheckRect_ok {r_1 : Rect} {r : Int} (hF : screen_CheckRect r_1 = some r) :
  FnM Tryz.prog 115 [(.d (.agg (Rect.enc r_1)))] [] (vI r) [] := by
 refine FnM.of_wH ⟨Tryz.prog, 25, [], []⟩ rfl Tryz.func115 rfl rfl (Nat.le_of_ble_eq_true rfl) (by kernel_rfl) ?_
 unfold screen_CheckRect at hF
 refine wH_seq (wH_region (h_box 0 (.inl rfl) [(vI r_1.X), (vI r_1.Y), (vI r_1.W), (vI r_1.H)] rfl rfl wz (fun n_2 => h_op (vI 0) wz rfl (h_nil (wH_seq (wH_seq ?_))))))
 obtain ⟨v_3, h_4, hF⟩ := bind_some hF
 refine wH_join (β := Unit) (fun _ => ([(1, (.ref n_2 0 0)), (10, (vB v_3))] : List (Nat × V))) (fun _ => ([(n_2, some (.cells 4 [(vI r_1.X), (vI r_1.Y), (vI r_1.W), (vI r_1.H)]))] : Hp)) (fun _ => True) ?_ ?_
 ·refine wH_region (h_far pl75_0 rfl 0 rfl wz (h_ldr 0 0 il ft sz3 ag3 rfl rfl (vI r_1.X) rfl wz ?_))
  obtain ⟨r_5, hr_6, h_4⟩ := bind_some h_4
  refine h_call0 (kit_Outside_ok hr_6) rfl hb73 rfl rfl rfl rfl wz ?_
  rcases cond_some h_4 with ⟨hc_7, h_4⟩ | ⟨hc_7, h_4⟩
  ·refine h_movb rfl hc_7 wz (h_skip (wg rfl rfl rfl) (h_skip (wg rfl rfl rfl) (h_skip (wg rfl rfl rfl) (h_op (vB true) wz rfl (h_nil ?_)))))
   obtain rfl := some_inj h_4
   exact cut_mk () trivial rfl (pre_r rfl)
  ·refine h_movb rfl hc_7 wz (h_far pl75_1 rfl 1 rfl (wg rfl rfl rfl) (h_ldr 0 0 il ft sz3 ag3 rfl rfl (vI r_1.Y) rfl (wg rfl rfl rfl) ?_))
   obtain ⟨r_8, hr_9, h_4⟩ := bind_some h_4
   refine h_call0 (kit_Outside_ok hr_9) rfl hb73 rfl rfl rfl rfl (wg rfl rfl rfl) (h_op (vB r_8) wz rfl (h_nil ?_))
   obtain rfl := some_inj h_4
   exact cut_mk () trivial rfl (pre_r rfl)
 ·rintro ⟨⟩ _ sl_ H_ hp_ hq_
  refine wH_at _ hp_ hq_ ?_
  rcases cond_some hF with ⟨hc_10, hF⟩ | ⟨hc_10, hF⟩
  ·refine wH_ift rfl hc_10 (wH_seq (wH_region (h_op (vI 1) wz rfl (h_nil ?_))))
   obtain rfl := some_inj hF
   exact wH_ret (fin0 (.inr rfl) [(vI 1)] ⟨rfl, trivial⟩ rfl rfl rfl)
  ·refine wH_iff rfl hc_10 (wH_skip (wH_seq (wH_seq ?_)))
   obtain ⟨v_11, h_12, hF⟩ := bind_some hF
   refine wH_join (β := Unit) (fun _ => ([(24, (vB v_11))] : List (Nat × V))) (fun _ => ([(n_2, some (.cells 4 [(vI r_1.X), (vI r_1.Y), (vI r_1.W), (vI r_1.H)]))] : Hp)) (fun _ => True) ?_ ?_
   ·refine wH_region (h_far pl75_2 rfl 2 rfl wz (h_ldr 0 0 il ft sz3 ag3 rfl rfl (vI r_1.W) rfl wz (h_far pl75_0 rfl 0 rfl wz (h_ldr 0 0 il ft sz3 ag3 rfl rfl (vI r_1.X) rfl wz (h_op (vI (w64 (100000 - r_1.X))) wz rfl ?_)))))
    obtain ⟨r_13, hr_14, h_12⟩ := bind_some h_12
    refine h_call0 (kit_Outside_ok hr_14) rfl hb73 rfl rfl rfl rfl wz ?_
    rcases cond_some h_12 with ⟨hc_15, h_12⟩ | ⟨hc_15, h_12⟩
    ·refine h_movb rfl hc_15 wz (h_skip (wg rfl rfl rfl) (h_skip (wg rfl rfl rfl) (h_skip (wg rfl rfl rfl) (h_skip (wg rfl rfl rfl) (h_skip (wg rfl rfl rfl) (h_skip (wg rfl rfl rfl) (h_op (vB true) wz rfl (h_nil ?_))))))))
     obtain rfl := some_inj h_12
     exact cut_mk () trivial rfl (pre_r rfl)
    ·refine h_movb rfl hc_15 wz (h_far pl75_3 rfl 3 rfl (wg rfl rfl rfl) (h_ldr 0 0 il ft sz3 ag3 rfl rfl (vI r_1.H) rfl (wg rfl rfl rfl) (h_far pl75_1 rfl 1 rfl (wg rfl rfl rfl) (h_ldr 0 0 il ft sz3 ag3 rfl rfl (vI r_1.Y) rfl (wg rfl rfl rfl) (h_op (vI (w64 (100000 - r_1.Y))) (wg rfl rfl rfl) rfl ?_)))))
     obtain ⟨r_16, hr_17, h_12⟩ := bind_some h_12
     refine h_call0 (kit_Outside_ok hr_17) rfl hb73 rfl rfl rfl rfl (wg rfl rfl rfl) (h_op (vB r_16) wz rfl (h_nil ?_))
     obtain rfl := some_inj h_12
     exact cut_mk () trivial rfl (pre_r rfl)
   ·rintro ⟨⟩ _ sl_ H_ hp_ hq_
    refine wH_at _ hp_ hq_ ?_
    rcases cond_some hF with ⟨hc_18, hF⟩ | ⟨hc_18, hF⟩
    ·refine wH_ift rfl hc_18 (wH_seq (wH_region (h_op (vI 1) wz rfl (h_nil ?_))))
     obtain rfl := some_inj hF
     exact wH_ret (fin0 (.inr rfl) [(vI 1)] ⟨rfl, trivial⟩ rfl rfl rfl)
    ·refine wH_iff rfl hc_18 (wH_skip (wH_seq (wH_region (h_op (vI 0) wz rfl (h_nil ?_)))))
     obtain rfl := some_inj hF
     exact wH_ret (fin0 (.inr rfl) [(vI 0)] ⟨rfl, trivial⟩ rfl rfl rfl)
theorem screen_rectsFault_ok {l_1 : (List Rect)} {r : Int} (hF : screen_rectsFault l_1 = some r) :
  FnM Tryz.prog 97 [(vL Rect.enc l_1)] [] (vI r) [] := by
 refine FnM.of_wH ⟨Tryz.prog, 21, [], []⟩ rfl Tryz.func97 rfl rfl (Nat.le_of_ble_eq_true rfl) (by kernel_rfl) ?_
 unfold screen_rectsFault at hF
 refine wH_seq (wH_region (h_op (vI 0) wz rfl (h_nil (wH_seq (wH_seq (wH_region (h_op (vL Rect.enc l_1) wz rfl (h_len un66 rfl wz (h_op (vB (decide ((l_1.length : Int) > 2000))) wz rfl (h_nil ?_))))))))))
 rcases cond_some hF with ⟨hc_2, hF⟩ | ⟨hc_2, hF⟩
 ·refine wH_ift rfl hc_2 (wH_seq (wH_region (h_op (vI 2) wz rfl (h_nil ?_))))
  obtain rfl := some_inj hF
  exact wH_ret (fin0 (.inr rfl) [(vI 2)] ⟨rfl, trivial⟩ rfl rfl rfl)
 ·refine wH_iff rfl hc_2 (wH_skip (wH_seq (wH_seq (wH_region (h_op (vL Rect.enc l_1) wz rfl (h_len un66 rfl wz (h_op (vI 0) wz rfl (h_nil ?_))))))))
  obtain ⟨o_11, hj_12, hF⟩ := bind_some hF
  obtain ⟨hn_7, hj_12⟩ := forL_some hj_12
  refine wH_join (β := (Unit)) (fun (s_8 : Unit) => ([] : List (Nat × V))) (fun (s_8 : Unit) => ([] : Hp)) (fun p => o_11 = .go p) ?_ ?_
  ·refine wH_block (wH_loop (β := Nat × (List Rect) × (Unit)) (fun p => (fun (k_3 : Nat) (l_4 : List Rect) (s_8 : Unit) => ([(9, (vL Rect.enc l_1)), (10, (vI (l_1.length : Int))), (11, (vI (k_3 : Int)))] : List (Nat × V))) p.1 p.2.1 p.2.2) (fun p => (fun (k_3 : Nat) (l_4 : List Rect) (s_8 : Unit) => ([] : Hp)) p.1 p.2.1 p.2.2) (fun p => forR (fun k x s => screen_rectsFault_L1 k x s) p.2.1 p.1 p.2.2 = some o_11 ∧ (l_1).drop p.1 = p.2.1) (fun p => p.2.1.length) (0, l_1, ()) ⟨hj_12, rfl⟩ rfl (pre_r rfl) ?_)
   rintro ⟨k_3, l_4, s_8⟩ ⟨hL_10, hD_6⟩
   dsimp only at hL_10 hD_6
   cases l_4 with
   | nil =>
    obtain rfl := some_inj hL_10
    refine wH_seq (wH_region (h_op (vB (decide ((k_3 : Int) < (l_1.length : Int)))) wz rfl (h_nil ?_)))
    refine wH_seq (wH_iff rfl (drop_nil hD_6) (wH_exit ?_))
    exact cut_mk (s_8) rfl rfl (pre_r rfl)
   | cons x_5 l_4 =>
    obtain ⟨c_, hc_9, hL_10⟩ := bind_some hL_10
    refine wH_seq (wH_region (h_op (vB (decide ((k_3 : Int) < (l_1.length : Int)))) wz rfl (h_nil ?_)))
    refine wH_seq (wH_ift rfl (drop_cons hD_6) (wH_skip ?_))
    unfold screen_rectsFault_L1 at hc_9
    refine wH_seq (wH_block (wH_seq (wH_region (h_ia es66 rfl rfl (drop_idx hD_6) rfl wz (h_ldc sz75 ag75 rfl (.d (.agg (Rect.enc x_5))) rfl wz (h_alloc 0 (.inl rfl) z75 rfl wz (fun n_13 => h_str 0 il ft 0 sz75 rfl rfl [(vI x_5.X), (vI x_5.Y), (vI x_5.W), (vI x_5.H)] rfl wz (h_nil (wH_seq (wH_region (h_ldr 0 0 il ft sz75 ag75 rfl rfl (.d (.agg (Rect.enc x_5))) rfl wz ?_)))))))))))
    obtain ⟨r_14, hr_15, hc_9⟩ := bind_some hc_9
    refine h_call0 (screen_CheckRect_ok hr_15) rfl hb115 rfl rfl rfl rfl wz (h_op (vI r_14) wz rfl (h_nil (wH_seq (wH_region (h_op (vI r_14) wz rfl (h_op (vB (r_14 != 0)) wz rfl (h_nil ?_)))))))
    rcases cond_some hc_9 with ⟨hc_16, hc_9⟩ | ⟨hc_16, hc_9⟩
    ·refine wH_ift rfl hc_16 (wH_seq (wH_region (h_op (vI r_14) wz rfl (h_op (vI r_14) wz rfl (h_nil ?_)))))
     obtain rfl := some_inj hc_9
     obtain rfl := some_inj hL_10
     obtain rfl := some_inj hF
     exact wH_ret (fin0 (.inr rfl) [(vI r_14)] ⟨rfl, trivial⟩ rfl rfl rfl)
    ·refine wH_iff rfl hc_16 (wH_skip (wH_region (h_opw (w64_next hD_6 hn_7) wz rfl (h_op (vI ((k_3 + 1 : Nat) : Int)) wz rfl (h_nil ?_)))))
     obtain rfl := some_inj hc_9
     exact loop_mk (k_3 + 1, l_4, ()) ⟨hL_10, drop_next hD_6⟩ (Nat.lt_succ_self _) rfl (pre_r rfl)
  ·rintro s_8 ho_ sl_ H_ hp_ hq_
   subst ho_
   refine wH_at _ hp_ hq_ (wH_seq (wH_region (h_op (vI 0) wz rfl (h_nil ?_))))
   obtain rfl := some_inj hF
   exact wH_ret (fin0 (.inr rfl) [(vI 0)] ⟨rfl, trivial⟩ rfl rfl rfl)
theorem slices_Grow_api_Rect_api_Rect_k_ok {n_1 : Int} {r : Bool} (hF : slices_Grow_api_Rect_api_Rect_k n_1 = some r) :
  FnM Tryz.prog 201 [.nil, (vI n_1)] [] (kV r (extN 0) 4 ([] : List Rect)) (kO r 4) := by
 refine FnM.of_wH ⟨Tryz.prog, 27, [], []⟩ rfl Tryz.func201 rfl rfl (Nat.le_of_ble_eq_true rfl) (by kernel_rfl) ?_
 unfold slices_Grow_api_Rect_api_Rect_k at hF
 refine wH_seq (wH_region (h_op .nil wz rfl (h_nil (wH_seq (wH_seq (wH_region (h_op (vI n_1) wz rfl (h_op (vB (decide (n_1 < 0))) wz rfl (h_nil ?_)))))))))
 rcases cond_some hF with ⟨hc_2, hF⟩ | ⟨hc_2, hF⟩
 ·refine wH_ift rfl hc_2 (wH_region ?_)
  cases hF
 ·refine wH_iff rfl hc_2 (wH_skip (wH_seq (wH_seq (wH_region (h_op (vI n_1) wz rfl (h_op .nil wz rfl (h_capn el66 rfl wz (h_op .nil wz rfl (h_lenn un66 rfl wz (h_op (vI (w64 (0 - 0))) wz rfl (h_op (vI (w64 (n_1 - (w64 (0 - 0))))) wz rfl (h_op (vI (w64 (n_1 - (w64 (0 - 0))))) wz rfl (h_nil (wH_seq (wH_region (h_op (vI (w64 (n_1 - (w64 (0 - 0))))) wz rfl (h_op (vB (decide ((w64 (n_1 - (w64 (0 - 0)))) > 0))) wz rfl (h_nil ?_))))))))))))))))))
  rcases cond_some hF with ⟨hc_3, hF⟩ | ⟨hc_3, hF⟩
  ·refine wH_ift rfl hc_3 (wH_region (h_op .nil wz rfl (h_op .nil wz rfl (h_capn el66 rfl wz (h_op .nil wz (by kernel_rfl) (h_op (vI (w64 (n_1 - (w64 (0 - 0))))) wz rfl ?_))))))
   obtain ⟨_, hz_5, hF⟩ := bind_some hF
   refine h_appz (enc := Rect.enc) 0 (.inl rfl) el66 (by kernel_rfl) sz75 z75 rfl (by decide) by75 rfl rfl hz_5 wz (fun n_4 => h_op .nil wz rfl (h_lenn un66 rfl wz (h_cutm (m := 0) un66 sz75 rfl rfl rfl (Nat.zero_le _) wz (h_op (.vs n_4 4 0 0) wz rfl (h_nil (wH_seq (wH_region (h_op (.vs n_4 4 0 0) wz rfl (h_op (.vs n_4 4 0 0) wz rfl (h_nil ?_))))))))))
   obtain rfl := some_inj hF
   exact wH_ret (finK (.inr rfl) 0 rfl rfl)
  ·refine wH_iff rfl hc_3 (wH_skip (wH_seq (wH_region (h_op .nil wz rfl (h_op .nil wz rfl (h_nil ?_))))))
   obtain rfl := some_inj hF
   exact wH_ret (finK0 (.inr rfl) rfl)
end Go.Proofs.YtbdohgbccebocaaGreatDoor.Law

