/-
 The machine computes these plain functions (written by a program of ours).
-/
import Derived.Test.YtpojeclokolkaaaGreatDoorFacts
import Derived.Test.YtpojeclokolkaaaGreatDoorDefs
open Go Go.Eng Go.Proofs
namespace Go.Proofs.YtpojeclokolkaaaGreatDoor.Law
set_option maxRecDepth 100000
set_option linter.unusedVariables false
set_option maxHeartbeats 1000000
theorem mk_Below_ok {x_1 : Int} {n_2 : Int} {r : Int} (hF : mk_Below x_1 n_2 = some r) :
  FnM Tryz.prog 167 [(vI x_1), (vI n_2)] [] (vI r) [] := by
 refine FnM.of_wH ⟨Tryz.prog, 16, [], []⟩ rfl Tryz.func167 rfl rfl (Nat.le_of_ble_eq_true rfl) (by kernel_rfl) ?_
 unfold mk_Below at hF
 refine wH_seq (wH_region (h_op (vI 0) wz rfl (h_nil (wH_seq (wH_seq (wH_region (h_op (vI n_2) wz rfl (h_op (vB (decide (n_2 < 1))) wz rfl (h_nil ?_)))))))))
 rcases cond_some hF with ⟨hc_3, hF⟩ | ⟨hc_3, hF⟩
 ·refine wH_ift rfl hc_3 (wH_seq (wH_region (h_op (vI 0) wz rfl (h_nil ?_))))
  obtain rfl := some_inj hF
  exact wH_ret (fin0 (.inr rfl) [(vI 0)] ⟨rfl, trivial⟩ rfl rfl rfl)
 ·refine wH_iff rfl hc_3 (wH_skip (wH_seq (wH_region (h_op (vI x_1) wz rfl (h_op (vI n_2) wz rfl ?_)))))
  obtain ⟨q_4, hz_5, hF⟩ := bind_some hF
  refine h_rem rfl rfl hz_5 wz (h_op (vI q_4) wz rfl (h_nil (wH_seq (wH_seq (wH_region (h_op (vI q_4) wz rfl (h_op (vB (decide (q_4 < 0))) wz rfl (h_nil ?_))))))))
  obtain ⟨v_6, h_7, hF⟩ := bind_some hF
  refine wH_join (β := Unit) (fun _ => ([(0, (vI v_6))] : List (Nat × V))) (fun _ => ([] : Hp)) (fun _ => True) ?_ ?_
  ·rcases cond_some h_7 with ⟨hc_8, h_7⟩ | ⟨hc_8, h_7⟩
   ·refine wH_ift rfl hc_8 (wH_region (h_op (vI q_4) wz rfl (h_op (vI n_2) wz rfl (h_op (vI (w64 (q_4 + n_2))) wz rfl (h_op (vI (w64 (q_4 + n_2))) wz rfl (h_nil ?_))))))
    obtain rfl := some_inj h_7
    exact cu
   ·refine wH_iff rfl hc_8 (wH_skip ?_)
    obtain rfl := some_inj h_7
    exact cu
  ·rintro ⟨⟩ _ sl_ H_ hp_ hq_
   refine wH_at _ hp_ hq_ (wH_seq (wH_region (h_op (vI v_6) wz rfl (h_op (vI v_6) wz rfl (h_nil ?_)))))
   obtain rfl := some_inj hF
   exact wH_ret (fin0 (.inr rfl) [(vI v_6)] ⟨rfl, trivial⟩ rfl rfl rfl)
theorem mk_Stream_Next_ok {s_1 : Stream} {n_2 : Int} {r : Int × Stream} (hF : mk_Stream_Next s_1 n_2 = some r) :
  FnM Tryz.prog 84 [(.ref (extN 0) 0 0), (vI n_2)] [(.cells 2 [(vL eI s_1.L), (vI s_1.f_at)])] (vI r.1) [some (.cells 2 [(vL eI r.2.L), (vI r.2.f_at)])] := by
 refine FnM.of_wH ⟨Tryz.prog, 64, [], []⟩ rfl Tryz.func84 rfl rfl (Nat.le_of_ble_eq_true rfl) (by kernel_rfl) ?_
 unfold mk_Stream_Next at hF
 refine wH_seq (wH_region (h_op (vI 0) wz rfl (h_nil (wH_seq (wH_region (h_op (.ref (extN 0) 0 0) wz rfl (h_op (.ref (extN 0) 0 0) wz rfl (h_far pl25_1 rfl 1 rfl wz (h_ldr 0 0 il ft sz3 ag3 rfl rfl (vI s_1.f_at) rfl wz (h_op (vI (w64 (s_1.f_at + 1))) wz rfl (h_op (.ref (extN 0) 0 0) wz rfl (h_far pl25_1 rfl 1 rfl wz (h_str 0 il ft 0 sz3 rfl rfl [(vL eI s_1.L), (vI (w64 (s_1.f_at + 1)))] rfl wz (h_nil (wH_seq (wH_seq (wH_region (h_op (.ref (extN 0) 0 0) wz rfl (h_op (.ref (extN 0) 0 0) wz rfl (h_far pl25_0 rfl 0 rfl wz (h_ldr 0 0 il ft sz22 ag22 rfl rfl (vL eI s_1.L) rfl wz (h_len un22 rfl wz (h_op (vB ((s_1.L.length : Int) == 0)) wz rfl ?_)))))))))))))))))))))))
 refine h_nil ?_
 rcases cond_some hF with ⟨hc_3, hF⟩ | ⟨hc_3, hF⟩
 ·refine wH_ift rfl hc_3 (wH_seq (wH_region (h_op (.ref (extN 0) 0 0) wz rfl (h_op (.ref (extN 0) 0 0) wz rfl (h_far pl25_1 rfl 1 rfl wz (h_ldr 0 0 il ft sz3 ag3 rfl rfl (vI (w64 (s_1.f_at + 1))) rfl wz (h_op (vI (w64 ((w64 (s_1.f_at + 1)) * 7919))) wz rfl (h_op (vI n_2) wz rfl ?_))))))))
  obtain ⟨r_4, hr_5, hF⟩ := bind_some hF
  refine h_call0 (mk_Below_ok hr_5) rfl hb167 rfl rfl rfl rfl wz (h_op (vI r_4) wz rfl (h_nil ?_))
  obtain rfl := some_inj hF
  exact wH_ret (finB (.inr rfl) [(vI r_4)] _ [0] [extN 0] ⟨rfl, trivial⟩ (.cons (co_data rfl rfl) (.nil)) (by kernel_rfl) ⟨(by kernel_rfl), trivial⟩ (by decide) (by kernel_rfl))
 ·refine wH_iff rfl hc_3 (wH_skip (wH_seq (wH_draws (h_op (.ref (extN 0) 0 0) wz rfl (h_op (.ref (extN 0) 0 0) wz rfl (h_far pl25_1 rfl 1 rfl wz (h_ldr 3 0 (.inr (by kernel_rfl)) (fun _ _ ag => trivial) sz3 ag3 rfl rfl (vI (w64 (s_1.f_at + 1))) rfl wz (h_op (vI (w64 ((w64 (s_1.f_at + 1)) - 1))) wz rfl (h_op (.ref (extN 0) 0 0) wz rfl (h_op (.ref (extN 0) 0 0) wz rfl (h_far pl25_0 rfl 0 rfl wz (h_ldr 8 0 (.inr (by kernel_rfl)) (fun _ _ ag => ⟨.inl ⟨rfl, rfl⟩, trivial⟩) sz22 ag22 rfl rfl (vL eI s_1.L) rfl wz (h_len un22 rfl wz ?_)))))))))))))
  obtain ⟨q_6, hz_7, hF⟩ := bind_some hF
  refine h_rem rfl rfl hz_7 wz (h_op (vI q_6) wz rfl (h_nil (wH_seq (wH_draws (h_op (.ref (extN 0) 0 0) wz rfl (h_op (.ref (extN 0) 0 0) wz rfl (h_far pl25_1 rfl 1 rfl wz (h_ldr 3 0 (.inr (by kernel_rfl)) (fun _ _ ag => trivial) sz3 ag3 rfl rfl (vI (w64 (s_1.f_at + 1))) rfl wz (h_op (vI (w64 ((w64 (s_1.f_at + 1)) - 1))) wz rfl (h_op (.ref (extN 0) 0 0) wz rfl (h_op (.ref (extN 0) 0 0) wz rfl (h_far pl25_0 rfl 0 rfl wz (h_ldr 8 0 (.inr (by kernel_rfl)) (fun _ _ ag => ⟨.inl ⟨rfl, rfl⟩, trivial⟩) sz22 ag22 rfl rfl (vL eI s_1.L) rfl wz (h_len un22 rfl wz ?_))))))))))))))
  obtain ⟨q_8, hz_9, hF⟩ := bind_some hF
  refine h_quo rfl rfl hz_9 wz (h_op (vI q_8) wz rfl (h_nil (wH_at (H0 := ([((extN 0), some (.cells 2 [(vL eI s_1.L), (vI (w64 (s_1.f_at + 1)))]))] : Hp)) ([(0, (.ref (extN 0) 0 0)), (1, (vI n_2)), (5, (vI q_6)), (6, (vI q_8))] : List (Nat × V)) (by kernel_rfl) (pre_mk (by kernel_rfl)) (wH_seq (wH_region (h_op (.ref (extN 0) 0 0) wz rfl (h_op (.ref (extN 0) 0 0) wz rfl (h_far pl25_0 rfl 0 rfl wz (h_ldr 0 0 il ft sz22 ag22 rfl rfl (vL eI s_1.L) rfl wz (h_op (vI q_6) wz rfl ?_))))))))))
  obtain ⟨y_10, hy_11, hF⟩ := bind_some hF
  refine h_ia es22 rfl rfl hy_11 rfl wz (h_ldc sz3 ag3 rfl (vI y_10) rfl wz ?_)
  obtain ⟨r_12, hr_13, hF⟩ := bind_some hF
  refine h_call0 (mk_Below_ok hr_13) rfl hb167 rfl rfl rfl rfl wz (h_op (vI q_8) wz rfl (h_op (vI q_6) wz rfl (h_op (vI (w64 (7919 + q_6))) wz rfl (h_op (vI (w64 (q_8 * (w64 (7919 + q_6))))) wz rfl (h_op (vI (w64 (r_12 + (w64 (q_8 * (w64 (7919 + q_6))))))) wz rfl (h_op (vI n_2) wz rfl ?_))))))
  obtain ⟨r_14, hr_15, hF⟩ := bind_some hF
  refine h_call0 (mk_Below_ok hr_15) rfl hb167 rfl rfl rfl rfl wz (h_op (vI r_14) wz rfl (h_nil ?_))
  obtain rfl := some_inj hF
  exact wH_ret (finB (.inr rfl) [(vI r_14)] _ [0] [extN 0] ⟨rfl, trivial⟩ (.cons (co_data rfl rfl) (.nil)) (by kernel_rfl) ⟨(by kernel_rfl), trivial⟩ (by decide) (by kernel_rfl))
theorem mk_Stream_Pick_ok {s_1 : Stream} {l_2 : (List Int)} {r : Int × Stream} (hF : mk_Stream_Pick s_1 l_2 = some r) :
  FnM Tryz.prog 34 [(.ref (extN 0) 0 0), (vL eI l_2)] [(.cells 2 [(vL eI s_1.L), (vI s_1.f_at)])] (vI r.1) [some (.cells 2 [(vL eI r.2.L), (vI r.2.f_at)])] := by
 refine FnM.of_wH ⟨Tryz.prog, 12, [], []⟩ rfl Tryz.func34 rfl rfl (Nat.le_of_ble_eq_true rfl) (by kernel_rfl) ?_
 unfold mk_Stream_Pick at hF
 refine wH_seq (wH_region (h_op (vI 0) wz rfl (h_nil (wH_seq (wH_region (h_op (vL eI l_2) wz rfl (h_op (.ref (extN 0) 0 0) wz rfl (h_op (vL eI l_2) wz rfl (h_len un22 rfl wz ?_)))))))))
 obtain ⟨r_3, hr_4, hF⟩ := bind_some hF
 refine h_callq 0 [0] il ft (mk_Stream_Next_ok hr_4) rfl hb84 rfl (by kernel_rfl) (by kernel_rfl) (by kernel_rfl) (by kernel_rfl) (by kernel_rfl) (by kernel_rfl) (by kernel_rfl) (by decide) (by kernel_rfl) wz (vI r_3.1) (by kernel_rfl) ([((extN 0), some (.cells 2 [(vL eI r_3.2.L), (vI r_3.2.f_at)]))] : Hp) (by kernel_rfl) ?_
 obtain ⟨y_6, hy_7, hF⟩ := bind_some hF
 refine h_ia es22 rfl rfl hy_7 rfl wz (h_ldc sz3 ag3 rfl (vI y_6) rfl wz (h_op (vI y_6) wz rfl (h_nil ?_)))
 obtain rfl := some_inj hF
 exact wH_ret (finB (.inr rfl) [(vI y_6)] _ [0] [extN 0] ⟨rfl, trivial⟩ (.cons (co_data rfl rfl) (.nil)) (by kernel_rfl) ⟨(by kernel_rfl), trivial⟩ (by decide) (by kernel_rfl))
theorem mk_Stream_Range_ok {s_1 : Stream} {low_2 : Int} {high_3 : Int} {r : Int × Stream} (hF : mk_Stream_Range s_1 low_2 high_3 = some r) :
  FnM Tryz.prog 13 [(.ref (extN 0) 0 0), (vI low_2), (vI high_3)] [(.cells 2 [(vL eI s_1.L), (vI s_1.f_at)])] (vI r.1) [some (.cells 2 [(vL eI r.2.L), (vI r.2.f_at)])] := by
 refine FnM.of_wH ⟨Tryz.prog, 19, [], []⟩ rfl Tryz.func13 rfl rfl (Nat.le_of_ble_eq_true rfl) (by kernel_rfl) ?_
 unfold mk_Stream_Range at hF
 refine wH_seq (wH_region (h_op (vI 0) wz rfl (h_nil (wH_seq (wH_seq (wH_region (h_op (vI high_3) wz rfl (h_op (vI low_2) wz rfl (h_op (vB (decide (high_3 < low_2))) wz rfl (h_nil ?_))))))))))
 rcases cond_some hF with ⟨hc_4, hF⟩ | ⟨hc_4, hF⟩
 ·refine wH_ift rfl hc_4 (wH_seq (wH_region (h_op (vI low_2) wz rfl (h_op (vI low_2) wz rfl (h_nil ?_)))))
  obtain rfl := some_inj hF
  exact wH_ret (finB (.inr rfl) [(vI low_2)] _ [0] [extN 0] ⟨rfl, trivial⟩ (.cons (co_data rfl rfl) (.nil)) (by kernel_rfl) ⟨(by kernel_rfl), trivial⟩ (by decide) (by kernel_rfl))
 ·refine wH_iff rfl hc_4 (wH_skip (wH_seq (wH_region (h_op (vI low_2) wz rfl (h_op (.ref (extN 0) 0 0) wz rfl (h_op (vI high_3) wz rfl (h_op (vI low_2) wz rfl (h_op (vI (w64 (high_3 - low_2))) wz rfl (h_op (vI (w64 ((w64 (high_3 - low_2)) + 1))) wz rfl ?_)))))))))
  obtain ⟨r_5, hr_6, hF⟩ := bind_some hF
  refine h_callq 0 [0] il ft (mk_Stream_Next_ok hr_6) rfl hb84 rfl (by kernel_rfl) (by kernel_rfl) (by kernel_rfl) (by kernel_rfl) (by kernel_rfl) (by kernel_rfl) (by kernel_rfl) (by decide) (by kernel_rfl) wz (vI r_5.1) (by kernel_rfl) ([((extN 0), some (.cells 2 [(vL eI r_5.2.L), (vI r_5.2.f_at)]))] : Hp) (by kernel_rfl) (h_op (vI (w64 (low_2 + r_5.1))) wz rfl (h_op (vI (w64 (low_2 + r_5.1))) wz rfl (h_nil ?_)))
  obtain rfl := some_inj hF
  exact wH_ret (finB (.inr rfl) [(vI (w64 (low_2 + r_5.1)))] _ [0] [extN 0] ⟨rfl, trivial⟩ (.cons (co_data rfl rfl) (.nil)) (by kernel_rfl) ⟨(by kernel_rfl), trivial⟩ (by decide) (by kernel_rfl))
theorem mk_Stream_Some_ok {s_1 : Stream} {l_2 : (List ByteArray)} {r : ByteArray × Stream} (hF : mk_Stream_Some s_1 l_2 = some r) :
  FnM Tryz.prog 70 [(.ref (extN 0) 0 0), (vL eS l_2)] [(.cells 2 [(vL eI s_1.L), (vI s_1.f_at)])] (vS r.1) [some (.cells 2 [(vL eI r.2.L), (vI r.2.f_at)])] := by
 refine FnM.of_wH ⟨Tryz.prog, 12, [], []⟩ rfl Tryz.func70 rfl rfl (Nat.le_of_ble_eq_true rfl) (by kernel_rfl) ?_
 unfold mk_Stream_Some at hF
 refine wH_seq (wH_region (h_op (vS (⟨#[]⟩ : ByteArray)) wz rfl (h_nil (wH_seq (wH_region (h_op (vL eS l_2) wz rfl (h_op (.ref (extN 0) 0 0) wz rfl (h_op (vL eS l_2) wz rfl (h_len un80 rfl wz ?_)))))))))
 obtain ⟨r_3, hr_4, hF⟩ := bind_some hF
 refine h_callq 0 [0] il ft (mk_Stream_Next_ok hr_4) rfl hb84 rfl (by kernel_rfl) (by kernel_rfl) (by kernel_rfl) (by kernel_rfl) (by kernel_rfl) (by kernel_rfl) (by kernel_rfl) (by decide) (by kernel_rfl) wz (vI r_3.1) (by kernel_rfl) ([((extN 0), some (.cells 2 [(vL eI r_3.2.L), (vI r_3.2.f_at)]))] : Hp) (by kernel_rfl) ?_
 obtain ⟨y_6, hy_7, hF⟩ := bind_some hF
 refine h_ia es80 rfl rfl hy_7 rfl wz (h_ldc sz9 ag9 rfl (vS y_6) rfl wz (h_op (vS y_6) wz rfl (h_nil ?_)))
 obtain rfl := some_inj hF
 exact wH_ret (finB (.inr rfl) [(vS y_6)] _ [0] [extN 0] ⟨rfl, trivial⟩ (.cons (co_data rfl rfl) (.nil)) (by kernel_rfl) ⟨(by kernel_rfl), trivial⟩ (by decide) (by kernel_rfl))
theorem mk_Stream_RightPlays_ok {s_1 : Stream} {most_2 : Int} {r : (List Play) × Stream} (hF : mk_Stream_RightPlays s_1 most_2 = some r) :
  FnM Tryz.prog 12 [(.ref (extN 0) 0 0), (vI most_2)] [(.cells 2 [(vL eI s_1.L), (vI s_1.f_at)])] (vL Play.enc r.1) [some (.cells 2 [(vL eI r.2.L), (vI r.2.f_at)])] := by
 refine FnM.of_wH ⟨Tryz.prog, 45, [], []⟩ rfl Tryz.func12 rfl rfl (Nat.le_of_ble_eq_true rfl) (by kernel_rfl) ?_
 unfold mk_Stream_RightPlays at hF
 refine wH_seq (wH_region (h_op .nil wz rfl (h_nil (wH_seq (wH_region (h_op .nil wz rfl (h_nil (wH_seq (wH_seq (wH_region (h_lit (([(⟨#[112, 97]⟩ : ByteArray), (⟨#[112, 98]⟩ : ByteArray)] : List ByteArray).map eS) es80 ez80 rfl rfl rfl rfl rfl wz (h_len un80 rfl wz (h_op (vI 0) wz rfl (h_nil (wH_new (fun n_9 => ?_))))))))))))))))
 obtain ⟨o_14, hj_15, hF⟩ := bind_some hF
 obtain ⟨hn_7, hj_15⟩ := forL_some hj_15
 refine wH_join (β := ((List Play) × (List Int) × Int) × Nm) (fun p => (fun (s_8 : (List Play) × (List Int) × Int) (n_11 : Nm) => ([(5, (gV n_11 4 s_8.1))] : List (Nat × V))) p.1 p.2) (fun p => (fun (s_8 : (List Play) × (List Int) × Int) (n_11 : Nm) => ([((extN 0), some (.cells 2 [(vL eI s_8.2.1), (vI s_8.2.2)])), (n_11, gB 4 Play.enc s_8.1)] : Hp)) p.1 p.2) (fun p => o_14 = .go p.1) ?_ ?_
 ·refine wH_block (wH_loop (β := Nat × (List ByteArray) × ((List Play) × (List Int) × Int) × Nm) (fun p => (fun (k_3 : Nat) (l_4 : List ByteArray) (s_8 : (List Play) × (List Int) × Int) (n_11 : Nm) => ([(0, (.ref (extN 0) 0 0)), (1, (vI most_2)), (5, (gV n_11 4 s_8.1)), (10, (vL eS ([(⟨#[112, 97]⟩ : ByteArray), (⟨#[112, 98]⟩ : ByteArray)] : List ByteArray))), (11, (vI (([(⟨#[112, 97]⟩ : ByteArray), (⟨#[112, 98]⟩ : ByteArray)] : List ByteArray).length : Int))), (12, (vI (k_3 : Int)))] : List (Nat × V))) p.1 p.2.1 p.2.2.1 p.2.2.2) (fun p => (fun (k_3 : Nat) (l_4 : List ByteArray) (s_8 : (List Play) × (List Int) × Int) (n_11 : Nm) => ([((extN 0), some (.cells 2 [(vL eI s_8.2.1), (vI s_8.2.2)])), (n_11, gB 4 Play.enc s_8.1)] : Hp)) p.1 p.2.1 p.2.2.1 p.2.2.2) (fun p => forR (fun k x s => mk_Stream_RightPlays_L2 most_2 k x s) p.2.1 p.1 p.2.2.1 = some o_14 ∧ (([(⟨#[112, 97]⟩ : ByteArray), (⟨#[112, 98]⟩ : ByteArray)] : List ByteArray)).drop p.1 = p.2.1) (fun p => p.2.1.length) (0, ([(⟨#[112, 97]⟩ : ByteArray), (⟨#[112, 98]⟩ : ByteArray)] : List ByteArray), (([] : List Play), s_1.L, s_1.f_at), n_9) ⟨hj_15, rfl⟩ rfl (pre_r rfl) ?_)
  rintro ⟨k_3, l_4, s_8, n_11⟩ ⟨hL_13, hD_6⟩
  dsimp only at hL_13 hD_6
  cases l_4 with
  | nil =>
   obtain rfl := some_inj hL_13
   refine wH_seq (wH_region (h_op (vB (decide ((k_3 : Int) < (([(⟨#[112, 97]⟩ : ByteArray), (⟨#[112, 98]⟩ : ByteArray)] : List ByteArray).length : Int)))) wz rfl (h_nil ?_)))
   refine wH_seq (wH_iff rfl (drop_nil hD_6) (wH_exit ?_))
   exact cut_mk (s_8, n_11) rfl rfl (pre_r rfl)
  | cons x_5 l_4 =>
   obtain ⟨c_, hc_12, hL_13⟩ := bind_some hL_13
   refine wH_seq (wH_region (h_op (vB (decide ((k_3 : Int) < (([(⟨#[112, 97]⟩ : ByteArray), (⟨#[112, 98]⟩ : ByteArray)] : List ByteArray).length : Int)))) wz rfl (h_nil ?_)))
   refine wH_seq (wH_ift rfl (drop_cons hD_6) (wH_skip ?_))
   unfold mk_Stream_RightPlays_L2 at hc_12
   refine wH_seq (wH_block (wH_seq (wH_region (h_ia es80 rfl rfl (drop_idx hD_6) rfl wz (h_ldc sz9 ag9 rfl (vS x_5) rfl wz (h_op (vS x_5) wz rfl (h_nil (wH_seq (wH_region (h_op (.ref (extN 0) 0 0) wz rfl (h_lit (([0, 5, 86399990] : List Int).map eI) es22 ez22 rfl rfl rfl rfl rfl wz ?_)))))))))))
   obtain ⟨r_16, hr_17, hc_12⟩ := bind_some hc_12
   refine h_callq 0 [0] il ft (mk_Stream_Pick_ok hr_17) rfl hb34 rfl (by kernel_rfl) (by kernel_rfl) (by kernel_rfl) (by kernel_rfl) (by kernel_rfl) (by kernel_rfl) (by kernel_rfl) (by decide) (by kernel_rfl) wz (vI r_16.1) (by kernel_rfl) ([((extN 0), some (.cells 2 [(vL eI r_16.2.L), (vI r_16.2.f_at)])), (n_11, gB 4 Play.enc s_8.1)] : Hp) (by kernel_rfl) (h_op (vI r_16.1) wz rfl (h_nil (wH_seq (wH_region (h_op (.ref (extN 0) 0 0) wz rfl (h_op (vI most_2) wz rfl ?_))))))
   obtain ⟨r_19, hr_20, hc_12⟩ := bind_some hc_12
   refine h_callq 0 [0] il ft (mk_Stream_Range_ok hr_20) rfl hb13 rfl (by kernel_rfl) (by kernel_rfl) (by kernel_rfl) (by kernel_rfl) (by kernel_rfl) (by kernel_rfl) (by kernel_rfl) (by decide) (by kernel_rfl) wz (vI r_19.1) (by kernel_rfl) ([((extN 0), some (.cells 2 [(vL eI r_19.2.L), (vI r_19.2.f_at)])), (n_11, gB 4 Play.enc s_8.1)] : Hp) (by kernel_rfl) (h_op (vI 0) wz rfl (h_nil ?_))
   obtain ⟨o_32, hj_33, hc_12⟩ := bind_some hc_12
   obtain ⟨hn_26, hj_33⟩ := forL_some hj_33
   refine wH_join (β := ((List Play) × Int × (List Int) × Int) × Nm) (fun p => (fun (s_27 : (List Play) × Int × (List Int) × Int) (n_29 : Nm) => ([(0, (.ref (extN 0) 0 0)), (1, (vI most_2)), (5, (gV n_29 4 s_27.1)), (10, (vL eS ([(⟨#[112, 97]⟩ : ByteArray), (⟨#[112, 98]⟩ : ByteArray)] : List ByteArray))), (11, (vI (([(⟨#[112, 97]⟩ : ByteArray), (⟨#[112, 98]⟩ : ByteArray)] : List ByteArray).length : Int))), (12, (vI (k_3 : Int)))] : List (Nat × V))) p.1 p.2) (fun p => (fun (s_27 : (List Play) × Int × (List Int) × Int) (n_29 : Nm) => ([((extN 0), some (.cells 2 [(vL eI s_27.2.2.1), (vI s_27.2.2.2)])), (n_29, gB 4 Play.enc s_27.1)] : Hp)) p.1 p.2) (fun p => o_32 = .go p.1) ?_ ?_
   ·refine wH_block (wH_loop (β := Nat × (List Nat) × ((List Play) × Int × (List Int) × Int) × Nm) (fun p => (fun (k_22 : Nat) (l_23 : List Nat) (s_27 : (List Play) × Int × (List Int) × Int) (n_29 : Nm) => ([(0, (.ref (extN 0) 0 0)), (1, (vI most_2)), (5, (gV n_29 4 s_27.1)), (7, (vS x_5)), (8, (vI s_27.2.1)), (10, (vL eS ([(⟨#[112, 97]⟩ : ByteArray), (⟨#[112, 98]⟩ : ByteArray)] : List ByteArray))), (11, (vI (([(⟨#[112, 97]⟩ : ByteArray), (⟨#[112, 98]⟩ : ByteArray)] : List ByteArray).length : Int))), (12, (vI (k_3 : Int))), (21, (vI r_19.1)), (22, (vI (k_22 : Int)))] : List (Nat × V))) p.1 p.2.1 p.2.2.1 p.2.2.2) (fun p => (fun (k_22 : Nat) (l_23 : List Nat) (s_27 : (List Play) × Int × (List Int) × Int) (n_29 : Nm) => ([((extN 0), some (.cells 2 [(vL eI s_27.2.2.1), (vI s_27.2.2.2)])), (n_29, gB 4 Play.enc s_27.1)] : Hp)) p.1 p.2.1 p.2.2.1 p.2.2.2) (fun p => forR (fun k x s => mk_Stream_RightPlays_L1 x_5 k x s) p.2.1 p.1 p.2.2.1 = some o_32 ∧ ((List.range (r_19.1).toNat)).drop p.1 = p.2.1) (fun p => p.2.1.length) (0, (List.range (r_19.1).toNat), (s_8.1, r_16.1, r_19.2.L, r_19.2.f_at), n_11) ⟨hj_33, rfl⟩ rfl (pre_r rfl) ?_)
    rintro ⟨k_22, l_23, s_27, n_29⟩ ⟨hL_31, hD_25⟩
    dsimp only at hL_31 hD_25
    cases l_23 with
    | nil =>
     obtain rfl := some_inj hL_31
     refine wH_seq (wH_region (h_op (vB (decide ((k_22 : Int) < r_19.1))) wz rfl (h_nil ?_)))
     refine wH_seq (wH_iff rfl (range_nil hD_25) (wH_exit ?_))
     exact cut_mk (s_27, n_29) rfl rfl (pre_r rfl)
    | cons x_24 l_23 =>
     obtain ⟨c_, hc_30, hL_31⟩ := bind_some hL_31
     refine wH_seq (wH_region (h_op (vB (decide ((k_22 : Int) < r_19.1))) wz rfl (h_nil ?_)))
     refine wH_seq (wH_ift rfl (range_cons hD_25) (wH_skip ?_))
     unfold mk_Stream_RightPlays_L1 at hc_30
     refine wH_seq (wH_block (wH_seq (wH_region (h_op (vS x_5) wz rfl (h_op (.ref (extN 0) 0 0) wz rfl (h_lit (([(⟨#[105, 97]⟩ : ByteArray), (⟨#[105, 98]⟩ : ByteArray)] : List ByteArray).map eS) es80 ez80 rfl rfl rfl rfl rfl wz ?_))))))
     obtain ⟨r_34, hr_35, hc_30⟩ := bind_some hc_30
     refine h_callq 0 [0] il ft (mk_Stream_Some_ok hr_35) rfl hb70 rfl (by kernel_rfl) (by kernel_rfl) (by kernel_rfl) (by kernel_rfl) (by kernel_rfl) (by kernel_rfl) (by kernel_rfl) (by decide) (by kernel_rfl) wz (vS r_34.1) (by kernel_rfl) ([((extN 0), some (.cells 2 [(vL eI r_34.2.L), (vI r_34.2.f_at)])), (n_29, gB 4 Play.enc s_27.1)] : Hp) (by kernel_rfl) (h_op (vI s_27.2.1) wz rfl (h_op (.ref (extN 0) 0 0) wz rfl (h_lit (([1, 5, 10, 20] : List Int).map eI) es22 ez22 rfl rfl rfl rfl rfl wz ?_)))
     obtain ⟨r_37, hr_38, hc_30⟩ := bind_some hc_30
     refine h_callq 0 [0] il ft (mk_Stream_Pick_ok hr_38) rfl hb34 rfl (by kernel_rfl) (by kernel_rfl) (by kernel_rfl) (by kernel_rfl) (by kernel_rfl) (by kernel_rfl) (by kernel_rfl) (by decide) (by kernel_rfl) wz (vI r_37.1) (by kernel_rfl) ([((extN 0), some (.cells 2 [(vL eI r_37.2.L), (vI r_37.2.f_at)])), (n_29, gB 4 Play.enc s_27.1)] : Hp) (by kernel_rfl) (h_op (.d (.agg (Play.enc (⟨x_5, r_34.1, s_27.2.1, r_37.1⟩ : Play)))) wz (by kernel_rfl) (h_alloc 0 (.inl rfl) z36 rfl wz (fun n_40 => h_str 0 il ft 2 sz36 rfl rfl [(vS x_5), (vS r_34.1), (vI s_27.2.1), (vI r_37.1)] rfl wz (h_nil (wH_seq (wH_region (h_op (vI s_27.2.1) wz rfl (h_op (.ref (extN 0) 0 0) wz rfl (h_lit (([1, 5, 10, 30] : List Int).map eI) es22 ez22 rfl rfl rfl rfl rfl wz ?_)))))))))
     obtain ⟨r_41, hr_42, hc_30⟩ := bind_some hc_30
     refine h_callq 0 [0] il ft (mk_Stream_Pick_ok hr_42) rfl hb34 rfl (by kernel_rfl) (by kernel_rfl) (by kernel_rfl) (by kernel_rfl) (by kernel_rfl) (by kernel_rfl) (by kernel_rfl) (by decide) (by kernel_rfl) wz (vI r_41.1) (by kernel_rfl) ([((extN 0), some (.cells 2 [(vL eI r_41.2.L), (vI r_41.2.f_at)])), (n_29, gB 4 Play.enc s_27.1), (n_40, some (.cells 4 [(vS x_5), (vS r_34.1), (vI s_27.2.1), (vI r_37.1)]))] : Hp) (by kernel_rfl) (h_op (vI (w64 (s_27.2.1 + r_41.1))) wz rfl (h_op (vI (w64 (s_27.2.1 + r_41.1))) wz rfl (h_nil (wH_region (h_op (gV n_29 4 s_27.1) wz rfl (h_ldr 0 2 il ft sz36 ag36 rfl rfl (.d (.agg (Play.enc (⟨x_5, r_34.1, s_27.2.1, r_37.1⟩ : Play)))) rfl wz (h_lit (([(⟨x_5, r_34.1, s_27.2.1, r_37.1⟩ : Play)] : List Play).map Play.enc) es26 ez26 rfl rfl rfl rfl rfl wz ?_)))))))
     obtain ⟨a_44, hz_45, hc_30⟩ := bind_some hc_30
     refine h_appg 0 il ft (i := 1) el26 el26 sz36 z36 rfl (by decide) by36 (by decide) (fun _ => rfl) rfl rfl rfl hz_45 wz (fun n_46 => h_op (gV n_46 4 a_44) wz rfl (h_nil (wH_region (h_opw (w64_nextr hD_25 hn_26) wz rfl (h_op (vI ((k_22 + 1 : Nat) : Int)) wz rfl (h_nil ?_))))))
     obtain rfl := some_inj hc_30
     exact loop_mk (k_22 + 1, l_23, (a_44, (w64 (s_27.2.1 + r_41.1)), r_41.2.L, r_41.2.f_at), n_46) ⟨hL_31, drop_next hD_25⟩ (Nat.lt_succ_self _) rfl (pre_r rfl)
   ·rintro ⟨s_27, n_29⟩ ho_ sl_ H_ hp_ hq_
    subst ho_
    refine wH_at _ hp_ hq_ (wH_region (h_opw (w64_next hD_6 hn_7) wz rfl (h_op (vI ((k_3 + 1 : Nat) : Int)) wz rfl (h_nil ?_))))
    obtain rfl := some_inj hc_12
    exact loop_mk (k_3 + 1, l_4, (s_27.1, s_27.2.2.1, s_27.2.2.2), n_29) ⟨hL_13, drop_next hD_6⟩ (Nat.lt_succ_self _) rfl (pre_r rfl)
 ·rintro ⟨s_8, n_11⟩ ho_ sl_ H_ hp_ hq_
  subst ho_
  refine wH_at _ hp_ hq_ (wH_seq (wH_region (h_op (gV n_11 4 s_8.1) wz rfl (h_op (gV n_11 4 s_8.1) wz rfl (h_nil (wH_frozg 1 rfl (wH_cog 4 1 rfl rfl (wH_cog 5 1 rfl rfl (wH_cog 44 1 rfl rfl ?_)))))))))
  obtain rfl := some_inj hF
  exact wH_ret (finB (.inr rfl) [(vL Play.enc s_8.1)] _ [0] [extN 0] ⟨rfl, trivial⟩ (.cons (co_data rfl rfl) (.nil)) (by kernel_rfl) ⟨(by kernel_rfl), trivial⟩ (by decide) (by kernel_rfl))
theorem kit_IsKey_ok {s_1 : ByteArray} {r : Bool} (hF : kit_IsKey s_1 = some r) :
  FnM Tryz.prog 124 [(vS s_1)] [] (vB r) [] := by
 refine FnM.of_wH ⟨Tryz.prog, 48, [], []⟩ rfl Tryz.func124 rfl rfl (Nat.le_of_ble_eq_true rfl) (by kernel_rfl) ?_
 unfold kit_IsKey at hF
 refine wH_seq (wH_region (h_op (vB false) wz rfl (h_nil (wH_seq (wH_seq (wH_region (h_op (vI 0) wz rfl (h_nil ?_))))))))
 obtain ⟨o_10, hj_11, hF⟩ := bind_some hF
 obtain ⟨nq_33, hj_11⟩ := loopO_iter hj_11
 refine wH_join (β := (Int)) (fun (s_7 : Int) => ([(0, (vS s_1))] : List (Nat × V))) (fun (s_7 : Int) => ([] : Hp)) (fun p => o_10 = .go p) ?_ ?_
 ·refine wH_block (wH_loop (β := Nat × (Int)) (fun p => (fun (k_2 : Nat) (s_7 : Int) => ([(0, (vS s_1)), (3, (vI s_7))] : List (Nat × V))) p.1 p.2) (fun p => (fun (k_2 : Nat) (s_7 : Int) => ([] : Hp)) p.1 p.2) (fun p => iterN (fun s => kit_IsKey_L1 s_1 s) p.1 p.2 = some o_10) (fun p => p.1) (nq_33, 0) hj_11 rfl (pre_r rfl) ?_)
  rintro ⟨k_2, s_7⟩ hL_9
  dsimp only at hL_9
  cases k_2 with
  | zero => cases hL_9
  | succ k_2 =>
   obtain ⟨c_, hc_8, hL_9⟩ := bind_some hL_9
   unfold kit_IsKey_L1 at hc_8
   refine wH_seq (wH_seq (wH_region (h_op (vI s_7) wz rfl (h_op (vS s_1) wz rfl (h_lens un9 rfl wz (h_op (vB (decide (s_7 < (s_1.size : Int)))) wz rfl (h_nil ?_)))))))
   rcases cond_some hc_8 with ⟨hc_12, hc_8⟩ | ⟨hc_12, hc_8⟩
   ·refine wH_ift rfl hc_12 (wH_skip (wH_seq (wH_block (wH_seq (wH_region (h_op (vS s_1) wz rfl (h_op (vI s_7) wz rfl ?_)))))))
    obtain ⟨b_13, hy_14, hc_8⟩ := bind_some hc_8
    refine h_idxs un9 rfl rfl hy_14 wz (h_op (.d (.int .u8 (b_13.toNat : Int))) wz rfl (h_nil (wH_seq ?_)))
    obtain ⟨v_15, h_16, hc_8⟩ := bind_some hc_8
    refine wH_join (β := Unit) (fun _ => ([(0, (vS s_1)), (3, (vI s_7)), (40, (vB v_15))] : List (Nat × V))) (fun _ => ([] : Hp)) (fun _ => True) ?_ ?_
    ·refine wH_region (h_op (.d (.int .u8 (b_13.toNat : Int))) wz rfl (h_op (vB (decide ((b_13.toNat : Int) ≥ 97))) wz rfl ?_))
     rcases cond_some h_16 with ⟨hc_17, h_16⟩ | ⟨hc_17, h_16⟩
     ·refine h_movb rfl hc_17 wz (h_op (.d (.int .u8 (b_13.toNat : Int))) wa rfl (h_op (vB (decide ((b_13.toNat : Int) ≤ 122))) wa rfl (h_op (vB (decide ((b_13.toNat : Int) ≤ 122))) wz rfl ?_)))
      rcases cond_some h_16 with ⟨hc_18, h_16⟩ | ⟨hc_18, h_16⟩
      ·refine h_movb rfl hc_18 wz (h_skip wa (h_skip wa (h_skip wa (h_skip (wn rfl rfl) (h_skip (wn rfl rfl) (h_skip (wn rfl rfl) (h_skip (wn rfl rfl) (h_skip (wn rfl rfl) (h_skip (wn rfl rfl) (h_skip (wn rfl rfl) (h_skip (wn rfl rfl) (h_skip (wn rfl rfl) (h_skip (wn rfl rfl) (h_skip (wn rfl rfl) (h_skip (wn rfl rfl) (h_skip (wn rfl rfl) (h_skip (wn rfl rfl) (h_skip wa (h_op (vB true) wz rfl (h_op (vB false) wz rfl (h_nil ?_)))))))))))))))))))))
       obtain rfl := some_inj h_16
       exact cu
      ·refine h_movb rfl hc_18 wz (h_op (vI s_7) wa rfl (h_op (vB (decide (s_7 > 0))) wa rfl ?_))
       rcases cond_some h_16 with ⟨hc_19, h_16⟩ | ⟨hc_19, h_16⟩
       ·refine h_movb rfl hc_19 wa (h_op (.d (.int .u8 (b_13.toNat : Int))) wa rfl (h_op (vB (decide ((b_13.toNat : Int) ≥ 48))) wa rfl ?_))
        rcases cond_some h_16 with ⟨hc_20, h_16⟩ | ⟨hc_20, h_16⟩
        ·refine h_movb rfl hc_20 wa (h_op (.d (.int .u8 (b_13.toNat : Int))) wa rfl (h_op (vB (decide ((b_13.toNat : Int) ≤ 57))) wa rfl (h_op (vB (decide ((b_13.toNat : Int) ≤ 57))) wa rfl ?_)))
         rcases cond_some h_16 with ⟨hc_21, h_16⟩ | ⟨hc_21, h_16⟩
         ·refine h_movb rfl hc_21 wa (h_skip wa (h_skip wa (h_op (vB true) wa rfl (h_op (vB true) wa rfl (h_skip wa (h_skip wa (h_op (vB true) wa rfl (h_op (vB true) wa rfl (h_op (vB true) wz rfl (h_op (vB false) wz rfl (h_nil ?_)))))))))))
          obtain rfl := some_inj h_16
          exact cu
         ·refine h_movb rfl hc_21 wa (h_op (.d (.int .u8 (b_13.toNat : Int))) wa rfl (h_op (vB ((b_13.toNat : Int) == 45)) wa rfl (h_op (vB ((b_13.toNat : Int) == 45)) wa rfl ?_)))
          rcases cond_some h_16 with ⟨hc_22, h_16⟩ | ⟨hc_22, h_16⟩
          ·refine h_movb rfl hc_22 wa (h_skip wa (h_skip wa (h_op (vB true) wa rfl (h_op (vB true) wa rfl (h_op (vB true) wz rfl (h_op (vB false) wz rfl (h_nil ?_)))))))
           obtain rfl := some_inj h_16
           exact cu
          ·refine h_movb rfl hc_22 wa (h_op (.d (.int .u8 (b_13.toNat : Int))) wa rfl (h_op (vB ((b_13.toNat : Int) == 95)) wa rfl (h_op (vB ((b_13.toNat : Int) == 95)) wa rfl (h_op (vB ((b_13.toNat : Int) == 95)) wa rfl (h_op (vB ((b_13.toNat : Int) == 95)) wz rfl (h_op (vB (!((b_13.toNat : Int) == 95))) wz rfl (h_nil ?_)))))))
           obtain rfl := some_inj h_16
           exact cu
        ·refine h_movb rfl hc_20 wa (h_skip wa (h_skip wa (h_op (vB false) wa rfl (h_op (vB false) wa rfl (h_op (.d (.int .u8 (b_13.toNat : Int))) wa rfl (h_op (vB ((b_13.toNat : Int) == 45)) wa rfl (h_op (vB ((b_13.toNat : Int) == 45)) wa rfl ?_)))))))
         rcases cond_some h_16 with ⟨hc_23, h_16⟩ | ⟨hc_23, h_16⟩
         ·refine h_movb rfl hc_23 wa (h_skip wa (h_skip wa (h_op (vB true) wa rfl (h_op (vB true) wa rfl (h_op (vB true) wz rfl (h_op (vB false) wz rfl (h_nil ?_)))))))
          obtain rfl := some_inj h_16
          exact cu
         ·refine h_movb rfl hc_23 wa (h_op (.d (.int .u8 (b_13.toNat : Int))) wa rfl (h_op (vB ((b_13.toNat : Int) == 95)) wa rfl (h_op (vB ((b_13.toNat : Int) == 95)) wa rfl (h_op (vB ((b_13.toNat : Int) == 95)) wa rfl (h_op (vB ((b_13.toNat : Int) == 95)) wz rfl (h_op (vB (!((b_13.toNat : Int) == 95))) wz rfl (h_nil ?_)))))))
          obtain rfl := some_inj h_16
          exact cu
       ·refine h_movb rfl hc_19 wa (h_skip wa (h_skip wa (h_skip wa (h_skip (wn rfl rfl) (h_skip (wn rfl rfl) (h_skip wa (h_skip wa (h_skip (wn rfl rfl) (h_skip (wn rfl rfl) (h_skip wa (h_skip wa (h_skip (wn rfl rfl) (h_skip (wn rfl rfl) (h_skip wa (h_op (vB false) wa rfl (h_op (vB false) wz rfl (h_op (vB true) wz rfl (h_nil ?_))))))))))))))))))
        obtain rfl := some_inj h_16
        exact cu
     ·refine h_movb rfl hc_17 wz (h_skip wa (h_skip wa (h_op (vB false) wz rfl (h_op (vB false) wz rfl (h_op (vI s_7) wa rfl (h_op (vB (decide (s_7 > 0))) wa rfl ?_))))))
      rcases cond_some h_16 with ⟨hc_24, h_16⟩ | ⟨hc_24, h_16⟩
      ·refine h_movb rfl hc_24 wa (h_op (.d (.int .u8 (b_13.toNat : Int))) wa rfl (h_op (vB (decide ((b_13.toNat : Int) ≥ 48))) wa rfl ?_))
       rcases cond_some h_16 with ⟨hc_25, h_16⟩ | ⟨hc_25, h_16⟩
       ·refine h_movb rfl hc_25 wa (h_op (.d (.int .u8 (b_13.toNat : Int))) wa rfl (h_op (vB (decide ((b_13.toNat : Int) ≤ 57))) wa rfl (h_op (vB (decide ((b_13.toNat : Int) ≤ 57))) wa rfl ?_)))
        rcases cond_some h_16 with ⟨hc_26, h_16⟩ | ⟨hc_26, h_16⟩
        ·refine h_movb rfl hc_26 wa (h_skip wa (h_skip wa (h_op (vB true) wa rfl (h_op (vB true) wa rfl (h_skip wa (h_skip wa (h_op (vB true) wa rfl (h_op (vB true) wa rfl (h_op (vB true) wz rfl (h_op (vB false) wz rfl (h_nil ?_)))))))))))
         obtain rfl := some_inj h_16
         exact cu
        ·refine h_movb rfl hc_26 wa (h_op (.d (.int .u8 (b_13.toNat : Int))) wa rfl (h_op (vB ((b_13.toNat : Int) == 45)) wa rfl (h_op (vB ((b_13.toNat : Int) == 45)) wa rfl ?_)))
         rcases cond_some h_16 with ⟨hc_27, h_16⟩ | ⟨hc_27, h_16⟩
         ·refine h_movb rfl hc_27 wa (h_skip wa (h_skip wa (h_op (vB true) wa rfl (h_op (vB true) wa rfl (h_op (vB true) wz rfl (h_op (vB false) wz rfl (h_nil ?_)))))))
          obtain rfl := some_inj h_16
          exact cu
         ·refine h_movb rfl hc_27 wa (h_op (.d (.int .u8 (b_13.toNat : Int))) wa rfl (h_op (vB ((b_13.toNat : Int) == 95)) wa rfl (h_op (vB ((b_13.toNat : Int) == 95)) wa rfl (h_op (vB ((b_13.toNat : Int) == 95)) wa rfl (h_op (vB ((b_13.toNat : Int) == 95)) wz rfl (h_op (vB (!((b_13.toNat : Int) == 95))) wz rfl (h_nil ?_)))))))
          obtain rfl := some_inj h_16
          exact cu
       ·refine h_movb rfl hc_25 wa (h_skip wa (h_skip wa (h_op (vB false) wa rfl (h_op (vB false) wa rfl (h_op (.d (.int .u8 (b_13.toNat : Int))) wa rfl (h_op (vB ((b_13.toNat : Int) == 45)) wa rfl (h_op (vB ((b_13.toNat : Int) == 45)) wa rfl ?_)))))))
        rcases cond_some h_16 with ⟨hc_28, h_16⟩ | ⟨hc_28, h_16⟩
        ·refine h_movb rfl hc_28 wa (h_skip wa (h_skip wa (h_op (vB true) wa rfl (h_op (vB true) wa rfl (h_op (vB true) wz rfl (h_op (vB false) wz rfl (h_nil ?_)))))))
         obtain rfl := some_inj h_16
         exact cu
        ·refine h_movb rfl hc_28 wa (h_op (.d (.int .u8 (b_13.toNat : Int))) wa rfl (h_op (vB ((b_13.toNat : Int) == 95)) wa rfl (h_op (vB ((b_13.toNat : Int) == 95)) wa rfl (h_op (vB ((b_13.toNat : Int) == 95)) wa rfl (h_op (vB ((b_13.toNat : Int) == 95)) wz rfl (h_op (vB (!((b_13.toNat : Int) == 95))) wz rfl (h_nil ?_)))))))
         obtain rfl := some_inj h_16
         exact cu
      ·refine h_movb rfl hc_24 wa (h_skip wa (h_skip wa (h_skip wa (h_skip (wn rfl rfl) (h_skip (wn rfl rfl) (h_skip wa (h_skip wa (h_skip (wn rfl rfl) (h_skip (wn rfl rfl) (h_skip wa (h_skip wa (h_skip (wn rfl rfl) (h_skip (wn rfl rfl) (h_skip wa (h_op (vB false) wa rfl (h_op (vB false) wz rfl (h_op (vB true) wz rfl (h_nil ?_))))))))))))))))))
       obtain rfl := some_inj h_16
       exact cu
    ·rintro ⟨⟩ _ sl_ H_ hp_ hq_
     refine wH_at _ hp_ hq_ ?_
     rcases cond_some hc_8 with ⟨hc_29, hc_8⟩ | ⟨hc_29, hc_8⟩
     ·refine wH_ift rfl hc_29 (wH_seq (wH_region (h_op (vB false) wz rfl (h_nil ?_))))
      obtain rfl := some_inj hc_8
      obtain rfl := some_inj hL_9
      obtain rfl := some_inj hF
      exact wH_ret (fin0 (.inr rfl) [(vB false)] ⟨rfl, trivial⟩ rfl rfl rfl)
     ·refine wH_iff rfl hc_29 (wH_skip (wH_region (h_op (vI s_7) wz rfl (h_op (vI (w64 (s_7 + 1))) wz rfl (h_op (vI (w64 (s_7 + 1))) wz rfl (h_nil ?_))))))
      obtain rfl := some_inj hc_8
      exact loop_mk (k_2, (w64 (s_7 + 1))) hL_9 (Nat.lt_succ_self _) rfl (pre_r rfl)
   ·refine wH_iff rfl hc_12 (wH_exit ?_)
    obtain rfl := some_inj hc_8
    obtain rfl := some_inj hL_9
    exact cut_mk (s_7) rfl rfl (pre_r rfl)
 ·rintro s_7 ho_ sl_ H_ hp_ hq_
  subst ho_
  refine wH_at _ hp_ hq_ (wH_seq ?_)
  obtain ⟨v_30, h_31, hF⟩ := bind_some hF
  refine wH_join (β := Unit) (fun _ => ([(2, (vB v_30))] : List (Nat × V))) (fun _ => ([] : Hp)) (fun _ => True) ?_ ?_
  ·refine wH_region (h_op (vS s_1) wz rfl (h_op (vB (sNe s_1 (⟨#[]⟩ : ByteArray))) wz rfl ?_))
   rcases cond_some h_31 with ⟨hc_32, h_31⟩ | ⟨hc_32, h_31⟩
   ·refine h_movb rfl hc_32 wz (h_op (vS s_1) wa rfl (h_lens un9 rfl wa (h_op (vB (decide ((s_1.size : Int) ≤ 40))) wa rfl (h_op (vB (decide ((s_1.size : Int) ≤ 40))) wz rfl (h_op (vB (decide ((s_1.size : Int) ≤ 40))) wz rfl (h_nil ?_))))))
    obtain rfl := some_inj h_31
    exact cu
   ·refine h_movb rfl hc_32 wz (h_skip wa (h_skip wa (h_skip wa (h_op (vB false) wz rfl (h_op (vB false) wz rfl (h_nil ?_))))))
    obtain rfl := some_inj h_31
    exact cu
  ·rintro ⟨⟩ _ sl_ H_ hp_ hq_
   refine wH_at _ hp_ hq_ ?_
   obtain rfl := some_inj hF
   exact wH_ret (fin0 (.inr rfl) [(vB v_30)] ⟨rfl, trivial⟩ rfl rfl rfl)
theorem kit_IsMoment_ok {n_1 : Int} {r : Bool} (hF : kit_IsMoment n_1 = some r) :
  FnM Tryz.prog 136 [(vI n_1)] [] (vB r) [] := by
 refine FnM.of_wH ⟨Tryz.prog, 9, [], []⟩ rfl Tryz.func136 rfl rfl (Nat.le_of_ble_eq_true rfl) (by kernel_rfl) ?_
 unfold kit_IsMoment at hF
 refine wH_seq (wH_region (h_op (vB false) wz rfl (h_nil (wH_seq ?_))))
 obtain ⟨v_2, h_3, hF⟩ := bind_some hF
 refine wH_join (β := Unit) (fun _ => ([(2, (vB v_2))] : List (Nat × V))) (fun _ => ([] : Hp)) (fun _ => True) ?_ ?_
 ·refine wH_region (h_op (vI n_1) wz rfl (h_op (vB (decide (n_1 ≥ 0))) wz rfl ?_))
  rcases cond_some h_3 with ⟨hc_4, h_3⟩ | ⟨hc_4, h_3⟩
  ·refine h_movb rfl hc_4 wz (h_op (vI n_1) wa rfl (h_op (vB (decide (n_1 < 345686400000))) wa rfl (h_op (vB (decide (n_1 < 345686400000))) wz rfl (h_op (vB (decide (n_1 < 345686400000))) wz rfl (h_nil ?_)))))
   obtain rfl := some_inj h_3
   exact cu
  ·refine h_movb rfl hc_4 wz (h_skip wa (h_skip wa (h_op (vB false) wz rfl (h_op (vB false) wz rfl (h_nil ?_)))))
   obtain rfl := some_inj h_3
   exact cu
 ·rintro ⟨⟩ _ sl_ H_ hp_ hq_
  refine wH_at _ hp_ hq_ ?_
  obtain rfl := some_inj hF
  exact wH_ret (fin0 (.inr rfl) [(vB v_2)] ⟨rfl, trivial⟩ rfl rfl rfl)
theorem kit_Outside_ok {n_1 : Int} {low_2 : Int} {high_3 : Int} {r : Bool} (hF : kit_Outside n_1 low_2 high_3 = some r) :
  FnM Tryz.prog 86 [(vI n_1), (vI low_2), (vI high_3)] [] (vB r) [] := by
 refine FnM.of_wH ⟨Tryz.prog, 15, [], []⟩ rfl Tryz.func86 rfl rfl (Nat.le_of_ble_eq_true rfl) (by kernel_rfl) ?_
 unfold kit_Outside at hF
 refine wH_seq (wH_region (h_op (vB false) wz rfl (h_nil (wH_seq ?_))))
 obtain ⟨v_4, h_5, hF⟩ := bind_some hF
 refine wH_join (β := Unit) (fun _ => ([(6, (vB v_4))] : List (Nat × V))) (fun _ => ([] : Hp)) (fun _ => True) ?_ ?_
 ·refine wH_region (h_op (vI n_1) wz rfl (h_op (vI low_2) wz rfl (h_op (vB (decide (n_1 < low_2))) wz rfl ?_)))
  rcases cond_some h_5 with ⟨hc_6, h_5⟩ | ⟨hc_6, h_5⟩
  ·refine h_movb rfl hc_6 wz (h_skip wa (h_skip wa (h_skip wa (h_op (vB true) wz rfl (h_op (vB true) wz rfl (h_nil ?_))))))
   obtain rfl := some_inj h_5
   exact cu
  ·refine h_movb rfl hc_6 wz (h_op (vI n_1) wa rfl (h_op (vI high_3) wa rfl (h_op (vB (decide (n_1 > high_3))) wa rfl (h_op (vB (decide (n_1 > high_3))) wz rfl (h_op (vB (decide (n_1 > high_3))) wz rfl (h_nil ?_))))))
   obtain rfl := some_inj h_5
   exact cu
 ·rintro ⟨⟩ _ sl_ H_ hp_ hq_
  refine wH_at _ hp_ hq_ ?_
  obtain rfl := some_inj hF
  exact wH_ret (fin0 (.inr rfl) [(vB v_4)] ⟨rfl, trivial⟩ rfl rfl rfl)
theorem internal_bytealg_CompareString_ok {a_1 : ByteArray} {b_2 : ByteArray} {r : Int} (hF : internal_bytealg_CompareString a_1 b_2 = some r) :
  FnM Tryz.prog 197 [(vS a_1), (vS b_2)] [] (vI r) [] := by
 refine FnM.of_wH ⟨Tryz.prog, 8, [], []⟩ rfl Tryz.func197 rfl rfl (Nat.le_of_ble_eq_true rfl) (by kernel_rfl) ?_
 unfold internal_bytealg_CompareString at hF
 refine wH_seq (wH_region (h_op (vI 0) wz rfl (h_nil (wH_seq (wH_region (h_op (vS a_1) wz rfl (h_op (vS b_2) wz rfl (h_ext (ext_cmpB (f := 241) Tryz.func241 rfl rfl (by kernel_rfl) (by kernel_rfl) _ _) rfl nb241 rfl wz (h_op (vI (cmpB a_1 b_2)) wz rfl (h_nil ?_))))))))))
 obtain rfl := some_inj hF
 exact wH_ret (fin0 (.inr rfl) [(vI (cmpB a_1 b_2))] ⟨rfl, trivial⟩ rfl rfl rfl)
theorem strings_Compare_ok {a_1 : ByteArray} {b_2 : ByteArray} {r : Int} (hF : strings_Compare a_1 b_2 = some r) :
  FnM Tryz.prog 129 [(vS a_1), (vS b_2)] [] (vI r) [] := by
 refine FnM.of_wH ⟨Tryz.prog, 8, [], []⟩ rfl Tryz.func129 rfl rfl (Nat.le_of_ble_eq_true rfl) (by kernel_rfl) ?_
 unfold strings_Compare at hF
 refine wH_seq (wH_region (h_op (vI 0) wz rfl (h_nil (wH_seq (wH_region (h_op (vS a_1) wz rfl (h_op (vS b_2) wz rfl ?_)))))))
 obtain ⟨r_3, hr_4, hF⟩ := bind_some hF
 refine h_call0 (internal_bytealg_CompareString_ok hr_4) rfl hb197 rfl rfl rfl rfl wz (h_op (vI r_3) wz rfl (h_nil ?_))
 obtain rfl := some_inj hF
 exact wH_ret (fin0 (.inr rfl) [(vI r_3)] ⟨rfl, trivial⟩ rfl rfl rfl)
theorem cmp_isNaN_int_ok {x_1 : Int} {r : Bool} (hF : cmp_isNaN_int x_1 = some r) :
  FnM Tryz.prog 205 [(vI x_1)] [] (vB r) [] := by
 refine FnM.of_wH ⟨Tryz.prog, 6, [], []⟩ rfl Tryz.func205 rfl rfl (Nat.le_of_ble_eq_true rfl) (by kernel_rfl) ?_
 unfold cmp_isNaN_int at hF
 refine wH_seq (wH_region (h_op (vB false) wz rfl (h_nil (wH_seq (wH_region (h_op (vI x_1) wz rfl (h_op (vI x_1) wz rfl (h_op (vB (x_1 != x_1)) wz rfl (h_op (vB (x_1 != x_1)) wz rfl (h_nil ?_))))))))))
 obtain rfl := some_inj hF
 exact wH_ret (fin0 (.inr rfl) [(vB (x_1 != x_1))] ⟨rfl, trivial⟩ rfl rfl rfl)
theorem cmp_Compare_int_ok {x_1 : Int} {y_2 : Int} {r : Int} (hF : cmp_Compare_int x_1 y_2 = some r) :
  FnM Tryz.prog 147 [(vI x_1), (vI y_2)] [] (vI r) [] := by
 refine FnM.of_wH ⟨Tryz.prog, 20, [], []⟩ rfl Tryz.func147 rfl rfl (Nat.le_of_ble_eq_true rfl) (by kernel_rfl) ?_
 unfold cmp_Compare_int at hF
 refine wH_seq (wH_region (h_op (vI 0) wz rfl (h_nil (wH_seq (wH_region (h_op (vI x_1) wz rfl ?_))))))
 obtain ⟨r_3, hr_4, hF⟩ := bind_some hF
 refine h_call0 (cmp_isNaN_int_ok hr_4) rfl hb205 rfl rfl rfl rfl wz (h_op (vB r_3) wz rfl (h_nil (wH_seq (wH_region (h_op (vI y_2) wz rfl ?_)))))
 obtain ⟨r_5, hr_6, hF⟩ := bind_some hF
 refine h_call0 (cmp_isNaN_int_ok hr_6) rfl hb205 rfl rfl rfl rfl wz (h_op (vB r_5) wz rfl (h_nil (wH_seq (wH_seq (wH_region (h_op (vB r_3) wz rfl (h_nil ?_)))))))
 rcases cond_some hF with ⟨hc_7, hF⟩ | ⟨hc_7, hF⟩
 ·refine wH_ift rfl hc_7 (wH_seq (wH_seq (wH_region (h_op (vB r_5) wz rfl (h_nil ?_)))))
  rcases cond_some hF with ⟨hc_8, hF⟩ | ⟨hc_8, hF⟩
  ·refine wH_ift rfl hc_8 (wH_seq (wH_region (h_op (vI 0) wz rfl (h_nil ?_))))
   obtain rfl := some_inj hF
   exact wH_ret (fin0 (.inr rfl) [(vI 0)] ⟨rfl, trivial⟩ rfl rfl rfl)
  ·refine wH_iff rfl hc_8 (wH_skip (wH_seq (wH_region (h_op (vI (-1)) wz rfl (h_nil ?_)))))
   obtain rfl := some_inj hF
   exact wH_ret (fin0 (.inr rfl) [(vI (-1))] ⟨rfl, trivial⟩ rfl rfl rfl)
 ·refine wH_iff rfl hc_7 (wH_skip (wH_seq (wH_seq (wH_region (h_op (vB r_5) wz rfl (h_nil ?_))))))
  rcases cond_some hF with ⟨hc_9, hF⟩ | ⟨hc_9, hF⟩
  ·refine wH_ift rfl hc_9 (wH_seq (wH_region (h_op (vI 1) wz rfl (h_nil ?_))))
   obtain rfl := some_inj hF
   exact wH_ret (fin0 (.inr rfl) [(vI 1)] ⟨rfl, trivial⟩ rfl rfl rfl)
  ·refine wH_iff rfl hc_9 (wH_skip (wH_seq (wH_seq (wH_region (h_op (vI x_1) wz rfl (h_op (vI y_2) wz rfl (h_op (vB (decide (x_1 < y_2))) wz rfl (h_nil ?_))))))))
   rcases cond_some hF with ⟨hc_10, hF⟩ | ⟨hc_10, hF⟩
   ·refine wH_ift rfl hc_10 (wH_seq (wH_region (h_op (vI (-1)) wz rfl (h_nil ?_))))
    obtain rfl := some_inj hF
    exact wH_ret (fin0 (.inr rfl) [(vI (-1))] ⟨rfl, trivial⟩ rfl rfl rfl)
   ·refine wH_iff rfl hc_10 (wH_skip (wH_seq (wH_seq (wH_region (h_op (vI x_1) wz rfl (h_op (vI y_2) wz rfl (h_op (vB (decide (x_1 > y_2))) wz rfl (h_nil ?_))))))))
    rcases cond_some hF with ⟨hc_11, hF⟩ | ⟨hc_11, hF⟩
    ·refine wH_ift rfl hc_11 (wH_seq (wH_region (h_op (vI 1) wz rfl (h_nil ?_))))
     obtain rfl := some_inj hF
     exact wH_ret (fin0 (.inr rfl) [(vI 1)] ⟨rfl, trivial⟩ rfl rfl rfl)
    ·refine wH_iff rfl hc_11 (wH_skip (wH_seq (wH_region (h_op (vI 0) wz rfl (h_nil ?_)))))
     obtain rfl := some_inj hF
     exact wH_ret (fin0 (.inr rfl) [(vI 0)] ⟨rfl, trivial⟩ rfl rfl rfl)
theorem cmp_Or_int_ok {vals_1 : (List Int)} {r : Int} (hF : cmp_Or_int vals_1 = some r) :
  FnM Tryz.prog 141 [(vL eI vals_1)] [] (vI r) [] := by
 refine FnM.of_wH ⟨Tryz.prog, 18, [], []⟩ rfl Tryz.func141 rfl rfl (Nat.le_of_ble_eq_true rfl) (by kernel_rfl) ?_
 unfold cmp_Or_int at hF
 refine wH_seq (wH_region (h_op (vI 0) wz rfl (h_nil (wH_seq (wH_region (h_op (vI 0) wz rfl (h_nil (wH_seq (wH_seq (wH_region (h_op (vL eI vals_1) wz rfl (h_len un22 rfl wz (h_op (vI 0) wz rfl (h_nil ?_))))))))))))))
 obtain ⟨o_10, hj_11, hF⟩ := bind_some hF
 obtain ⟨hn_6, hj_11⟩ := forL_some hj_11
 refine wH_join (β := (Unit)) (fun (s_7 : Unit) => ([(3, (vI 0))] : List (Nat × V))) (fun (s_7 : Unit) => ([] : Hp)) (fun p => o_10 = .go p) ?_ ?_
 ·refine wH_block (wH_loop (β := Nat × (List Int) × (Unit)) (fun p => (fun (k_2 : Nat) (l_3 : List Int) (s_7 : Unit) => ([(3, (vI 0)), (6, (vL eI vals_1)), (7, (vI (vals_1.length : Int))), (8, (vI (k_2 : Int)))] : List (Nat × V))) p.1 p.2.1 p.2.2) (fun p => (fun (k_2 : Nat) (l_3 : List Int) (s_7 : Unit) => ([] : Hp)) p.1 p.2.1 p.2.2) (fun p => forR (fun k x s => cmp_Or_int_L1 k x s) p.2.1 p.1 p.2.2 = some o_10 ∧ (vals_1).drop p.1 = p.2.1) (fun p => p.2.1.length) (0, vals_1, ()) ⟨hj_11, rfl⟩ rfl (pre_r rfl) ?_)
  rintro ⟨k_2, l_3, s_7⟩ ⟨hL_9, hD_5⟩
  dsimp only at hL_9 hD_5
  cases l_3 with
  | nil =>
   obtain rfl := some_inj hL_9
   refine wH_seq (wH_region (h_op (vB (decide ((k_2 : Int) < (vals_1.length : Int)))) wz rfl (h_nil ?_)))
   refine wH_seq (wH_iff rfl (drop_nil hD_5) (wH_exit ?_))
   exact cut_mk (s_7) rfl rfl (pre_r rfl)
  | cons x_4 l_3 =>
   obtain ⟨c_, hc_8, hL_9⟩ := bind_some hL_9
   refine wH_seq (wH_region (h_op (vB (decide ((k_2 : Int) < (vals_1.length : Int)))) wz rfl (h_nil ?_)))
   refine wH_seq (wH_ift rfl (drop_cons hD_5) (wH_skip ?_))
   unfold cmp_Or_int_L1 at hc_8
   refine wH_seq (wH_block (wH_seq (wH_region (h_ia es22 rfl rfl (drop_idx hD_5) rfl wz (h_ldc sz3 ag3 rfl (vI x_4) rfl wz (h_op (vI x_4) wz rfl (h_nil (wH_seq (wH_region (h_op (vI x_4) wz rfl (h_op (vI 0) wz rfl (h_op (vB (x_4 != 0)) wz rfl (h_nil ?_)))))))))))))
   rcases cond_some hc_8 with ⟨hc_12, hc_8⟩ | ⟨hc_12, hc_8⟩
   ·refine wH_ift rfl hc_12 (wH_seq (wH_region (h_op (vI x_4) wz rfl (h_op (vI x_4) wz rfl (h_nil ?_)))))
    obtain rfl := some_inj hc_8
    obtain rfl := some_inj hL_9
    obtain rfl := some_inj hF
    exact wH_ret (fin0 (.inr rfl) [(vI x_4)] ⟨rfl, trivial⟩ rfl rfl rfl)
   ·refine wH_iff rfl hc_12 (wH_skip (wH_region (h_opw (w64_next hD_5 hn_6) wz rfl (h_op (vI ((k_2 + 1 : Nat) : Int)) wz rfl (h_nil ?_)))))
    obtain rfl := some_inj hc_8
    exact loop_mk (k_2 + 1, l_3, ()) ⟨hL_9, drop_next hD_5⟩ (Nat.lt_succ_self _) rfl (pre_r rfl)
 ·rintro s_7 ho_ sl_ H_ hp_ hq_
  subst ho_
  refine wH_at _ hp_ hq_ (wH_seq (wH_region (h_op (vI 0) wz rfl (h_op (vI 0) wz rfl (h_nil ?_)))))
  obtain rfl := some_inj hF
  exact wH_ret (fin0 (.inr rfl) [(vI 0)] ⟨rfl, trivial⟩ rfl rfl rfl)
theorem proof_comparePlays_ok {a_1 : Play} {b_2 : Play} {r : Int} (hF : proof_comparePlays a_1 b_2 = some r) :
  FnM Tryz.prog 168 [(.d (.agg (Play.enc a_1))), (.d (.agg (Play.enc b_2)))] [] (vI r) [] := by
 refine FnM.of_wH ⟨Tryz.prog, 17, [], []⟩ rfl Tryz.func168 rfl rfl (Nat.le_of_ble_eq_true rfl) (by kernel_rfl) ?_
 unfold proof_comparePlays at hF
 refine wH_seq (wH_region (h_box 0 (.inl rfl) [(vS a_1.Player), (vS a_1.Item), (vI a_1.At), (vI a_1.Long)] rfl rfl wz (fun n_3 => h_box 0 (.inl rfl) [(vS b_2.Player), (vS b_2.Item), (vI b_2.At), (vI b_2.Long)] rfl rfl wz (fun n_4 => h_op (vI 0) wz rfl (h_nil (wH_seq (wH_draws (h_far pl36_0 rfl 0 rfl wz (h_ldr 1 0 (.inr (by kernel_rfl)) (fun _ _ ag => trivial) sz9 ag9 rfl rfl (vS a_1.Player) rfl wz (h_far pl36_0 rfl 0 rfl wz (h_ldr 3 1 (.inr (by kernel_rfl)) (fun _ _ ag => ⟨.inl ⟨rfl, rfl⟩, trivial⟩) sz9 ag9 rfl rfl (vS b_2.Player) rfl wz ?_)))))))))))
 obtain ⟨r_5, hr_6, hF⟩ := bind_some hF
 refine h_call0 (strings_Compare_ok hr_6) rfl hb129 rfl rfl rfl rfl wz (h_far pl36_2 rfl 2 rfl wz (h_ldr 6 0 (.inr (by kernel_rfl)) (fun _ _ ag => ⟨.inl ⟨rfl, rfl⟩, ⟨.inl ⟨rfl, rfl⟩, trivial⟩⟩) sz3 ag3 rfl rfl (vI a_1.At) rfl wz (h_far pl36_2 rfl 2 rfl wz (h_ldr 8 1 (.inr (by kernel_rfl)) (fun _ _ ag => ⟨.inl ⟨rfl, rfl⟩, ⟨.inl ⟨rfl, rfl⟩, ⟨.inl ⟨rfl, rfl⟩, trivial⟩⟩⟩) sz3 ag3 rfl rfl (vI b_2.At) rfl wz ?_))))
 obtain ⟨r_7, hr_8, hF⟩ := bind_some hF
 refine h_call0 (cmp_Compare_int_ok hr_8) rfl hb147 rfl rfl rfl rfl wz (h_lit (([r_5, r_7] : List Int).map eI) es22 ez22 rfl rfl rfl rfl rfl wz ?_)
 obtain ⟨r_9, hr_10, hF⟩ := bind_some hF
 refine h_call0 (cmp_Or_int_ok hr_10) rfl hb141 rfl rfl rfl rfl wz (h_op (vI r_9) wz rfl (h_nil ?_))
 obtain rfl := some_inj hF
 exact wH_ret (fin0 (.inr rfl) [(vI r_9)] ⟨rfl, trivial⟩ rfl rfl rfl)
theorem proof_CheckPlays_ok {l_1 : (List Play)} {r : Int} (hF : proof_CheckPlays l_1 = some r) :
  FnM Tryz.prog 85 [(vL Play.enc l_1)] [] (vI r) [] := by
 refine FnM.of_wH ⟨Tryz.prog, 50, [], []⟩ rfl Tryz.func85 rfl rfl (Nat.le_of_ble_eq_true rfl) (by kernel_rfl) ?_
 unfold proof_CheckPlays at hF
 refine wH_seq (wH_region (h_op (vI 0) wz rfl (h_nil (wH_seq (wH_seq (wH_region (h_op (vL Play.enc l_1) wz rfl (h_len un26 rfl wz (h_op (vB (decide ((l_1.length : Int) > 3000))) wz rfl (h_nil ?_))))))))))
 rcases cond_some hF with ⟨hc_2, hF⟩ | ⟨hc_2, hF⟩
 ·refine wH_ift rfl hc_2 (wH_seq (wH_region (h_op (vI 2) wz rfl (h_nil ?_))))
  obtain rfl := some_inj hF
  exact wH_ret (fin0 (.inr rfl) [(vI 2)] ⟨rfl, trivial⟩ rfl rfl rfl)
 ·refine wH_iff rfl hc_2 (wH_skip (wH_seq (wH_seq (wH_region (h_op (vL Play.enc l_1) wz rfl (h_len un26 rfl wz (h_op (vI 0) wz rfl (h_nil ?_))))))))
  obtain ⟨o_11, hj_12, hF⟩ := bind_some hF
  obtain ⟨hn_7, hj_12⟩ := forL_some hj_12
  refine wH_join (β := (Unit)) (fun (s_8 : Unit) => ([] : List (Nat × V))) (fun (s_8 : Unit) => ([] : Hp)) (fun p => o_11 = .go p) ?_ ?_
  ·refine wH_block (wH_loop (β := Nat × (List Play) × (Unit)) (fun p => (fun (k_3 : Nat) (l_4 : List Play) (s_8 : Unit) => ([(0, (vL Play.enc l_1)), (8, (vL Play.enc l_1)), (9, (vI (l_1.length : Int))), (10, (vI (k_3 : Int)))] : List (Nat × V))) p.1 p.2.1 p.2.2) (fun p => (fun (k_3 : Nat) (l_4 : List Play) (s_8 : Unit) => ([] : Hp)) p.1 p.2.1 p.2.2) (fun p => forR (fun k x s => proof_CheckPlays_L1 l_1 k x s) p.2.1 p.1 p.2.2 = some o_11 ∧ (l_1).drop p.1 = p.2.1) (fun p => p.2.1.length) (0, l_1, ()) ⟨hj_12, rfl⟩ rfl (pre_r rfl) ?_)
   rintro ⟨k_3, l_4, s_8⟩ ⟨hL_10, hD_6⟩
   dsimp only at hL_10 hD_6
   cases l_4 with
   | nil =>
    obtain rfl := some_inj hL_10
    refine wH_seq (wH_region (h_op (vB (decide ((k_3 : Int) < (l_1.length : Int)))) wz rfl (h_nil ?_)))
    refine wH_seq (wH_iff rfl (drop_nil hD_6) (wH_exit ?_))
    exact cut_mk (s_8) rfl rfl (pre_r rfl)
   | cons x_5 l_4 =>
    obtain ⟨c_, hc_9, hL_10⟩ := bind_some hL_10
    refine wH_seq (wH_region (h_op (vB (decide ((k_3 : Int) < (l_1.length : Int)))) wz rfl (h_nil ?_)))
    refine wH_seq (wH_ift rfl (drop_cons hD_6) (wH_skip ?_))
    unfold proof_CheckPlays_L1 at hc_9
    refine wH_seq (wH_block (wH_seq (wH_region (h_op (vI (k_3 : Int)) wz rfl (h_ia es26 rfl rfl (drop_idx hD_6) rfl wz (h_ldc sz36 ag36 rfl (.d (.agg (Play.enc x_5))) rfl wz (h_alloc 0 (.inl rfl) z36 rfl wz (fun n_13 => h_op (vI (k_3 : Int)) wz rfl (h_str 0 il ft 0 sz36 rfl rfl [(vS x_5.Player), (vS x_5.Item), (vI x_5.At), (vI x_5.Long)] rfl wz (h_nil (wH_block (wH_seq ?_))))))))))))
    obtain ⟨v_14, h_15, hc_9⟩ := bind_some hc_9
    refine wH_join (β := Unit) (fun _ => ([(0, (vL Play.enc l_1)), (3, (vI (k_3 : Int))), (4, (.ref n_13 0 0)), (8, (vL Play.enc l_1)), (9, (vI (l_1.length : Int))), (10, (vI (k_3 : Int))), (15, (vB v_14))] : List (Nat × V))) (fun _ => ([(n_13, some (.cells 4 [(vS x_5.Player), (vS x_5.Item), (vI x_5.At), (vI x_5.Long)]))] : Hp)) (fun _ => True) ?_ ?_
    ·refine wH_region (h_far pl36_0 rfl 0 rfl wz (h_ldr 0 0 il ft sz9 ag9 rfl rfl (vS x_5.Player) rfl wz ?_))
     obtain ⟨r_16, hr_17, h_15⟩ := bind_some h_15
     refine h_call0 (kit_IsKey_ok hr_17) rfl hb124 rfl rfl rfl rfl wz (h_op (vB (!r_16)) wz rfl ?_)
     rcases cond_some h_15 with ⟨hc_18, h_15⟩ | ⟨hc_18, h_15⟩
     ·refine h_movb rfl hc_18 wz (h_skip wa (h_skip wa (h_skip wa (h_skip wa (h_op (vB true) wz rfl (h_op (vB true) wz rfl (h_nil ?_)))))))
      obtain rfl := some_inj h_15
      exact cu
     ·refine h_movb rfl hc_18 wz (h_far pl36_1 rfl 1 rfl wa (h_ldr 0 0 il ft sz9 ag9 rfl rfl (vS x_5.Item) rfl wa ?_))
      obtain ⟨r_19, hr_20, h_15⟩ := bind_some h_15
      refine h_call0 (kit_IsKey_ok hr_20) rfl hb124 rfl rfl rfl rfl wa (h_op (vB (!r_19)) wa rfl (h_op (vB (!r_19)) wz rfl (h_op (vB (!r_19)) wz rfl (h_nil ?_))))
      obtain rfl := some_inj h_15
      exact cu
    ·rintro ⟨⟩ _ sl_ H_ hp_ hq_
     refine wH_at _ hp_ hq_ ?_
     rcases cond_some hc_9 with ⟨hc_21, hc_9⟩ | ⟨hc_21, hc_9⟩
     ·refine wH_ift rfl hc_21 (wH_seq (wH_region (h_op (vI 5) wz rfl (h_nil ?_))))
      obtain rfl := some_inj hc_9
      obtain rfl := some_inj hL_10
      obtain rfl := some_inj hF
      exact wH_ret (fin0 (.inr rfl) [(vI 5)] ⟨rfl, trivial⟩ rfl rfl rfl)
     ·refine wH_iff rfl hc_21 (wH_seq ?_)
      obtain ⟨v_22, h_23, hc_9⟩ := bind_some hc_9
      refine wH_join (β := Unit) (fun _ => ([(0, (vL Play.enc l_1)), (3, (vI (k_3 : Int))), (4, (.ref n_13 0 0)), (8, (vL Play.enc l_1)), (9, (vI (l_1.length : Int))), (10, (vI (k_3 : Int))), (26, (vB v_22))] : List (Nat × V))) (fun _ => ([(n_13, some (.cells 4 [(vS x_5.Player), (vS x_5.Item), (vI x_5.At), (vI x_5.Long)]))] : Hp)) (fun _ => True) ?_ ?_
      ·refine wH_region (h_far pl36_2 rfl 2 rfl wz (h_ldr 0 0 il ft sz3 ag3 rfl rfl (vI x_5.At) rfl wz ?_))
       obtain ⟨r_24, hr_25, h_23⟩ := bind_some h_23
       refine h_call0 (kit_IsMoment_ok hr_25) rfl hb136 rfl rfl rfl rfl wz (h_op (vB (!r_24)) wz rfl ?_)
       rcases cond_some h_23 with ⟨hc_26, h_23⟩ | ⟨hc_26, h_23⟩
       ·refine h_movb rfl hc_26 wz (h_skip wa (h_skip wa (h_skip wa (h_op (vB true) wz rfl (h_op (vB true) wz rfl (h_nil ?_))))))
        obtain rfl := some_inj h_23
        exact cu
       ·refine h_movb rfl hc_26 wz (h_far pl36_3 rfl 3 rfl wa (h_ldr 0 0 il ft sz3 ag3 rfl rfl (vI x_5.Long) rfl wa ?_))
        obtain ⟨r_27, hr_28, h_23⟩ := bind_some h_23
        refine h_call0 (kit_Outside_ok hr_28) rfl hb86 rfl rfl rfl rfl wa (h_op (vB r_27) wz rfl (h_op (vB r_27) wz rfl (h_nil ?_)))
        obtain rfl := some_inj h_23
        exact cu
      ·rintro ⟨⟩ _ sl_ H_ hp_ hq_
       refine wH_at _ hp_ hq_ ?_
       rcases cond_some hc_9 with ⟨hc_29, hc_9⟩ | ⟨hc_29, hc_9⟩
       ·refine wH_ift rfl hc_29 (wH_seq (wH_region (h_op (vI 1) wz rfl (h_nil ?_))))
        obtain rfl := some_inj hc_9
        obtain rfl := some_inj hL_10
        obtain rfl := some_inj hF
        exact wH_ret (fin0 (.inr rfl) [(vI 1)] ⟨rfl, trivial⟩ rfl rfl rfl)
       ·refine wH_iff rfl hc_29 (wH_seq ?_)
        obtain ⟨v_30, h_31, hc_9⟩ := bind_some hc_9
        refine wH_join (β := Unit) (fun _ => ([(0, (vL Play.enc l_1)), (8, (vL Play.enc l_1)), (9, (vI (l_1.length : Int))), (10, (vI (k_3 : Int))), (36, (vB v_30))] : List (Nat × V))) (fun _ => ([(n_13, some (.cells 4 [(vS x_5.Player), (vS x_5.Item), (vI x_5.At), (vI x_5.Long)]))] : Hp)) (fun _ => True) ?_ ?_
        ·refine wH_draws (h_op (vI (k_3 : Int)) wz rfl (h_op (vB (decide ((k_3 : Int) > 0))) wz rfl ?_))
         rcases cond_some h_31 with ⟨hc_32, h_31⟩ | ⟨hc_32, h_31⟩
         ·refine h_movb rfl hc_32 wz (h_op (vL Play.enc l_1) wa rfl (h_op (vI (k_3 : Int)) wa rfl (h_op (vI (w64 ((k_3 : Int) - 1))) wa rfl ?_)))
          obtain ⟨y_33, hy_34, h_31⟩ := bind_some h_31
          refine h_ia es26 rfl rfl hy_34 rfl wa (h_ldc sz36 ag36 rfl (.d (.agg (Play.enc y_33))) rfl wa (h_ldr 8 0 (.inr (by kernel_rfl)) (fun _ _ ag => trivial) sz36 ag36 rfl rfl (.d (.agg (Play.enc x_5))) rfl wa ?_))
          obtain ⟨r_35, hr_36, h_31⟩ := bind_some h_31
          refine h_call0 (proof_comparePlays_ok hr_36) rfl hb168 rfl rfl rfl rfl wa (h_op (vB (decide (r_35 ≥ 0))) wa rfl (h_op (vB (decide (r_35 ≥ 0))) wz rfl (h_op (vB (decide (r_35 ≥ 0))) wz rfl (h_nil ?_))))
          obtain rfl := some_inj h_31
          exact cu
         ·refine h_movb rfl hc_32 wz (h_skip wa (h_skip wa (h_skip wa (h_skip wa (h_skip wa (h_skip wa (h_skip wa (h_skip wa (h_op (vB false) wz rfl (h_op (vB false) wz rfl (h_nil ?_)))))))))))
          obtain rfl := some_inj h_31
          exact cu
        ·rintro ⟨⟩ _ sl_ H_ hp_ hq_
         refine wH_at _ hp_ hq_ ?_
         rcases cond_some hc_9 with ⟨hc_37, hc_9⟩ | ⟨hc_37, hc_9⟩
         ·refine wH_ift rfl hc_37 (wH_seq (wH_region (h_op (vI 7) wz rfl (h_nil ?_))))
          obtain rfl := some_inj hc_9
          obtain rfl := some_inj hL_10
          obtain rfl := some_inj hF
          exact wH_ret (fin0 (.inr rfl) [(vI 7)] ⟨rfl, trivial⟩ rfl rfl rfl)
         ·refine wH_iff rfl hc_37 (wH_skip (wH_region (h_opw (w64_next hD_6 hn_7) wz rfl (h_op (vI ((k_3 + 1 : Nat) : Int)) wz rfl (h_nil ?_)))))
          obtain rfl := some_inj hc_9
          exact loop_mk (k_3 + 1, l_4, ()) ⟨hL_10, drop_next hD_6⟩ (Nat.lt_succ_self _) rfl (pre_r rfl)
  ·rintro s_8 ho_ sl_ H_ hp_ hq_
   subst ho_
   refine wH_at _ hp_ hq_ (wH_seq (wH_region (h_op (vI 0) wz rfl (h_nil ?_))))
   obtain rfl := some_inj hF
   exact wH_ret (fin0 (.inr rfl) [(vI 0)] ⟨rfl, trivial⟩ rfl rfl rfl)
theorem proof_apart_ok {a_1 : Int} {b_2 : Int} {r : Int} (hF : proof_apart a_1 b_2 = some r) :
  FnM Tryz.prog 87 [(vI a_1), (vI b_2)] [] (vI r) [] := by
 refine FnM.of_wH ⟨Tryz.prog, 12, [], []⟩ rfl Tryz.func87 rfl rfl (Nat.le_of_ble_eq_true rfl) (by kernel_rfl) ?_
 unfold proof_apart at hF
 refine wH_seq (wH_region (h_op (vI 0) wz rfl (h_nil (wH_seq (wH_region (h_op (vI a_1) wz rfl (h_op (vI b_2) wz rfl (h_op (vI (w64 (a_1 - b_2))) wz rfl (h_op (vI b_2) wz rfl (h_op (vI a_1) wz rfl (h_op (vI (w64 (b_2 - a_1))) wz rfl (h_minmax (vI (maxI (w64 (a_1 - b_2)) (w64 (b_2 - a_1)))) rfl (.inr rfl) wz (h_op (vI (maxI (w64 (a_1 - b_2)) (w64 (b_2 - a_1)))) wz rfl (h_nil ?_))))))))))))))
 obtain rfl := some_inj hF
 exact wH_ret (fin0 (.inr rfl) [(vI (maxI (w64 (a_1 - b_2)) (w64 (b_2 - a_1))))] ⟨rfl, trivial⟩ rfl rfl rfl)
theorem proof_Compare_ok {want_1 : (List Play)} {havev_2 : (List Play)} {most_3 : Int} {r : (List Match) × (List Int) × Int} (hF : proof_Compare want_1 havev_2 most_3 = some r) :
  FnM Tryz.prog 14 [(vL Play.enc want_1), (vL Play.enc havev_2), (vI most_3)] [] (.tup [(vL Match.enc r.1), (vL eI r.2.1), (vI r.2.2)]) [] := by
 refine FnM.of_wH ⟨Tryz.prog, 128, [], []⟩ rfl Tryz.func14 rfl rfl (Nat.le_of_ble_eq_true rfl) (by kernel_rfl) ?_
 unfold proof_Compare at hF
 refine wH_seq (wH_region (h_op .nil wz rfl (h_op .nil wz rfl (h_op (vI 0) wz rfl (h_nil (wH_seq (wH_seq (wH_region (h_op (vL Play.enc want_1) wz rfl (h_op (vL Play.enc havev_2) wz rfl (h_op (.d (.agg [dl Play.enc want_1, dl Play.enc havev_2])) wz (by kernel_rfl) (h_op (vI 0) wz rfl (h_nil ?_)))))))))))))
 obtain ⟨o_12, hj_13, hF⟩ := bind_some hF
 obtain ⟨hn_8, hj_13⟩ := forL_some hj_13
 refine wH_join (β := (Unit)) (fun (s_9 : Unit) => ([(0, (vL Play.enc want_1)), (1, (vL Play.enc havev_2)), (2, (vI most_3))] : List (Nat × V))) (fun (s_9 : Unit) => ([] : Hp)) (fun p => o_12 = .go p) ?_ ?_
 ·refine wH_block (wH_loop (β := Nat × (List Nat) × (Unit)) (fun p => (fun (k_4 : Nat) (l_5 : List Nat) (s_9 : Unit) => ([(0, (vL Play.enc want_1)), (1, (vL Play.enc havev_2)), (2, (vI most_3)), (24, (.d (.agg [dl Play.enc want_1, dl Play.enc havev_2]))), (25, (vI (k_4 : Int)))] : List (Nat × V))) p.1 p.2.1 p.2.2) (fun p => (fun (k_4 : Nat) (l_5 : List Nat) (s_9 : Unit) => ([] : Hp)) p.1 p.2.1 p.2.2) (fun p => forR (fun k x s => proof_Compare_L1 want_1 havev_2 k x s) p.2.1 p.1 p.2.2 = some o_12 ∧ ((List.range (2 : Int).toNat)).drop p.1 = p.2.1) (fun p => p.2.1.length) (0, (List.range (2 : Int).toNat), ()) ⟨hj_13, rfl⟩ rfl (pre_r rfl) ?_)
  rintro ⟨k_4, l_5, s_9⟩ ⟨hL_11, hD_7⟩
  dsimp only at hL_11 hD_7
  cases l_5 with
  | nil =>
   obtain rfl := some_inj hL_11
   refine wH_seq (wH_region (h_op (vB (decide ((k_4 : Int) < 2))) wz rfl (h_nil ?_)))
   refine wH_seq (wH_iff rfl (range_nil hD_7) (wH_exit ?_))
   exact cut_mk (s_9) rfl rfl (pre_r rfl)
  | cons x_6 l_5 =>
   obtain ⟨c_, hc_10, hL_11⟩ := bind_some hL_11
   refine wH_seq (wH_region (h_op (vB (decide ((k_4 : Int) < 2))) wz rfl (h_nil ?_)))
   refine wH_seq (wH_ift rfl (range_cons hD_7) (wH_skip ?_))
   unfold proof_Compare_L1 at hc_10
   refine wH_seq (wH_block (wH_seq (wH_region ?_)))
   obtain ⟨y_14, hy_15, hc_10⟩ := bind_some hc_10
   refine h_idxa (enc := (eL Play.enc)) (xs := ([want_1, havev_2] : List (List Play))) un160 sz26 ag26 rfl rfl rfl rfl hy_15 (fun _ => rfl) (.inr rfl) (vL Play.enc y_14) rfl wz (h_op (vL Play.enc y_14) wz rfl (h_nil (wH_seq (wH_region (h_op (vL Play.enc y_14) wz rfl ?_)))))
   obtain ⟨r_16, hr_17, hc_10⟩ := bind_some hc_10
   refine h_call0 (proof_CheckPlays_ok hr_17) rfl hb85 rfl rfl rfl rfl wz (h_op (vI r_16) wz rfl (h_nil (wH_seq (wH_region (h_op (vI r_16) wz rfl (h_op (vB (r_16 != 0)) wz rfl (h_nil ?_)))))))
   rcases cond_some hc_10 with ⟨hc_18, hc_10⟩ | ⟨hc_18, hc_10⟩
   ·refine wH_ift rfl hc_18 (wH_seq (wH_region (h_op (vI r_16) wz rfl (h_op .nil wz rfl (h_op .nil wz rfl (h_op (vI r_16) wz rfl (h_nil ?_)))))))
    obtain rfl := some_inj hc_10
    obtain rfl := some_inj hL_11
    obtain rfl := some_inj hF
    exact wH_ret (fin0 (.inr rfl) [.nil, .nil, (vI r_16)] ⟨rfl, ⟨rfl, ⟨rfl, trivial⟩⟩⟩ rfl rfl rfl)
   ·refine wH_iff rfl hc_18 (wH_skip (wH_region (h_opw (w64_nextr hD_7 hn_8) wz rfl (h_op (vI ((k_4 + 1 : Nat) : Int)) wz rfl (h_nil ?_)))))
    obtain rfl := some_inj hc_10
    exact loop_mk (k_4 + 1, l_5, ()) ⟨hL_11, drop_next hD_7⟩ (Nat.lt_succ_self _) rfl (pre_r rfl)
 ·rintro s_9 ho_ sl_ H_ hp_ hq_
  subst ho_
  refine wH_at _ hp_ hq_ (wH_seq (wH_seq (wH_region (h_op (vI most_3) wz rfl ?_))))
  obtain ⟨r_19, hr_20, hF⟩ := bind_some hF
  refine h_call0 (kit_Outside_ok hr_20) rfl hb86 rfl rfl rfl rfl wz (h_nil ?_)
  rcases cond_some hF with ⟨hc_21, hF⟩ | ⟨hc_21, hF⟩
  ·refine wH_ift rfl hc_21 (wH_seq (wH_region (h_op .nil wz rfl (h_op .nil wz rfl (h_op (vI 1) wz rfl (h_nil ?_))))))
   obtain rfl := some_inj hF
   exact wH_ret (fin0 (.inr rfl) [.nil, .nil, (vI 1)] ⟨rfl, ⟨rfl, ⟨rfl, trivial⟩⟩⟩ rfl rfl rfl)
  ·refine wH_iff rfl hc_21 (wH_skip (wH_seq (wH_region (h_op (vL Play.enc havev_2) wz rfl (h_len un26 rfl wz ?_)))))
   obtain ⟨m_22, hm_23, hF⟩ := bind_some hF
   refine h_mkslice (enc := eB) 0 (.inl rfl) false el163 sz4 z4 by4 rfl rfl (by decide) rfl rfl rfl hm_23 wz (fun n_24 => h_op (vV n_24 1 (List.replicate m_22 false)) wz rfl (h_nil (wH_seq (wH_region (h_op .nil wz rfl (h_nil (wH_seq (wH_seq (wH_region (h_op (vL Play.enc want_1) wz rfl (h_len un26 rfl wz (h_op (vI 0) wz rfl (h_nil (wH_new (fun n_31 => ?_)))))))))))))))
   obtain ⟨o_36, hj_37, hF⟩ := bind_some hF
   obtain ⟨hn_29, hj_37⟩ := forL_some hj_37
   refine wH_join (β := ((List Bool) × (List Match)) × Nm) (fun p => (fun (s_30 : (List Bool) × (List Match)) (n_33 : Nm) => ([(12, (vV n_24 1 s_30.1)), (13, (gV n_33 2 s_30.2))] : List (Nat × V))) p.1 p.2) (fun p => (fun (s_30 : (List Bool) × (List Match)) (n_33 : Nm) => ([(n_24, some (bV 1 eB s_30.1)), (n_33, gB 2 Match.enc s_30.2)] : Hp)) p.1 p.2) (fun p => o_36 = .go p.1) ?_ ?_
   ·refine wH_block (wH_loop (β := Nat × (List Play) × ((List Bool) × (List Match)) × Nm) (fun p => (fun (k_25 : Nat) (l_26 : List Play) (s_30 : (List Bool) × (List Match)) (n_33 : Nm) => ([(1, (vL Play.enc havev_2)), (2, (vI most_3)), (12, (vV n_24 1 s_30.1)), (13, (gV n_33 2 s_30.2)), (39, (vL Play.enc want_1)), (40, (vI (want_1.length : Int))), (41, (vI (k_25 : Int)))] : List (Nat × V))) p.1 p.2.1 p.2.2.1 p.2.2.2) (fun p => (fun (k_25 : Nat) (l_26 : List Play) (s_30 : (List Bool) × (List Match)) (n_33 : Nm) => ([(n_24, some (bV 1 eB s_30.1)), (n_33, gB 2 Match.enc s_30.2)] : Hp)) p.1 p.2.1 p.2.2.1 p.2.2.2) (fun p => forR (fun k x s => proof_Compare_L3 havev_2 most_3 k x s) p.2.1 p.1 p.2.2.1 = some o_36 ∧ (want_1).drop p.1 = p.2.1) (fun p => p.2.1.length) (0, want_1, ((List.replicate m_22 false), ([] : List Match)), n_31) ⟨hj_37, rfl⟩ rfl (pre_r rfl) ?_)
    rintro ⟨k_25, l_26, s_30, n_33⟩ ⟨hL_35, hD_28⟩
    dsimp only at hL_35 hD_28
    cases l_26 with
    | nil =>
     obtain rfl := some_inj hL_35
     refine wH_seq (wH_region (h_op (vB (decide ((k_25 : Int) < (want_1.length : Int)))) wz rfl (h_nil ?_)))
     refine wH_seq (wH_iff rfl (drop_nil hD_28) (wH_exit ?_))
     exact cut_mk (s_30, n_33) rfl rfl (pre_r rfl)
    | cons x_27 l_26 =>
     obtain ⟨c_, hc_34, hL_35⟩ := bind_some hL_35
     refine wH_seq (wH_region (h_op (vB (decide ((k_25 : Int) < (want_1.length : Int)))) wz rfl (h_nil ?_)))
     refine wH_seq (wH_ift rfl (drop_cons hD_28) (wH_skip ?_))
     unfold proof_Compare_L3 at hc_34
     refine wH_seq (wH_block (wH_seq (wH_region (h_op (vI (k_25 : Int)) wz rfl (h_ia es26 rfl rfl (drop_idx hD_28) rfl wz (h_ldc sz36 ag36 rfl (.d (.agg (Play.enc x_27))) rfl wz (h_alloc 0 (.inl rfl) z36 rfl wz (fun n_38 => h_op (vI (k_25 : Int)) wz rfl (h_str 0 il ft 2 sz36 rfl rfl [(vS x_27.Player), (vS x_27.Item), (vI x_27.At), (vI x_27.Long)] rfl wz (h_nil (wH_seq (wH_region (h_op (vI (-1)) wz rfl (h_nil (wH_seq (wH_seq (wH_region (h_op (vL Play.enc havev_2) wz rfl (h_len un26 rfl wz (h_op (vI 0) wz rfl (h_nil ?_)))))))))))))))))))))
     obtain ⟨o_47, hj_48, hc_34⟩ := bind_some hc_34
     obtain ⟨hn_43, hj_48⟩ := forL_some hj_48
     refine wH_join (β := (Int)) (fun (s_44 : Int) => ([(1, (vL Play.enc havev_2)), (2, (vI most_3)), (12, (vV n_24 1 s_30.1)), (13, (gV n_33 2 s_30.2)), (14, (vI (k_25 : Int))), (16, (vI s_44)), (39, (vL Play.enc want_1)), (40, (vI (want_1.length : Int))), (41, (vI (k_25 : Int)))] : List (Nat × V))) (fun (s_44 : Int) => ([(n_24, some (bV 1 eB s_30.1)), (n_33, gB 2 Match.enc s_30.2), (n_38, some (.cells 4 [(vS x_27.Player), (vS x_27.Item), (vI x_27.At), (vI x_27.Long)]))] : Hp)) (fun p => o_47 = .go p) ?_ ?_
     ·refine wH_block (wH_loop (β := Nat × (List Play) × (Int)) (fun p => (fun (k_39 : Nat) (l_40 : List Play) (s_44 : Int) => ([(1, (vL Play.enc havev_2)), (2, (vI most_3)), (12, (vV n_24 1 s_30.1)), (13, (gV n_33 2 s_30.2)), (14, (vI (k_25 : Int))), (15, (.ref n_38 0 0)), (16, (vI s_44)), (39, (vL Play.enc want_1)), (40, (vI (want_1.length : Int))), (41, (vI (k_25 : Int))), (46, (vL Play.enc havev_2)), (47, (vI (havev_2.length : Int))), (48, (vI (k_39 : Int)))] : List (Nat × V))) p.1 p.2.1 p.2.2) (fun p => (fun (k_39 : Nat) (l_40 : List Play) (s_44 : Int) => ([(n_24, some (bV 1 eB s_30.1)), (n_33, gB 2 Match.enc s_30.2), (n_38, some (.cells 4 [(vS x_27.Player), (vS x_27.Item), (vI x_27.At), (vI x_27.Long)]))] : Hp)) p.1 p.2.1 p.2.2) (fun p => forR (fun k x s => proof_Compare_L2 s_30 x_27 most_3 havev_2 k x s) p.2.1 p.1 p.2.2 = some o_47 ∧ (havev_2).drop p.1 = p.2.1) (fun p => p.2.1.length) (0, havev_2, (-1)) ⟨hj_48, rfl⟩ rfl (pre_r rfl) ?_)
      rintro ⟨k_39, l_40, s_44⟩ ⟨hL_46, hD_42⟩
      dsimp only at hL_46 hD_42
      cases l_40 with
      | nil =>
       obtain rfl := some_inj hL_46
       refine wH_seq (wH_region (h_op (vB (decide ((k_39 : Int) < (havev_2.length : Int)))) wz rfl (h_nil ?_)))
       refine wH_seq (wH_iff rfl (drop_nil hD_42) (wH_exit ?_))
       exact cut_mk (s_44) rfl rfl (pre_r rfl)
      | cons x_41 l_40 =>
       obtain ⟨c_, hc_45, hL_46⟩ := bind_some hL_46
       refine wH_seq (wH_region (h_op (vB (decide ((k_39 : Int) < (havev_2.length : Int)))) wz rfl (h_nil ?_)))
       refine wH_seq (wH_ift rfl (drop_cons hD_42) (wH_skip ?_))
       unfold proof_Compare_L2 at hc_45
       refine wH_seq (wH_block (wH_seq (wH_region (h_op (vI (k_39 : Int)) wz rfl (h_ia es26 rfl rfl (drop_idx hD_42) rfl wz (h_ldc sz36 ag36 rfl (.d (.agg (Play.enc x_41))) rfl wz (h_alloc 0 (.inl rfl) z36 rfl wz (fun n_49 => h_op (vI (k_39 : Int)) wz rfl (h_str 0 il ft 3 sz36 rfl rfl [(vS x_41.Player), (vS x_41.Item), (vI x_41.At), (vI x_41.Long)] rfl wz (h_nil (wH_seq (wH_seq ?_))))))))))))
       obtain ⟨v_50, h_51, hc_45⟩ := bind_some hc_45
       refine wH_join (β := Unit) (fun _ => ([(1, (vL Play.enc havev_2)), (2, (vI most_3)), (12, (vV n_24 1 s_30.1)), (13, (gV n_33 2 s_30.2)), (14, (vI (k_25 : Int))), (15, (.ref n_38 0 0)), (16, (vI s_44)), (17, (vI (k_39 : Int))), (18, (.ref n_49 0 0)), (39, (vL Play.enc want_1)), (40, (vI (want_1.length : Int))), (41, (vI (k_25 : Int))), (46, (vL Play.enc havev_2)), (47, (vI (havev_2.length : Int))), (48, (vI (k_39 : Int))), (79, (vB v_50))] : List (Nat × V))) (fun _ => ([(n_24, some (bV 1 eB s_30.1)), (n_33, gB 2 Match.enc s_30.2), (n_38, some (.cells 4 [(vS x_27.Player), (vS x_27.Item), (vI x_27.At), (vI x_27.Long)])), (n_49, some (.cells 4 [(vS x_41.Player), (vS x_41.Item), (vI x_41.At), (vI x_41.Long)]))] : Hp)) (fun _ => True) ?_ ?_
       ·refine wH_region (h_op (vV n_24 1 s_30.1) wz rfl (h_op (vI (k_39 : Int)) wz rfl ?_))
        obtain ⟨_, hi_52, h_51⟩ := bind_some h_51
        refine h_iav es163 rfl rfl (inR_0 hi_52) (inR_lt hi_52) wz ?_
        obtain ⟨e_53, hy_54, h_51⟩ := bind_some h_51
        refine h_ldv 0 0 il ft sz4 ag4 rfl rfl hy_54 (vB e_53) rfl wz ?_
        rcases cond_some h_51 with ⟨hc_55, h_51⟩ | ⟨hc_55, h_51⟩
        ·refine h_movb rfl hc_55 wz (h_skip wa (h_skip wa (h_skip wa (h_skip wa (h_skip wa (h_op (vB true) wz rfl (h_op (vB true) wz rfl (h_skip wa (h_skip wa (h_skip wa (h_skip wa (h_skip wa (h_op (vB true) wz rfl (h_op (vB true) wz rfl (h_skip wa (h_skip wa (h_skip wa (h_skip wa (h_skip wa (h_skip wa (h_skip wa (h_op (vB true) wz rfl (h_nil ?_)))))))))))))))))))))))
         obtain rfl := some_inj h_51
         exact cu
        ·refine h_movb rfl hc_55 wz (h_far pl36_0 rfl 0 rfl wa (h_ldr 0 3 il ft sz9 ag9 rfl rfl (vS x_41.Player) rfl wa (h_far pl36_0 rfl 0 rfl wa (h_ldr 0 2 il ft sz9 ag9 rfl rfl (vS x_27.Player) rfl wa (h_op (vB (sNe x_41.Player x_27.Player)) wa rfl (h_op (vB (sNe x_41.Player x_27.Player)) wz rfl ?_))))))
         rcases cond_some h_51 with ⟨hc_56, h_51⟩ | ⟨hc_56, h_51⟩
         ·refine h_movb rfl hc_56 wz (h_skip wa (h_skip wa (h_skip wa (h_skip wa (h_skip wa (h_op (vB true) wz rfl (h_op (vB true) wz rfl (h_skip wa (h_skip wa (h_skip wa (h_skip wa (h_skip wa (h_skip wa (h_skip wa (h_op (vB true) wz rfl (h_nil ?_))))))))))))))))
          obtain rfl := some_inj h_51
          exact cu
         ·refine h_movb rfl hc_56 wz (h_far pl36_1 rfl 1 rfl wa (h_ldr 0 3 il ft sz9 ag9 rfl rfl (vS x_41.Item) rfl wa (h_far pl36_1 rfl 1 rfl wa (h_ldr 0 2 il ft sz9 ag9 rfl rfl (vS x_27.Item) rfl wa (h_op (vB (sNe x_41.Item x_27.Item)) wa rfl (h_op (vB (sNe x_41.Item x_27.Item)) wz rfl ?_))))))
          rcases cond_some h_51 with ⟨hc_57, h_51⟩ | ⟨hc_57, h_51⟩
          ·refine h_movb rfl hc_57 wz (h_skip wa (h_skip wa (h_skip wa (h_skip wa (h_skip wa (h_skip wa (h_skip wa (h_op (vB true) wz rfl (h_nil ?_)))))))))
           obtain rfl := some_inj h_51
           exact cu
          ·refine h_movb rfl hc_57 wz (h_far pl36_2 rfl 2 rfl wa (h_ldr 0 3 il ft sz3 ag3 rfl rfl (vI x_41.At) rfl wa (h_far pl36_2 rfl 2 rfl wa (h_ldr 0 2 il ft sz3 ag3 rfl rfl (vI x_27.At) rfl wa ?_))))
           obtain ⟨r_58, hr_59, h_51⟩ := bind_some h_51
           refine h_call0 (proof_apart_ok hr_59) rfl hb87 rfl rfl rfl rfl wa (h_op (vI most_3) wa rfl (h_op (vB (decide (r_58 > most_3))) wa rfl (h_op (vB (decide (r_58 > most_3))) wz rfl (h_nil ?_))))
           obtain rfl := some_inj h_51
           exact cu
       ·rintro ⟨⟩ _ sl_ H_ hp_ hq_
        refine wH_at _ hp_ hq_ ?_
        rcases cond_some hc_45 with ⟨hc_60, hc_45⟩ | ⟨hc_60, hc_45⟩
        ·refine wH_ift rfl hc_60 (wH_exit (wH_region (h_opw (w64_next hD_42 hn_43) wz rfl (h_op (vI ((k_39 + 1 : Nat) : Int)) wz rfl (h_nil ?_)))))
         obtain rfl := some_inj hc_45
         exact loop_mk (k_39 + 1, l_40, s_44) ⟨hL_46, drop_next hD_42⟩ (Nat.lt_succ_self _) rfl (pre_r rfl)
        ·refine wH_iff rfl hc_60 (wH_skip (wH_seq ?_))
         obtain ⟨v_61, h_62, hc_45⟩ := bind_some hc_45
         refine wH_join (β := Unit) (fun _ => ([(1, (vL Play.enc havev_2)), (2, (vI most_3)), (12, (vV n_24 1 s_30.1)), (13, (gV n_33 2 s_30.2)), (14, (vI (k_25 : Int))), (15, (.ref n_38 0 0)), (16, (vI s_44)), (17, (vI (k_39 : Int))), (39, (vL Play.enc want_1)), (40, (vI (want_1.length : Int))), (41, (vI (k_25 : Int))), (46, (vL Play.enc havev_2)), (47, (vI (havev_2.length : Int))), (48, (vI (k_39 : Int))), (97, (vB v_61))] : List (Nat × V))) (fun _ => ([(n_24, some (bV 1 eB s_30.1)), (n_33, gB 2 Match.enc s_30.2), (n_38, some (.cells 4 [(vS x_27.Player), (vS x_27.Item), (vI x_27.At), (vI x_27.Long)])), (n_49, some (.cells 4 [(vS x_41.Player), (vS x_41.Item), (vI x_41.At), (vI x_41.Long)]))] : Hp)) (fun _ => True) ?_ ?_
         ·refine wH_draws (h_op (vI s_44) wz rfl (h_op (vB (decide (s_44 < 0))) wz rfl ?_))
          rcases cond_some h_62 with ⟨hc_63, h_62⟩ | ⟨hc_63, h_62⟩
          ·refine h_movb rfl hc_63 wz (h_skip wa (h_skip wa (h_skip wa (h_skip wa (h_skip wa (h_skip wa (h_skip wa (h_skip wa (h_skip wa (h_skip wa (h_skip wa (h_skip wa (h_skip wa (h_skip wa (h_op (vB true) wz rfl (h_nil ?_))))))))))))))))
           obtain rfl := some_inj h_62
           exact cu
          ·refine h_movb rfl hc_63 wz (h_far pl36_2 rfl 2 rfl wa (h_ldr 4 3 (.inr (by kernel_rfl)) (fun _ _ ag => trivial) sz3 ag3 rfl rfl (vI x_41.At) rfl wa (h_far pl36_2 rfl 2 rfl wa (h_ldr 6 2 (.inr (by kernel_rfl)) (fun _ _ ag => ⟨.inl ⟨rfl, rfl⟩, trivial⟩) sz3 ag3 rfl rfl (vI x_27.At) rfl wa ?_))))
           obtain ⟨r_64, hr_65, h_62⟩ := bind_some h_62
           refine h_call0 (proof_apart_ok hr_65) rfl hb87 rfl rfl rfl rfl wa (h_op (vL Play.enc havev_2) wa rfl (h_op (vI s_44) wa rfl ?_))
           obtain ⟨y_66, hy_67, h_62⟩ := bind_some h_62
           refine h_ia es26 rfl rfl hy_67 rfl wa (h_fac pl36_2 rfl [.int .i64 y_66.At, .int .i64 y_66.Long] rfl rfl wa (h_ldc sz3 ag3 rfl (vI y_66.At) rfl wa (h_far pl36_2 rfl 2 rfl wa (h_ldr 14 2 (.inr (by kernel_rfl)) (fun _ _ ag => ⟨.inl ⟨rfl, rfl⟩, ⟨.inl ⟨rfl, rfl⟩, trivial⟩⟩) sz3 ag3 rfl rfl (vI x_27.At) rfl wa ?_))))
           obtain ⟨r_68, hr_69, h_62⟩ := bind_some h_62
           refine h_call0 (proof_apart_ok hr_69) rfl hb87 rfl rfl rfl rfl wa (h_op (vB (decide (r_64 < r_68))) wa rfl (h_op (vB (decide (r_64 < r_68))) wz rfl (h_nil ?_)))
           obtain rfl := some_inj h_62
           exact cu
         ·rintro ⟨⟩ _ sl_ H_ hp_ hq_
          refine wH_at _ hp_ hq_ ?_
          obtain ⟨v_70, h_71, hc_45⟩ := bind_some hc_45
          refine wH_join (β := Unit) (fun _ => ([(1, (vL Play.enc havev_2)), (2, (vI most_3)), (12, (vV n_24 1 s_30.1)), (13, (gV n_33 2 s_30.2)), (14, (vI (k_25 : Int))), (15, (.ref n_38 0 0)), (16, (vI v_70)), (39, (vL Play.enc want_1)), (40, (vI (want_1.length : Int))), (41, (vI (k_25 : Int))), (46, (vL Play.enc havev_2)), (47, (vI (havev_2.length : Int))), (48, (vI (k_39 : Int)))] : List (Nat × V))) (fun _ => ([(n_24, some (bV 1 eB s_30.1)), (n_33, gB 2 Match.enc s_30.2), (n_38, some (.cells 4 [(vS x_27.Player), (vS x_27.Item), (vI x_27.At), (vI x_27.Long)])), (n_49, some (.cells 4 [(vS x_41.Player), (vS x_41.Item), (vI x_41.At), (vI x_41.Long)]))] : Hp)) (fun _ => True) ?_ ?_
          ·rcases cond_some h_71 with ⟨hc_72, h_71⟩ | ⟨hc_72, h_71⟩
           ·refine wH_ift rfl hc_72 (wH_region (h_op (vI (k_39 : Int)) wz rfl (h_op (vI (k_39 : Int)) wz rfl (h_nil ?_))))
            obtain rfl := some_inj h_71
            exact cu
           ·refine wH_iff rfl hc_72 (wH_skip ?_)
            obtain rfl := some_inj h_71
            exact cu
          ·rintro ⟨⟩ _ sl_ H_ hp_ hq_
           refine wH_at _ hp_ hq_ (wH_region (h_opw (w64_next hD_42 hn_43) wz rfl (h_op (vI ((k_39 + 1 : Nat) : Int)) wz rfl (h_nil ?_))))
           obtain rfl := some_inj hc_45
           exact loop_mk (k_39 + 1, l_40, v_70) ⟨hL_46, drop_next hD_42⟩ (Nat.lt_succ_self _) rfl (pre_r rfl)
     ·rintro s_44 ho_ sl_ H_ hp_ hq_
      subst ho_
      refine wH_at _ hp_ hq_ (wH_seq (wH_seq (wH_region (h_op (vI s_44) wz rfl (h_op (vB (decide (s_44 ≥ 0))) wz rfl (h_nil ?_))))))
      obtain ⟨v_73, h_74, hc_34⟩ := bind_some hc_34
      refine wH_join (β := Unit) (fun _ => ([(1, (vL Play.enc havev_2)), (2, (vI most_3)), (12, (vV n_24 1 v_73)), (13, (gV n_33 2 s_30.2)), (14, (vI (k_25 : Int))), (16, (vI s_44)), (39, (vL Play.enc want_1)), (40, (vI (want_1.length : Int))), (41, (vI (k_25 : Int)))] : List (Nat × V))) (fun _ => ([(n_24, some (bV 1 eB v_73)), (n_33, gB 2 Match.enc s_30.2), (n_38, some (.cells 4 [(vS x_27.Player), (vS x_27.Item), (vI x_27.At), (vI x_27.Long)]))] : Hp)) (fun _ => True) ?_ ?_
      ·rcases cond_some h_74 with ⟨hc_75, h_74⟩ | ⟨hc_75, h_74⟩
       ·refine wH_ift rfl hc_75 (wH_region (h_op (vV n_24 1 s_30.1) wz rfl (h_op (vI s_44) wz rfl ?_)))
        obtain ⟨_, hi_76, h_74⟩ := bind_some h_74
        refine h_iav es163 rfl rfl (inR_0 hi_76) (inR_lt hi_76) wz ?_
        obtain ⟨e_77, hy_78, h_74⟩ := bind_some h_74
        refine h_stv 0 il ft 0 sz4 rfl rfl hy_78 true rfl wz (h_re (v' := (vV n_24 1 (s_30.1.set (0 + (s_44).toNat) true))) 12 rfl (vV_len (by simp)) (h_re (v' := (vV n_24 1 (s_30.1.set (0 + (s_44).toNat) true))) 102 rfl (vV_len (by simp)) (h_nil ?_)))
        obtain rfl := some_inj h_74
        exact cu
       ·refine wH_iff rfl hc_75 (wH_skip ?_)
        obtain rfl := some_inj h_74
        exact cu
      ·rintro ⟨⟩ _ sl_ H_ hp_ hq_
       refine wH_at _ hp_ hq_ (wH_region (h_op (gV n_33 2 s_30.2) wz rfl (h_op (vI (k_25 : Int)) wz rfl (h_op (vI s_44) wz rfl (h_op (.d (.agg (Match.enc (⟨(k_25 : Int), s_44⟩ : Match)))) wz (by kernel_rfl) (h_lit (([(⟨(k_25 : Int), s_44⟩ : Match)] : List Match).map Match.enc) es29 ez29 rfl rfl rfl rfl rfl wz ?_))))))
       obtain ⟨a_79, hz_80, hc_34⟩ := bind_some hc_34
       refine h_appg 0 il ft (i := 1) el29 el29 sz34 z34 rfl (by decide) by34 (by decide) (fun _ => rfl) rfl rfl rfl hz_80 wz (fun n_81 => h_op (gV n_81 2 a_79) wz rfl (h_nil (wH_region (h_opw (w64_next hD_28 hn_29) wz rfl (h_op (vI ((k_25 + 1 : Nat) : Int)) wz rfl (h_nil ?_))))))
       obtain rfl := some_inj hc_34
       exact loop_mk (k_25 + 1, l_26, (v_73, a_79), n_81) ⟨hL_35, drop_next hD_28⟩ (Nat.lt_succ_self _) rfl (pre_r rfl)
   ·rintro ⟨s_30, n_33⟩ ho_ sl_ H_ hp_ hq_
    subst ho_
    refine wH_at _ hp_ hq_ (wH_seq (wH_region (h_op .nil wz rfl (h_nil (wH_seq (wH_seq (wH_region (h_op (vV n_24 1 s_30.1) wz rfl (h_lenw un163 rfl wz (h_op (vI 0) wz rfl (h_nil (wH_froz 0 rfl (wH_co 12 0 rfl rfl (wH_co 112 0 rfl rfl (wH_new (fun n_88 => ?_))))))))))))))))
    obtain ⟨o_93, hj_94, hF⟩ := bind_some hF
    obtain ⟨hn_86, hj_94⟩ := forL_some hj_94
    refine wH_join (β := ((List Int)) × Nm) (fun p => (fun (s_87 : (List Int)) (n_90 : Nm) => ([(13, (gV n_33 2 s_30.2)), (19, (gV n_90 1 s_87))] : List (Nat × V))) p.1 p.2) (fun p => (fun (s_87 : (List Int)) (n_90 : Nm) => ([(n_24, some (bF 1 eB s_30.1)), (n_33, gB 2 Match.enc s_30.2), (n_90, gB 1 eI s_87)] : Hp)) p.1 p.2) (fun p => o_93 = .go p.1) ?_ ?_
    ·refine wH_block (wH_loop (β := Nat × (List Bool) × ((List Int)) × Nm) (fun p => (fun (k_82 : Nat) (l_83 : List Bool) (s_87 : (List Int)) (n_90 : Nm) => ([(13, (gV n_33 2 s_30.2)), (19, (gV n_90 1 s_87)), (112, (vL eB s_30.1)), (113, (vI (s_30.1.length : Int))), (114, (vI (k_82 : Int)))] : List (Nat × V))) p.1 p.2.1 p.2.2.1 p.2.2.2) (fun p => (fun (k_82 : Nat) (l_83 : List Bool) (s_87 : (List Int)) (n_90 : Nm) => ([(n_24, some (bF 1 eB s_30.1)), (n_33, gB 2 Match.enc s_30.2), (n_90, gB 1 eI s_87)] : Hp)) p.1 p.2.1 p.2.2.1 p.2.2.2) (fun p => forR (fun k x s => proof_Compare_L4 k x s) p.2.1 p.1 p.2.2.1 = some o_93 ∧ (s_30.1).drop p.1 = p.2.1) (fun p => p.2.1.length) (0, s_30.1, ([] : List Int), n_88) ⟨hj_94, rfl⟩ rfl (pre_r rfl) ?_)
     rintro ⟨k_82, l_83, s_87, n_90⟩ ⟨hL_92, hD_85⟩
     dsimp only at hL_92 hD_85
     cases l_83 with
     | nil =>
      obtain rfl := some_inj hL_92
      refine wH_seq (wH_region (h_op (vB (decide ((k_82 : Int) < (s_30.1.length : Int)))) wz rfl (h_nil ?_)))
      refine wH_seq (wH_iff rfl (drop_nil hD_85) (wH_exit ?_))
      exact cut_mk (s_87, n_90) rfl rfl (pre_r rfl)
     | cons x_84 l_83 =>
      obtain ⟨c_, hc_91, hL_92⟩ := bind_some hL_92
      refine wH_seq (wH_region (h_op (vB (decide ((k_82 : Int) < (s_30.1.length : Int)))) wz rfl (h_nil ?_)))
      refine wH_seq (wH_ift rfl (drop_cons hD_85) (wH_skip ?_))
      unfold proof_Compare_L4 at hc_91
      refine wH_seq (wH_block (wH_seq (wH_region (h_op (vI (k_82 : Int)) wz rfl (h_ia es163 rfl rfl (drop_idx hD_85) rfl wz (h_ldc sz4 ag4 rfl (vB x_84) rfl wz (h_op (vI (k_82 : Int)) wz rfl (h_op (vB x_84) wz rfl (h_nil (wH_seq (wH_region (h_op (vB x_84) wz rfl (h_op (vB (!x_84)) wz rfl (h_nil ?_))))))))))))))
      obtain ⟨v_95, h_96, hc_91⟩ := bind_some hc_91
      refine wH_join (β := Nm) (fun (n_97 : Nm) => ([(13, (gV n_33 2 s_30.2)), (19, (gV n_97 1 v_95)), (112, (vL eB s_30.1)), (113, (vI (s_30.1.length : Int))), (114, (vI (k_82 : Int)))] : List (Nat × V))) (fun (n_97 : Nm) => ([(n_24, some (bF 1 eB s_30.1)), (n_33, gB 2 Match.enc s_30.2), (n_97, gB 1 eI v_95)] : Hp)) (fun _ => True) ?_ ?_
      ·rcases cond_some h_96 with ⟨hc_98, h_96⟩ | ⟨hc_98, h_96⟩
       ·refine wH_ift rfl hc_98 (wH_region (h_op (gV n_90 1 s_87) wz rfl (h_op (vI (k_82 : Int)) wz rfl (h_lit (([(k_82 : Int)] : List Int).map eI) es22 ez22 rfl rfl rfl rfl rfl wz ?_))))
        obtain ⟨a_99, hz_100, h_96⟩ := bind_some h_96
        refine h_appg 0 il ft (i := 2) el22 el22 sz3 z3 rfl (by decide) by3 (by decide) (fun _ => rfl) rfl rfl rfl hz_100 wz (fun n_101 => h_op (gV n_101 1 a_99) wz rfl (h_nil ?_))
        obtain rfl := some_inj h_96
        exact cut_mk n_101 trivial rfl (pre_r rfl)
       ·refine wH_iff rfl hc_98 (wH_skip ?_)
        obtain rfl := some_inj h_96
        exact cut_mk n_90 trivial rfl (pre_r rfl)
      ·rintro n_97 _ sl_ H_ hp_ hq_
       refine wH_at _ hp_ hq_ (wH_region (h_opw (w64_next hD_85 hn_86) wz rfl (h_op (vI ((k_82 + 1 : Nat) : Int)) wz rfl (h_nil ?_))))
       obtain rfl := some_inj hc_91
       exact loop_mk (k_82 + 1, l_83, v_95, n_97) ⟨hL_92, drop_next hD_85⟩ (Nat.lt_succ_self _) rfl (pre_r rfl)
    ·rintro ⟨s_87, n_90⟩ ho_ sl_ H_ hp_ hq_
     subst ho_
     refine wH_at _ hp_ hq_ (wH_seq (wH_region (h_op (gV n_33 2 s_30.2) wz rfl (h_op (gV n_90 1 s_87) wz rfl (h_op (gV n_33 2 s_30.2) wz rfl (h_op (gV n_90 1 s_87) wz rfl (h_op (vI 0) wz rfl (h_nil (wH_frozg 1 rfl (wH_cog 6 1 rfl rfl (wH_cog 13 1 rfl rfl (wH_cog 126 1 rfl rfl (wH_frozg 2 rfl (wH_cog 7 2 rfl rfl (wH_cog 19 2 rfl rfl (wH_cog 127 2 rfl rfl ?_))))))))))))))))
     obtain rfl := some_inj hF
     exact wH_ret (fin0 (.inr rfl) [(vL Match.enc s_30.2), (vL eI s_87), (vI 0)] ⟨rfl, ⟨rfl, ⟨rfl, trivial⟩⟩⟩ rfl rfl rfl)
theorem slices_Index_int_int_ok {s_1 : (List Int)} {v_2 : Int} {r : Int} (hF : slices_Index_int_int s_1 v_2 = some r) :
  FnM Tryz.prog 88 [(vL eI s_1), (vI v_2)] [] (vI r) [] := by
 refine FnM.of_wH ⟨Tryz.prog, 19, [], []⟩ rfl Tryz.func88 rfl rfl (Nat.le_of_ble_eq_true rfl) (by kernel_rfl) ?_
 unfold slices_Index_int_int at hF
 refine wH_seq (wH_region (h_op (vI 0) wz rfl (h_nil (wH_seq (wH_seq (wH_region (h_op (vL eI s_1) wz rfl (h_len un22 rfl wz (h_op (vI 0) wz rfl (h_nil ?_))))))))))
 obtain ⟨o_11, hj_12, hF⟩ := bind_some hF
 obtain ⟨hn_7, hj_12⟩ := forL_some hj_12
 refine wH_join (β := (Unit)) (fun (s_8 : Unit) => ([] : List (Nat × V))) (fun (s_8 : Unit) => ([] : Hp)) (fun p => o_11 = .go p) ?_ ?_
 ·refine wH_block (wH_loop (β := Nat × (List Int) × (Unit)) (fun p => (fun (k_3 : Nat) (l_4 : List Int) (s_8 : Unit) => ([(0, (vL eI s_1)), (1, (vI v_2)), (7, (vI (s_1.length : Int))), (8, (vI (k_3 : Int)))] : List (Nat × V))) p.1 p.2.1 p.2.2) (fun p => (fun (k_3 : Nat) (l_4 : List Int) (s_8 : Unit) => ([] : Hp)) p.1 p.2.1 p.2.2) (fun p => forR (fun k x s => slices_Index_int_int_L1 v_2 k x s) p.2.1 p.1 p.2.2 = some o_11 ∧ (s_1).drop p.1 = p.2.1) (fun p => p.2.1.length) (0, s_1, ()) ⟨hj_12, rfl⟩ rfl (pre_r rfl) ?_)
  rintro ⟨k_3, l_4, s_8⟩ ⟨hL_10, hD_6⟩
  dsimp only at hL_10 hD_6
  cases l_4 with
  | nil =>
   obtain rfl := some_inj hL_10
   refine wH_seq (wH_region (h_op (vB (decide ((k_3 : Int) < (s_1.length : Int)))) wz rfl (h_nil ?_)))
   refine wH_seq (wH_iff rfl (drop_nil hD_6) (wH_exit ?_))
   exact cut_mk (s_8) rfl rfl (pre_r rfl)
  | cons x_5 l_4 =>
   obtain ⟨c_, hc_9, hL_10⟩ := bind_some hL_10
   refine wH_seq (wH_region (h_op (vB (decide ((k_3 : Int) < (s_1.length : Int)))) wz rfl (h_nil ?_)))
   refine wH_seq (wH_ift rfl (drop_cons hD_6) (wH_skip ?_))
   unfold slices_Index_int_int_L1 at hc_9
   refine wH_seq (wH_block (wH_seq (wH_region (h_op (vI (k_3 : Int)) wz rfl (h_op (vI (k_3 : Int)) wz rfl (h_nil (wH_seq (wH_region (h_op (vI v_2) wz rfl (h_op (vL eI s_1) wz rfl (h_op (vI (k_3 : Int)) wz rfl (h_ia es22 rfl rfl (drop_idx hD_6) rfl wz (h_ldc sz3 ag3 rfl (vI x_5) rfl wz (h_op (vB (v_2 == x_5)) wz rfl (h_nil ?_)))))))))))))))
   rcases cond_some hc_9 with ⟨hc_13, hc_9⟩ | ⟨hc_13, hc_9⟩
   ·refine wH_ift rfl hc_13 (wH_seq (wH_region (h_op (vI (k_3 : Int)) wz rfl (h_op (vI (k_3 : Int)) wz rfl (h_nil ?_)))))
    obtain rfl := some_inj hc_9
    obtain rfl := some_inj hL_10
    obtain rfl := some_inj hF
    exact wH_ret (fin0 (.inr rfl) [(vI (k_3 : Int))] ⟨rfl, trivial⟩ rfl rfl rfl)
   ·refine wH_iff rfl hc_13 (wH_skip (wH_region (h_opw (w64_next hD_6 hn_7) wz rfl (h_op (vI ((k_3 + 1 : Nat) : Int)) wz rfl (h_nil ?_)))))
    obtain rfl := some_inj hc_9
    exact loop_mk (k_3 + 1, l_4, ()) ⟨hL_10, drop_next hD_6⟩ (Nat.lt_succ_self _) rfl (pre_r rfl)
 ·rintro s_8 ho_ sl_ H_ hp_ hq_
  subst ho_
  refine wH_at _ hp_ hq_ (wH_seq (wH_region (h_op (vI (-1)) wz rfl (h_nil ?_))))
  obtain rfl := some_inj hF
  exact wH_ret (fin0 (.inr rfl) [(vI (-1))] ⟨rfl, trivial⟩ rfl rfl rfl)
theorem slices_Contains_int_int_ok {s_1 : (List Int)} {v_2 : Int} {r : Bool} (hF : slices_Contains_int_int s_1 v_2 = some r) :
  FnM Tryz.prog 15 [(vL eI s_1), (vI v_2)] [] (vB r) [] := by
 refine FnM.of_wH ⟨Tryz.prog, 9, [], []⟩ rfl Tryz.func15 rfl rfl (Nat.le_of_ble_eq_true rfl) (by kernel_rfl) ?_
 unfold slices_Contains_int_int at hF
 refine wH_seq (wH_region (h_op (vB false) wz rfl (h_nil (wH_seq (wH_region (h_op (vL eI s_1) wz rfl (h_op (vI v_2) wz rfl ?_)))))))
 obtain ⟨r_3, hr_4, hF⟩ := bind_some hF
 refine h_call0 (slices_Index_int_int_ok hr_4) rfl hb88 rfl rfl rfl rfl wz (h_op (vB (decide (r_3 ≥ 0))) wz rfl (h_op (vB (decide (r_3 ≥ 0))) wz rfl (h_nil ?_)))
 obtain rfl := some_inj hF
 exact wH_ret (fin0 (.inr rfl) [(vB (decide (r_3 ≥ 0)))] ⟨rfl, trivial⟩ rfl rfl rfl)
theorem slices_Index_int_int_v1_ok {s_1 : (List Int)} {v_2 : Int} {r : Int} (hF : slices_Index_int_int_v1 s_1 v_2 = some r) :
  FnM Tryz.prog 88 [(dV (extN 0) 1 s_1), (vI v_2)] (([] : List Box) ++ gI 1 eI s_1) (vI r) (([] : List Box).map some ++ gT s_1 (gB 1 eI s_1)) := by
 refine FnM.of_wHv ⟨Tryz.prog, 19, [], []⟩ rfl Tryz.func88 rfl rfl (Nat.le_of_ble_eq_true rfl) (by kernel_rfl) ?_
 unfold slices_Index_int_int_v1 at hF
 refine wH_seq (wH_region (h_op (vI 0) wz rfl (h_nil (wH_seq (wH_seq (wH_region (h_op (dV (extN 0) 1 s_1) wz rfl (h_lend un22 rfl wz (h_op (vI 0) wz rfl (h_nil ?_))))))))))
 obtain ⟨o_11, hj_12, hF⟩ := bind_some hF
 obtain ⟨hn_7, hj_12⟩ := forL_some hj_12
 refine wH_join (β := (Unit)) (fun (s_8 : Unit) => ([] : List (Nat × V))) (fun (s_8 : Unit) => ([((extN 0), gB 1 eI s_1)] : Hp)) (fun p => o_11 = .go p) ?_ ?_
 ·refine wH_block (wH_loop (β := Nat × (List Nat) × (Unit)) (fun p => (fun (k_3 : Nat) (l_4 : List Nat) (s_8 : Unit) => ([(0, (dV (extN 0) 1 s_1)), (1, (vI v_2)), (7, (vI (s_1.length : Int))), (8, (vI (k_3 : Int)))] : List (Nat × V))) p.1 p.2.1 p.2.2) (fun p => (fun (k_3 : Nat) (l_4 : List Nat) (s_8 : Unit) => ([((extN 0), gB 1 eI s_1)] : Hp)) p.1 p.2.1 p.2.2) (fun p => forR (fun k x s => slices_Index_int_int_v1_L1 s_1 v_2 k x s) p.2.1 p.1 p.2.2 = some o_11 ∧ ((List.range ((s_1.length : Int)).toNat)).drop p.1 = p.2.1) (fun p => p.2.1.length) (0, (List.range ((s_1.length : Int)).toNat), ()) ⟨hj_12, rfl⟩ rfl (pre_r rfl) ?_)
  rintro ⟨k_3, l_4, s_8⟩ ⟨hL_10, hD_6⟩
  dsimp only at hL_10 hD_6
  cases l_4 with
  | nil =>
   obtain rfl := some_inj hL_10
   refine wH_seq (wH_region (h_op (vB (decide ((k_3 : Int) < (s_1.length : Int)))) wz rfl (h_nil ?_)))
   refine wH_seq (wH_iff rfl (range_nil hD_6) (wH_exit ?_))
   exact cut_mk (s_8) rfl rfl (pre_r rfl)
  | cons x_5 l_4 =>
   obtain ⟨c_, hc_9, hL_10⟩ := bind_some hL_10
   refine wH_seq (wH_region (h_op (vB (decide ((k_3 : Int) < (s_1.length : Int)))) wz rfl (h_nil ?_)))
   refine wH_seq (wH_ift rfl (range_cons hD_6) (wH_skip ?_))
   unfold slices_Index_int_int_v1_L1 at hc_9
   refine wH_seq (wH_block (wH_seq (wH_region (h_op (vI (k_3 : Int)) wz rfl (h_op (vI (k_3 : Int)) wz rfl (h_nil (wH_seq (wH_region (h_op (vI v_2) wz rfl (h_op (dV (extN 0) 1 s_1) wz rfl (h_op (vI (k_3 : Int)) wz rfl ?_)))))))))))
   obtain ⟨_, hi_13, hc_9⟩ := bind_some hc_9
   refine h_iavd es22 rfl rfl (inR_0 hi_13) (inR_lt hi_13) wz ?_
   obtain ⟨e_14, hy_15, hc_9⟩ := bind_some hc_9
   refine h_ldvg 0 0 il ft sz3 ag3 rfl rfl hy_15 (vI e_14) rfl wz (h_op (vB (v_2 == e_14)) wz rfl (h_nil ?_))
   rcases cond_some hc_9 with ⟨hc_16, hc_9⟩ | ⟨hc_16, hc_9⟩
   ·refine wH_ift rfl hc_16 (wH_seq (wH_region (h_op (vI (k_3 : Int)) wz rfl (h_op (vI (k_3 : Int)) wz rfl (h_nil ?_)))))
    obtain rfl := some_inj hc_9
    obtain rfl := some_inj hL_10
    obtain rfl := some_inj hF
    exact wH_ret (finV (bs := ([] : List Box)) (os := ([] : List Box)) (xs := s_1) (o := gB 1 eI s_1) (.inr rfl) [(vI (k_3 : Int))] ⟨rfl, trivial⟩ rfl rfl rfl rfl rfl (by kernel_rfl) gB_ok rfl)
   ·refine wH_iff rfl hc_16 (wH_skip (wH_region (h_opw (w64_nextr hD_6 hn_7) wz rfl (h_op (vI ((k_3 + 1 : Nat) : Int)) wz rfl (h_nil ?_)))))
    obtain rfl := some_inj hc_9
    exact loop_mk (k_3 + 1, l_4, ()) ⟨hL_10, drop_next hD_6⟩ (Nat.lt_succ_self _) rfl (pre_r rfl)
 ·rintro s_8 ho_ sl_ H_ hp_ hq_
  subst ho_
  refine wH_at _ hp_ hq_ (wH_seq (wH_region (h_op (vI (-1)) wz rfl (h_nil ?_))))
  obtain rfl := some_inj hF
  exact wH_ret (finV (bs := ([] : List Box)) (os := ([] : List Box)) (xs := s_1) (o := gB 1 eI s_1) (.inr rfl) [(vI (-1))] ⟨rfl, trivial⟩ rfl rfl rfl rfl rfl (by kernel_rfl) gB_ok rfl)
theorem slices_Contains_int_int_v1_ok {s_1 : (List Int)} {v_2 : Int} {r : Bool} (hF : slices_Contains_int_int_v1 s_1 v_2 = some r) :
  FnM Tryz.prog 15 [(dV (extN 0) 1 s_1), (vI v_2)] (([] : List Box) ++ gI 1 eI s_1) (vB r) (([] : List Box).map some ++ gT s_1 (gB 1 eI s_1)) := by
 refine FnM.of_wHv ⟨Tryz.prog, 9, [], []⟩ rfl Tryz.func15 rfl rfl (Nat.le_of_ble_eq_true rfl) (by kernel_rfl) ?_
 unfold slices_Contains_int_int_v1 at hF
 refine wH_seq (wH_region (h_op (vB false) wz rfl (h_nil (wH_seq (wH_region (h_op (dV (extN 0) 1 s_1) wz rfl (h_op (vI v_2) wz rfl ?_)))))))
 obtain ⟨r_3, hr_4, hF⟩ := bind_some hF
 refine h_callv 0 [] 0 0 il ft (slices_Index_int_int_v1_ok hr_4) rfl hb88 rfl rfl rfl (by kernel_rfl) rfl (.inr (.inl rfl)) rfl (by kernel_rfl) (by kernel_rfl) (by kernel_rfl) (by kernel_rfl) rfl (by decide) (by kernel_rfl) gB_ok (gB_ho rfl) wz ([((extN 0), gB 1 eI s_1)] : Hp) (by kernel_rfl) (h_op (vB (decide (r_3 ≥ 0))) wz rfl (h_op (vB (decide (r_3 ≥ 0))) wz rfl (h_nil ?_)))
 obtain rfl := some_inj hF
 exact wH_ret (finV (bs := ([] : List Box)) (os := ([] : List Box)) (xs := s_1) (o := gB 1 eI s_1) (.inr rfl) [(vB (decide (r_3 ≥ 0)))] ⟨rfl, trivial⟩ rfl rfl rfl rfl rfl (by kernel_rfl) gB_ok rfl)
theorem screen_CheckRect_ok {r_1 : Rect} {r : Int} (hF : screen_CheckRect r_1 = some r) :
  FnM Tryz.prog 96 [(.d (.agg (Rect.enc r_1)))] [] (vI r) [] := by
 refine FnM.of_wH ⟨Tryz.prog, 25, [], []⟩ rfl Tryz.func96 rfl rfl (Nat.le_of_ble_eq_true rfl) (by kernel_rfl) ?_
 unfold screen_CheckRect at hF
 refine wH_seq (wH_region (h_box 0 (.inl rfl) [(vI r_1.X), (vI r_1.Y), (vI r_1.W), (vI r_1.H)] rfl rfl wz (fun n_2 => h_op (vI 0) wz rfl (h_nil (wH_seq (wH_seq ?_))))))
 obtain ⟨v_3, h_4, hF⟩ := bind_some hF
 refine wH_join (β := Unit) (fun _ => ([(1, (.ref n_2 0 0)), (10, (vB v_3))] : List (Nat × V))) (fun _ => ([(n_2, some (.cells 4 [(vI r_1.X), (vI r_1.Y), (vI r_1.W), (vI r_1.H)]))] : Hp)) (fun _ => True) ?_ ?_
 ·refine wH_region (h_far pl45_0 rfl 0 rfl wz (h_ldr 0 0 il ft sz3 ag3 rfl rfl (vI r_1.X) rfl wz ?_))
  obtain ⟨r_5, hr_6, h_4⟩ := bind_some h_4
  refine h_call0 (kit_Outside_ok hr_6) rfl hb86 rfl rfl rfl rfl wz ?_
  rcases cond_some h_4 with ⟨hc_7, h_4⟩ | ⟨hc_7, h_4⟩
  ·refine h_movb rfl hc_7 wz (h_skip wa (h_skip wa (h_skip wa (h_op (vB true) wz rfl (h_nil ?_)))))
   obtain rfl := some_inj h_4
   exact cu
  ·refine h_movb rfl hc_7 wz (h_far pl45_1 rfl 1 rfl wa (h_ldr 0 0 il ft sz3 ag3 rfl rfl (vI r_1.Y) rfl wa ?_))
   obtain ⟨r_8, hr_9, h_4⟩ := bind_some h_4
   refine h_call0 (kit_Outside_ok hr_9) rfl hb86 rfl rfl rfl rfl wa (h_op (vB r_8) wz rfl (h_nil ?_))
   obtain rfl := some_inj h_4
   exact cu
 ·rintro ⟨⟩ _ sl_ H_ hp_ hq_
  refine wH_at _ hp_ hq_ ?_
  rcases cond_some hF with ⟨hc_10, hF⟩ | ⟨hc_10, hF⟩
  ·refine wH_ift rfl hc_10 (wH_seq (wH_region (h_op (vI 1) wz rfl (h_nil ?_))))
   obtain rfl := some_inj hF
   exact wH_ret (fin0 (.inr rfl) [(vI 1)] ⟨rfl, trivial⟩ rfl rfl rfl)
  ·refine wH_iff rfl hc_10 (wH_skip (wH_seq (wH_seq ?_)))
   obtain ⟨v_11, h_12, hF⟩ := bind_some hF
   refine wH_join (β := Unit) (fun _ => ([(24, (vB v_11))] : List (Nat × V))) (fun _ => ([(n_2, some (.cells 4 [(vI r_1.X), (vI r_1.Y), (vI r_1.W), (vI r_1.H)]))] : Hp)) (fun _ => True) ?_ ?_
   ·refine wH_region (h_far pl45_2 rfl 2 rfl wz (h_ldr 0 0 il ft sz3 ag3 rfl rfl (vI r_1.W) rfl wz (h_far pl45_0 rfl 0 rfl wz (h_ldr 0 0 il ft sz3 ag3 rfl rfl (vI r_1.X) rfl wz (h_op (vI (w64 (100000 - r_1.X))) wz rfl ?_)))))
    obtain ⟨r_13, hr_14, h_12⟩ := bind_some h_12
    refine h_call0 (kit_Outside_ok hr_14) rfl hb86 rfl rfl rfl rfl wz ?_
    rcases cond_some h_12 with ⟨hc_15, h_12⟩ | ⟨hc_15, h_12⟩
    ·refine h_movb rfl hc_15 wz (h_skip wa (h_skip wa (h_skip wa (h_skip wa (h_skip wa (h_skip wa (h_op (vB true) wz rfl (h_nil ?_))))))))
     obtain rfl := some_inj h_12
     exact cu
    ·refine h_movb rfl hc_15 wz (h_far pl45_3 rfl 3 rfl wa (h_ldr 0 0 il ft sz3 ag3 rfl rfl (vI r_1.H) rfl wa (h_far pl45_1 rfl 1 rfl wa (h_ldr 0 0 il ft sz3 ag3 rfl rfl (vI r_1.Y) rfl wa (h_op (vI (w64 (100000 - r_1.Y))) wa rfl ?_)))))
     obtain ⟨r_16, hr_17, h_12⟩ := bind_some h_12
     refine h_call0 (kit_Outside_ok hr_17) rfl hb86 rfl rfl rfl rfl wa (h_op (vB r_16) wz rfl (h_nil ?_))
     obtain rfl := some_inj h_12
     exact cu
   ·rintro ⟨⟩ _ sl_ H_ hp_ hq_
    refine wH_at _ hp_ hq_ ?_
    rcases cond_some hF with ⟨hc_18, hF⟩ | ⟨hc_18, hF⟩
    ·refine wH_ift rfl hc_18 (wH_seq (wH_region (h_op (vI 1) wz rfl (h_nil ?_))))
     obtain rfl := some_inj hF
     exact wH_ret (fin0 (.inr rfl) [(vI 1)] ⟨rfl, trivial⟩ rfl rfl rfl)
    ·refine wH_iff rfl hc_18 (wH_skip (wH_seq (wH_region (h_op (vI 0) wz rfl (h_nil ?_)))))
     obtain rfl := some_inj hF
     exact wH_ret (fin0 (.inr rfl) [(vI 0)] ⟨rfl, trivial⟩ rfl rfl rfl)
end Go.Proofs.YtpojeclokolkaaaGreatDoor.Law

