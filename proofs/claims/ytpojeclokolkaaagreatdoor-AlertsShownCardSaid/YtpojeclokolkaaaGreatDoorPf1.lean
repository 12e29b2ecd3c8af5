/-
 The machine computes these plain functions (written by a program of ours).
-/
import Derived.Test.YtpojeclokolkaaaGreatDoorFacts
import Derived.Test.YtpojeclokolkaaaGreatDoorDefs
import Derived.Test.YtpojeclokolkaaaGreatDoorShelf
open Go Go.Eng Go.Proofs
namespace Go.Proofs.YtpojeclokolkaaaGreatDoor.Law
set_option maxRecDepth 100000
set_option linter.unusedVariables false
set_option maxHeartbeats 1000000
theorem mk_Below_ok {x_1 : Int} {n_2 : Int} {r : Int} (hF : mk_Below x_1 n_2 = some r) :
  FnM Tryz.prog 167 [(vI x_1), (vI n_2)] [] (vI r) [] := by
 refine FnM.of_wH ⟨Tryz.prog, 16, [], []⟩ rfl Tryz.func167 rfl rfl (Nat.le_of_ble_eq_true rfl) (by kernel_rfl) ?_
 unfold mk_Below at hF
 refine wH_seq (wH_region (h_op (vI 0) wz rfl (h_nil (wH_seq (wH_seq (wH_region (h_op (vI n_2) wz rfl (h_op (vB (decide (n_2 < 1))) wz rfl (h_nil ?_)))))))))
 rcases cond_some hF with ⟨hc_3, hF⟩ | ⟨hc_3, hF⟩
 ·refine wH_ift rfl hc_3 (wH_seq (wH_region (h_op (vI 0) wz rfl (h_nil ?_))))
  obtain rfl := some_inj hF
  exact wH_ret (fin0 (.inr rfl) [(vI 0)] ⟨rfl, trivial⟩ rfl rfl rfl)
 ·refine wH_iff rfl hc_3 (wH_skip (wH_seq (wH_region (h_op (vI x_1) wz rfl (h_op (vI n_2) wz rfl ?_)))))
  obtain ⟨q_4, hz_5, hF⟩ := bind_some hF
  refine h_rem rfl rfl hz_5 wz (h_op (vI q_4) wz rfl (h_nil (wH_seq (wH_seq (wH_region (h_op (vI q_4) wz rfl (h_op (vB (decide (q_4 < 0))) wz rfl (h_nil ?_))))))))
  obtain ⟨v_6, h_7, hF⟩ := bind_some hF
  refine wH_join (β := Unit) (fun _ => ([(0, (vI v_6))] : List (Nat × V))) (fun _ => ([] : Hp)) (fun _ => True) ?_ ?_
  ·rcases cond_some h_7 with ⟨hc_8, h_7⟩ | ⟨hc_8, h_7⟩
   ·refine wH_ift rfl hc_8 (wH_region (h_op (vI q_4) wz rfl (h_op (vI n_2) wz rfl (h_op (vI (w64 (q_4 + n_2))) wz rfl (h_op (vI (w64 (q_4 + n_2))) wz rfl (h_nil ?_))))))
    obtain rfl := some_inj h_7
    exact cu
   ·refine wH_iff rfl hc_8 (wH_skip ?_)
    obtain rfl := some_inj h_7
    exact cu
  ·rintro ⟨⟩ _ sl_ H_ hp_ hq_
   refine wH_at _ hp_ hq_ (wH_seq (wH_region (h_op (vI v_6) wz rfl (h_op (vI v_6) wz rfl (h_nil ?_)))))
   obtain rfl := some_inj hF
   exact wH_ret (fin0 (.inr rfl) [(vI v_6)] ⟨rfl, trivial⟩ rfl rfl rfl)
theorem mk_Stream_Next_ok {s_1 : Stream} {n_2 : Int} {r : Int × Stream} (hF : mk_Stream_Next s_1 n_2 = some r) :
  FnM Tryz.prog 84 [(.ref (extN 0) 0 0), (vI n_2)] [(.cells 2 [(vL eI s_1.L), (vI s_1.f_at)])] (vI r.1) [some (.cells 2 [(vL eI r.2.L), (vI r.2.f_at)])] := by
 refine FnM.of_wH ⟨Tryz.prog, 64, [], []⟩ rfl Tryz.func84 rfl rfl (Nat.le_of_ble_eq_true rfl) (by kernel_rfl) ?_
 unfold mk_Stream_Next at hF
 refine wH_seq (wH_region (h_op (vI 0) wz rfl (h_nil (wH_seq (wH_region (h_op (.ref (extN 0) 0 0) wz rfl (h_op (.ref (extN 0) 0 0) wz rfl (h_far pl25_1 rfl 1 rfl wz (h_ldr 0 0 il ft sz3 ag3 rfl rfl (vI s_1.f_at) rfl wz (h_op (vI (w64 (s_1.f_at + 1))) wz rfl (h_op (.ref (extN 0) 0 0) wz rfl (h_far pl25_1 rfl 1 rfl wz (h_str 0 il ft 0 sz3 rfl rfl [(vL eI s_1.L), (vI (w64 (s_1.f_at + 1)))] rfl wz (h_nil (wH_seq (wH_seq (wH_region (h_op (.ref (extN 0) 0 0) wz rfl (h_op (.ref (extN 0) 0 0) wz rfl (h_far pl25_0 rfl 0 rfl wz (h_ldr 0 0 il ft sz22 ag22 rfl rfl (vL eI s_1.L) rfl wz (h_len un22 rfl wz (h_op (vB ((s_1.L.length : Int) == 0)) wz rfl ?_)))))))))))))))))))))))
 refine h_nil ?_
 rcases cond_some hF with ⟨hc_3, hF⟩ | ⟨hc_3, hF⟩
 ·refine wH_ift rfl hc_3 (wH_seq (wH_region (h_op (.ref (extN 0) 0 0) wz rfl (h_op (.ref (extN 0) 0 0) wz rfl (h_far pl25_1 rfl 1 rfl wz (h_ldr 0 0 il ft sz3 ag3 rfl rfl (vI (w64 (s_1.f_at + 1))) rfl wz (h_op (vI (w64 ((w64 (s_1.f_at + 1)) * 7919))) wz rfl (h_op (vI n_2) wz rfl ?_))))))))
  obtain ⟨r_4, hr_5, hF⟩ := bind_some hF
  refine h_call0 (mk_Below_ok hr_5) rfl hb167 rfl rfl rfl rfl wz (h_op (vI r_4) wz rfl (h_nil ?_))
  obtain rfl := some_inj hF
  exact wH_ret (finB (.inr rfl) [(vI r_4)] _ [0] [extN 0] ⟨rfl, trivial⟩ (.cons (co_data rfl rfl) (.nil)) (by kernel_rfl) ⟨(by kernel_rfl), trivial⟩ (by decide) (by kernel_rfl))
 ·refine wH_iff rfl hc_3 (wH_skip (wH_seq (wH_draws (h_op (.ref (extN 0) 0 0) wz rfl (h_op (.ref (extN 0) 0 0) wz rfl (h_far pl25_1 rfl 1 rfl wz (h_ldr 3 0 (.inr (by kernel_rfl)) (fun _ _ ag => trivial) sz3 ag3 rfl rfl (vI (w64 (s_1.f_at + 1))) rfl wz (h_op (vI (w64 ((w64 (s_1.f_at + 1)) - 1))) wz rfl (h_op (.ref (extN 0) 0 0) wz rfl (h_op (.ref (extN 0) 0 0) wz rfl (h_far pl25_0 rfl 0 rfl wz (h_ldr 8 0 (.inr (by kernel_rfl)) (fun _ _ ag => ⟨.inl ⟨rfl, rfl⟩, trivial⟩) sz22 ag22 rfl rfl (vL eI s_1.L) rfl wz (h_len un22 rfl wz ?_)))))))))))))
  obtain ⟨q_6, hz_7, hF⟩ := bind_some hF
  refine h_rem rfl rfl hz_7 wz (h_op (vI q_6) wz rfl (h_nil (wH_seq (wH_draws (h_op (.ref (extN 0) 0 0) wz rfl (h_op (.ref (extN 0) 0 0) wz rfl (h_far pl25_1 rfl 1 rfl wz (h_ldr 3 0 (.inr (by kernel_rfl)) (fun _ _ ag => trivial) sz3 ag3 rfl rfl (vI (w64 (s_1.f_at + 1))) rfl wz (h_op (vI (w64 ((w64 (s_1.f_at + 1)) - 1))) wz rfl (h_op (.ref (extN 0) 0 0) wz rfl (h_op (.ref (extN 0) 0 0) wz rfl (h_far pl25_0 rfl 0 rfl wz (h_ldr 8 0 (.inr (by kernel_rfl)) (fun _ _ ag => ⟨.inl ⟨rfl, rfl⟩, trivial⟩) sz22 ag22 rfl rfl (vL eI s_1.L) rfl wz (h_len un22 rfl wz ?_))))))))))))))
  obtain ⟨q_8, hz_9, hF⟩ := bind_some hF
  refine h_quo rfl rfl hz_9 wz (h_op (vI q_8) wz rfl (h_nil (wH_at (H0 := ([((extN 0), some (.cells 2 [(vL eI s_1.L), (vI (w64 (s_1.f_at + 1)))]))] : Hp)) ([(0, (.ref (extN 0) 0 0)), (1, (vI n_2)), (5, (vI q_6)), (6, (vI q_8))] : List (Nat × V)) (by kernel_rfl) (pre_mk (by kernel_rfl)) (wH_seq (wH_region (h_op (.ref (extN 0) 0 0) wz rfl (h_op (.ref (extN 0) 0 0) wz rfl (h_far pl25_0 rfl 0 rfl wz (h_ldr 0 0 il ft sz22 ag22 rfl rfl (vL eI s_1.L) rfl wz (h_op (vI q_6) wz rfl ?_))))))))))
  obtain ⟨y_10, hy_11, hF⟩ := bind_some hF
  refine h_ia es22 rfl rfl hy_11 rfl wz (h_ldc sz3 ag3 rfl (vI y_10) rfl wz ?_)
  obtain ⟨r_12, hr_13, hF⟩ := bind_some hF
  refine h_call0 (mk_Below_ok hr_13) rfl hb167 rfl rfl rfl rfl wz (h_op (vI q_8) wz rfl (h_op (vI q_6) wz rfl (h_op (vI (w64 (7919 + q_6))) wz rfl (h_op (vI (w64 (q_8 * (w64 (7919 + q_6))))) wz rfl (h_op (vI (w64 (r_12 + (w64 (q_8 * (w64 (7919 + q_6))))))) wz rfl (h_op (vI n_2) wz rfl ?_))))))
  obtain ⟨r_14, hr_15, hF⟩ := bind_some hF
  refine h_call0 (mk_Below_ok hr_15) rfl hb167 rfl rfl rfl rfl wz (h_op (vI r_14) wz rfl (h_nil ?_))
  obtain rfl := some_inj hF
  exact wH_ret (finB (.inr rfl) [(vI r_14)] _ [0] [extN 0] ⟨rfl, trivial⟩ (.cons (co_data rfl rfl) (.nil)) (by kernel_rfl) ⟨(by kernel_rfl), trivial⟩ (by decide) (by kernel_rfl))
theorem mk_Stream_Range_ok {s_1 : Stream} {low_2 : Int} {high_3 : Int} {r : Int × Stream} (hF : mk_Stream_Range s_1 low_2 high_3 = some r) :
  FnM Tryz.prog 13 [(.ref (extN 0) 0 0), (vI low_2), (vI high_3)] [(.cells 2 [(vL eI s_1.L), (vI s_1.f_at)])] (vI r.1) [some (.cells 2 [(vL eI r.2.L), (vI r.2.f_at)])] := by
 refine FnM.of_wH ⟨Tryz.prog, 19, [], []⟩ rfl Tryz.func13 rfl rfl (Nat.le_of_ble_eq_true rfl) (by kernel_rfl) ?_
 unfold mk_Stream_Range at hF
 refine wH_seq (wH_region (h_op (vI 0) wz rfl (h_nil (wH_seq (wH_seq (wH_region (h_op (vI high_3) wz rfl (h_op (vI low_2) wz rfl (h_op (vB (decide (high_3 < low_2))) wz rfl (h_nil ?_))))))))))
 rcases cond_some hF with ⟨hc_4, hF⟩ | ⟨hc_4, hF⟩
 ·refine wH_ift rfl hc_4 (wH_seq (wH_region (h_op (vI low_2) wz rfl (h_op (vI low_2) wz rfl (h_nil ?_)))))
  obtain rfl := some_inj hF
  exact wH_ret (finB (.inr rfl) [(vI low_2)] _ [0] [extN 0] ⟨rfl, trivial⟩ (.cons (co_data rfl rfl) (.nil)) (by kernel_rfl) ⟨(by kernel_rfl), trivial⟩ (by decide) (by kernel_rfl))
 ·refine wH_iff rfl hc_4 (wH_skip (wH_seq (wH_region (h_op (vI low_2) wz rfl (h_op (.ref (extN 0) 0 0) wz rfl (h_op (vI high_3) wz rfl (h_op (vI low_2) wz rfl (h_op (vI (w64 (high_3 - low_2))) wz rfl (h_op (vI (w64 ((w64 (high_3 - low_2)) + 1))) wz rfl ?_)))))))))
  obtain ⟨r_5, hr_6, hF⟩ := bind_some hF
  refine h_callq 0 [0] il ft (mk_Stream_Next_ok hr_6) rfl hb84 rfl (by kernel_rfl) (by kernel_rfl) (by kernel_rfl) (by kernel_rfl) (by kernel_rfl) (by kernel_rfl) (by kernel_rfl) (by decide) (by kernel_rfl) wz (vI r_5.1) (by kernel_rfl) ([((extN 0), some (.cells 2 [(vL eI r_5.2.L), (vI r_5.2.f_at)]))] : Hp) (by kernel_rfl) (h_op (vI (w64 (low_2 + r_5.1))) wz rfl (h_op (vI (w64 (low_2 + r_5.1))) wz rfl (h_nil ?_)))
  obtain rfl := some_inj hF
  exact wH_ret (finB (.inr rfl) [(vI (w64 (low_2 + r_5.1)))] _ [0] [extN 0] ⟨rfl, trivial⟩ (.cons (co_data rfl rfl) (.nil)) (by kernel_rfl) ⟨(by kernel_rfl), trivial⟩ (by decide) (by kernel_rfl))
theorem mk_Stream_Some_ok {s_1 : Stream} {l_2 : (List ByteArray)} {r : ByteArray × Stream} (hF : mk_Stream_Some s_1 l_2 = some r) :
  FnM Tryz.prog 70 [(.ref (extN 0) 0 0), (vL eS l_2)] [(.cells 2 [(vL eI s_1.L), (vI s_1.f_at)])] (vS r.1) [some (.cells 2 [(vL eI r.2.L), (vI r.2.f_at)])] := by
 refine FnM.of_wH ⟨Tryz.prog, 12, [], []⟩ rfl Tryz.func70 rfl rfl (Nat.le_of_ble_eq_true rfl) (by kernel_rfl) ?_
 unfold mk_Stream_Some at hF
 refine wH_seq (wH_region (h_op (vS (⟨#[]⟩ : ByteArray)) wz rfl (h_nil (wH_seq (wH_region (h_op (vL eS l_2) wz rfl (h_op (.ref (extN 0) 0 0) wz rfl (h_op (vL eS l_2) wz rfl (h_len un80 rfl wz ?_)))))))))
 obtain ⟨r_3, hr_4, hF⟩ := bind_some hF
 refine h_callq 0 [0] il ft (mk_Stream_Next_ok hr_4) rfl hb84 rfl (by kernel_rfl) (by kernel_rfl) (by kernel_rfl) (by kernel_rfl) (by kernel_rfl) (by kernel_rfl) (by kernel_rfl) (by decide) (by kernel_rfl) wz (vI r_3.1) (by kernel_rfl) ([((extN 0), some (.cells 2 [(vL eI r_3.2.L), (vI r_3.2.f_at)]))] : Hp) (by kernel_rfl) ?_
 obtain ⟨y_6, hy_7, hF⟩ := bind_some hF
 refine h_ia es80 rfl rfl hy_7 rfl wz (h_ldc sz9 ag9 rfl (vS y_6) rfl wz (h_op (vS y_6) wz rfl (h_nil ?_)))
 obtain rfl := some_inj hF
 exact wH_ret (finB (.inr rfl) [(vS y_6)] _ [0] [extN 0] ⟨rfl, trivial⟩ (.cons (co_data rfl rfl) (.nil)) (by kernel_rfl) ⟨(by kernel_rfl), trivial⟩ (by decide) (by kernel_rfl))
theorem mk_Stream_Pick_ok {s_1 : Stream} {l_2 : (List Int)} {r : Int × Stream} (hF : mk_Stream_Pick s_1 l_2 = some r) :
  FnM Tryz.prog 34 [(.ref (extN 0) 0 0), (vL eI l_2)] [(.cells 2 [(vL eI s_1.L), (vI s_1.f_at)])] (vI r.1) [some (.cells 2 [(vL eI r.2.L), (vI r.2.f_at)])] := by
 refine FnM.of_wH ⟨Tryz.prog, 12, [], []⟩ rfl Tryz.func34 rfl rfl (Nat.le_of_ble_eq_true rfl) (by kernel_rfl) ?_
 unfold mk_Stream_Pick at hF
 refine wH_seq (wH_region (h_op (vI 0) wz rfl (h_nil (wH_seq (wH_region (h_op (vL eI l_2) wz rfl (h_op (.ref (extN 0) 0 0) wz rfl (h_op (vL eI l_2) wz rfl (h_len un22 rfl wz ?_)))))))))
 obtain ⟨r_3, hr_4, hF⟩ := bind_some hF
 refine h_callq 0 [0] il ft (mk_Stream_Next_ok hr_4) rfl hb84 rfl (by kernel_rfl) (by kernel_rfl) (by kernel_rfl) (by kernel_rfl) (by kernel_rfl) (by kernel_rfl) (by kernel_rfl) (by decide) (by kernel_rfl) wz (vI r_3.1) (by kernel_rfl) ([((extN 0), some (.cells 2 [(vL eI r_3.2.L), (vI r_3.2.f_at)]))] : Hp) (by kernel_rfl) ?_
 obtain ⟨y_6, hy_7, hF⟩ := bind_some hF
 refine h_ia es22 rfl rfl hy_7 rfl wz (h_ldc sz3 ag3 rfl (vI y_6) rfl wz (h_op (vI y_6) wz rfl (h_nil ?_)))
 obtain rfl := some_inj hF
 exact wH_ret (finB (.inr rfl) [(vI y_6)] _ [0] [extN 0] ⟨rfl, trivial⟩ (.cons (co_data rfl rfl) (.nil)) (by kernel_rfl) ⟨(by kernel_rfl), trivial⟩ (by decide) (by kernel_rfl))
theorem mk_Stream_Flip_ok {s_1 : Stream} {n_2 : Int} {r : Bool × Stream} (hF : mk_Stream_Flip s_1 n_2 = some r) :
  FnM Tryz.prog 56 [(.ref (extN 0) 0 0), (vI n_2)] [(.cells 2 [(vL eI s_1.L), (vI s_1.f_at)])] (vB r.1) [some (.cells 2 [(vL eI r.2.L), (vI r.2.f_at)])] := by
 refine FnM.of_wH ⟨Tryz.prog, 9, [], []⟩ rfl Tryz.func56 rfl rfl (Nat.le_of_ble_eq_true rfl) (by kernel_rfl) ?_
 unfold mk_Stream_Flip at hF
 refine wH_seq (wH_region (h_op (vB false) wz rfl (h_nil (wH_seq (wH_region (h_op (.ref (extN 0) 0 0) wz rfl (h_op (vI n_2) wz rfl ?_)))))))
 obtain ⟨r_3, hr_4, hF⟩ := bind_some hF
 refine h_callq 0 [0] il ft (mk_Stream_Next_ok hr_4) rfl hb84 rfl (by kernel_rfl) (by kernel_rfl) (by kernel_rfl) (by kernel_rfl) (by kernel_rfl) (by kernel_rfl) (by kernel_rfl) (by decide) (by kernel_rfl) wz (vI r_3.1) (by kernel_rfl) ([((extN 0), some (.cells 2 [(vL eI r_3.2.L), (vI r_3.2.f_at)]))] : Hp) (by kernel_rfl) (h_op (vB (r_3.1 == 0)) wz rfl (h_op (vB (r_3.1 == 0)) wz rfl (h_nil ?_)))
 obtain rfl := some_inj hF
 exact wH_ret (finB (.inr rfl) [(vB (r_3.1 == 0))] _ [0] [extN 0] ⟨rfl, trivial⟩ (.cons (co_data rfl rfl) (.nil)) (by kernel_rfl) ⟨(by kernel_rfl), trivial⟩ (by decide) (by kernel_rfl))
theorem mk_Stream_RightRect_ok {s_1 : Stream} {r : Rect × Stream} (hF : mk_Stream_RightRect s_1 = some r) :
  FnM Tryz.prog 18 [(.ref (extN 0) 0 0)] [(.cells 2 [(vL eI s_1.L), (vI s_1.f_at)])] (.d (.agg (Rect.enc r.1))) [some (.cells 2 [(vL eI r.2.L), (vI r.2.f_at)])] := by
 refine FnM.of_wH ⟨Tryz.prog, 12, [], []⟩ rfl Tryz.func18 rfl rfl (Nat.le_of_ble_eq_true rfl) (by kernel_rfl) ?_
 unfold mk_Stream_RightRect at hF
 refine wH_seq (wH_region (h_alloc 0 (.inl rfl) z45 rfl wz (fun n_2 => h_nil (wH_seq (wH_region (h_op (.ref (extN 0) 0 0) wz rfl ?_))))))
 obtain ⟨r_3, hr_4, hF⟩ := bind_some hF
 refine h_callq 0 [0] il ft (mk_Stream_Range_ok hr_4) rfl hb13 rfl (by kernel_rfl) (by kernel_rfl) (by kernel_rfl) (by kernel_rfl) (by kernel_rfl) (by kernel_rfl) (by kernel_rfl) (by decide) (by kernel_rfl) wz (vI r_3.1) (by kernel_rfl) ([((extN 0), some (.cells 2 [(vL eI r_3.2.L), (vI r_3.2.f_at)])), (n_2, some (.cells 4 [(vI 0), (vI 0), (vI 0), (vI 0)]))] : Hp) (by kernel_rfl) (h_op (.ref (extN 0) 0 0) wz rfl ?_)
 obtain ⟨r_6, hr_7, hF⟩ := bind_some hF
 refine h_callq 0 [0] il ft (mk_Stream_Range_ok hr_7) rfl hb13 rfl (by kernel_rfl) (by kernel_rfl) (by kernel_rfl) (by kernel_rfl) (by kernel_rfl) (by kernel_rfl) (by kernel_rfl) (by decide) (by kernel_rfl) wz (vI r_6.1) (by kernel_rfl) ([((extN 0), some (.cells 2 [(vL eI r_6.2.L), (vI r_6.2.f_at)])), (n_2, some (.cells 4 [(vI 0), (vI 0), (vI 0), (vI 0)]))] : Hp) (by kernel_rfl) (h_op (.ref (extN 0) 0 0) wz rfl ?_)
 obtain ⟨r_9, hr_10, hF⟩ := bind_some hF
 refine h_callq 0 [0] il ft (mk_Stream_Range_ok hr_10) rfl hb13 rfl (by kernel_rfl) (by kernel_rfl) (by kernel_rfl) (by kernel_rfl) (by kernel_rfl) (by kernel_rfl) (by kernel_rfl) (by decide) (by kernel_rfl) wz (vI r_9.1) (by kernel_rfl) ([((extN 0), some (.cells 2 [(vL eI r_9.2.L), (vI r_9.2.f_at)])), (n_2, some (.cells 4 [(vI 0), (vI 0), (vI 0), (vI 0)]))] : Hp) (by kernel_rfl) (h_op (.ref (extN 0) 0 0) wz rfl ?_)
 obtain ⟨r_12, hr_13, hF⟩ := bind_some hF
 refine h_callq 0 [0] il ft (mk_Stream_Range_ok hr_13) rfl hb13 rfl (by kernel_rfl) (by kernel_rfl) (by kernel_rfl) (by kernel_rfl) (by kernel_rfl) (by kernel_rfl) (by kernel_rfl) (by decide) (by kernel_rfl) wz (vI r_12.1) (by kernel_rfl) ([((extN 0), some (.cells 2 [(vL eI r_12.2.L), (vI r_12.2.f_at)])), (n_2, some (.cells 4 [(vI 0), (vI 0), (vI 0), (vI 0)]))] : Hp) (by kernel_rfl) (h_op (.d (.agg (Rect.enc (⟨r_3.1, r_6.1, r_9.1, r_12.1⟩ : Rect)))) wz (by kernel_rfl) (h_str 0 il ft 1 sz45 rfl rfl [(vI r_3.1), (vI r_6.1), (vI r_9.1), (vI r_12.1)] rfl wz (h_nil ?_)))
 obtain rfl := some_inj hF
 exact wH_ret (finB (.inr rfl) [(.d (.agg (Rect.enc (⟨r_3.1, r_6.1, r_9.1, r_12.1⟩ : Rect))))] _ [0] [extN 0] ⟨⟨1, _, _, _, _, _, _, _, rfl, rfl, sz45, ag45, rfl⟩, trivial⟩ (.cons (co_data rfl rfl) (.nil)) (by kernel_rfl) ⟨(by kernel_rfl), trivial⟩ (by decide) (by kernel_rfl))
theorem mk_alertOrder_ok {a_1 : Alert} {b_2 : Alert} {r : Int} (hF : mk_alertOrder a_1 b_2 = some r) :
  FnM Tryz.prog 110 [(.d (.agg (Alert.enc a_1))), (.d (.agg (Alert.enc b_2)))] [] (vI r) [] := by
 refine FnM.of_wH ⟨Tryz.prog, 20, [], []⟩ rfl Tryz.func110 rfl rfl (Nat.le_of_ble_eq_true rfl) (by kernel_rfl) ?_
 unfold mk_alertOrder at hF
 refine wH_seq (wH_region (h_box 0 (.inl rfl) [(vS a_1.Id), (vS a_1.Sender), (vI a_1.Kind), (vL eS a_1.Refs), (vI a_1.At), (vI a_1.Until), (vI a_1.Weight), (vL Rect.enc a_1.Areas), (vS a_1.Text)] rfl rfl wz (fun n_3 => h_box 0 (.inl rfl) [(vS b_2.Id), (vS b_2.Sender), (vI b_2.Kind), (vL eS b_2.Refs), (vI b_2.At), (vI b_2.Until), (vI b_2.Weight), (vL Rect.enc b_2.Areas), (vS b_2.Text)] rfl rfl wz (fun n_4 => h_op (vI 0) wz rfl (h_nil (wH_seq (wH_seq (wH_region (h_far pl82_4 rfl 4 rfl wz (h_ldr 0 0 il ft sz3 ag3 rfl rfl (vI a_1.At) rfl wz (h_far pl82_4 rfl 4 rfl wz (h_ldr 0 1 il ft sz3 ag3 rfl rfl (vI b_2.At) rfl wz (h_op (vB (a_1.At != b_2.At)) wz rfl (h_nil ?_))))))))))))))
 rcases cond_some hF with ⟨hc_5, hF⟩ | ⟨hc_5, hF⟩
 ·refine wH_ift rfl hc_5 (wH_seq (wH_region (h_far pl82_4 rfl 4 rfl wz (h_ldr 0 0 il ft sz3 ag3 rfl rfl (vI a_1.At) rfl wz (h_far pl82_4 rfl 4 rfl wz (h_ldr 0 1 il ft sz3 ag3 rfl rfl (vI b_2.At) rfl wz (h_op (vI (w64 (a_1.At - b_2.At))) wz rfl (h_op (vI (w64 (a_1.At - b_2.At))) wz rfl (h_nil ?_)))))))))
  obtain rfl := some_inj hF
  exact wH_ret (fin0 (.inr rfl) [(vI (w64 (a_1.At - b_2.At)))] ⟨rfl, trivial⟩ rfl rfl rfl)
 ·refine wH_iff rfl hc_5 (wH_skip (wH_seq (wH_seq (wH_region (h_far pl82_0 rfl 0 rfl wz (h_ldr 0 0 il ft sz9 ag9 rfl rfl (vS a_1.Id) rfl wz (h_far pl82_0 rfl 0 rfl wz (h_ldr 0 1 il ft sz9 ag9 rfl rfl (vS b_2.Id) rfl wz (h_op (vB (sLt a_1.Id b_2.Id)) wz rfl (h_nil ?_))))))))))
  rcases cond_some hF with ⟨hc_6, hF⟩ | ⟨hc_6, hF⟩
  ·refine wH_ift rfl hc_6 (wH_seq (wH_region (h_op (vI (-1)) wz rfl (h_nil ?_))))
   obtain rfl := some_inj hF
   exact wH_ret (fin0 (.inr rfl) [(vI (-1))] ⟨rfl, trivial⟩ rfl rfl rfl)
  ·refine wH_iff rfl hc_6 (wH_skip (wH_seq (wH_region (h_op (vI 1) wz rfl (h_nil ?_)))))
   obtain rfl := some_inj hF
   exact wH_ret (fin0 (.inr rfl) [(vI 1)] ⟨rfl, trivial⟩ rfl rfl rfl)
theorem math_bits_Len64_ok {x_1 : Int} {r : Int} (hF : math_bits_Len64 x_1 = some r) :
  FnM Tryz.prog 232 [(.d (.int .u64 x_1))] [] (vI r) [] := by
 refine FnM.of_wH ⟨Tryz.prog, 25, [], []⟩ rfl Tryz.func232 rfl rfl (Nat.le_of_ble_eq_true rfl) (by kernel_rfl) ?_
 unfold math_bits_Len64 at hF
 refine wH_seq (wH_region (h_op (vI 0) wz rfl (h_nil (wH_seq (wH_seq (wH_region (h_op (.d (.int .u64 x_1)) wz rfl (h_op (vB (decide (x_1 ≥ 4294967296))) wz rfl (h_nil ?_)))))))))
 obtain ⟨v_2, h_3, hF⟩ := bind_some hF
 refine wH_join (β := Unit) (fun _ => ([(0, (.d (.int .u64 v_2.1))), (2, (vI v_2.2))] : List (Nat × V))) (fun _ => ([] : Hp)) (fun _ => True) ?_ ?_
 ·rcases cond_some h_3 with ⟨hc_4, h_3⟩ | ⟨hc_4, h_3⟩
  ·refine wH_ift rfl hc_4 (wH_seq (wH_region (h_op (.d (.int .u64 x_1)) wz rfl ?_)))
   obtain ⟨q_5, hz_6, h_3⟩ := bind_some h_3
   refine h_shr rfl rfl hz_6 wz (h_op (.d (.int .u64 q_5)) wz rfl (h_nil (wH_region (h_op (vI 32) wz rfl (h_nil ?_)))))
   obtain rfl := some_inj h_3
   exact cu
  ·refine wH_iff rfl hc_4 (wH_skip ?_)
   obtain rfl := some_inj h_3
   exact cu
 ·rintro ⟨⟩ _ sl_ H_ hp_ hq_
  refine wH_at _ hp_ hq_ (wH_seq (wH_seq (wH_region (h_op (.d (.int .u64 v_2.1)) wz rfl (h_op (vB (decide (v_2.1 ≥ 65536))) wz rfl (h_nil ?_))))))
  obtain ⟨v_7, h_8, hF⟩ := bind_some hF
  refine wH_join (β := Unit) (fun _ => ([(0, (.d (.int .u64 v_7.1))), (2, (vI v_7.2))] : List (Nat × V))) (fun _ => ([] : Hp)) (fun _ => True) ?_ ?_
  ·rcases cond_some h_8 with ⟨hc_9, h_8⟩ | ⟨hc_9, h_8⟩
   ·refine wH_ift rfl hc_9 (wH_seq (wH_region (h_op (.d (.int .u64 v_2.1)) wz rfl ?_)))
    obtain ⟨q_10, hz_11, h_8⟩ := bind_some h_8
    refine h_shr rfl rfl hz_11 wz (h_op (.d (.int .u64 q_10)) wz rfl (h_nil (wH_region (h_op (vI v_2.2) wz rfl (h_op (vI (w64 (v_2.2 + 16))) wz rfl (h_op (vI (w64 (v_2.2 + 16))) wz rfl (h_nil ?_)))))))
    obtain rfl := some_inj h_8
    exact cu
   ·refine wH_iff rfl hc_9 (wH_skip ?_)
    obtain rfl := some_inj h_8
    exact cu
  ·rintro ⟨⟩ _ sl_ H_ hp_ hq_
   refine wH_at _ hp_ hq_ (wH_seq (wH_seq (wH_region (h_op (.d (.int .u64 v_7.1)) wz rfl (h_op (vB (decide (v_7.1 ≥ 256))) wz rfl (h_nil ?_))))))
   obtain ⟨v_12, h_13, hF⟩ := bind_some hF
   refine wH_join (β := Unit) (fun _ => ([(0, (.d (.int .u64 v_12.1))), (2, (vI v_12.2))] : List (Nat × V))) (fun _ => ([] : Hp)) (fun _ => True) ?_ ?_
   ·rcases cond_some h_13 with ⟨hc_14, h_13⟩ | ⟨hc_14, h_13⟩
    ·refine wH_ift rfl hc_14 (wH_seq (wH_region (h_op (.d (.int .u64 v_7.1)) wz rfl ?_)))
     obtain ⟨q_15, hz_16, h_13⟩ := bind_some h_13
     refine h_shr rfl rfl hz_16 wz (h_op (.d (.int .u64 q_15)) wz rfl (h_nil (wH_region (h_op (vI v_7.2) wz rfl (h_op (vI (w64 (v_7.2 + 8))) wz rfl (h_op (vI (w64 (v_7.2 + 8))) wz rfl (h_nil ?_)))))))
     obtain rfl := some_inj h_13
     exact cu
    ·refine wH_iff rfl hc_14 (wH_skip ?_)
     obtain rfl := some_inj h_13
     exact cu
   ·rintro ⟨⟩ _ sl_ H_ hp_ hq_
    refine wH_at _ hp_ hq_ (wH_seq (wH_region (h_op (vI v_12.2) wz rfl (h_op (.d (.int .u64 v_12.1)) wz rfl (h_conv un305 un5 rfl wz ?_)))))
    obtain ⟨b_17, hy_18, hF⟩ := bind_some hF
    refine h_idxs un9 rfl rfl hy_18 wz (h_conv un5 un3 rfl wz (h_op (vI (w64 (v_12.2 + (w64 (b_17.toNat : Int))))) wz rfl (h_op (vI (w64 (v_12.2 + (w64 (b_17.toNat : Int))))) wz rfl (h_nil ?_))))
    obtain rfl := some_inj hF
    exact wH_ret (fin0 (.inr rfl) [(vI (w64 (v_12.2 + (w64 (b_17.toNat : Int)))))] ⟨rfl, trivial⟩ rfl rfl rfl)
theorem math_bits_Len_ok {x_1 : Int} {r : Int} (hF : math_bits_Len x_1 = some r) :
  FnM Tryz.prog 189 [(.d (.int .u64 x_1))] [] (vI r) [] := by
 refine FnM.of_wH ⟨Tryz.prog, 8, [], []⟩ rfl Tryz.func189 rfl rfl (Nat.le_of_ble_eq_true rfl) (by kernel_rfl) ?_
 unfold math_bits_Len at hF
 refine wH_seq (wH_region (h_op (vI 0) wz rfl (h_nil (wH_seq (wH_iff rfl rfl (wH_skip (wH_seq (wH_region (h_op (.d (.int .u64 x_1)) wz rfl ?_)))))))))
 obtain ⟨r_2, hr_3, hF⟩ := bind_some hF
 refine h_call0 (math_bits_Len64_ok hr_3) rfl hb232 rfl rfl rfl rfl wz (h_op (vI r_2) wz rfl (h_nil ?_))
 obtain rfl := some_inj hF
 exact wH_ret (fin0 (.inr rfl) [(vI r_2)] ⟨rfl, trivial⟩ rfl rfl rfl)
theorem slices_insertionSortCmpFunc_api_Alert_v1_ok {data_1 : (List Alert)} {a_2 : Int} {b_3 : Int} {r : (List Alert)} (hF : slices_insertionSortCmpFunc_api_Alert_v1 data_1 a_2 b_3 = some r) :
  FnM Tryz.prog 223 [(dV (extN 0) 9 data_1), (vI a_2), (vI b_3), (.fn 110 [])] (([] : List Box) ++ gI 9 Alert.enc data_1) (.tup []) (([] : List Box).map some ++ gT data_1 (gB 9 Alert.enc r)) := by
 refine FnM.of_wHv ⟨Tryz.prog, 53, [], []⟩ rfl Tryz.func223 rfl rfl (Nat.le_of_ble_eq_true rfl) (by kernel_rfl) ?_
 unfold slices_insertionSortCmpFunc_api_Alert_v1 at hF
 refine wH_seq (wH_region (h_op (vI a_2) wz rfl (h_op (vI (w64 (a_2 + 1))) wz rfl (h_op (vI (w64 (a_2 + 1))) wz rfl (h_nil ?_)))))
 obtain ⟨o_13, hj_14, hF⟩ := bind_some hF
 obtain ⟨nq_51, hj_14⟩ := loopO_iter hj_14
 refine wH_join (β := ((List Alert) × Int)) (fun (s_10 : (List Alert) × Int) => ([] : List (Nat × V))) (fun (s_10 : (List Alert) × Int) => ([((extN 0), gB 9 Alert.enc s_10.1)] : Hp)) (fun p => o_13 = .go p) ?_ ?_
 ·refine wH_block (wH_loop (β := Nat × ((List Alert) × Int)) (fun p => (fun (k_5 : Nat) (s_10 : (List Alert) × Int) => ([(0, (dV (extN 0) 9 s_10.1)), (1, (vI a_2)), (2, (vI b_3)), (3, (.fn 110 [])), (8, (vI s_10.2))] : List (Nat × V))) p.1 p.2) (fun p => (fun (k_5 : Nat) (s_10 : (List Alert) × Int) => ([((extN 0), gB 9 Alert.enc s_10.1)] : Hp)) p.1 p.2) (fun p => iterN (fun s => slices_insertionSortCmpFunc_api_Alert_v1_L2 b_3 a_2 s) p.1 p.2 = some o_13) (fun p => p.1) (nq_51, (data_1, (w64 (a_2 + 1)))) hj_14 rfl (pre_r rfl) ?_)
  rintro ⟨k_5, s_10⟩ hL_12
  dsimp only at hL_12
  cases k_5 with
  | zero => cases hL_12
  | succ k_5 =>
   obtain ⟨c_, hc_11, hL_12⟩ := bind_some hL_12
   unfold slices_insertionSortCmpFunc_api_Alert_v1_L2 at hc_11
   refine wH_seq (wH_seq (wH_region (h_op (vI s_10.2) wz rfl (h_op (vI b_3) wz rfl (h_op (vB (decide (s_10.2 < b_3))) wz rfl (h_nil ?_))))))
   rcases cond_some hc_11 with ⟨hc_15, hc_11⟩ | ⟨hc_15, hc_11⟩
   ·refine wH_ift rfl hc_15 (wH_skip (wH_seq (wH_block (wH_seq (wH_region (h_op (vI s_10.2) wz rfl (h_op (vI s_10.2) wz rfl (h_nil ?_))))))))
    obtain ⟨o_24, hj_25, hc_11⟩ := bind_some hc_11
    obtain ⟨nq_50, hj_25⟩ := loopO_iter hj_25
    refine wH_join (β := ((List Alert) × Int)) (fun (s_21 : (List Alert) × Int) => ([(0, (dV (extN 0) 9 s_21.1)), (1, (vI a_2)), (2, (vI b_3)), (3, (.fn 110 [])), (8, (vI s_10.2))] : List (Nat × V))) (fun (s_21 : (List Alert) × Int) => ([((extN 0), gB 9 Alert.enc s_21.1)] : Hp)) (fun p => o_24 = .go p) ?_ ?_
    ·refine wH_block (wH_loop (β := Nat × ((List Alert) × Int)) (fun p => (fun (k_16 : Nat) (s_21 : (List Alert) × Int) => ([(0, (dV (extN 0) 9 s_21.1)), (1, (vI a_2)), (2, (vI b_3)), (3, (.fn 110 [])), (8, (vI s_10.2)), (9, (vI s_21.2))] : List (Nat × V))) p.1 p.2) (fun p => (fun (k_16 : Nat) (s_21 : (List Alert) × Int) => ([((extN 0), gB 9 Alert.enc s_21.1)] : Hp)) p.1 p.2) (fun p => iterN (fun s => slices_insertionSortCmpFunc_api_Alert_v1_L1 a_2 s) p.1 p.2 = some o_24) (fun p => p.1) (nq_50, (s_10.1, s_10.2)) hj_25 rfl (pre_r rfl) ?_)
     rintro ⟨k_16, s_21⟩ hL_23
     dsimp only at hL_23
     cases k_16 with
     | zero => cases hL_23
     | succ k_16 =>
      obtain ⟨c_, hc_22, hL_23⟩ := bind_some hL_23
      unfold slices_insertionSortCmpFunc_api_Alert_v1_L1 at hc_22
      refine wH_seq (wH_seq ?_)
      obtain ⟨v_26, h_27, hc_22⟩ := bind_some hc_22
      refine wH_join (β := Unit) (fun _ => ([(0, (dV (extN 0) 9 s_21.1)), (1, (vI a_2)), (2, (vI b_3)), (3, (.fn 110 [])), (8, (vI s_10.2)), (9, (vI s_21.2)), (34, (vB v_26))] : List (Nat × V))) (fun _ => ([((extN 0), gB 9 Alert.enc s_21.1)] : Hp)) (fun _ => True) ?_ ?_
      ·refine wH_draws (h_op (vI s_21.2) wz rfl (h_op (vI a_2) wz rfl (h_op (vB (decide (s_21.2 > a_2))) wz rfl ?_)))
       rcases cond_some h_27 with ⟨hc_28, h_27⟩ | ⟨hc_28, h_27⟩
       ·refine h_movb rfl hc_28 wz (h_op (.fn 110 []) wa rfl (h_op (dV (extN 0) 9 s_21.1) wa rfl (h_op (vI s_21.2) wa rfl ?_)))
        obtain ⟨_, hi_29, h_27⟩ := bind_some h_27
        refine h_iavd es78 rfl rfl (inR_0 hi_29) (inR_lt hi_29) wa ?_
        obtain ⟨e_30, hy_31, h_27⟩ := bind_some h_27
        refine h_ldvg 8 0 (.inr (by kernel_rfl)) (fun _ _ ag => trivial) sz82 ag82 rfl rfl hy_31 (.d (.agg (Alert.enc e_30))) rfl wa (h_op (dV (extN 0) 9 s_21.1) wa rfl (h_op (vI s_21.2) wa rfl (h_op (vI (w64 (s_21.2 - 1))) wa rfl ?_)))
        obtain ⟨_, hi_32, h_27⟩ := bind_some h_27
        refine h_iavd es78 rfl rfl (inR_0 hi_32) (inR_lt hi_32) wa ?_
        obtain ⟨e_33, hy_34, h_27⟩ := bind_some h_27
        refine h_ldvg 13 0 (.inr (by kernel_rfl)) (fun _ _ ag => ⟨.inl ⟨rfl, rfl⟩, trivial⟩) sz82 ag82 rfl rfl hy_34 (.d (.agg (Alert.enc e_33))) rfl wa ?_
        obtain ⟨r_35, hr_36, h_27⟩ := bind_some h_27
        refine h_call0 (mk_alertOrder_ok hr_36) rfl hb110 rfl rfl rfl rfl wa (h_op (vB (decide (r_35 < 0))) wa rfl (h_op (vB (decide (r_35 < 0))) wz rfl (h_nil ?_)))
        obtain rfl := some_inj h_27
        exact cu
       ·refine h_movb rfl hc_28 wz (h_skip wa (h_skip wa (h_skip wa (h_skip wa (h_skip wa (h_skip wa (h_skip wa (h_skip wa (h_skip wa (h_skip wa (h_skip wa (h_skip wa (h_op (vB false) wz rfl (h_nil ?_))))))))))))))
        obtain rfl := some_inj h_27
        exact cu
      ·rintro ⟨⟩ _ sl_ H_ hp_ hq_
       refine wH_at _ hp_ hq_ ?_
       rcases cond_some hc_22 with ⟨hc_37, hc_22⟩ | ⟨hc_37, hc_22⟩
       ·refine wH_ift rfl hc_37 (wH_skip (wH_seq (wH_block (wH_draws (h_op (dV (extN 0) 9 s_21.1) wz rfl (h_op (vI s_21.2) wz rfl (h_op (dV (extN 0) 9 s_21.1) wz rfl (h_op (vI s_21.2) wz rfl (h_op (vI (w64 (s_21.2 - 1))) wz rfl (h_op (dV (extN 0) 9 s_21.1) wz rfl (h_op (vI s_21.2) wz rfl (h_op (vI (w64 (s_21.2 - 1))) wz rfl ?_))))))))))))
        obtain ⟨_, hi_38, hc_22⟩ := bind_some hc_22
        refine h_iavd es78 rfl rfl (inR_0 hi_38) (inR_lt hi_38) wz ?_
        obtain ⟨e_39, hy_40, hc_22⟩ := bind_some hc_22
        refine h_ldvg 9 0 (.inr (by kernel_rfl)) (fun _ _ ag => trivial) sz82 ag82 rfl rfl hy_40 (.d (.agg (Alert.enc e_39))) rfl wz (h_op (dV (extN 0) 9 s_21.1) wz rfl (h_op (vI s_21.2) wz rfl ?_))
        obtain ⟨_, hi_41, hc_22⟩ := bind_some hc_22
        refine h_iavd es78 rfl rfl (inR_0 hi_41) (inR_lt hi_41) wz ?_
        obtain ⟨e_42, hy_43, hc_22⟩ := bind_some hc_22
        refine h_ldvg 13 0 (.inr (by kernel_rfl)) (fun _ _ ag => ⟨.inl ⟨rfl, rfl⟩, trivial⟩) sz82 ag82 rfl rfl hy_43 (.d (.agg (Alert.enc e_42))) rfl wz ?_
        obtain ⟨_, hi_44, hc_22⟩ := bind_some hc_22
        refine h_iavd es78 rfl rfl (inR_0 hi_44) (inR_lt hi_44) wz ?_
        obtain ⟨e_45, hy_46, hc_22⟩ := bind_some hc_22
        refine h_stvg 15 (.inr (by kernel_rfl)) (fun _ _ ag => ⟨.inr (.inr (by kernel_rfl)), ⟨.inr (.inr (by kernel_rfl)), trivial⟩⟩) 0 sz82 rfl rfl hy_46 e_39 rfl wz (h_re (v' := (dV (extN 0) 9 (s_21.1.set (0 + (s_21.2).toNat) e_39))) 0 rfl (dV_len (by simp)) (h_re (v' := (dV (extN 0) 9 (s_21.1.set (0 + (s_21.2).toNat) e_39))) 37 rfl (dV_len (by simp)) (h_re (v' := (dV (extN 0) 9 (s_21.1.set (0 + (s_21.2).toNat) e_39))) 39 rfl (dV_len (by simp)) (h_re (v' := (dV (extN 0) 9 (s_21.1.set (0 + (s_21.2).toNat) e_39))) 42 rfl (dV_len (by simp)) (h_re (v' := (dV (extN 0) 9 (s_21.1.set (0 + (s_21.2).toNat) e_39))) 47 rfl (dV_len (by simp)) ?_)))))
        obtain ⟨_, hi_47, hc_22⟩ := bind_some hc_22
        refine h_iavd es78 rfl rfl (inR_0 hi_47) (inR_lt hi_47) wz ?_
        obtain ⟨e_48, hy_49, hc_22⟩ := bind_some hc_22
        refine h_stvg 17 (.inr (by kernel_rfl)) (fun _ _ ag => ⟨.inr (.inr (by kernel_rfl)), ⟨.inr (.inr (by kernel_rfl)), ⟨.inr (.inr (by kernel_rfl)), trivial⟩⟩⟩) 0 sz82 rfl rfl hy_49 e_42 rfl wz (h_re (v' := (dV (extN 0) 9 ((s_21.1.set (0 + (s_21.2).toNat) e_39).set (0 + ((w64 (s_21.2 - 1))).toNat) e_42))) 0 rfl (dV_len (by simp)) (h_re (v' := (dV (extN 0) 9 ((s_21.1.set (0 + (s_21.2).toNat) e_39).set (0 + ((w64 (s_21.2 - 1))).toNat) e_42))) 37 rfl (dV_len (by simp)) (h_re (v' := (dV (extN 0) 9 ((s_21.1.set (0 + (s_21.2).toNat) e_39).set (0 + ((w64 (s_21.2 - 1))).toNat) e_42))) 39 rfl (dV_len (by simp)) (h_re (v' := (dV (extN 0) 9 ((s_21.1.set (0 + (s_21.2).toNat) e_39).set (0 + ((w64 (s_21.2 - 1))).toNat) e_42))) 42 rfl (dV_len (by simp)) (h_re (v' := (dV (extN 0) 9 ((s_21.1.set (0 + (s_21.2).toNat) e_39).set (0 + ((w64 (s_21.2 - 1))).toNat) e_42))) 47 rfl (dV_len (by simp)) (h_nil (wH_region (h_op (vI s_21.2) wz rfl (h_op (vI (w64 (s_21.2 - 1))) wz rfl (h_op (vI (w64 (s_21.2 - 1))) wz rfl (h_nil ?_)))))))))))
        obtain rfl := some_inj hc_22
        exact loop_mk (k_16, (((s_21.1.set (0 + (s_21.2).toNat) e_39).set (0 + ((w64 (s_21.2 - 1))).toNat) e_42), (w64 (s_21.2 - 1)))) hL_23 (Nat.lt_succ_self _) rfl (pre_r rfl)
       ·refine wH_iff rfl hc_37 (wH_exit ?_)
        obtain rfl := some_inj hc_22
        obtain rfl := some_inj hL_23
        exact cut_mk ((s_21.1, s_21.2)) rfl rfl (pre_r rfl)
    ·rintro s_21 ho_ sl_ H_ hp_ hq_
     subst ho_
     refine wH_at _ hp_ hq_ (wH_region (h_op (vI s_10.2) wz rfl (h_op (vI (w64 (s_10.2 + 1))) wz rfl (h_op (vI (w64 (s_10.2 + 1))) wz rfl (h_nil ?_)))))
     obtain rfl := some_inj hc_11
     exact loop_mk (k_5, (s_21.1, (w64 (s_10.2 + 1)))) hL_12 (Nat.lt_succ_self _) rfl (pre_r rfl)
   ·refine wH_iff rfl hc_15 (wH_exit ?_)
    obtain rfl := some_inj hc_11
    obtain rfl := some_inj hL_12
    exact cut_mk ((s_10.1, s_10.2)) rfl rfl (pre_r rfl)
 ·rintro s_10 ho_ sl_ H_ hp_ hq_
  subst ho_
  show finH _ _ _ _ _ _ _ _
  obtain rfl := some_inj hF
  exact finH_at (H0 := ([((extN 0), gB 9 Alert.enc s_10.1)] : Hp)) (sl' := envS []) hq_ (finV (bs := ([] : List Box)) (os := ([] : List Box)) (xs := data_1) (o := gB 9 Alert.enc s_10.1) (.inl rfl) [] trivial rfl rfl rfl rfl rfl (by kernel_rfl) gB_ok rfl)
theorem slices_pdqsortCmpFunc_api_Alert_v1_ok {data_1 : (List Alert)} {a_2 : Int} {b_3 : Int} {limit_4 : Int} {r : (List Alert)} (hF : slices_pdqsortCmpFunc_api_Alert_v1 data_1 a_2 b_3 limit_4 = some r) :
  FnM Tryz.prog 188 [(dV (extN 0) 9 data_1), (vI a_2), (vI b_3), (vI limit_4), (.fn 110 [])] (([] : List Box) ++ gI 9 Alert.enc data_1) (.tup []) (([] : List Box).map some ++ gT data_1 (gB 9 Alert.enc r)) := by
 refine FnM.of_wHv ⟨Tryz.prog, 148, [], []⟩ rfl Tryz.func188 rfl rfl (Nat.le_of_ble_eq_true rfl) (by kernel_rfl) ?_
 unfold slices_pdqsortCmpFunc_api_Alert_v1 at hF
 refine wH_seq (wH_region (h_op (vB true) wz rfl (h_nil (wH_seq (wH_region (h_op (vB true) wz rfl (h_nil ?_)))))))
 obtain ⟨o_14, hj_15, hF⟩ := bind_some hF
 obtain ⟨nq_21, hj_15⟩ := loopO_iter hj_15
 refine wH_join (β := (Unit)) (fun (s_11 : Unit) => ([] : List (Nat × V))) (fun (s_11 : Unit) => ([((extN 0), gB 9 Alert.enc data_1)] : Hp)) (fun p => o_14 = .go p) ?_ ?_
 ·refine wH_block (wH_loop (β := Nat × (Unit)) (fun p => (fun (k_6 : Nat) (s_11 : Unit) => ([(0, (dV (extN 0) 9 data_1)), (1, (vI a_2)), (2, (vI b_3)), (3, (vI limit_4)), (4, (.fn 110 [])), (10, (vB true)), (11, (vB true))] : List (Nat × V))) p.1 p.2) (fun p => (fun (k_6 : Nat) (s_11 : Unit) => ([((extN 0), gB 9 Alert.enc data_1)] : Hp)) p.1 p.2) (fun p => iterN (fun s => slices_pdqsortCmpFunc_api_Alert_v1_L1 b_3 a_2 data_1 limit_4 s) p.1 p.2 = some o_14) (fun p => p.1) (nq_21, ()) hj_15 rfl (pre_r rfl) ?_)
  rintro ⟨k_6, s_11⟩ hL_13
  dsimp only at hL_13
  cases k_6 with
  | zero => cases hL_13
  | succ k_6 =>
   obtain ⟨c_, hc_12, hL_13⟩ := bind_some hL_13
   unfold slices_pdqsortCmpFunc_api_Alert_v1_L1 at hc_12
   refine wH_block (wH_seq (wH_region (h_op (vI b_3) wz rfl (h_op (vI a_2) wz rfl (h_op (vI (w64 (b_3 - a_2))) wz rfl (h_op (vI (w64 (b_3 - a_2))) wz rfl (h_nil (wH_seq (wH_seq (wH_region (h_op (vI (w64 (b_3 - a_2))) wz rfl (h_op (vB (decide ((w64 (b_3 - a_2)) ≤ 12))) wz rfl (h_nil ?_)))))))))))))
   rcases cond_some hc_12 with ⟨hc_16, hc_12⟩ | ⟨hc_16, hc_12⟩
   ·refine wH_ift rfl hc_16 (wH_seq (wH_region (h_op (dV (extN 0) 9 data_1) wz rfl (h_op (vI a_2) wz rfl (h_op (vI b_3) wz rfl (h_op (.fn 110 []) wz rfl ?_))))))
    obtain ⟨r_17, hr_18, hc_12⟩ := bind_some hc_12
    obtain ⟨_, hs_19, hc_12⟩ := bind_some hc_12
    replace hs_19 := sameL_eq hs_19
    refine h_callv 0 [] 0 0 il ft (slices_insertionSortCmpFunc_api_Alert_v1_ok hr_18) rfl hb223 rfl rfl rfl (by kernel_rfl) rfl (.inr (.inl rfl)) rfl (by kernel_rfl) (by kernel_rfl) (by kernel_rfl) (by kernel_rfl) rfl (by decide) (by kernel_rfl) gB_ok (gB_ho hs_19) wz ([((extN 0), gB 9 Alert.enc r_17)] : Hp) (by kernel_rfl) (h_re (v' := (dV (extN 0) 9 r_17)) 0 rfl (dV_len hs_19.symm) (h_re (v' := (dV (extN 0) 9 r_17)) 26 rfl (dV_len hs_19.symm) (h_nil ?_)))
    obtain rfl := some_inj hc_12
    obtain rfl := some_inj hL_13
    obtain rfl := some_inj hF
    exact wH_ret (finV (bs := ([] : List Box)) (os := ([] : List Box)) (xs := data_1) (o := gB 9 Alert.enc r_17) (.inr rfl) [] trivial rfl rfl rfl rfl rfl (by kernel_rfl) gB_ok rfl)
   ·refine wH_iff rfl hc_16 (wH_skip (wH_seq (wH_seq (wH_region (h_op (vI limit_4) wz rfl (h_op (vB (limit_4 == 0)) wz rfl (h_nil ?_)))))))
    rcases cond_some hc_12 with ⟨hc_20, hc_12⟩ | ⟨hc_20, hc_12⟩
    ·refine wH_ift rfl hc_20 (wH_seq (wH_region (h_op (dV (extN 0) 9 data_1) wz rfl (h_op (vI a_2) wz rfl (h_op (vI b_3) wz rfl (h_op (.fn 110 []) wz rfl ?_))))))
     cases hc_12
    ·refine wH_iff rfl hc_20 (wH_skip (wH_seq (wH_seq (wH_region (h_op (vB true) wz rfl (h_op (vB false) wz rfl (h_nil (wH_iff rfl rfl (wH_skip (wH_seq (wH_region (h_op (dV (extN 0) 9 data_1) wz rfl (h_op (vI a_2) wz rfl (h_op (vI b_3) wz rfl (h_op (.fn 110 []) wz rfl ?_)))))))))))))))
     cases hc_12
 ·rintro s_11 ho_ sl_ H_ hp_ hq_
  subst ho_
  show finH _ _ _ _ _ _ _ _
  obtain rfl := some_inj hF
  exact finH_at (H0 := ([((extN 0), gB 9 Alert.enc data_1)] : Hp)) (sl' := envS []) hq_ (finV (bs := ([] : List Box)) (os := ([] : List Box)) (xs := data_1) (o := gB 9 Alert.enc data_1) (.inl rfl) [] trivial rfl rfl rfl rfl rfl (by kernel_rfl) gB_ok rfl)
theorem slices_SortFunc_api_Alert_api_Alert_v1_ok {x_1 : (List Alert)} {r : (List Alert)} (hF : slices_SortFunc_api_Alert_api_Alert_v1 x_1 = some r) :
  FnM Tryz.prog 109 [(dV (extN 0) 9 x_1), (.fn 110 [])] (([] : List Box) ++ gI 9 Alert.enc x_1) (.tup []) (([] : List Box).map some ++ gT x_1 (gB 9 Alert.enc r)) := by
 refine FnM.of_wHv ⟨Tryz.prog, 14, [], []⟩ rfl Tryz.func109 rfl rfl (Nat.le_of_ble_eq_true rfl) (by kernel_rfl) ?_
 unfold slices_SortFunc_api_Alert_api_Alert_v1 at hF
 refine wH_seq (wH_region (h_op (dV (extN 0) 9 x_1) wz rfl (h_lend un78 rfl wz (h_op (vI (x_1.length : Int)) wz rfl (h_nil (wH_region (h_op (dV (extN 0) 9 x_1) wz rfl (h_op (vI (x_1.length : Int)) wz rfl (h_op (vI (x_1.length : Int)) wz rfl (h_conv un3 un268 rfl wz ?_))))))))))
 obtain ⟨r_3, hr_4, hF⟩ := bind_some hF
 refine h_call0 (math_bits_Len_ok hr_4) rfl hb189 rfl rfl rfl rfl wz (h_op (.fn 110 []) wz rfl ?_)
 obtain ⟨r_5, hr_6, hF⟩ := bind_some hF
 obtain ⟨_, hs_7, hF⟩ := bind_some hF
 replace hs_7 := sameL_eq hs_7
 refine h_callv 0 [] 0 0 il ft (slices_pdqsortCmpFunc_api_Alert_v1_ok hr_6) rfl hb188 rfl rfl rfl (by kernel_rfl) rfl (.inr (.inl rfl)) rfl (by kernel_rfl) (by kernel_rfl) (by kernel_rfl) (by kernel_rfl) rfl (by decide) (by kernel_rfl) gB_ok (gB_ho hs_7) wz ([((extN 0), gB 9 Alert.enc r_5)] : Hp) (by kernel_rfl) (h_re (v' := (dV (extN 0) 9 r_5)) 0 rfl (dV_len hs_7.symm) (h_re (v' := (dV (extN 0) 9 r_5)) 5 rfl (dV_len hs_7.symm) (h_re (v' := (dV (extN 0) 9 r_5)) 7 rfl (dV_len hs_7.symm) (h_nil ?_))))
 show finH _ _ _ _ _ _ _ _
 obtain rfl := some_inj hF
 exact finV (bs := ([] : List Box)) (os := ([] : List Box)) (xs := x_1) (o := gB 9 Alert.enc r_5) (.inl rfl) [] trivial rfl rfl rfl rfl rfl (by kernel_rfl) gB_ok rfl
theorem kit_Outside_ok {n_1 : Int} {low_2 : Int} {high_3 : Int} {r : Bool} (hF : kit_Outside n_1 low_2 high_3 = some r) :
  FnM Tryz.prog 86 [(vI n_1), (vI low_2), (vI high_3)] [] (vB r) [] := by
 refine FnM.of_wH ⟨Tryz.prog, 15, [], []⟩ rfl Tryz.func86 rfl rfl (Nat.le_of_ble_eq_true rfl) (by kernel_rfl) ?_
 unfold kit_Outside at hF
 refine wH_seq (wH_region (h_op (vB false) wz rfl (h_nil (wH_seq ?_))))
 obtain ⟨v_4, h_5, hF⟩ := bind_some hF
 refine wH_join (β := Unit) (fun _ => ([(6, (vB v_4))] : List (Nat × V))) (fun _ => ([] : Hp)) (fun _ => True) ?_ ?_
 ·refine wH_region (h_op (vI n_1) wz rfl (h_op (vI low_2) wz rfl (h_op (vB (decide (n_1 < low_2))) wz rfl ?_)))
  rcases cond_some h_5 with ⟨hc_6, h_5⟩ | ⟨hc_6, h_5⟩
  ·refine h_movb rfl hc_6 wz (h_skip wa (h_skip wa (h_skip wa (h_op (vB true) wz rfl (h_op (vB true) wz rfl (h_nil ?_))))))
   obtain rfl := some_inj h_5
   exact cu
  ·refine h_movb rfl hc_6 wz (h_op (vI n_1) wa rfl (h_op (vI high_3) wa rfl (h_op (vB (decide (n_1 > high_3))) wa rfl (h_op (vB (decide (n_1 > high_3))) wz rfl (h_op (vB (decide (n_1 > high_3))) wz rfl (h_nil ?_))))))
   obtain rfl := some_inj h_5
   exact cu
 ·rintro ⟨⟩ _ sl_ H_ hp_ hq_
  refine wH_at _ hp_ hq_ ?_
  obtain rfl := some_inj hF
  exact wH_ret (fin0 (.inr rfl) [(vB v_4)] ⟨rfl, trivial⟩ rfl rfl rfl)
theorem screen_CheckRect_ok {r_1 : Rect} {r : Int} (hF : screen_CheckRect r_1 = some r) :
  FnM Tryz.prog 96 [(.d (.agg (Rect.enc r_1)))] [] (vI r) [] := by
 refine FnM.of_wH ⟨Tryz.prog, 25, [], []⟩ rfl Tryz.func96 rfl rfl (Nat.le_of_ble_eq_true rfl) (by kernel_rfl) ?_
 unfold screen_CheckRect at hF
 refine wH_seq (wH_region (h_box 0 (.inl rfl) [(vI r_1.X), (vI r_1.Y), (vI r_1.W), (vI r_1.H)] rfl rfl wz (fun n_2 => h_op (vI 0) wz rfl (h_nil (wH_seq (wH_seq ?_))))))
 obtain ⟨v_3, h_4, hF⟩ := bind_some hF
 refine wH_join (β := Unit) (fun _ => ([(1, (.ref n_2 0 0)), (10, (vB v_3))] : List (Nat × V))) (fun _ => ([(n_2, some (.cells 4 [(vI r_1.X), (vI r_1.Y), (vI r_1.W), (vI r_1.H)]))] : Hp)) (fun _ => True) ?_ ?_
 ·refine wH_region (h_far pl45_0 rfl 0 rfl wz (h_ldr 0 0 il ft sz3 ag3 rfl rfl (vI r_1.X) rfl wz ?_))
  obtain ⟨r_5, hr_6, h_4⟩ := bind_some h_4
  refine h_call0 (kit_Outside_ok hr_6) rfl hb86 rfl rfl rfl rfl wz ?_
  rcases cond_some h_4 with ⟨hc_7, h_4⟩ | ⟨hc_7, h_4⟩
  ·refine h_movb rfl hc_7 wz (h_skip wa (h_skip wa (h_skip wa (h_op (vB true) wz rfl (h_nil ?_)))))
   obtain rfl := some_inj h_4
   exact cu
  ·refine h_movb rfl hc_7 wz (h_far pl45_1 rfl 1 rfl wa (h_ldr 0 0 il ft sz3 ag3 rfl rfl (vI r_1.Y) rfl wa ?_))
   obtain ⟨r_8, hr_9, h_4⟩ := bind_some h_4
   refine h_call0 (kit_Outside_ok hr_9) rfl hb86 rfl rfl rfl rfl wa (h_op (vB r_8) wz rfl (h_nil ?_))
   obtain rfl := some_inj h_4
   exact cu
 ·rintro ⟨⟩ _ sl_ H_ hp_ hq_
  refine wH_at _ hp_ hq_ ?_
  rcases cond_some hF with ⟨hc_10, hF⟩ | ⟨hc_10, hF⟩
  ·refine wH_ift rfl hc_10 (wH_seq (wH_region (h_op (vI 1) wz rfl (h_nil ?_))))
   obtain rfl := some_inj hF
   exact wH_ret (fin0 (.inr rfl) [(vI 1)] ⟨rfl, trivial⟩ rfl rfl rfl)
  ·refine wH_iff rfl hc_10 (wH_skip (wH_seq (wH_seq ?_)))
   obtain ⟨v_11, h_12, hF⟩ := bind_some hF
   refine wH_join (β := Unit) (fun _ => ([(24, (vB v_11))] : List (Nat × V))) (fun _ => ([(n_2, some (.cells 4 [(vI r_1.X), (vI r_1.Y), (vI r_1.W), (vI r_1.H)]))] : Hp)) (fun _ => True) ?_ ?_
   ·refine wH_region (h_far pl45_2 rfl 2 rfl wz (h_ldr 0 0 il ft sz3 ag3 rfl rfl (vI r_1.W) rfl wz (h_far pl45_0 rfl 0 rfl wz (h_ldr 0 0 il ft sz3 ag3 rfl rfl (vI r_1.X) rfl wz (h_op (vI (w64 (100000 - r_1.X))) wz rfl ?_)))))
    obtain ⟨r_13, hr_14, h_12⟩ := bind_some h_12
    refine h_call0 (kit_Outside_ok hr_14) rfl hb86 rfl rfl rfl rfl wz ?_
    rcases cond_some h_12 with ⟨hc_15, h_12⟩ | ⟨hc_15, h_12⟩
    ·refine h_movb rfl hc_15 wz (h_skip wa (h_skip wa (h_skip wa (h_skip wa (h_skip wa (h_skip wa (h_op (vB true) wz rfl (h_nil ?_))))))))
     obtain rfl := some_inj h_12
     exact cu
    ·refine h_movb rfl hc_15 wz (h_far pl45_3 rfl 3 rfl wa (h_ldr 0 0 il ft sz3 ag3 rfl rfl (vI r_1.H) rfl wa (h_far pl45_1 rfl 1 rfl wa (h_ldr 0 0 il ft sz3 ag3 rfl rfl (vI r_1.Y) rfl wa (h_op (vI (w64 (100000 - r_1.Y))) wa rfl ?_)))))
     obtain ⟨r_16, hr_17, h_12⟩ := bind_some h_12
     refine h_call0 (kit_Outside_ok hr_17) rfl hb86 rfl rfl rfl rfl wa (h_op (vB r_16) wz rfl (h_nil ?_))
     obtain rfl := some_inj h_12
     exact cu
   ·rintro ⟨⟩ _ sl_ H_ hp_ hq_
    refine wH_at _ hp_ hq_ ?_
    rcases cond_some hF with ⟨hc_18, hF⟩ | ⟨hc_18, hF⟩
    ·refine wH_ift rfl hc_18 (wH_seq (wH_region (h_op (vI 1) wz rfl (h_nil ?_))))
     obtain rfl := some_inj hF
     exact wH_ret (fin0 (.inr rfl) [(vI 1)] ⟨rfl, trivial⟩ rfl rfl rfl)
    ·refine wH_iff rfl hc_18 (wH_skip (wH_seq (wH_region (h_op (vI 0) wz rfl (h_nil ?_)))))
     obtain rfl := some_inj hF
     exact wH_ret (fin0 (.inr rfl) [(vI 0)] ⟨rfl, trivial⟩ rfl rfl rfl)
theorem kit_IsKey_ok {s_1 : ByteArray} {r : Bool} (hF : kit_IsKey s_1 = some r) :
  FnM Tryz.prog 124 [(vS s_1)] [] (vB r) [] := by
 refine FnM.of_wH ⟨Tryz.prog, 48, [], []⟩ rfl Tryz.func124 rfl rfl (Nat.le_of_ble_eq_true rfl) (by kernel_rfl) ?_
 unfold kit_IsKey at hF
 refine wH_seq (wH_region (h_op (vB false) wz rfl (h_nil (wH_seq (wH_seq (wH_region (h_op (vI 0) wz rfl (h_nil ?_))))))))
 obtain ⟨o_10, hj_11, hF⟩ := bind_some hF
 obtain ⟨nq_33, hj_11⟩ := loopO_iter hj_11
 refine wH_join (β := (Int)) (fun (s_7 : Int) => ([(0, (vS s_1))] : List (Nat × V))) (fun (s_7 : Int) => ([] : Hp)) (fun p => o_10 = .go p) ?_ ?_
 ·refine wH_block (wH_loop (β := Nat × (Int)) (fun p => (fun (k_2 : Nat) (s_7 : Int) => ([(0, (vS s_1)), (3, (vI s_7))] : List (Nat × V))) p.1 p.2) (fun p => (fun (k_2 : Nat) (s_7 : Int) => ([] : Hp)) p.1 p.2) (fun p => iterN (fun s => kit_IsKey_L1 s_1 s) p.1 p.2 = some o_10) (fun p => p.1) (nq_33, 0) hj_11 rfl (pre_r rfl) ?_)
  rintro ⟨k_2, s_7⟩ hL_9
  dsimp only at hL_9
  cases k_2 with
  | zero => cases hL_9
  | succ k_2 =>
   obtain ⟨c_, hc_8, hL_9⟩ := bind_some hL_9
   unfold kit_IsKey_L1 at hc_8
   refine wH_seq (wH_seq (wH_region (h_op (vI s_7) wz rfl (h_op (vS s_1) wz rfl (h_lens un9 rfl wz (h_op (vB (decide (s_7 < (s_1.size : Int)))) wz rfl (h_nil ?_)))))))
   rcases cond_some hc_8 with ⟨hc_12, hc_8⟩ | ⟨hc_12, hc_8⟩
   ·refine wH_ift rfl hc_12 (wH_skip (wH_seq (wH_block (wH_seq (wH_region (h_op (vS s_1) wz rfl (h_op (vI s_7) wz rfl ?_)))))))
    obtain ⟨b_13, hy_14, hc_8⟩ := bind_some hc_8
    refine h_idxs un9 rfl rfl hy_14 wz (h_op (.d (.int .u8 (b_13.toNat : Int))) wz rfl (h_nil (wH_seq ?_)))
    obtain ⟨v_15, h_16, hc_8⟩ := bind_some hc_8
    refine wH_join (β := Unit) (fun _ => ([(0, (vS s_1)), (3, (vI s_7)), (40, (vB v_15))] : List (Nat × V))) (fun _ => ([] : Hp)) (fun _ => True) ?_ ?_
    ·refine wH_region (h_op (.d (.int .u8 (b_13.toNat : Int))) wz rfl (h_op (vB (decide ((b_13.toNat : Int) ≥ 97))) wz rfl ?_))
     rcases cond_some h_16 with ⟨hc_17, h_16⟩ | ⟨hc_17, h_16⟩
     ·refine h_movb rfl hc_17 wz (h_op (.d (.int .u8 (b_13.toNat : Int))) wa rfl (h_op (vB (decide ((b_13.toNat : Int) ≤ 122))) wa rfl (h_op (vB (decide ((b_13.toNat : Int) ≤ 122))) wz rfl ?_)))
      rcases cond_some h_16 with ⟨hc_18, h_16⟩ | ⟨hc_18, h_16⟩
      ·refine h_movb rfl hc_18 wz (h_skip wa (h_skip wa (h_skip wa (h_skip (wn rfl rfl) (h_skip (wn rfl rfl) (h_skip (wn rfl rfl) (h_skip (wn rfl rfl) (h_skip (wn rfl rfl) (h_skip (wn rfl rfl) (h_skip (wn rfl rfl) (h_skip (wn rfl rfl) (h_skip (wn rfl rfl) (h_skip (wn rfl rfl) (h_skip (wn rfl rfl) (h_skip (wn rfl rfl) (h_skip (wn rfl rfl) (h_skip (wn rfl rfl) (h_skip wa (h_op (vB true) wz rfl (h_op (vB false) wz rfl (h_nil ?_)))))))))))))))))))))
       obtain rfl := some_inj h_16
       exact cu
      ·refine h_movb rfl hc_18 wz (h_op (vI s_7) wa rfl (h_op (vB (decide (s_7 > 0))) wa rfl ?_))
       rcases cond_some h_16 with ⟨hc_19, h_16⟩ | ⟨hc_19, h_16⟩
       ·refine h_movb rfl hc_19 wa (h_op (.d (.int .u8 (b_13.toNat : Int))) wa rfl (h_op (vB (decide ((b_13.toNat : Int) ≥ 48))) wa rfl ?_))
        rcases cond_some h_16 with ⟨hc_20, h_16⟩ | ⟨hc_20, h_16⟩
        ·refine h_movb rfl hc_20 wa (h_op (.d (.int .u8 (b_13.toNat : Int))) wa rfl (h_op (vB (decide ((b_13.toNat : Int) ≤ 57))) wa rfl (h_op (vB (decide ((b_13.toNat : Int) ≤ 57))) wa rfl ?_)))
         rcases cond_some h_16 with ⟨hc_21, h_16⟩ | ⟨hc_21, h_16⟩
         ·refine h_movb rfl hc_21 wa (h_skip wa (h_skip wa (h_op (vB true) wa rfl (h_op (vB true) wa rfl (h_skip wa (h_skip wa (h_op (vB true) wa rfl (h_op (vB true) wa rfl (h_op (vB true) wz rfl (h_op (vB false) wz rfl (h_nil ?_)))))))))))
          obtain rfl := some_inj h_16
          exact cu
         ·refine h_movb rfl hc_21 wa (h_op (.d (.int .u8 (b_13.toNat : Int))) wa rfl (h_op (vB ((b_13.toNat : Int) == 45)) wa rfl (h_op (vB ((b_13.toNat : Int) == 45)) wa rfl ?_)))
          rcases cond_some h_16 with ⟨hc_22, h_16⟩ | ⟨hc_22, h_16⟩
          ·refine h_movb rfl hc_22 wa (h_skip wa (h_skip wa (h_op (vB true) wa rfl (h_op (vB true) wa rfl (h_op (vB true) wz rfl (h_op (vB false) wz rfl (h_nil ?_)))))))
           obtain rfl := some_inj h_16
           exact cu
          ·refine h_movb rfl hc_22 wa (h_op (.d (.int .u8 (b_13.toNat : Int))) wa rfl (h_op (vB ((b_13.toNat : Int) == 95)) wa rfl (h_op (vB ((b_13.toNat : Int) == 95)) wa rfl (h_op (vB ((b_13.toNat : Int) == 95)) wa rfl (h_op (vB ((b_13.toNat : Int) == 95)) wz rfl (h_op (vB (!((b_13.toNat : Int) == 95))) wz rfl (h_nil ?_)))))))
           obtain rfl := some_inj h_16
           exact cu
        ·refine h_movb rfl hc_20 wa (h_skip wa (h_skip wa (h_op (vB false) wa rfl (h_op (vB false) wa rfl (h_op (.d (.int .u8 (b_13.toNat : Int))) wa rfl (h_op (vB ((b_13.toNat : Int) == 45)) wa rfl (h_op (vB ((b_13.toNat : Int) == 45)) wa rfl ?_)))))))
         rcases cond_some h_16 with ⟨hc_23, h_16⟩ | ⟨hc_23, h_16⟩
         ·refine h_movb rfl hc_23 wa (h_skip wa (h_skip wa (h_op (vB true) wa rfl (h_op (vB true) wa rfl (h_op (vB true) wz rfl (h_op (vB false) wz rfl (h_nil ?_)))))))
          obtain rfl := some_inj h_16
          exact cu
         ·refine h_movb rfl hc_23 wa (h_op (.d (.int .u8 (b_13.toNat : Int))) wa rfl (h_op (vB ((b_13.toNat : Int) == 95)) wa rfl (h_op (vB ((b_13.toNat : Int) == 95)) wa rfl (h_op (vB ((b_13.toNat : Int) == 95)) wa rfl (h_op (vB ((b_13.toNat : Int) == 95)) wz rfl (h_op (vB (!((b_13.toNat : Int) == 95))) wz rfl (h_nil ?_)))))))
          obtain rfl := some_inj h_16
          exact cu
       ·refine h_movb rfl hc_19 wa (h_skip wa (h_skip wa (h_skip wa (h_skip (wn rfl rfl) (h_skip (wn rfl rfl) (h_skip wa (h_skip wa (h_skip (wn rfl rfl) (h_skip (wn rfl rfl) (h_skip wa (h_skip wa (h_skip (wn rfl rfl) (h_skip (wn rfl rfl) (h_skip wa (h_op (vB false) wa rfl (h_op (vB false) wz rfl (h_op (vB true) wz rfl (h_nil ?_))))))))))))))))))
        obtain rfl := some_inj h_16
        exact cu
     ·refine h_movb rfl hc_17 wz (h_skip wa (h_skip wa (h_op (vB false) wz rfl (h_op (vB false) wz rfl (h_op (vI s_7) wa rfl (h_op (vB (decide (s_7 > 0))) wa rfl ?_))))))
      rcases cond_some h_16 with ⟨hc_24, h_16⟩ | ⟨hc_24, h_16⟩
      ·refine h_movb rfl hc_24 wa (h_op (.d (.int .u8 (b_13.toNat : Int))) wa rfl (h_op (vB (decide ((b_13.toNat : Int) ≥ 48))) wa rfl ?_))
       rcases cond_some h_16 with ⟨hc_25, h_16⟩ | ⟨hc_25, h_16⟩
       ·refine h_movb rfl hc_25 wa (h_op (.d (.int .u8 (b_13.toNat : Int))) wa rfl (h_op (vB (decide ((b_13.toNat : Int) ≤ 57))) wa rfl (h_op (vB (decide ((b_13.toNat : Int) ≤ 57))) wa rfl ?_)))
        rcases cond_some h_16 with ⟨hc_26, h_16⟩ | ⟨hc_26, h_16⟩
        ·refine h_movb rfl hc_26 wa (h_skip wa (h_skip wa (h_op (vB true) wa rfl (h_op (vB true) wa rfl (h_skip wa (h_skip wa (h_op (vB true) wa rfl (h_op (vB true) wa rfl (h_op (vB true) wz rfl (h_op (vB false) wz rfl (h_nil ?_)))))))))))
         obtain rfl := some_inj h_16
         exact cu
        ·refine h_movb rfl hc_26 wa (h_op (.d (.int .u8 (b_13.toNat : Int))) wa rfl (h_op (vB ((b_13.toNat : Int) == 45)) wa rfl (h_op (vB ((b_13.toNat : Int) == 45)) wa rfl ?_)))
         rcases cond_some h_16 with ⟨hc_27, h_16⟩ | ⟨hc_27, h_16⟩
         ·refine h_movb rfl hc_27 wa (h_skip wa (h_skip wa (h_op (vB true) wa rfl (h_op (vB true) wa rfl (h_op (vB true) wz rfl (h_op (vB false) wz rfl (h_nil ?_)))))))
          obtain rfl := some_inj h_16
          exact cu
         ·refine h_movb rfl hc_27 wa (h_op (.d (.int .u8 (b_13.toNat : Int))) wa rfl (h_op (vB ((b_13.toNat : Int) == 95)) wa rfl (h_op (vB ((b_13.toNat : Int) == 95)) wa rfl (h_op (vB ((b_13.toNat : Int) == 95)) wa rfl (h_op (vB ((b_13.toNat : Int) == 95)) wz rfl (h_op (vB (!((b_13.toNat : Int) == 95))) wz rfl (h_nil ?_)))))))
          obtain rfl := some_inj h_16
          exact cu
       ·refine h_movb rfl hc_25 wa (h_skip wa (h_skip wa (h_op (vB false) wa rfl (h_op (vB false) wa rfl (h_op (.d (.int .u8 (b_13.toNat : Int))) wa rfl (h_op (vB ((b_13.toNat : Int) == 45)) wa rfl (h_op (vB ((b_13.toNat : Int) == 45)) wa rfl ?_)))))))
        rcases cond_some h_16 with ⟨hc_28, h_16⟩ | ⟨hc_28, h_16⟩
        ·refine h_movb rfl hc_28 wa (h_skip wa (h_skip wa (h_op (vB true) wa rfl (h_op (vB true) wa rfl (h_op (vB true) wz rfl (h_op (vB false) wz rfl (h_nil ?_)))))))
         obtain rfl := some_inj h_16
         exact cu
        ·refine h_movb rfl hc_28 wa (h_op (.d (.int .u8 (b_13.toNat : Int))) wa rfl (h_op (vB ((b_13.toNat : Int) == 95)) wa rfl (h_op (vB ((b_13.toNat : Int) == 95)) wa rfl (h_op (vB ((b_13.toNat : Int) == 95)) wa rfl (h_op (vB ((b_13.toNat : Int) == 95)) wz rfl (h_op (vB (!((b_13.toNat : Int) == 95))) wz rfl (h_nil ?_)))))))
         obtain rfl := some_inj h_16
         exact cu
      ·refine h_movb rfl hc_24 wa (h_skip wa (h_skip wa (h_skip wa (h_skip (wn rfl rfl) (h_skip (wn rfl rfl) (h_skip wa (h_skip wa (h_skip (wn rfl rfl) (h_skip (wn rfl rfl) (h_skip wa (h_skip wa (h_skip (wn rfl rfl) (h_skip (wn rfl rfl) (h_skip wa (h_op (vB false) wa rfl (h_op (vB false) wz rfl (h_op (vB true) wz rfl (h_nil ?_))))))))))))))))))
       obtain rfl := some_inj h_16
       exact cu
    ·rintro ⟨⟩ _ sl_ H_ hp_ hq_
     refine wH_at _ hp_ hq_ ?_
     rcases cond_some hc_8 with ⟨hc_29, hc_8⟩ | ⟨hc_29, hc_8⟩
     ·refine wH_ift rfl hc_29 (wH_seq (wH_region (h_op (vB false) wz rfl (h_nil ?_))))
      obtain rfl := some_inj hc_8
      obtain rfl := some_inj hL_9
      obtain rfl := some_inj hF
      exact wH_ret (fin0 (.inr rfl) [(vB false)] ⟨rfl, trivial⟩ rfl rfl rfl)
     ·refine wH_iff rfl hc_29 (wH_skip (wH_region (h_op (vI s_7) wz rfl (h_op (vI (w64 (s_7 + 1))) wz rfl (h_op (vI (w64 (s_7 + 1))) wz rfl (h_nil ?_))))))
      obtain rfl := some_inj hc_8
      exact loop_mk (k_2, (w64 (s_7 + 1))) hL_9 (Nat.lt_succ_self _) rfl (pre_r rfl)
   ·refine wH_iff rfl hc_12 (wH_exit ?_)
    obtain rfl := some_inj hc_8
    obtain rfl := some_inj hL_9
    exact cut_mk (s_7) rfl rfl (pre_r rfl)
 ·rintro s_7 ho_ sl_ H_ hp_ hq_
  subst ho_
  refine wH_at _ hp_ hq_ (wH_seq ?_)
  obtain ⟨v_30, h_31, hF⟩ := bind_some hF
  refine wH_join (β := Unit) (fun _ => ([(2, (vB v_30))] : List (Nat × V))) (fun _ => ([] : Hp)) (fun _ => True) ?_ ?_
  ·refine wH_region (h_op (vS s_1) wz rfl (h_op (vB (sNe s_1 (⟨#[]⟩ : ByteArray))) wz rfl ?_))
   rcases cond_some h_31 with ⟨hc_32, h_31⟩ | ⟨hc_32, h_31⟩
   ·refine h_movb rfl hc_32 wz (h_op (vS s_1) wa rfl (h_lens un9 rfl wa (h_op (vB (decide ((s_1.size : Int) ≤ 40))) wa rfl (h_op (vB (decide ((s_1.size : Int) ≤ 40))) wz rfl (h_op (vB (decide ((s_1.size : Int) ≤ 40))) wz rfl (h_nil ?_))))))
    obtain rfl := some_inj h_31
    exact cu
   ·refine h_movb rfl hc_32 wz (h_skip wa (h_skip wa (h_skip wa (h_op (vB false) wz rfl (h_op (vB false) wz rfl (h_nil ?_))))))
    obtain rfl := some_inj h_31
    exact cu
  ·rintro ⟨⟩ _ sl_ H_ hp_ hq_
   refine wH_at _ hp_ hq_ ?_
   obtain rfl := some_inj hF
   exact wH_ret (fin0 (.inr rfl) [(vB v_30)] ⟨rfl, trivial⟩ rfl rfl rfl)
theorem alert_refsFault_ok {a_1 : Alert} {r : Int} (hF : alert_refsFault a_1 = some r) :
  FnM Tryz.prog 242 [(.d (.agg (Alert.enc a_1)))] [] (vI r) [] := by
 refine FnM.of_wH ⟨Tryz.prog, 48, [], []⟩ rfl Tryz.func242 rfl rfl (Nat.le_of_ble_eq_true rfl) (by kernel_rfl) ?_
 unfold alert_refsFault at hF
 refine wH_seq (wH_region (h_box 0 (.inl rfl) [(vS a_1.Id), (vS a_1.Sender), (vI a_1.Kind), (vL eS a_1.Refs), (vI a_1.At), (vI a_1.Until), (vI a_1.Weight), (vL Rect.enc a_1.Areas), (vS a_1.Text)] rfl rfl wz (fun n_2 => h_op (vI 0) wz rfl (h_nil (wH_seq (wH_seq (wH_region (h_far pl82_3 rfl 3 rfl wz (h_ldr 0 0 il ft sz80 ag80 rfl rfl (vL eS a_1.Refs) rfl wz (h_len un80 rfl wz (h_op (vB (decide ((a_1.Refs.length : Int) > 20))) wz rfl (h_nil ?_))))))))))))
 rcases cond_some hF with ⟨hc_3, hF⟩ | ⟨hc_3, hF⟩
 ·refine wH_ift rfl hc_3 (wH_seq (wH_region (h_op (vI 2) wz rfl (h_nil ?_))))
  obtain rfl := some_inj hF
  exact wH_ret (fin0 (.inr rfl) [(vI 2)] ⟨rfl, trivial⟩ rfl rfl rfl)
 ·refine wH_iff rfl hc_3 (wH_skip (wH_seq (wH_seq (wH_region (h_far pl82_3 rfl 3 rfl wz (h_ldr 0 0 il ft sz80 ag80 rfl rfl (vL eS a_1.Refs) rfl wz (h_len un80 rfl wz (h_op (vI 0) wz rfl (h_nil ?_)))))))))
  obtain ⟨o_12, hj_13, hF⟩ := bind_some hF
  obtain ⟨hn_8, hj_13⟩ := forL_some hj_13
  refine wH_join (β := (Unit)) (fun (s_9 : Unit) => ([(1, (.ref n_2 0 0))] : List (Nat × V))) (fun (s_9 : Unit) => ([(n_2, some (.cells 9 [(vS a_1.Id), (vS a_1.Sender), (vI a_1.Kind), (vL eS a_1.Refs), (vI a_1.At), (vI a_1.Until), (vI a_1.Weight), (vL Rect.enc a_1.Areas), (vS a_1.Text)]))] : Hp)) (fun p => o_12 = .go p) ?_ ?_
  ·refine wH_block (wH_loop (β := Nat × (List ByteArray) × (Unit)) (fun p => (fun (k_4 : Nat) (l_5 : List ByteArray) (s_9 : Unit) => ([(1, (.ref n_2 0 0)), (10, (vL eS a_1.Refs)), (11, (vI (a_1.Refs.length : Int))), (12, (vI (k_4 : Int)))] : List (Nat × V))) p.1 p.2.1 p.2.2) (fun p => (fun (k_4 : Nat) (l_5 : List ByteArray) (s_9 : Unit) => ([(n_2, some (.cells 9 [(vS a_1.Id), (vS a_1.Sender), (vI a_1.Kind), (vL eS a_1.Refs), (vI a_1.At), (vI a_1.Until), (vI a_1.Weight), (vL Rect.enc a_1.Areas), (vS a_1.Text)]))] : Hp)) p.1 p.2.1 p.2.2) (fun p => forR (fun k x s => alert_refsFault_L1 a_1 k x s) p.2.1 p.1 p.2.2 = some o_12 ∧ (a_1.Refs).drop p.1 = p.2.1) (fun p => p.2.1.length) (0, a_1.Refs, ()) ⟨hj_13, rfl⟩ rfl (pre_r rfl) ?_)
   rintro ⟨k_4, l_5, s_9⟩ ⟨hL_11, hD_7⟩
   dsimp only at hL_11 hD_7
   cases l_5 with
   | nil =>
    obtain rfl := some_inj hL_11
    refine wH_seq (wH_region (h_op (vB (decide ((k_4 : Int) < (a_1.Refs.length : Int)))) wz rfl (h_nil ?_)))
    refine wH_seq (wH_iff rfl (drop_nil hD_7) (wH_exit ?_))
    exact cut_mk (s_9) rfl rfl (pre_r rfl)
   | cons x_6 l_5 =>
    obtain ⟨c_, hc_10, hL_11⟩ := bind_some hL_11
    refine wH_seq (wH_region (h_op (vB (decide ((k_4 : Int) < (a_1.Refs.length : Int)))) wz rfl (h_nil ?_)))
    refine wH_seq (wH_ift rfl (drop_cons hD_7) (wH_skip ?_))
    unfold alert_refsFault_L1 at hc_10
    refine wH_seq (wH_block (wH_seq (wH_region (h_op (vI (k_4 : Int)) wz rfl (h_ia es80 rfl rfl (drop_idx hD_7) rfl wz (h_ldc sz9 ag9 rfl (vS x_6) rfl wz (h_op (vI (k_4 : Int)) wz rfl (h_op (vS x_6) wz rfl (h_nil (wH_block (wH_seq (wH_region (h_op (vS x_6) wz rfl ?_)))))))))))))
    obtain ⟨r_14, hr_15, hc_10⟩ := bind_some hc_10
    refine h_call0 (kit_IsKey_ok hr_15) rfl hb124 rfl rfl rfl rfl wz (h_op (vB (!r_14)) wz rfl (h_op (vB (!r_14)) wz rfl (h_nil ?_)))
    rcases cond_some hc_10 with ⟨hc_16, hc_10⟩ | ⟨hc_16, hc_10⟩
    ·refine wH_ift rfl hc_16 (wH_seq (wH_region (h_op (vI 5) wz rfl (h_nil ?_))))
     obtain rfl := some_inj hc_10
     obtain rfl := some_inj hL_11
     obtain rfl := some_inj hF
     exact wH_ret (fin0 (.inr rfl) [(vI 5)] ⟨rfl, trivial⟩ rfl rfl rfl)
    ·refine wH_iff rfl hc_16 (wH_seq ?_)
     obtain ⟨v_17, h_18, hc_10⟩ := bind_some hc_10
     refine wH_join (β := Unit) (fun _ => ([(1, (.ref n_2 0 0)), (4, (vS x_6)), (10, (vL eS a_1.Refs)), (11, (vI (a_1.Refs.length : Int))), (12, (vI (k_4 : Int))), (21, (vB v_17))] : List (Nat × V))) (fun _ => ([(n_2, some (.cells 9 [(vS a_1.Id), (vS a_1.Sender), (vI a_1.Kind), (vL eS a_1.Refs), (vI a_1.At), (vI a_1.Until), (vI a_1.Weight), (vL Rect.enc a_1.Areas), (vS a_1.Text)]))] : Hp)) (fun _ => True) ?_ ?_
     ·refine wH_region (h_op (vI (k_4 : Int)) wz rfl (h_op (vB (decide ((k_4 : Int) > 0))) wz rfl ?_))
      rcases cond_some h_18 with ⟨hc_19, h_18⟩ | ⟨hc_19, h_18⟩
      ·refine h_movb rfl hc_19 wz (h_op (vS x_6) wa rfl (h_far pl82_3 rfl 3 rfl wa (h_ldr 0 0 il ft sz80 ag80 rfl rfl (vL eS a_1.Refs) rfl wa (h_op (vI (k_4 : Int)) wa rfl (h_op (vI (w64 ((k_4 : Int) - 1))) wa rfl ?_)))))
       obtain ⟨y_20, hy_21, h_18⟩ := bind_some h_18
       refine h_ia es80 rfl rfl hy_21 rfl wa (h_ldc sz9 ag9 rfl (vS y_20) rfl wa (h_op (vB (sLe x_6 y_20)) wa rfl (h_op (vB (sLe x_6 y_20)) wz rfl (h_op (vB (sLe x_6 y_20)) wz rfl (h_nil ?_)))))
       obtain rfl := some_inj h_18
       exact cu
      ·refine h_movb rfl hc_19 wz (h_skip wa (h_skip wa (h_skip wa (h_skip wa (h_skip wa (h_skip wa (h_skip wa (h_skip wa (h_op (vB false) wz rfl (h_op (vB false) wz rfl (h_nil ?_)))))))))))
       obtain rfl := some_inj h_18
       exact cu
     ·rintro ⟨⟩ _ sl_ H_ hp_ hq_
      refine wH_at _ hp_ hq_ ?_
      rcases cond_some hc_10 with ⟨hc_22, hc_10⟩ | ⟨hc_22, hc_10⟩
      ·refine wH_ift rfl hc_22 (wH_seq (wH_region (h_op (vI 7) wz rfl (h_nil ?_))))
       obtain rfl := some_inj hc_10
       obtain rfl := some_inj hL_11
       obtain rfl := some_inj hF
       exact wH_ret (fin0 (.inr rfl) [(vI 7)] ⟨rfl, trivial⟩ rfl rfl rfl)
      ·refine wH_iff rfl hc_22 (wH_seq (wH_region (h_op (vS x_6) wz rfl (h_far pl82_0 rfl 0 rfl wz (h_ldr 0 0 il ft sz9 ag9 rfl rfl (vS a_1.Id) rfl wz (h_op (vB (sEq x_6 a_1.Id)) wz rfl (h_op (vB (sEq x_6 a_1.Id)) wz rfl (h_nil ?_))))))))
       rcases cond_some hc_10 with ⟨hc_23, hc_10⟩ | ⟨hc_23, hc_10⟩
       ·refine wH_ift rfl hc_23 (wH_seq (wH_region (h_op (vI 14) wz rfl (h_nil ?_))))
        obtain rfl := some_inj hc_10
        obtain rfl := some_inj hL_11
        obtain rfl := some_inj hF
        exact wH_ret (fin0 (.inr rfl) [(vI 14)] ⟨rfl, trivial⟩ rfl rfl rfl)
       ·refine wH_iff rfl hc_23 (wH_skip (wH_region (h_opw (w64_next hD_7 hn_8) wz rfl (h_op (vI ((k_4 + 1 : Nat) : Int)) wz rfl (h_nil ?_)))))
        obtain rfl := some_inj hc_10
        exact loop_mk (k_4 + 1, l_5, ()) ⟨hL_11, drop_next hD_7⟩ (Nat.lt_succ_self _) rfl (pre_r rfl)
  ·rintro s_9 ho_ sl_ H_ hp_ hq_
   subst ho_
   refine wH_at _ hp_ hq_ (wH_seq (wH_seq (wH_region (h_far pl82_2 rfl 2 rfl wz (h_ldr 0 0 il ft sz3 ag3 rfl rfl (vI a_1.Kind) rfl wz (h_op (vB (a_1.Kind == 1)) wz rfl (h_far pl82_3 rfl 3 rfl wz (h_ldr 0 0 il ft sz80 ag80 rfl rfl (vL eS a_1.Refs) rfl wz (h_len un80 rfl wz (h_op (vB ((a_1.Refs.length : Int) == 0)) wz rfl (h_bneq un4 rfl rfl wz (h_nil ?_))))))))))))
   rcases cond_some hF with ⟨hc_24, hF⟩ | ⟨hc_24, hF⟩
   ·refine wH_ift rfl hc_24 (wH_seq (wH_region (h_op (vI 3) wz rfl (h_nil ?_))))
    obtain rfl := some_inj hF
    exact wH_ret (fin0 (.inr rfl) [(vI 3)] ⟨rfl, trivial⟩ rfl rfl rfl)
   ·refine wH_iff rfl hc_24 (wH_skip (wH_seq (wH_region (h_op (vI 0) wz rfl (h_nil ?_)))))
    obtain rfl := some_inj hF
    exact wH_ret (fin0 (.inr rfl) [(vI 0)] ⟨rfl, trivial⟩ rfl rfl rfl)
theorem kit_IsMoment_ok {n_1 : Int} {r : Bool} (hF : kit_IsMoment n_1 = some r) :
  FnM Tryz.prog 136 [(vI n_1)] [] (vB r) [] := by
 refine FnM.of_wH ⟨Tryz.prog, 9, [], []⟩ rfl Tryz.func136 rfl rfl (Nat.le_of_ble_eq_true rfl) (by kernel_rfl) ?_
 unfold kit_IsMoment at hF
 refine wH_seq (wH_region (h_op (vB false) wz rfl (h_nil (wH_seq ?_))))
 obtain ⟨v_2, h_3, hF⟩ := bind_some hF
 refine wH_join (β := Unit) (fun _ => ([(2, (vB v_2))] : List (Nat × V))) (fun _ => ([] : Hp)) (fun _ => True) ?_ ?_
 ·refine wH_region (h_op (vI n_1) wz rfl (h_op (vB (decide (n_1 ≥ 0))) wz rfl ?_))
  rcases cond_some h_3 with ⟨hc_4, h_3⟩ | ⟨hc_4, h_3⟩
  ·refine h_movb rfl hc_4 wz (h_op (vI n_1) wa rfl (h_op (vB (decide (n_1 < 345686400000))) wa rfl (h_op (vB (decide (n_1 < 345686400000))) wz rfl (h_op (vB (decide (n_1 < 345686400000))) wz rfl (h_nil ?_)))))
   obtain rfl := some_inj h_3
   exact cu
  ·refine h_movb rfl hc_4 wz (h_skip wa (h_skip wa (h_op (vB false) wz rfl (h_op (vB false) wz rfl (h_nil ?_)))))
   obtain rfl := some_inj h_3
   exact cu
 ·rintro ⟨⟩ _ sl_ H_ hp_ hq_
  refine wH_at _ hp_ hq_ ?_
  obtain rfl := some_inj hF
  exact wH_ret (fin0 (.inr rfl) [(vB v_2)] ⟨rfl, trivial⟩ rfl rfl rfl)
theorem unicode_utf8_ValidString_ok {x0 : ByteArray} {r : Bool} (hF : unicode_utf8_ValidString x0 = some r) :
  FnM Tryz.prog 235 [(vS x0)] [] (vB r) [] :=
 valid_ok rfl Tryz.utf8_ValidString laid_utf8 hF
theorem strings_trimRightByte_ok {s_1 : ByteArray} {c_2 : Int} {r : ByteArray} (hF : strings_trimRightByte s_1 c_2 = some r) :
  FnM Tryz.prog 285 [(vS s_1), (.d (.int .u8 c_2))] [] (vS r) [] := by
 refine FnM.of_wH ⟨Tryz.prog, 23, [], []⟩ rfl Tryz.func285 rfl rfl (Nat.le_of_ble_eq_true rfl) (by kernel_rfl) ?_
 unfold strings_trimRightByte at hF
 refine wH_seq (wH_region (h_op (vS (⟨#[]⟩ : ByteArray)) wz rfl (h_nil (wH_seq ?_))))
 obtain ⟨o_11, hj_12, hF⟩ := bind_some hF
 obtain ⟨nq_21, hj_12⟩ := loopO_iter hj_12
 refine wH_join (β := (ByteArray)) (fun (s_8 : ByteArray) => ([(0, (vS s_8))] : List (Nat × V))) (fun (s_8 : ByteArray) => ([] : Hp)) (fun p => o_11 = .go p) ?_ ?_
 ·refine wH_block (wH_loop (β := Nat × (ByteArray)) (fun p => (fun (k_3 : Nat) (s_8 : ByteArray) => ([(0, (vS s_8)), (1, (.d (.int .u8 c_2)))] : List (Nat × V))) p.1 p.2) (fun p => (fun (k_3 : Nat) (s_8 : ByteArray) => ([] : Hp)) p.1 p.2) (fun p => iterN (fun s => strings_trimRightByte_L1 c_2 s) p.1 p.2 = some o_11) (fun p => p.1) (nq_21, s_1) hj_12 rfl (pre_r rfl) ?_)
  rintro ⟨k_3, s_8⟩ hL_10
  dsimp only at hL_10
  cases k_3 with
  | zero => cases hL_10
  | succ k_3 =>
   obtain ⟨c_, hc_9, hL_10⟩ := bind_some hL_10
   unfold strings_trimRightByte_L1 at hc_9
   refine wH_seq (wH_seq ?_)
   obtain ⟨v_13, h_14, hc_9⟩ := bind_some hc_9
   refine wH_join (β := Unit) (fun _ => ([(0, (vS s_8)), (1, (.d (.int .u8 c_2))), (16, (vB v_13))] : List (Nat × V))) (fun _ => ([] : Hp)) (fun _ => True) ?_ ?_
   ·refine wH_region (h_op (vS s_8) wz rfl (h_lens un9 rfl wz (h_op (vB (decide ((s_8.size : Int) > 0))) wz rfl ?_)))
    rcases cond_some h_14 with ⟨hc_15, h_14⟩ | ⟨hc_15, h_14⟩
    ·refine h_movb rfl hc_15 wz (h_op (vS s_8) wa rfl (h_op (vS s_8) wa rfl (h_lens un9 rfl wa (h_op (vI (w64 ((s_8.size : Int) - 1))) wa rfl ?_))))
     obtain ⟨b_16, hy_17, h_14⟩ := bind_some h_14
     refine h_idxs un9 rfl rfl hy_17 wa (h_op (.d (.int .u8 c_2)) wa rfl (h_op (vB ((b_16.toNat : Int) == c_2)) wa rfl (h_op (vB ((b_16.toNat : Int) == c_2)) wz rfl (h_nil ?_))))
     obtain rfl := some_inj h_14
     exact cu
    ·refine h_movb rfl hc_15 wz (h_skip wa (h_skip wa (h_skip wa (h_skip wa (h_skip wa (h_skip wa (h_skip wa (h_op (vB false) wz rfl (h_nil ?_)))))))))
     obtain rfl := some_inj h_14
     exact cu
   ·rintro ⟨⟩ _ sl_ H_ hp_ hq_
    refine wH_at _ hp_ hq_ ?_
    rcases cond_some hc_9 with ⟨hc_18, hc_9⟩ | ⟨hc_18, hc_9⟩
    ·refine wH_ift rfl hc_18 (wH_skip (wH_block (wH_region (h_op (vS s_8) wz rfl (h_op (vS s_8) wz rfl (h_lens un9 rfl wz (h_op (vI (w64 ((s_8.size : Int) - 1))) wz rfl ?_)))))))
     obtain ⟨y_19, hy_20, hc_9⟩ := bind_some hc_9
     refine h_subFalseTrue un9 rfl rfl hy_20 wz (h_op (vS y_19) wz rfl (h_nil ?_))
     obtain rfl := some_inj hc_9
     exact loop_mk (k_3, y_19) hL_10 (Nat.lt_succ_self _) rfl (pre_r rfl)
    ·refine wH_iff rfl hc_18 (wH_exit ?_)
     obtain rfl := some_inj hc_9
     obtain rfl := some_inj hL_10
     exact cut_mk (s_8) rfl rfl (pre_r rfl)
 ·rintro s_8 ho_ sl_ H_ hp_ hq_
  subst ho_
  refine wH_at _ hp_ hq_ (wH_seq (wH_region (h_op (vS s_8) wz rfl (h_op (vS s_8) wz rfl (h_nil ?_)))))
  obtain rfl := some_inj hF
  exact wH_ret (fin0 (.inr rfl) [(vS s_8)] ⟨rfl, trivial⟩ rfl rfl rfl)
end Go.Proofs.YtpojeclokolkaaaGreatDoor.Law

