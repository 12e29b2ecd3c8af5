/-
 The machine computes these plain functions (written by a program of ours).
-/
import Derived.Test.YtiekkaelpgahoaaGreatFacts
import Derived.Test.YtiekkaelpgahoaaGreatDefs
open Go Go.Eng Go.Proofs
namespace Go.Proofs.YtiekkaelpgahoaaGreat.Law
set_option maxRecDepth 100000
set_option linter.unusedVariables false
set_option maxHeartbeats 1000000
theorem mk_Below_ok {x_1 : Int} {n_2 : Int} {r : Int} (hF : mk_Below x_1 n_2 = some r) :
  FnM Tryz.prog 108 [(vI x_1), (vI n_2)] [] (vI r) [] := by
 refine FnM.of_wH ⟨Tryz.prog, 16, [], []⟩ rfl Tryz.func108 rfl rfl (Nat.le_of_ble_eq_true rfl) (by kernel_rfl) ?_
 unfold mk_Below at hF
 refine wH_seq (wH_region (h_op (vI 0) wz rfl (h_nil (wH_seq (wH_seq (wH_region (h_op (vI n_2) wz rfl (h_op (vB (decide (n_2 < 1))) wz rfl (h_nil ?_)))))))))
 rcases cond_some hF with ⟨hc_3, hF⟩ | ⟨hc_3, hF⟩
 ·refine wH_ift rfl hc_3 (wH_seq (wH_region (h_op (vI 0) wz rfl (h_nil ?_))))
  obtain rfl := some_inj hF
  exact wH_ret (fin0 (.inr rfl) [(vI 0)] ⟨rfl, trivial⟩ rfl rfl rfl)
 ·refine wH_iff rfl hc_3 (wH_skip (wH_seq (wH_region (h_op (vI x_1) wz rfl (h_op (vI n_2) wz rfl ?_)))))
  obtain ⟨q_4, hz_5, hF⟩ := bind_some hF
  refine h_rem rfl rfl hz_5 wz (h_op (vI q_4) wz rfl (h_nil (wH_seq (wH_seq (wH_region (h_op (vI q_4) wz rfl (h_op (vB (decide (q_4 < 0))) wz rfl (h_nil ?_))))))))
  obtain ⟨v_6, h_7, hF⟩ := bind_some hF
  refine wH_join (β := Unit) (fun _ => ([(0, (vI v_6))] : List (Nat × V))) (fun _ => ([] : Hp)) (fun _ => True) ?_ ?_
  ·rcases cond_some h_7 with ⟨hc_8, h_7⟩ | ⟨hc_8, h_7⟩
   ·refine wH_ift rfl hc_8 (wH_region (h_op (vI q_4) wz rfl (h_op (vI n_2) wz rfl (h_op (vI (w64 (q_4 + n_2))) wz rfl (h_op (vI (w64 (q_4 + n_2))) wz rfl (h_nil ?_))))))
    obtain rfl := some_inj h_7
    exact cut_mk () trivial rfl (pre_r rfl)
   ·refine wH_iff rfl hc_8 (wH_skip ?_)
    obtain rfl := some_inj h_7
    exact cut_mk () trivial rfl (pre_r rfl)
  ·rintro ⟨⟩ _ sl_ H_ hp_ hq_
   refine wH_at _ hp_ hq_ (wH_seq (wH_region (h_op (vI v_6) wz rfl (h_op (vI v_6) wz rfl (h_nil ?_)))))
   obtain rfl := some_inj hF
   exact wH_ret (fin0 (.inr rfl) [(vI v_6)] ⟨rfl, trivial⟩ rfl rfl rfl)
theorem mk_Stream_Next_ok {s_1 : Stream} {n_2 : Int} {r : Int × Stream} (hF : mk_Stream_Next s_1 n_2 = some r) :
  FnM Tryz.prog 57 [(.ref (extN 0) 0 0), (vI n_2)] [(.cells 2 [(vL eI s_1.L), (vI s_1.f_at)])] (vI r.1) [some (.cells 2 [(vL eI r.2.L), (vI r.2.f_at)])] := by
 refine FnM.of_wH ⟨Tryz.prog, 64, [], []⟩ rfl Tryz.func57 rfl rfl (Nat.le_of_ble_eq_true rfl) (by kernel_rfl) ?_
 unfold mk_Stream_Next at hF
 refine wH_seq (wH_region (h_op (vI 0) wz rfl (h_nil (wH_seq (wH_region (h_op (.ref (extN 0) 0 0) wz rfl (h_op (.ref (extN 0) 0 0) wz rfl (h_far pl25_1 rfl 1 rfl wz (h_ldr 0 0 (.inl rfl) (fun _ _ _ => trivial) sz3 ag3 rfl rfl (vI s_1.f_at) rfl wz (h_op (vI (w64 (s_1.f_at + 1))) wz rfl (h_op (.ref (extN 0) 0 0) wz rfl (h_far pl25_1 rfl 1 rfl wz (h_str 0 (.inl rfl) (fun _ _ _ => trivial) 0 sz3 rfl rfl [(vL eI s_1.L), (vI (w64 (s_1.f_at + 1)))] rfl wz (h_nil (wH_seq (wH_seq (wH_region (h_op (.ref (extN 0) 0 0) wz rfl (h_op (.ref (extN 0) 0 0) wz rfl (h_far pl25_0 rfl 0 rfl wz (h_ldr 0 0 (.inl rfl) (fun _ _ _ => trivial) sz22 ag22 rfl rfl (vL eI s_1.L) rfl wz (h_len un22 rfl wz (h_op (vB ((s_1.L.length : Int) == 0)) wz rfl ?_)))))))))))))))))))))))
 refine h_nil ?_
 rcases cond_some hF with ⟨hc_3, hF⟩ | ⟨hc_3, hF⟩
 ·refine wH_ift rfl hc_3 (wH_seq (wH_region (h_op (.ref (extN 0) 0 0) wz rfl (h_op (.ref (extN 0) 0 0) wz rfl (h_far pl25_1 rfl 1 rfl wz (h_ldr 0 0 (.inl rfl) (fun _ _ _ => trivial) sz3 ag3 rfl rfl (vI (w64 (s_1.f_at + 1))) rfl wz (h_op (vI (w64 ((w64 (s_1.f_at + 1)) * 7919))) wz rfl (h_op (vI n_2) wz rfl ?_))))))))
  obtain ⟨r_4, hr_5, hF⟩ := bind_some hF
  refine h_call0 (mk_Below_ok hr_5) rfl hb108 rfl rfl rfl rfl wz (h_op (vI r_4) wz rfl (h_nil ?_))
  obtain rfl := some_inj hF
  exact wH_ret (finB (.inr rfl) [(vI r_4)] _ [0] [extN 0] ⟨rfl, trivial⟩ (.cons (co_data rfl rfl) (.nil)) (by kernel_rfl) ⟨(by kernel_rfl), trivial⟩ (by decide) (by kernel_rfl))
 ·refine wH_iff rfl hc_3 (wH_skip (wH_seq (wH_draws (h_op (.ref (extN 0) 0 0) wz rfl (h_op (.ref (extN 0) 0 0) wz rfl (h_far pl25_1 rfl 1 rfl wz (h_ldr 3 0 (.inr (by kernel_rfl)) (fun _ _ ag => trivial) sz3 ag3 rfl rfl (vI (w64 (s_1.f_at + 1))) rfl wz (h_op (vI (w64 ((w64 (s_1.f_at + 1)) - 1))) wz rfl (h_op (.ref (extN 0) 0 0) wz rfl (h_op (.ref (extN 0) 0 0) wz rfl (h_far pl25_0 rfl 0 rfl wz (h_ldr 8 0 (.inr (by kernel_rfl)) (fun _ _ ag => ⟨.inl ⟨rfl, rfl⟩, trivial⟩) sz22 ag22 rfl rfl (vL eI s_1.L) rfl wz (h_len un22 rfl wz ?_)))))))))))))
  obtain ⟨q_6, hz_7, hF⟩ := bind_some hF
  refine h_rem rfl rfl hz_7 wz (h_op (vI q_6) wz rfl (h_nil (wH_seq (wH_draws (h_op (.ref (extN 0) 0 0) wz rfl (h_op (.ref (extN 0) 0 0) wz rfl (h_far pl25_1 rfl 1 rfl wz (h_ldr 3 0 (.inr (by kernel_rfl)) (fun _ _ ag => trivial) sz3 ag3 rfl rfl (vI (w64 (s_1.f_at + 1))) rfl wz (h_op (vI (w64 ((w64 (s_1.f_at + 1)) - 1))) wz rfl (h_op (.ref (extN 0) 0 0) wz rfl (h_op (.ref (extN 0) 0 0) wz rfl (h_far pl25_0 rfl 0 rfl wz (h_ldr 8 0 (.inr (by kernel_rfl)) (fun _ _ ag => ⟨.inl ⟨rfl, rfl⟩, trivial⟩) sz22 ag22 rfl rfl (vL eI s_1.L) rfl wz (h_len un22 rfl wz ?_))))))))))))))
  obtain ⟨q_8, hz_9, hF⟩ := bind_some hF
  refine h_quo rfl rfl hz_9 wz (h_op (vI q_8) wz rfl (h_nil (wH_at (H0 := ([((extN 0), some (.cells 2 [(vL eI s_1.L), (vI (w64 (s_1.f_at + 1)))]))] : Hp)) ([(0, (.ref (extN 0) 0 0)), (1, (vI n_2)), (5, (vI q_6)), (6, (vI q_8))] : List (Nat × V)) (by kernel_rfl) (pre_mk (by kernel_rfl)) (wH_seq (wH_region (h_op (.ref (extN 0) 0 0) wz rfl (h_op (.ref (extN 0) 0 0) wz rfl (h_far pl25_0 rfl 0 rfl wz (h_ldr 0 0 (.inl rfl) (fun _ _ _ => trivial) sz22 ag22 rfl rfl (vL eI s_1.L) rfl wz (h_op (vI q_6) wz rfl ?_))))))))))
  obtain ⟨y_10, hy_11, hF⟩ := bind_some hF
  refine h_ia es22 rfl rfl hy_11 rfl wz (h_ldc sz3 ag3 rfl (vI y_10) rfl wz ?_)
  obtain ⟨r_12, hr_13, hF⟩ := bind_some hF
  refine h_call0 (mk_Below_ok hr_13) rfl hb108 rfl rfl rfl rfl wz (h_op (vI q_8) wz rfl (h_op (vI q_6) wz rfl (h_op (vI (w64 (7919 + q_6))) wz rfl (h_op (vI (w64 (q_8 * (w64 (7919 + q_6))))) wz rfl (h_op (vI (w64 (r_12 + (w64 (q_8 * (w64 (7919 + q_6))))))) wz rfl (h_op (vI n_2) wz rfl ?_))))))
  obtain ⟨r_14, hr_15, hF⟩ := bind_some hF
  refine h_call0 (mk_Below_ok hr_15) rfl hb108 rfl rfl rfl rfl wz (h_op (vI r_14) wz rfl (h_nil ?_))
  obtain rfl := some_inj hF
  exact wH_ret (finB (.inr rfl) [(vI r_14)] _ [0] [extN 0] ⟨rfl, trivial⟩ (.cons (co_data rfl rfl) (.nil)) (by kernel_rfl) ⟨(by kernel_rfl), trivial⟩ (by decide) (by kernel_rfl))
theorem mk_Stream_Pick_ok {s_1 : Stream} {l_2 : (List Int)} {r : Int × Stream} (hF : mk_Stream_Pick s_1 l_2 = some r) :
  FnM Tryz.prog 45 [(.ref (extN 0) 0 0), (vL eI l_2)] [(.cells 2 [(vL eI s_1.L), (vI s_1.f_at)])] (vI r.1) [some (.cells 2 [(vL eI r.2.L), (vI r.2.f_at)])] := by
 refine FnM.of_wH ⟨Tryz.prog, 12, [], []⟩ rfl Tryz.func45 rfl rfl (Nat.le_of_ble_eq_true rfl) (by kernel_rfl) ?_
 unfold mk_Stream_Pick at hF
 refine wH_seq (wH_region (h_op (vI 0) wz rfl (h_nil (wH_seq (wH_region (h_op (vL eI l_2) wz rfl (h_op (.ref (extN 0) 0 0) wz rfl (h_op (vL eI l_2) wz rfl (h_len un22 rfl wz ?_)))))))))
 obtain ⟨r_3, hr_4, hF⟩ := bind_some hF
 refine h_callq 0 [0] (.inl rfl) (fun _ _ _ => trivial) (mk_Stream_Next_ok hr_4) rfl hb57 rfl (by kernel_rfl) (by kernel_rfl) (by kernel_rfl) (by kernel_rfl) (by kernel_rfl) (by kernel_rfl) (by kernel_rfl) (by decide) (by kernel_rfl) wz (vI r_3.1) (by kernel_rfl) ([((extN 0), some (.cells 2 [(vL eI r_3.2.L), (vI r_3.2.f_at)]))] : Hp) (by kernel_rfl) ?_
 obtain ⟨y_6, hy_7, hF⟩ := bind_some hF
 refine h_ia es22 rfl rfl hy_7 rfl wz (h_ldc sz3 ag3 rfl (vI y_6) rfl wz (h_op (vI y_6) wz rfl (h_nil ?_)))
 obtain rfl := some_inj hF
 exact wH_ret (finB (.inr rfl) [(vI y_6)] _ [0] [extN 0] ⟨rfl, trivial⟩ (.cons (co_data rfl rfl) (.nil)) (by kernel_rfl) ⟨(by kernel_rfl), trivial⟩ (by decide) (by kernel_rfl))
theorem mk_Stream_Flip_ok {s_1 : Stream} {n_2 : Int} {r : Bool × Stream} (hF : mk_Stream_Flip s_1 n_2 = some r) :
  FnM Tryz.prog 9 [(.ref (extN 0) 0 0), (vI n_2)] [(.cells 2 [(vL eI s_1.L), (vI s_1.f_at)])] (vB r.1) [some (.cells 2 [(vL eI r.2.L), (vI r.2.f_at)])] := by
 refine FnM.of_wH ⟨Tryz.prog, 9, [], []⟩ rfl Tryz.func9 rfl rfl (Nat.le_of_ble_eq_true rfl) (by kernel_rfl) ?_
 unfold mk_Stream_Flip at hF
 refine wH_seq (wH_region (h_op (vB false) wz rfl (h_nil (wH_seq (wH_region (h_op (.ref (extN 0) 0 0) wz rfl (h_op (vI n_2) wz rfl ?_)))))))
 obtain ⟨r_3, hr_4, hF⟩ := bind_some hF
 refine h_callq 0 [0] (.inl rfl) (fun _ _ _ => trivial) (mk_Stream_Next_ok hr_4) rfl hb57 rfl (by kernel_rfl) (by kernel_rfl) (by kernel_rfl) (by kernel_rfl) (by kernel_rfl) (by kernel_rfl) (by kernel_rfl) (by decide) (by kernel_rfl) wz (vI r_3.1) (by kernel_rfl) ([((extN 0), some (.cells 2 [(vL eI r_3.2.L), (vI r_3.2.f_at)]))] : Hp) (by kernel_rfl) (h_op (vB (r_3.1 == 0)) wz rfl (h_op (vB (r_3.1 == 0)) wz rfl (h_nil ?_)))
 obtain rfl := some_inj hF
 exact wH_ret (finB (.inr rfl) [(vB (r_3.1 == 0))] _ [0] [extN 0] ⟨rfl, trivial⟩ (.cons (co_data rfl rfl) (.nil)) (by kernel_rfl) ⟨(by kernel_rfl), trivial⟩ (by decide) (by kernel_rfl))
theorem mk_Stream_Range_ok {s_1 : Stream} {low_2 : Int} {high_3 : Int} {r : Int × Stream} (hF : mk_Stream_Range s_1 low_2 high_3 = some r) :
  FnM Tryz.prog 8 [(.ref (extN 0) 0 0), (vI low_2), (vI high_3)] [(.cells 2 [(vL eI s_1.L), (vI s_1.f_at)])] (vI r.1) [some (.cells 2 [(vL eI r.2.L), (vI r.2.f_at)])] := by
 refine FnM.of_wH ⟨Tryz.prog, 19, [], []⟩ rfl Tryz.func8 rfl rfl (Nat.le_of_ble_eq_true rfl) (by kernel_rfl) ?_
 unfold mk_Stream_Range at hF
 refine wH_seq (wH_region (h_op (vI 0) wz rfl (h_nil (wH_seq (wH_seq (wH_region (h_op (vI high_3) wz rfl (h_op (vI low_2) wz rfl (h_op (vB (decide (high_3 < low_2))) wz rfl (h_nil ?_))))))))))
 rcases cond_some hF with ⟨hc_4, hF⟩ | ⟨hc_4, hF⟩
 ·refine wH_ift rfl hc_4 (wH_seq (wH_region (h_op (vI low_2) wz rfl (h_op (vI low_2) wz rfl (h_nil ?_)))))
  obtain rfl := some_inj hF
  exact wH_ret (finB (.inr rfl) [(vI low_2)] _ [0] [extN 0] ⟨rfl, trivial⟩ (.cons (co_data rfl rfl) (.nil)) (by kernel_rfl) ⟨(by kernel_rfl), trivial⟩ (by decide) (by kernel_rfl))
 ·refine wH_iff rfl hc_4 (wH_skip (wH_seq (wH_region (h_op (vI low_2) wz rfl (h_op (.ref (extN 0) 0 0) wz rfl (h_op (vI high_3) wz rfl (h_op (vI low_2) wz rfl (h_op (vI (w64 (high_3 - low_2))) wz rfl (h_op (vI (w64 ((w64 (high_3 - low_2)) + 1))) wz rfl ?_)))))))))
  obtain ⟨r_5, hr_6, hF⟩ := bind_some hF
  refine h_callq 0 [0] (.inl rfl) (fun _ _ _ => trivial) (mk_Stream_Next_ok hr_6) rfl hb57 rfl (by kernel_rfl) (by kernel_rfl) (by kernel_rfl) (by kernel_rfl) (by kernel_rfl) (by kernel_rfl) (by kernel_rfl) (by decide) (by kernel_rfl) wz (vI r_5.1) (by kernel_rfl) ([((extN 0), some (.cells 2 [(vL eI r_5.2.L), (vI r_5.2.f_at)]))] : Hp) (by kernel_rfl) (h_op (vI (w64 (low_2 + r_5.1))) wz rfl (h_op (vI (w64 (low_2 + r_5.1))) wz rfl (h_nil ?_)))
  obtain rfl := some_inj hF
  exact wH_ret (finB (.inr rfl) [(vI (w64 (low_2 + r_5.1)))] _ [0] [extN 0] ⟨rfl, trivial⟩ (.cons (co_data rfl rfl) (.nil)) (by kernel_rfl) ⟨(by kernel_rfl), trivial⟩ (by decide) (by kernel_rfl))
theorem mk_Stream_RightLayout_ok {s_1 : Stream} {r : Layout × Stream} (hF : mk_Stream_RightLayout s_1 = some r) :
  FnM Tryz.prog 56 [(.ref (extN 0) 0 0)] [(.cells 2 [(vL eI s_1.L), (vI s_1.f_at)])] (.d (.agg (Layout.enc r.1))) [some (.cells 2 [(vL eI r.2.L), (vI r.2.f_at)])] := by
 refine FnM.of_wH ⟨Tryz.prog, 66, [], []⟩ rfl Tryz.func56 rfl rfl (Nat.le_of_ble_eq_true rfl) (by kernel_rfl) ?_
 unfold mk_Stream_RightLayout at hF
 refine wH_seq (wH_region (h_alloc 0 (.inl rfl) z28 rfl wz (fun n_2 => h_nil (wH_seq (wH_region (h_op (.ref (extN 0) 0 0) wz rfl (h_lit (([5, 8, 10, 16] : List Int).map eI) es22 ez22 rfl rfl rfl rfl rfl wz ?_)))))))
 obtain ⟨r_3, hr_4, hF⟩ := bind_some hF
 refine h_callq 0 [0] (.inl rfl) (fun _ _ _ => trivial) (mk_Stream_Pick_ok hr_4) rfl hb45 rfl (by kernel_rfl) (by kernel_rfl) (by kernel_rfl) (by kernel_rfl) (by kernel_rfl) (by kernel_rfl) (by kernel_rfl) (by decide) (by kernel_rfl) wz (vI r_3.1) (by kernel_rfl) ([((extN 0), some (.cells 2 [(vL eI r_3.2.L), (vI r_3.2.f_at)])), (n_2, some (.cells 4 [(vS (⟨#[]⟩ : ByteArray)), (vI 0), (vI 0), .nil]))] : Hp) (by kernel_rfl) (h_op (.ref (extN 0) 0 0) wz rfl (h_lit (([4, 6, 9] : List Int).map eI) es22 ez22 rfl rfl rfl rfl rfl wz ?_))
 obtain ⟨r_6, hr_7, hF⟩ := bind_some hF
 refine h_callq 0 [0] (.inl rfl) (fun _ _ _ => trivial) (mk_Stream_Pick_ok hr_7) rfl hb45 rfl (by kernel_rfl) (by kernel_rfl) (by kernel_rfl) (by kernel_rfl) (by kernel_rfl) (by kernel_rfl) (by kernel_rfl) (by decide) (by kernel_rfl) wz (vI r_6.1) (by kernel_rfl) ([((extN 0), some (.cells 2 [(vL eI r_6.2.L), (vI r_6.2.f_at)])), (n_2, some (.cells 4 [(vS (⟨#[]⟩ : ByteArray)), (vI 0), (vI 0), .nil]))] : Hp) (by kernel_rfl) (h_op (.agg [(vS (⟨#[108]⟩ : ByteArray)), (vI r_3.1), (vI r_6.1), .nil]) wz (by kernel_rfl) (h_alloc 0 (.inl rfl) z28 rfl wz (fun n_9 => h_str 0 (.inl rfl) (fun _ _ _ => trivial) 2 sz28 rfl rfl [(vS (⟨#[108]⟩ : ByteArray)), (vI r_3.1), (vI r_6.1), .nil] rfl wz (h_nil (wH_seq (wH_seq (wH_region (h_lit (([(⟨#[122, 97]⟩ : ByteArray), (⟨#[122, 98]⟩ : ByteArray), (⟨#[122, 99]⟩ : ByteArray), (⟨#[122, 100]⟩ : ByteArray)] : List ByteArray).map eS) es38 ez38 rfl rfl rfl rfl rfl wz (h_len un38 rfl wz (h_op (vI 0) wz rfl (h_nil (wH_new (fun n_16 => ?_)))))))))))))
 obtain ⟨o_21, hj_22, hF⟩ := bind_some hF
 obtain ⟨hn_14, hj_22⟩ := forL_some hj_22
 refine wH_join (β := ((List Zone) × (List Int) × Int) × Nm) (fun p => (fun (s_15 : (List Zone) × (List Int) × Int) (n_18 : Nm) => ([(2, (.ref n_2 0 0)), (3, (.ref n_9 0 0))] : List (Nat × V))) p.1 p.2) (fun p => (fun (s_15 : (List Zone) × (List Int) × Int) (n_18 : Nm) => ([((extN 0), some (.cells 2 [(vL eI s_15.2.1), (vI s_15.2.2)])), (n_2, some (.cells 4 [(vS (⟨#[]⟩ : ByteArray)), (vI 0), (vI 0), .nil])), (n_9, some (.cells 4 [(vS (⟨#[108]⟩ : ByteArray)), (vI r_3.1), (vI r_6.1), (gV n_18 6 s_15.1)])), (n_18, gB 6 Zone.enc s_15.1)] : Hp)) p.1 p.2) (fun p => o_21 = .go p.1) ?_ ?_
 ·refine wH_block (wH_loop (β := Nat × (List ByteArray) × ((List Zone) × (List Int) × Int) × Nm) (fun p => (fun (k_10 : Nat) (l_11 : List ByteArray) (s_15 : (List Zone) × (List Int) × Int) (n_18 : Nm) => ([(0, (.ref (extN 0) 0 0)), (2, (.ref n_2 0 0)), (3, (.ref n_9 0 0)), (14, (vL eS ([(⟨#[122, 97]⟩ : ByteArray), (⟨#[122, 98]⟩ : ByteArray), (⟨#[122, 99]⟩ : ByteArray), (⟨#[122, 100]⟩ : ByteArray)] : List ByteArray))), (15, (vI (([(⟨#[122, 97]⟩ : ByteArray), (⟨#[122, 98]⟩ : ByteArray), (⟨#[122, 99]⟩ : ByteArray), (⟨#[122, 100]⟩ : ByteArray)] : List ByteArray).length : Int))), (16, (vI (k_10 : Int)))] : List (Nat × V))) p.1 p.2.1 p.2.2.1 p.2.2.2) (fun p => (fun (k_10 : Nat) (l_11 : List ByteArray) (s_15 : (List Zone) × (List Int) × Int) (n_18 : Nm) => ([((extN 0), some (.cells 2 [(vL eI s_15.2.1), (vI s_15.2.2)])), (n_2, some (.cells 4 [(vS (⟨#[]⟩ : ByteArray)), (vI 0), (vI 0), .nil])), (n_9, some (.cells 4 [(vS (⟨#[108]⟩ : ByteArray)), (vI r_3.1), (vI r_6.1), (gV n_18 6 s_15.1)])), (n_18, gB 6 Zone.enc s_15.1)] : Hp)) p.1 p.2.1 p.2.2.1 p.2.2.2) (fun p => forR (fun k x s => mk_Stream_RightLayout_L1 r_3 r_6 k x s) p.2.1 p.1 p.2.2.1 = some o_21 ∧ (([(⟨#[122, 97]⟩ : ByteArray), (⟨#[122, 98]⟩ : ByteArray), (⟨#[122, 99]⟩ : ByteArray), (⟨#[122, 100]⟩ : ByteArray)] : List ByteArray)).drop p.1 = p.2.1) (fun p => p.2.1.length) (0, ([(⟨#[122, 97]⟩ : ByteArray), (⟨#[122, 98]⟩ : ByteArray), (⟨#[122, 99]⟩ : ByteArray), (⟨#[122, 100]⟩ : ByteArray)] : List ByteArray), (([] : List Zone), r_6.2.L, r_6.2.f_at), n_16) ⟨hj_22, rfl⟩ rfl (pre_r rfl) ?_)
  rintro ⟨k_10, l_11, s_15, n_18⟩ ⟨hL_20, hD_13⟩
  dsimp only at hL_20 hD_13
  cases l_11 with
  | nil =>
   obtain rfl := some_inj hL_20
   refine wH_seq (wH_region (h_op (vB (decide ((k_10 : Int) < (([(⟨#[122, 97]⟩ : ByteArray), (⟨#[122, 98]⟩ : ByteArray), (⟨#[122, 99]⟩ : ByteArray), (⟨#[122, 100]⟩ : ByteArray)] : List ByteArray).length : Int)))) wz rfl (h_nil ?_)))
   refine wH_seq (wH_iff rfl (drop_nil hD_13) (wH_exit ?_))
   exact cut_mk (s_15, n_18) rfl rfl (pre_r rfl)
  | cons x_12 l_11 =>
   obtain ⟨c_, hc_19, hL_20⟩ := bind_some hL_20
   refine wH_seq (wH_region (h_op (vB (decide ((k_10 : Int) < (([(⟨#[122, 97]⟩ : ByteArray), (⟨#[122, 98]⟩ : ByteArray), (⟨#[122, 99]⟩ : ByteArray), (⟨#[122, 100]⟩ : ByteArray)] : List ByteArray).length : Int)))) wz rfl (h_nil ?_)))
   refine wH_seq (wH_ift rfl (drop_cons hD_13) (wH_skip ?_))
   unfold mk_Stream_RightLayout_L1 at hc_19
   refine wH_seq (wH_block (wH_seq (wH_region (h_ia es38 rfl rfl (drop_idx hD_13) rfl wz (h_ldc sz9 ag9 rfl (vS x_12) rfl wz (h_op (vS x_12) wz rfl (h_nil (wH_seq (wH_seq (wH_region (h_op (.ref (extN 0) 0 0) wz rfl ?_)))))))))))
   obtain ⟨r_23, hr_24, hc_19⟩ := bind_some hc_19
   refine h_callq 0 [0] (.inl rfl) (fun _ _ _ => trivial) (mk_Stream_Flip_ok hr_24) rfl hb9 rfl (by kernel_rfl) (by kernel_rfl) (by kernel_rfl) (by kernel_rfl) (by kernel_rfl) (by kernel_rfl) (by kernel_rfl) (by decide) (by kernel_rfl) wz (vB r_23.1) (by kernel_rfl) ([((extN 0), some (.cells 2 [(vL eI r_23.2.L), (vI r_23.2.f_at)])), (n_2, some (.cells 4 [(vS (⟨#[]⟩ : ByteArray)), (vI 0), (vI 0), .nil])), (n_9, some (.cells 4 [(vS (⟨#[108]⟩ : ByteArray)), (vI r_3.1), (vI r_6.1), (gV n_18 6 s_15.1)])), (n_18, gB 6 Zone.enc s_15.1)] : Hp) (by kernel_rfl) (h_nil ?_)
   rcases cond_some hc_19 with ⟨hc_26, hc_19⟩ | ⟨hc_26, hc_19⟩
   ·refine wH_ift rfl hc_26 (wH_exit (wH_region (h_opw (w64_next hD_13 hn_14) wz rfl (h_op (vI ((k_10 + 1 : Nat) : Int)) wz rfl (h_nil ?_)))))
    obtain rfl := some_inj hc_19
    exact loop_mk (k_10 + 1, l_11, (s_15.1, r_23.2.L, r_23.2.f_at), n_18) ⟨hL_20, drop_next hD_13⟩ (Nat.lt_succ_self _) rfl (pre_r rfl)
   ·refine wH_iff rfl hc_26 (wH_skip (wH_seq (wH_draws (h_op (vS x_12) wz rfl (h_op (.ref (extN 0) 0 0) wz rfl (h_far pl28_1 rfl 1 rfl wz (h_ldr 3 2 (.inr (by kernel_rfl)) (fun _ _ ag => trivial) sz3 ag3 rfl rfl (vI r_3.1) rfl wz (h_op (vI (w64 (r_3.1 - 1))) wz rfl ?_))))))))
    obtain ⟨r_27, hr_28, hc_19⟩ := bind_some hc_19
    refine h_callq 5 [0] (.inr (by kernel_rfl)) (fun _ _ ag => by exact ⟨.inr (.inr (by kernel_rfl)), trivial⟩) (mk_Stream_Range_ok hr_28) rfl hb8 rfl (by kernel_rfl) (by kernel_rfl) (by kernel_rfl) (by kernel_rfl) (by kernel_rfl) (by kernel_rfl) (by kernel_rfl) (by decide) (by kernel_rfl) wz (vI r_27.1) (by kernel_rfl) ([((extN 0), some (.cells 2 [(vL eI r_27.2.L), (vI r_27.2.f_at)])), (n_2, some (.cells 4 [(vS (⟨#[]⟩ : ByteArray)), (vI 0), (vI 0), .nil])), (n_9, some (.cells 4 [(vS (⟨#[108]⟩ : ByteArray)), (vI r_3.1), (vI r_6.1), (gV n_18 6 s_15.1)])), (n_18, gB 6 Zone.enc s_15.1)] : Hp) (by kernel_rfl) (h_op (.ref (extN 0) 0 0) wz rfl (h_far pl28_2 rfl 2 rfl wz (h_ldr 8 2 (.inr (by kernel_rfl)) (fun _ _ ag => ⟨.inl ⟨rfl, rfl⟩, ⟨.inr (.inl (dis1 (ag_ne ag (i := 2) (j := 0) rfl rfl (by decide)))), trivial⟩⟩) sz3 ag3 rfl rfl (vI r_6.1) rfl wz (h_op (vI (w64 (r_6.1 - 1))) wz rfl ?_))))
    obtain ⟨r_30, hr_31, hc_19⟩ := bind_some hc_19
    refine h_callq 10 [0] (.inr (by kernel_rfl)) (fun _ _ ag => by exact ⟨.inr (.inr (by kernel_rfl)), ⟨.inr (.inr (by kernel_rfl)), ⟨.inr (.inr (by kernel_rfl)), trivial⟩⟩⟩) (mk_Stream_Range_ok hr_31) rfl hb8 rfl (by kernel_rfl) (by kernel_rfl) (by kernel_rfl) (by kernel_rfl) (by kernel_rfl) (by kernel_rfl) (by kernel_rfl) (by decide) (by kernel_rfl) wz (vI r_30.1) (by kernel_rfl) ([((extN 0), some (.cells 2 [(vL eI r_30.2.L), (vI r_30.2.f_at)])), (n_2, some (.cells 4 [(vS (⟨#[]⟩ : ByteArray)), (vI 0), (vI 0), .nil])), (n_9, some (.cells 4 [(vS (⟨#[108]⟩ : ByteArray)), (vI r_3.1), (vI r_6.1), (gV n_18 6 s_15.1)])), (n_18, gB 6 Zone.enc s_15.1)] : Hp) (by kernel_rfl) (h_op (.d (.agg (Rect.enc (⟨r_27.1, r_30.1, 0, 0⟩ : Rect)))) wz (by kernel_rfl) (h_op (.ref (extN 0) 0 0) wz rfl (h_lit (([0, 0, 1, 2] : List Int).map eI) es22 ez22 rfl rfl rfl rfl rfl wz ?_)))
    obtain ⟨r_33, hr_34, hc_19⟩ := bind_some hc_19
    refine h_callq 14 [0] (.inr (by kernel_rfl)) (fun _ _ ag => by exact ⟨.inr (.inr (by kernel_rfl)), ⟨.inr (.inr (by kernel_rfl)), ⟨.inr (.inr (by kernel_rfl)), ⟨.inr (.inr (by kernel_rfl)), trivial⟩⟩⟩⟩) (mk_Stream_Pick_ok hr_34) rfl hb45 rfl (by kernel_rfl) (by kernel_rfl) (by kernel_rfl) (by kernel_rfl) (by kernel_rfl) (by kernel_rfl) (by kernel_rfl) (by decide) (by kernel_rfl) wz (vI r_33.1) (by kernel_rfl) ([((extN 0), some (.cells 2 [(vL eI r_33.2.L), (vI r_33.2.f_at)])), (n_2, some (.cells 4 [(vS (⟨#[]⟩ : ByteArray)), (vI 0), (vI 0), .nil])), (n_9, some (.cells 4 [(vS (⟨#[108]⟩ : ByteArray)), (vI r_3.1), (vI r_6.1), (gV n_18 6 s_15.1)])), (n_18, gB 6 Zone.enc s_15.1)] : Hp) (by kernel_rfl) (h_op (.d (.agg (Zone.enc (⟨x_12, (⟨r_27.1, r_30.1, 0, 0⟩ : Rect), r_33.1⟩ : Zone)))) wz (by kernel_rfl) (h_alloc 16 (.inr (by kernel_rfl)) z107 rfl wz (fun n_36 => h_str 17 (.inr (by kernel_rfl)) (fun _ _ ag => ⟨.inr (.inr (by kernel_rfl)), ⟨.inr (.inr (by kernel_rfl)), ⟨.inr (.inr (by kernel_rfl)), ⟨.inr (.inr (by kernel_rfl)), ⟨.inr (.inr (by kernel_rfl)), ⟨.inr (.inr (by kernel_rfl)), trivial⟩⟩⟩⟩⟩⟩) 4 sz107 rfl rfl [(vS x_12), (vI r_27.1), (vI r_30.1), (vI 0), (vI 0), (vI r_33.1)] rfl wz (h_nil (wH_seq (wH_draws (h_op (.ref (extN 0) 0 0) wz rfl (h_far pl28_1 rfl 1 rfl wz (h_ldr 2 2 (.inr (by kernel_rfl)) (fun _ _ ag => trivial) sz3 ag3 rfl rfl (vI r_3.1) rfl wz (h_far pl107_1 rfl 1 rfl wz (h_far pl49_0 rfl 1 rfl wz (h_ldr 5 4 (.inr (by kernel_rfl)) (fun _ _ ag => ⟨.inl ⟨rfl, rfl⟩, trivial⟩) sz3 ag3 rfl rfl (vI r_27.1) rfl wz (h_op (vI (w64 (r_3.1 - r_27.1))) wz rfl ?_)))))))))))))
    obtain ⟨r_37, hr_38, hc_19⟩ := bind_some hc_19
    refine h_callq 7 [0] (.inr (by kernel_rfl)) (fun _ _ ag => by exact ⟨.inr (.inr (by kernel_rfl)), ⟨.inr (.inr (by kernel_rfl)), trivial⟩⟩) (mk_Stream_Range_ok hr_38) rfl hb8 rfl (by kernel_rfl) (by kernel_rfl) (by kernel_rfl) (by kernel_rfl) (by kernel_rfl) (by kernel_rfl) (by kernel_rfl) (by decide) (by kernel_rfl) wz (vI r_37.1) (by kernel_rfl) ([((extN 0), some (.cells 2 [(vL eI r_37.2.L), (vI r_37.2.f_at)])), (n_2, some (.cells 4 [(vS (⟨#[]⟩ : ByteArray)), (vI 0), (vI 0), .nil])), (n_9, some (.cells 4 [(vS (⟨#[108]⟩ : ByteArray)), (vI r_3.1), (vI r_6.1), (gV n_18 6 s_15.1)])), (n_18, gB 6 Zone.enc s_15.1), (n_36, some (.cells 6 [(vS x_12), (vI r_27.1), (vI r_30.1), (vI 0), (vI 0), (vI r_33.1)]))] : Hp) (by kernel_rfl) (h_op (.ref (extN 0) 0 0) wz rfl (h_far pl28_2 rfl 2 rfl wz (h_ldr 10 2 (.inr (by kernel_rfl)) (fun _ _ ag => ⟨.inl ⟨rfl, rfl⟩, ⟨.inl ⟨rfl, rfl⟩, ⟨.inr (.inl (dis1 (ag_ne ag (i := 2) (j := 0) rfl rfl (by decide)))), trivial⟩⟩⟩) sz3 ag3 rfl rfl (vI r_6.1) rfl wz (h_far pl107_1 rfl 1 rfl wz (h_far pl49_1 rfl 2 rfl wz (h_ldr 13 4 (.inr (by kernel_rfl)) (fun _ _ ag => ⟨.inl ⟨rfl, rfl⟩, ⟨.inl ⟨rfl, rfl⟩, ⟨.inr (.inl (dis1 (ag_ne ag (i := 4) (j := 0) rfl rfl (by decide)))), ⟨.inl ⟨rfl, rfl⟩, trivial⟩⟩⟩⟩) sz3 ag3 rfl rfl (vI r_30.1) rfl wz (h_op (vI (w64 (r_6.1 - r_30.1))) wz rfl ?_)))))))
    obtain ⟨r_40, hr_41, hc_19⟩ := bind_some hc_19
    refine h_callq 15 [0] (.inr (by kernel_rfl)) (fun _ _ ag => by exact ⟨.inr (.inr (by kernel_rfl)), ⟨.inr (.inr (by kernel_rfl)), ⟨.inr (.inr (by kernel_rfl)), ⟨.inr (.inr (by kernel_rfl)), ⟨.inr (.inr (by kernel_rfl)), trivial⟩⟩⟩⟩⟩) (mk_Stream_Range_ok hr_41) rfl hb8 rfl (by kernel_rfl) (by kernel_rfl) (by kernel_rfl) (by kernel_rfl) (by kernel_rfl) (by kernel_rfl) (by kernel_rfl) (by decide) (by kernel_rfl) wz (vI r_40.1) (by kernel_rfl) ([((extN 0), some (.cells 2 [(vL eI r_40.2.L), (vI r_40.2.f_at)])), (n_2, some (.cells 4 [(vS (⟨#[]⟩ : ByteArray)), (vI 0), (vI 0), .nil])), (n_9, some (.cells 4 [(vS (⟨#[108]⟩ : ByteArray)), (vI r_3.1), (vI r_6.1), (gV n_18 6 s_15.1)])), (n_18, gB 6 Zone.enc s_15.1), (n_36, some (.cells 6 [(vS x_12), (vI r_27.1), (vI r_30.1), (vI 0), (vI 0), (vI r_33.1)]))] : Hp) (by kernel_rfl) (h_far pl107_1 rfl 1 rfl wz (h_far pl49_2 rfl 3 rfl wz (h_str 18 (.inr (by kernel_rfl)) (fun _ _ ag => ⟨.inr (.inr (by kernel_rfl)), ⟨.inr (.inr (by kernel_rfl)), ⟨.inr (.inr (by kernel_rfl)), ⟨.inr (.inr (by kernel_rfl)), ⟨.inr (.inr (by kernel_rfl)), ⟨.inr (.inr (by kernel_rfl)), trivial⟩⟩⟩⟩⟩⟩) 4 sz3 rfl rfl [(vS x_12), (vI r_27.1), (vI r_30.1), (vI r_37.1), (vI 0), (vI r_33.1)] rfl wz (h_far pl107_1 rfl 1 rfl wz (h_far pl49_3 rfl 4 rfl wz (h_str 21 (.inr (by kernel_rfl)) (fun _ _ ag => ⟨.inr (.inr (by kernel_rfl)), ⟨.inr (.inr (by kernel_rfl)), ⟨.inr (.inr (by kernel_rfl)), ⟨.inr (.inr (by kernel_rfl)), ⟨.inr (.inr (by kernel_rfl)), ⟨.inr (.inr (by kernel_rfl)), ⟨.inr (.inr (by kernel_rfl)), trivial⟩⟩⟩⟩⟩⟩⟩) 4 sz3 rfl rfl [(vS x_12), (vI r_27.1), (vI r_30.1), (vI r_37.1), (vI r_40.1), (vI r_33.1)] rfl wz (h_nil (wH_at (H0 := ([((extN 0), some (.cells 2 [(vL eI r_40.2.L), (vI r_40.2.f_at)])), (n_2, some (.cells 4 [(vS (⟨#[]⟩ : ByteArray)), (vI 0), (vI 0), .nil])), (n_9, some (.cells 4 [(vS (⟨#[108]⟩ : ByteArray)), (vI r_3.1), (vI r_6.1), (gV n_18 6 s_15.1)])), (n_18, gB 6 Zone.enc s_15.1), (n_36, some (.cells 6 [(vS x_12), (vI r_27.1), (vI r_30.1), (vI r_37.1), (vI r_40.1), (vI r_33.1)]))] : Hp)) ([(0, (.ref (extN 0) 0 0)), (2, (.ref n_2 0 0)), (3, (.ref n_9 0 0)), (6, (.ref n_36 0 0)), (14, (vL eS ([(⟨#[122, 97]⟩ : ByteArray), (⟨#[122, 98]⟩ : ByteArray), (⟨#[122, 99]⟩ : ByteArray), (⟨#[122, 100]⟩ : ByteArray)] : List ByteArray))), (15, (vI (([(⟨#[122, 97]⟩ : ByteArray), (⟨#[122, 98]⟩ : ByteArray), (⟨#[122, 99]⟩ : ByteArray), (⟨#[122, 100]⟩ : ByteArray)] : List ByteArray).length : Int))), (16, (vI (k_10 : Int)))] : List (Nat × V)) (by kernel_rfl) (pre_mk (by kernel_rfl)) (wH_region (h_far pl28_3 rfl 3 rfl wz (h_ldr 0 2 (.inl rfl) (fun _ _ _ => trivial) sz26 ag26 rfl rfl (gV n_18 6 s_15.1) rfl wz (h_ldr 0 4 (.inl rfl) (fun _ _ _ => trivial) sz107 ag107 rfl rfl (.d (.agg (Zone.enc (⟨x_12, (⟨r_27.1, r_30.1, r_37.1, r_40.1⟩ : Rect), r_33.1⟩ : Zone)))) rfl wz (h_lit (([(⟨x_12, (⟨r_27.1, r_30.1, r_37.1, r_40.1⟩ : Rect), r_33.1⟩ : Zone)] : List Zone).map Zone.enc) es26 ez26 rfl rfl rfl rfl rfl wz ?_)))))))))))))
    obtain ⟨a_43, hz_44, hc_19⟩ := bind_some hc_19
    refine h_appg 0 (.inl rfl) (fun _ _ _ => trivial) (i := 3) el26 el26 sz107 z107 rfl (by decide) by107 (by decide) (fun _ => rfl) rfl rfl rfl hz_44 wz (fun n_45 => h_far pl28_3 rfl 3 rfl wz (h_str 0 (.inl rfl) (fun _ _ _ => trivial) 2 sz26 rfl rfl [(vS (⟨#[108]⟩ : ByteArray)), (vI r_3.1), (vI r_6.1), (gV n_45 6 a_43)] (stC_g rfl) wz (h_nil (wH_region (h_opw (w64_next hD_13 hn_14) wz rfl (h_op (vI ((k_10 + 1 : Nat) : Int)) wz rfl (h_nil ?_)))))))
    obtain rfl := some_inj hc_19
    exact loop_mk (k_10 + 1, l_11, (a_43, r_40.2.L, r_40.2.f_at), n_45) ⟨hL_20, drop_next hD_13⟩ (Nat.lt_succ_self _) rfl (pre_r rfl)
 ·rintro ⟨s_15, n_18⟩ ho_ sl_ H_ hp_ hq_
  subst ho_
  refine wH_at _ hp_ hq_ (wH_seq (wH_frozg 3 rfl (wH_coc 3 2 [(vS (⟨#[108]⟩ : ByteArray)), (vI r_3.1), (vI r_6.1), (vL Zone.enc s_15.1)] rfl rfl (fun S hS => cons_eq (rfl) (cons_eq (rfl) (cons_eq (rfl) (cons_eq (hS) (rfl))))) (wH_region (h_ldr 0 2 (.inl rfl) (fun _ _ _ => trivial) sz28 ag28 rfl rfl (.d (.agg (Layout.enc (⟨(⟨#[108]⟩ : ByteArray), r_3.1, r_6.1, s_15.1⟩ : Layout)))) rfl wz (h_str 0 (.inl rfl) (fun _ _ _ => trivial) 1 sz28 rfl rfl [(vS (⟨#[108]⟩ : ByteArray)), (vI r_3.1), (vI r_6.1), (vL Zone.enc s_15.1)] rfl wz (h_nil ?_)))))))
  obtain rfl := some_inj hF
  exact wH_ret (finB (.inr rfl) [(.d (.agg (Layout.enc (⟨(⟨#[108]⟩ : ByteArray), r_3.1, r_6.1, s_15.1⟩ : Layout))))] _ [0] [extN 0] ⟨⟨1, _, _, _, _, _, _, _, rfl, rfl, sz28, ag28, rfl⟩, trivial⟩ (.cons (co_data rfl rfl) (.nil)) (by kernel_rfl) ⟨(by kernel_rfl), trivial⟩ (by decide) (by kernel_rfl))
theorem mk_Stream_Some_ok {s_1 : Stream} {l_2 : (List ByteArray)} {r : ByteArray × Stream} (hF : mk_Stream_Some s_1 l_2 = some r) :
  FnM Tryz.prog 58 [(.ref (extN 0) 0 0), (vL eS l_2)] [(.cells 2 [(vL eI s_1.L), (vI s_1.f_at)])] (vS r.1) [some (.cells 2 [(vL eI r.2.L), (vI r.2.f_at)])] := by
 refine FnM.of_wH ⟨Tryz.prog, 12, [], []⟩ rfl Tryz.func58 rfl rfl (Nat.le_of_ble_eq_true rfl) (by kernel_rfl) ?_
 unfold mk_Stream_Some at hF
 refine wH_seq (wH_region (h_op (vS (⟨#[]⟩ : ByteArray)) wz rfl (h_nil (wH_seq (wH_region (h_op (vL eS l_2) wz rfl (h_op (.ref (extN 0) 0 0) wz rfl (h_op (vL eS l_2) wz rfl (h_len un38 rfl wz ?_)))))))))
 obtain ⟨r_3, hr_4, hF⟩ := bind_some hF
 refine h_callq 0 [0] (.inl rfl) (fun _ _ _ => trivial) (mk_Stream_Next_ok hr_4) rfl hb57 rfl (by kernel_rfl) (by kernel_rfl) (by kernel_rfl) (by kernel_rfl) (by kernel_rfl) (by kernel_rfl) (by kernel_rfl) (by decide) (by kernel_rfl) wz (vI r_3.1) (by kernel_rfl) ([((extN 0), some (.cells 2 [(vL eI r_3.2.L), (vI r_3.2.f_at)]))] : Hp) (by kernel_rfl) ?_
 obtain ⟨y_6, hy_7, hF⟩ := bind_some hF
 refine h_ia es38 rfl rfl hy_7 rfl wz (h_ldc sz9 ag9 rfl (vS y_6) rfl wz (h_op (vS y_6) wz rfl (h_nil ?_)))
 obtain rfl := some_inj hF
 exact wH_ret (finB (.inr rfl) [(vS y_6)] _ [0] [extN 0] ⟨rfl, trivial⟩ (.cons (co_data rfl rfl) (.nil)) (by kernel_rfl) ⟨(by kernel_rfl), trivial⟩ (by decide) (by kernel_rfl))
theorem mk_Stream_Odd_ok {s_1 : Stream} {low_2 : Int} {high_3 : Int} {r : Int × Stream} (hF : mk_Stream_Odd s_1 low_2 high_3 = some r) :
  FnM Tryz.prog 10 [(.ref (extN 0) 0 0), (vI low_2), (vI high_3)] [(.cells 2 [(vL eI s_1.L), (vI s_1.f_at)])] (vI r.1) [some (.cells 2 [(vL eI r.2.L), (vI r.2.f_at)])] := by
 refine FnM.of_wH ⟨Tryz.prog, 22, [], []⟩ rfl Tryz.func10 rfl rfl (Nat.le_of_ble_eq_true rfl) (by kernel_rfl) ?_
 unfold mk_Stream_Odd at hF
 refine wH_seq (wH_region (h_op (vI 0) wz rfl (h_nil (wH_seq (wH_seq (wH_region (h_op (.ref (extN 0) 0 0) wz rfl ?_)))))))
 obtain ⟨r_4, hr_5, hF⟩ := bind_some hF
 refine h_callq 0 [0] (.inl rfl) (fun _ _ _ => trivial) (mk_Stream_Flip_ok hr_5) rfl hb9 rfl (by kernel_rfl) (by kernel_rfl) (by kernel_rfl) (by kernel_rfl) (by kernel_rfl) (by kernel_rfl) (by kernel_rfl) (by decide) (by kernel_rfl) wz (vB r_4.1) (by kernel_rfl) ([((extN 0), some (.cells 2 [(vL eI r_4.2.L), (vI r_4.2.f_at)]))] : Hp) (by kernel_rfl) (h_nil ?_)
 rcases cond_some hF with ⟨hc_7, hF⟩ | ⟨hc_7, hF⟩
 ·refine wH_ift rfl hc_7 (wH_seq (wH_region (h_op (.ref (extN 0) 0 0) wz rfl (h_op (vI low_2) wz rfl (h_op (vI (w64 (low_2 - 1))) wz rfl (h_op (vI high_3) wz rfl (h_op (vI (w64 (high_3 + 1))) wz rfl (h_op (vI low_2) wz rfl (h_op (vI high_3) wz rfl (h_lit (([(w64 (low_2 - 1)), (w64 (high_3 + 1)), low_2, high_3, (-1099511627776), 1099511627776] : List Int).map eI) es22 ez22 rfl rfl rfl rfl rfl wz ?_))))))))))
  obtain ⟨r_8, hr_9, hF⟩ := bind_some hF
  refine h_callq 0 [0] (.inl rfl) (fun _ _ _ => trivial) (mk_Stream_Pick_ok hr_9) rfl hb45 rfl (by kernel_rfl) (by kernel_rfl) (by kernel_rfl) (by kernel_rfl) (by kernel_rfl) (by kernel_rfl) (by kernel_rfl) (by decide) (by kernel_rfl) wz (vI r_8.1) (by kernel_rfl) ([((extN 0), some (.cells 2 [(vL eI r_8.2.L), (vI r_8.2.f_at)]))] : Hp) (by kernel_rfl) (h_op (vI r_8.1) wz rfl (h_nil ?_))
  obtain rfl := some_inj hF
  exact wH_ret (finB (.inr rfl) [(vI r_8.1)] _ [0] [extN 0] ⟨rfl, trivial⟩ (.cons (co_data rfl rfl) (.nil)) (by kernel_rfl) ⟨(by kernel_rfl), trivial⟩ (by decide) (by kernel_rfl))
 ·refine wH_iff rfl hc_7 (wH_skip (wH_seq (wH_region (h_op (.ref (extN 0) 0 0) wz rfl (h_op (vI low_2) wz rfl (h_op (vI high_3) wz rfl ?_))))))
  obtain ⟨r_11, hr_12, hF⟩ := bind_some hF
  refine h_callq 0 [0] (.inl rfl) (fun _ _ _ => trivial) (mk_Stream_Range_ok hr_12) rfl hb8 rfl (by kernel_rfl) (by kernel_rfl) (by kernel_rfl) (by kernel_rfl) (by kernel_rfl) (by kernel_rfl) (by kernel_rfl) (by decide) (by kernel_rfl) wz (vI r_11.1) (by kernel_rfl) ([((extN 0), some (.cells 2 [(vL eI r_11.2.L), (vI r_11.2.f_at)]))] : Hp) (by kernel_rfl) (h_op (vI r_11.1) wz rfl (h_nil ?_))
  obtain rfl := some_inj hF
  exact wH_ret (finB (.inr rfl) [(vI r_11.1)] _ [0] [extN 0] ⟨rfl, trivial⟩ (.cons (co_data rfl rfl) (.nil)) (by kernel_rfl) ⟨(by kernel_rfl), trivial⟩ (by decide) (by kernel_rfl))
theorem mk_Stream_RightRect_ok {s_1 : Stream} {r : Rect × Stream} (hF : mk_Stream_RightRect s_1 = some r) :
  FnM Tryz.prog 82 [(.ref (extN 0) 0 0)] [(.cells 2 [(vL eI s_1.L), (vI s_1.f_at)])] (.d (.agg (Rect.enc r.1))) [some (.cells 2 [(vL eI r.2.L), (vI r.2.f_at)])] := by
 refine FnM.of_wH ⟨Tryz.prog, 12, [], []⟩ rfl Tryz.func82 rfl rfl (Nat.le_of_ble_eq_true rfl) (by kernel_rfl) ?_
 unfold mk_Stream_RightRect at hF
 refine wH_seq (wH_region (h_alloc 0 (.inl rfl) z49 rfl wz (fun n_2 => h_nil (wH_seq (wH_region (h_op (.ref (extN 0) 0 0) wz rfl ?_))))))
 obtain ⟨r_3, hr_4, hF⟩ := bind_some hF
 refine h_callq 0 [0] (.inl rfl) (fun _ _ _ => trivial) (mk_Stream_Range_ok hr_4) rfl hb8 rfl (by kernel_rfl) (by kernel_rfl) (by kernel_rfl) (by kernel_rfl) (by kernel_rfl) (by kernel_rfl) (by kernel_rfl) (by decide) (by kernel_rfl) wz (vI r_3.1) (by kernel_rfl) ([((extN 0), some (.cells 2 [(vL eI r_3.2.L), (vI r_3.2.f_at)])), (n_2, some (.cells 4 [(vI 0), (vI 0), (vI 0), (vI 0)]))] : Hp) (by kernel_rfl) (h_op (.ref (extN 0) 0 0) wz rfl ?_)
 obtain ⟨r_6, hr_7, hF⟩ := bind_some hF
 refine h_callq 0 [0] (.inl rfl) (fun _ _ _ => trivial) (mk_Stream_Range_ok hr_7) rfl hb8 rfl (by kernel_rfl) (by kernel_rfl) (by kernel_rfl) (by kernel_rfl) (by kernel_rfl) (by kernel_rfl) (by kernel_rfl) (by decide) (by kernel_rfl) wz (vI r_6.1) (by kernel_rfl) ([((extN 0), some (.cells 2 [(vL eI r_6.2.L), (vI r_6.2.f_at)])), (n_2, some (.cells 4 [(vI 0), (vI 0), (vI 0), (vI 0)]))] : Hp) (by kernel_rfl) (h_op (.ref (extN 0) 0 0) wz rfl ?_)
 obtain ⟨r_9, hr_10, hF⟩ := bind_some hF
 refine h_callq 0 [0] (.inl rfl) (fun _ _ _ => trivial) (mk_Stream_Range_ok hr_10) rfl hb8 rfl (by kernel_rfl) (by kernel_rfl) (by kernel_rfl) (by kernel_rfl) (by kernel_rfl) (by kernel_rfl) (by kernel_rfl) (by decide) (by kernel_rfl) wz (vI r_9.1) (by kernel_rfl) ([((extN 0), some (.cells 2 [(vL eI r_9.2.L), (vI r_9.2.f_at)])), (n_2, some (.cells 4 [(vI 0), (vI 0), (vI 0), (vI 0)]))] : Hp) (by kernel_rfl) (h_op (.ref (extN 0) 0 0) wz rfl ?_)
 obtain ⟨r_12, hr_13, hF⟩ := bind_some hF
 refine h_callq 0 [0] (.inl rfl) (fun _ _ _ => trivial) (mk_Stream_Range_ok hr_13) rfl hb8 rfl (by kernel_rfl) (by kernel_rfl) (by kernel_rfl) (by kernel_rfl) (by kernel_rfl) (by kernel_rfl) (by kernel_rfl) (by decide) (by kernel_rfl) wz (vI r_12.1) (by kernel_rfl) ([((extN 0), some (.cells 2 [(vL eI r_12.2.L), (vI r_12.2.f_at)])), (n_2, some (.cells 4 [(vI 0), (vI 0), (vI 0), (vI 0)]))] : Hp) (by kernel_rfl) (h_op (.d (.agg (Rect.enc (⟨r_3.1, r_6.1, r_9.1, r_12.1⟩ : Rect)))) wz (by kernel_rfl) (h_str 0 (.inl rfl) (fun _ _ _ => trivial) 1 sz49 rfl rfl [(vI r_3.1), (vI r_6.1), (vI r_9.1), (vI r_12.1)] rfl wz (h_nil ?_)))
 obtain rfl := some_inj hF
 exact wH_ret (finB (.inr rfl) [(.d (.agg (Rect.enc (⟨r_3.1, r_6.1, r_9.1, r_12.1⟩ : Rect))))] _ [0] [extN 0] ⟨⟨1, _, _, _, _, _, _, _, rfl, rfl, sz49, ag49, rfl⟩, trivial⟩ (.cons (co_data rfl rfl) (.nil)) (by kernel_rfl) ⟨(by kernel_rfl), trivial⟩ (by decide) (by kernel_rfl))
theorem mk_Stream_Rect_ok {s_1 : Stream} {r : Rect × Stream} (hF : mk_Stream_Rect s_1 = some r) :
  FnM Tryz.prog 25 [(.ref (extN 0) 0 0)] [(.cells 2 [(vL eI s_1.L), (vI s_1.f_at)])] (.d (.agg (Rect.enc r.1))) [some (.cells 2 [(vL eI r.2.L), (vI r.2.f_at)])] := by
 refine FnM.of_wH ⟨Tryz.prog, 32, [], []⟩ rfl Tryz.func25 rfl rfl (Nat.le_of_ble_eq_true rfl) (by kernel_rfl) ?_
 unfold mk_Stream_Rect at hF
 refine wH_seq (wH_region (h_alloc 0 (.inl rfl) z49 rfl wz (fun n_2 => h_nil (wH_seq (wH_region (h_op (.ref (extN 0) 0 0) wz rfl ?_))))))
 obtain ⟨r_3, hr_4, hF⟩ := bind_some hF
 refine h_callq 0 [0] (.inl rfl) (fun _ _ _ => trivial) (mk_Stream_RightRect_ok hr_4) rfl hb82 rfl (by kernel_rfl) (by kernel_rfl) (by kernel_rfl) (by kernel_rfl) (by kernel_rfl) (by kernel_rfl) (by kernel_rfl) (by decide) (by kernel_rfl) wz (.d (.agg (Rect.enc r_3.1))) (by kernel_rfl) ([((extN 0), some (.cells 2 [(vL eI r_3.2.L), (vI r_3.2.f_at)])), (n_2, some (.cells 4 [(vI 0), (vI 0), (vI 0), (vI 0)]))] : Hp) (by kernel_rfl) (h_alloc 0 (.inl rfl) z49 rfl wz (fun n_6 => h_str 0 (.inl rfl) (fun _ _ _ => trivial) 2 sz49 rfl rfl [(vI r_3.1.X), (vI r_3.1.Y), (vI r_3.1.W), (vI r_3.1.H)] rfl wz (h_nil (wH_seq (wH_seq (wH_region (h_op (.ref (extN 0) 0 0) wz rfl ?_)))))))
 obtain ⟨r_7, hr_8, hF⟩ := bind_some hF
 refine h_callq 0 [0] (.inl rfl) (fun _ _ _ => trivial) (mk_Stream_Flip_ok hr_8) rfl hb9 rfl (by kernel_rfl) (by kernel_rfl) (by kernel_rfl) (by kernel_rfl) (by kernel_rfl) (by kernel_rfl) (by kernel_rfl) (by decide) (by kernel_rfl) wz (vB r_7.1) (by kernel_rfl) ([((extN 0), some (.cells 2 [(vL eI r_7.2.L), (vI r_7.2.f_at)])), (n_2, some (.cells 4 [(vI 0), (vI 0), (vI 0), (vI 0)])), (n_6, some (.cells 4 [(vI r_3.1.X), (vI r_3.1.Y), (vI r_3.1.W), (vI r_3.1.H)]))] : Hp) (by kernel_rfl) (h_nil ?_)
 obtain ⟨v_10, h_11, hF⟩ := bind_some hF
 refine wH_join (β := Unit) (fun _ => ([(2, (.ref n_2 0 0)), (3, (.ref n_6 0 0))] : List (Nat × V))) (fun _ => ([((extN 0), some (.cells 2 [(vL eI v_10.1), (vI v_10.2.1)])), (n_2, some (.cells 4 [(vI 0), (vI 0), (vI 0), (vI 0)])), (n_6, some (.cells 4 [(vI v_10.2.2.1), (vI v_10.2.2.2.1), (vI v_10.2.2.2.2.1), (vI v_10.2.2.2.2.2)]))] : Hp)) (fun _ => True) ?_ ?_
 ·rcases cond_some h_11 with ⟨hc_12, h_11⟩ | ⟨hc_12, h_11⟩
  ·refine wH_ift rfl hc_12 (wH_seq (wH_region (h_op (.ref (extN 0) 0 0) wz rfl ?_)))
   obtain ⟨r_13, hr_14, h_11⟩ := bind_some h_11
   refine h_callq 0 [0] (.inl rfl) (fun _ _ _ => trivial) (mk_Stream_Next_ok hr_14) rfl hb57 rfl (by kernel_rfl) (by kernel_rfl) (by kernel_rfl) (by kernel_rfl) (by kernel_rfl) (by kernel_rfl) (by kernel_rfl) (by decide) (by kernel_rfl) wz (vI r_13.1) (by kernel_rfl) ([((extN 0), some (.cells 2 [(vL eI r_13.2.L), (vI r_13.2.f_at)])), (n_2, some (.cells 4 [(vI 0), (vI 0), (vI 0), (vI 0)])), (n_6, some (.cells 4 [(vI r_3.1.X), (vI r_3.1.Y), (vI r_3.1.W), (vI r_3.1.H)]))] : Hp) (by kernel_rfl) (h_nil (wH_block (wH_seq (wH_region (h_op (vB (r_13.1 == 0)) wz rfl (h_op (vB (r_13.1 == 0)) wz rfl (h_nil ?_)))))))
   rcases cond_some h_11 with ⟨hc_16, h_11⟩ | ⟨hc_16, h_11⟩
   ·refine wH_ift rfl hc_16 (wH_region (h_op (.ref (extN 0) 0 0) wz rfl ?_))
    obtain ⟨r_17, hr_18, h_11⟩ := bind_some h_11
    refine h_callq 0 [0] (.inl rfl) (fun _ _ _ => trivial) (mk_Stream_Odd_ok hr_18) rfl hb10 rfl (by kernel_rfl) (by kernel_rfl) (by kernel_rfl) (by kernel_rfl) (by kernel_rfl) (by kernel_rfl) (by kernel_rfl) (by decide) (by kernel_rfl) wz (vI r_17.1) (by kernel_rfl) ([((extN 0), some (.cells 2 [(vL eI r_17.2.L), (vI r_17.2.f_at)])), (n_2, some (.cells 4 [(vI 0), (vI 0), (vI 0), (vI 0)])), (n_6, some (.cells 4 [(vI r_3.1.X), (vI r_3.1.Y), (vI r_3.1.W), (vI r_3.1.H)]))] : Hp) (by kernel_rfl) (h_far pl49_0 rfl 0 rfl wz (h_str 0 (.inl rfl) (fun _ _ _ => trivial) 2 sz3 rfl rfl [(vI r_17.1), (vI r_3.1.Y), (vI r_3.1.W), (vI r_3.1.H)] rfl wz (h_nil ?_)))
    obtain rfl := some_inj h_11
    exact cut_mk () trivial rfl (pre_r rfl)
   ·refine wH_iff rfl hc_16 (wH_seq (wH_region (h_op (vB (r_13.1 == 1)) wz rfl (h_op (vB (r_13.1 == 1)) wz rfl (h_nil ?_)))))
    rcases cond_some h_11 with ⟨hc_20, h_11⟩ | ⟨hc_20, h_11⟩
    ·refine wH_ift rfl hc_20 (wH_region (h_op (.ref (extN 0) 0 0) wz rfl ?_))
     obtain ⟨r_21, hr_22, h_11⟩ := bind_some h_11
     refine h_callq 0 [0] (.inl rfl) (fun _ _ _ => trivial) (mk_Stream_Odd_ok hr_22) rfl hb10 rfl (by kernel_rfl) (by kernel_rfl) (by kernel_rfl) (by kernel_rfl) (by kernel_rfl) (by kernel_rfl) (by kernel_rfl) (by decide) (by kernel_rfl) wz (vI r_21.1) (by kernel_rfl) ([((extN 0), some (.cells 2 [(vL eI r_21.2.L), (vI r_21.2.f_at)])), (n_2, some (.cells 4 [(vI 0), (vI 0), (vI 0), (vI 0)])), (n_6, some (.cells 4 [(vI r_3.1.X), (vI r_3.1.Y), (vI r_3.1.W), (vI r_3.1.H)]))] : Hp) (by kernel_rfl) (h_op (.ref (extN 0) 0 0) wz rfl ?_)
     obtain ⟨r_24, hr_25, h_11⟩ := bind_some h_11
     refine h_callq 0 [0] (.inl rfl) (fun _ _ _ => trivial) (mk_Stream_Odd_ok hr_25) rfl hb10 rfl (by kernel_rfl) (by kernel_rfl) (by kernel_rfl) (by kernel_rfl) (by kernel_rfl) (by kernel_rfl) (by kernel_rfl) (by decide) (by kernel_rfl) wz (vI r_24.1) (by kernel_rfl) ([((extN 0), some (.cells 2 [(vL eI r_24.2.L), (vI r_24.2.f_at)])), (n_2, some (.cells 4 [(vI 0), (vI 0), (vI 0), (vI 0)])), (n_6, some (.cells 4 [(vI r_3.1.X), (vI r_3.1.Y), (vI r_3.1.W), (vI r_3.1.H)]))] : Hp) (by kernel_rfl) (h_far pl49_2 rfl 2 rfl wz (h_str 0 (.inl rfl) (fun _ _ _ => trivial) 2 sz3 rfl rfl [(vI r_3.1.X), (vI r_3.1.Y), (vI r_21.1), (vI r_3.1.H)] rfl wz (h_far pl49_3 rfl 3 rfl wz (h_str 0 (.inl rfl) (fun _ _ _ => trivial) 2 sz3 rfl rfl [(vI r_3.1.X), (vI r_3.1.Y), (vI r_21.1), (vI r_24.1)] rfl wz (h_nil ?_)))))
     obtain rfl := some_inj h_11
     exact cut_mk () trivial rfl (pre_r rfl)
    ·refine wH_iff rfl hc_20 (wH_region (h_op (.ref (extN 0) 0 0) wz rfl (h_lit (([(-100000), 99999] : List Int).map eI) es22 ez22 rfl rfl rfl rfl rfl wz ?_)))
     obtain ⟨r_27, hr_28, h_11⟩ := bind_some h_11
     refine h_callq 0 [0] (.inl rfl) (fun _ _ _ => trivial) (mk_Stream_Pick_ok hr_28) rfl hb45 rfl (by kernel_rfl) (by kernel_rfl) (by kernel_rfl) (by kernel_rfl) (by kernel_rfl) (by kernel_rfl) (by kernel_rfl) (by decide) (by kernel_rfl) wz (vI r_27.1) (by kernel_rfl) ([((extN 0), some (.cells 2 [(vL eI r_27.2.L), (vI r_27.2.f_at)])), (n_2, some (.cells 4 [(vI 0), (vI 0), (vI 0), (vI 0)])), (n_6, some (.cells 4 [(vI r_3.1.X), (vI r_3.1.Y), (vI r_3.1.W), (vI r_3.1.H)]))] : Hp) (by kernel_rfl) (h_op (.ref (extN 0) 0 0) wz rfl (h_lit (([1, 2, 200000] : List Int).map eI) es22 ez22 rfl rfl rfl rfl rfl wz ?_))
     obtain ⟨r_30, hr_31, h_11⟩ := bind_some h_11
     refine h_callq 0 [0] (.inl rfl) (fun _ _ _ => trivial) (mk_Stream_Pick_ok hr_31) rfl hb45 rfl (by kernel_rfl) (by kernel_rfl) (by kernel_rfl) (by kernel_rfl) (by kernel_rfl) (by kernel_rfl) (by kernel_rfl) (by decide) (by kernel_rfl) wz (vI r_30.1) (by kernel_rfl) ([((extN 0), some (.cells 2 [(vL eI r_30.2.L), (vI r_30.2.f_at)])), (n_2, some (.cells 4 [(vI 0), (vI 0), (vI 0), (vI 0)])), (n_6, some (.cells 4 [(vI r_3.1.X), (vI r_3.1.Y), (vI r_3.1.W), (vI r_3.1.H)]))] : Hp) (by kernel_rfl) (h_far pl49_1 rfl 1 rfl wz (h_str 0 (.inl rfl) (fun _ _ _ => trivial) 2 sz3 rfl rfl [(vI r_3.1.X), (vI r_27.1), (vI r_3.1.W), (vI r_3.1.H)] rfl wz (h_far pl49_3 rfl 3 rfl wz (h_str 0 (.inl rfl) (fun _ _ _ => trivial) 2 sz3 rfl rfl [(vI r_3.1.X), (vI r_27.1), (vI r_3.1.W), (vI r_30.1)] rfl wz (h_nil ?_)))))
     obtain rfl := some_inj h_11
     exact cut_mk () trivial rfl (pre_r rfl)
  ·refine wH_iff rfl hc_12 (wH_skip ?_)
   obtain rfl := some_inj h_11
   exact cut_mk () trivial rfl (pre_r rfl)
 ·rintro ⟨⟩ _ sl_ H_ hp_ hq_
  refine wH_at _ hp_ hq_ (wH_seq (wH_region (h_ldr 0 2 (.inl rfl) (fun _ _ _ => trivial) sz49 ag49 rfl rfl (.d (.agg (Rect.enc (⟨v_10.2.2.1, v_10.2.2.2.1, v_10.2.2.2.2.1, v_10.2.2.2.2.2⟩ : Rect)))) rfl wz (h_str 0 (.inl rfl) (fun _ _ _ => trivial) 1 sz49 rfl rfl [(vI v_10.2.2.1), (vI v_10.2.2.2.1), (vI v_10.2.2.2.2.1), (vI v_10.2.2.2.2.2)] rfl wz (h_nil ?_)))))
  obtain rfl := some_inj hF
  exact wH_ret (finB (.inr rfl) [(.d (.agg (Rect.enc (⟨v_10.2.2.1, v_10.2.2.2.1, v_10.2.2.2.2.1, v_10.2.2.2.2.2⟩ : Rect))))] _ [0] [extN 0] ⟨⟨1, _, _, _, _, _, _, _, rfl, rfl, sz49, ag49, rfl⟩, trivial⟩ (.cons (co_data rfl rfl) (.nil)) (by kernel_rfl) ⟨(by kernel_rfl), trivial⟩ (by decide) (by kernel_rfl))
theorem slices_Clone_api_Zone_api_Zone_okb {s_1 : (List Zone)} {r : (List Zone)} (hF : slices_Clone_api_Zone_api_Zone s_1 = some r) :
  FnM Tryz.prog 59 [(vL Zone.enc s_1)] [] (gV (extN 0) 6 r) (([] : List Box).map some ++ gO 6 Zone.enc r) := by
 refine FnM.of_wH ⟨Tryz.prog, 8, [], []⟩ rfl Tryz.func59 rfl rfl (Nat.le_of_ble_eq_true rfl) (by kernel_rfl) ?_
 unfold slices_Clone_api_Zone_api_Zone at hF
 refine wH_seq (wH_region (h_op .nil wz rfl (h_nil (wH_seq (wH_seq (wH_region (h_op (vL Zone.enc s_1) wz rfl (h_nileq un26 rfl wz (fun b_2 hb_3 => h_nil ?_)))))))))
 cases b_2 with
 | true =>
  refine wH_ift rfl rfl ?_
  obtain rfl := hb_3 rfl
  replace hF := clone_nil hF
  refine wH_seq (wH_region (h_op .nil wz rfl (h_nil (wH_new (fun n_4 => ?_)))))
  obtain rfl := some_inj hF
  exact wH_ret (finG (outs := ([] : List Box)) (.inr rfl) 0 rfl rfl rfl (by kernel_rfl) (by kernel_rfl))
 | false =>
  refine wH_iff rfl rfl (wH_skip (wH_seq (wH_region (h_lit0 es26 ez26 rfl wz (h_op (vL Zone.enc s_1) wz rfl ?_)))))
  obtain ⟨a_5, hz_6, hF⟩ := bind_some hF
  refine h_appn 0 (.inl rfl) el26 el26 sz107 z107 rfl (by decide) by107 (by decide) (fun _ => rfl) rfl rfl hz_6 wz (fun n_7 => h_op (gV n_7 6 a_5) wz rfl (h_nil ?_))
  obtain rfl := some_inj hF
  exact wH_ret (finG (outs := ([] : List Box)) (.inr rfl) 0 rfl rfl rfl (by kernel_rfl) (by kernel_rfl))
theorem mk_Stream_Layout_ok {s_1 : Stream} {r : Layout × Stream} (hF : mk_Stream_Layout s_1 = some r) :
  FnM Tryz.prog 7 [(.ref (extN 0) 0 0)] [(.cells 2 [(vL eI s_1.L), (vI s_1.f_at)])] (.d (.agg (Layout.enc r.1))) [some (.cells 2 [(vL eI r.2.L), (vI r.2.f_at)])] := by
 refine FnM.of_wH ⟨Tryz.prog, 36, [], []⟩ rfl Tryz.func7 rfl rfl (Nat.le_of_ble_eq_true rfl) (by kernel_rfl) ?_
 unfold mk_Stream_Layout at hF
 refine wH_seq (wH_region (h_alloc 0 (.inl rfl) z28 rfl wz (fun n_2 => h_nil (wH_seq (wH_region (h_op (.ref (extN 0) 0 0) wz rfl ?_))))))
 obtain ⟨r_3, hr_4, hF⟩ := bind_some hF
 refine h_callq 0 [0] (.inl rfl) (fun _ _ _ => trivial) (mk_Stream_RightLayout_ok hr_4) rfl hb56 rfl (by kernel_rfl) (by kernel_rfl) (by kernel_rfl) (by kernel_rfl) (by kernel_rfl) (by kernel_rfl) (by kernel_rfl) (by decide) (by kernel_rfl) wz (.d (.agg (Layout.enc r_3.1))) (by kernel_rfl) ([((extN 0), some (.cells 2 [(vL eI r_3.2.L), (vI r_3.2.f_at)])), (n_2, some (.cells 4 [(vS (⟨#[]⟩ : ByteArray)), (vI 0), (vI 0), .nil]))] : Hp) (by kernel_rfl) (h_alloc 0 (.inl rfl) z28 rfl wz (fun n_6 => h_str 0 (.inl rfl) (fun _ _ _ => trivial) 2 sz28 rfl rfl [(vS r_3.1.Key), (vI r_3.1.W), (vI r_3.1.H), (vL Zone.enc r_3.1.Zones)] rfl wz (h_nil (wH_seq (wH_seq (wH_region (h_op (.ref (extN 0) 0 0) wz rfl ?_)))))))
 obtain ⟨r_7, hr_8, hF⟩ := bind_some hF
 refine h_callq 0 [0] (.inl rfl) (fun _ _ _ => trivial) (mk_Stream_Flip_ok hr_8) rfl hb9 rfl (by kernel_rfl) (by kernel_rfl) (by kernel_rfl) (by kernel_rfl) (by kernel_rfl) (by kernel_rfl) (by kernel_rfl) (by decide) (by kernel_rfl) wz (vB r_7.1) (by kernel_rfl) ([((extN 0), some (.cells 2 [(vL eI r_7.2.L), (vI r_7.2.f_at)])), (n_2, some (.cells 4 [(vS (⟨#[]⟩ : ByteArray)), (vI 0), (vI 0), .nil])), (n_6, some (.cells 4 [(vS r_3.1.Key), (vI r_3.1.W), (vI r_3.1.H), (vL Zone.enc r_3.1.Zones)]))] : Hp) (by kernel_rfl) (h_nil ?_)
 obtain ⟨v_12, h_13, hF⟩ := bind_some hF
 refine wH_join (β := Unit) (fun _ => ([(2, (.ref n_2 0 0)), (3, (.ref n_6 0 0))] : List (Nat × V))) (fun _ => ([((extN 0), some (.cells 2 [(vL eI v_12.1), (vI v_12.2.1)])), (n_2, some (.cells 4 [(vS (⟨#[]⟩ : ByteArray)), (vI 0), (vI 0), .nil])), (n_6, some (.cells 4 [(vS v_12.2.2.1), (vI r_3.1.W), (vI v_12.2.2.2.1), (vL Zone.enc v_12.2.2.2.2)]))] : Hp)) (fun _ => True) ?_ ?_
 ·rcases cond_some h_13 with ⟨hc_14, h_13⟩ | ⟨hc_14, h_13⟩
  ·refine wH_ift rfl hc_14 (wH_seq (wH_region (h_op (.ref (extN 0) 0 0) wz rfl ?_)))
   obtain ⟨r_15, hr_16, h_13⟩ := bind_some h_13
   refine h_callq 0 [0] (.inl rfl) (fun _ _ _ => trivial) (mk_Stream_Next_ok hr_16) rfl hb57 rfl (by kernel_rfl) (by kernel_rfl) (by kernel_rfl) (by kernel_rfl) (by kernel_rfl) (by kernel_rfl) (by kernel_rfl) (by decide) (by kernel_rfl) wz (vI r_15.1) (by kernel_rfl) ([((extN 0), some (.cells 2 [(vL eI r_15.2.L), (vI r_15.2.f_at)])), (n_2, some (.cells 4 [(vS (⟨#[]⟩ : ByteArray)), (vI 0), (vI 0), .nil])), (n_6, some (.cells 4 [(vS r_3.1.Key), (vI r_3.1.W), (vI r_3.1.H), (vL Zone.enc r_3.1.Zones)]))] : Hp) (by kernel_rfl) (h_nil (wH_block (wH_seq (wH_region (h_op (vB (r_15.1 == 0)) wz rfl (h_op (vB (r_15.1 == 0)) wz rfl (h_nil ?_)))))))
   rcases cond_some h_13 with ⟨hc_18, h_13⟩ | ⟨hc_18, h_13⟩
   ·refine wH_ift rfl hc_18 (wH_region (h_op (.ref (extN 0) 0 0) wz rfl (h_lit (([(⟨#[]⟩ : ByteArray), (⟨#[65]⟩ : ByteArray)] : List ByteArray).map eS) es38 ez38 rfl rfl rfl rfl rfl wz ?_)))
    obtain ⟨r_19, hr_20, h_13⟩ := bind_some h_13
    refine h_callq 0 [0] (.inl rfl) (fun _ _ _ => trivial) (mk_Stream_Some_ok hr_20) rfl hb58 rfl (by kernel_rfl) (by kernel_rfl) (by kernel_rfl) (by kernel_rfl) (by kernel_rfl) (by kernel_rfl) (by kernel_rfl) (by decide) (by kernel_rfl) wz (vS r_19.1) (by kernel_rfl) ([((extN 0), some (.cells 2 [(vL eI r_19.2.L), (vI r_19.2.f_at)])), (n_2, some (.cells 4 [(vS (⟨#[]⟩ : ByteArray)), (vI 0), (vI 0), .nil])), (n_6, some (.cells 4 [(vS r_3.1.Key), (vI r_3.1.W), (vI r_3.1.H), (vL Zone.enc r_3.1.Zones)]))] : Hp) (by kernel_rfl) (h_far pl28_0 rfl 0 rfl wz (h_str 0 (.inl rfl) (fun _ _ _ => trivial) 2 sz9 rfl rfl [(vS r_19.1), (vI r_3.1.W), (vI r_3.1.H), (vL Zone.enc r_3.1.Zones)] rfl wz (h_nil ?_)))
    obtain rfl := some_inj h_13
    exact cut_mk () trivial rfl (pre_r rfl)
   ·refine wH_iff rfl hc_18 (wH_seq (wH_region (h_op (vB (r_15.1 == 1)) wz rfl (h_op (vB (r_15.1 == 1)) wz rfl (h_nil ?_)))))
    rcases cond_some h_13 with ⟨hc_22, h_13⟩ | ⟨hc_22, h_13⟩
    ·refine wH_ift rfl hc_22 (wH_region (h_op (.ref (extN 0) 0 0) wz rfl ?_))
     obtain ⟨r_23, hr_24, h_13⟩ := bind_some h_13
     refine h_callq 0 [0] (.inl rfl) (fun _ _ _ => trivial) (mk_Stream_Odd_ok hr_24) rfl hb10 rfl (by kernel_rfl) (by kernel_rfl) (by kernel_rfl) (by kernel_rfl) (by kernel_rfl) (by kernel_rfl) (by kernel_rfl) (by decide) (by kernel_rfl) wz (vI r_23.1) (by kernel_rfl) ([((extN 0), some (.cells 2 [(vL eI r_23.2.L), (vI r_23.2.f_at)])), (n_2, some (.cells 4 [(vS (⟨#[]⟩ : ByteArray)), (vI 0), (vI 0), .nil])), (n_6, some (.cells 4 [(vS r_3.1.Key), (vI r_3.1.W), (vI r_3.1.H), (vL Zone.enc r_3.1.Zones)]))] : Hp) (by kernel_rfl) (h_far pl28_2 rfl 2 rfl wz (h_str 0 (.inl rfl) (fun _ _ _ => trivial) 2 sz3 rfl rfl [(vS r_3.1.Key), (vI r_3.1.W), (vI r_23.1), (vL Zone.enc r_3.1.Zones)] rfl wz (h_nil ?_)))
     obtain rfl := some_inj h_13
     exact cut_mk () trivial rfl (pre_r rfl)
    ·refine wH_iff rfl hc_22 (wH_region (h_far pl28_3 rfl 3 rfl wz (h_ldr 0 2 (.inl rfl) (fun _ _ _ => trivial) sz26 ag26 rfl rfl (vL Zone.enc r_3.1.Zones) rfl wz ?_)))
     obtain ⟨r_26, hr_27, h_13⟩ := bind_some h_13
     refine h_callg [] (slices_Clone_api_Zone_api_Zone_okb hr_27) rfl hb59 rfl (by kernel_rfl) (by kernel_rfl) (by kernel_rfl) (by kernel_rfl) (by kernel_rfl) rfl (by decide) (by kernel_rfl) wz ([((extN 0), some (.cells 2 [(vL eI r_15.2.L), (vI r_15.2.f_at)])), (n_2, some (.cells 4 [(vS (⟨#[]⟩ : ByteArray)), (vI 0), (vI 0), .nil])), (n_6, some (.cells 4 [(vS r_3.1.Key), (vI r_3.1.W), (vI r_3.1.H), (vL Zone.enc r_3.1.Zones)]))] : Hp) (fun _ => by kernel_rfl) (fun n_29 => h_op (.ref (extN 0) 0 0) wz rfl (h_lit (([(⟨#[]⟩ : ByteArray), (⟨#[122, 97]⟩ : ByteArray), (⟨#[122, 122]⟩ : ByteArray)] : List ByteArray).map eS) es38 ez38 rfl rfl rfl rfl rfl wz ?_))
     obtain ⟨r_30, hr_31, h_13⟩ := bind_some h_13
     refine h_callq 0 [0] (.inl rfl) (fun _ _ _ => trivial) (mk_Stream_Some_ok hr_31) rfl hb58 rfl (by kernel_rfl) (by kernel_rfl) (by kernel_rfl) (by kernel_rfl) (by kernel_rfl) (by kernel_rfl) (by kernel_rfl) (by decide) (by kernel_rfl) wz (vS r_30.1) (by kernel_rfl) ([((extN 0), some (.cells 2 [(vL eI r_30.2.L), (vI r_30.2.f_at)])), (n_2, some (.cells 4 [(vS (⟨#[]⟩ : ByteArray)), (vI 0), (vI 0), .nil])), (n_6, some (.cells 4 [(vS r_3.1.Key), (vI r_3.1.W), (vI r_3.1.H), (vL Zone.enc r_3.1.Zones)])), (n_29, gB 6 Zone.enc r_26)] : Hp) (by kernel_rfl) (h_op (.ref (extN 0) 0 0) wz rfl ?_)
     obtain ⟨r_33, hr_34, h_13⟩ := bind_some h_13
     refine h_callq 0 [0] (.inl rfl) (fun _ _ _ => trivial) (mk_Stream_Rect_ok hr_34) rfl hb25 rfl (by kernel_rfl) (by kernel_rfl) (by kernel_rfl) (by kernel_rfl) (by kernel_rfl) (by kernel_rfl) (by kernel_rfl) (by decide) (by kernel_rfl) wz (.d (.agg (Rect.enc r_33.1))) (by kernel_rfl) ([((extN 0), some (.cells 2 [(vL eI r_33.2.L), (vI r_33.2.f_at)])), (n_2, some (.cells 4 [(vS (⟨#[]⟩ : ByteArray)), (vI 0), (vI 0), .nil])), (n_6, some (.cells 4 [(vS r_3.1.Key), (vI r_3.1.W), (vI r_3.1.H), (vL Zone.enc r_3.1.Zones)])), (n_29, gB 6 Zone.enc r_26)] : Hp) (by kernel_rfl) (h_op (.ref (extN 0) 0 0) wz rfl ?_)
     obtain ⟨r_36, hr_37, h_13⟩ := bind_some h_13
     refine h_callq 0 [0] (.inl rfl) (fun _ _ _ => trivial) (mk_Stream_Odd_ok hr_37) rfl hb10 rfl (by kernel_rfl) (by kernel_rfl) (by kernel_rfl) (by kernel_rfl) (by kernel_rfl) (by kernel_rfl) (by kernel_rfl) (by decide) (by kernel_rfl) wz (vI r_36.1) (by kernel_rfl) ([((extN 0), some (.cells 2 [(vL eI r_36.2.L), (vI r_36.2.f_at)])), (n_2, some (.cells 4 [(vS (⟨#[]⟩ : ByteArray)), (vI 0), (vI 0), .nil])), (n_6, some (.cells 4 [(vS r_3.1.Key), (vI r_3.1.W), (vI r_3.1.H), (vL Zone.enc r_3.1.Zones)])), (n_29, gB 6 Zone.enc r_26)] : Hp) (by kernel_rfl) (h_op (.d (.agg (Zone.enc (⟨r_30.1, r_33.1, r_36.1⟩ : Zone)))) wz (by kernel_rfl) (h_lit (([(⟨r_30.1, r_33.1, r_36.1⟩ : Zone)] : List Zone).map Zone.enc) es26 ez26 rfl rfl rfl rfl rfl wz ?_))
     obtain ⟨a_39, hz_40, h_13⟩ := bind_some h_13
     refine h_appg 0 (.inl rfl) (fun _ _ _ => trivial) (i := 3) el26 el26 sz107 z107 rfl (by decide) by107 (by decide) (fun _ => rfl) rfl rfl rfl hz_40 wz (fun n_41 => h_far pl28_3 rfl 3 rfl wz (h_ghost (fun hw => wH_frozg 3 rfl hw) (by kernel_rfl) (h_ghost (fun hw => wH_cog 22 3 rfl rfl hw) (by kernel_rfl) (h_str 0 (.inl rfl) (fun _ _ _ => trivial) 2 sz26 rfl rfl [(vS r_3.1.Key), (vI r_3.1.W), (vI r_3.1.H), (vL Zone.enc a_39)] rfl wz (h_nil ?_)))))
     obtain rfl := some_inj h_13
     exact cut_mk () trivial rfl (pre_r rfl)
  ·refine wH_iff rfl hc_14 (wH_skip ?_)
   obtain rfl := some_inj h_13
   exact cut_mk () trivial rfl (pre_r rfl)
 ·rintro ⟨⟩ _ sl_ H_ hp_ hq_
  refine wH_at _ hp_ hq_ (wH_seq (wH_region (h_ldr 0 2 (.inl rfl) (fun _ _ _ => trivial) sz28 ag28 rfl rfl (.d (.agg (Layout.enc (⟨v_12.2.2.1, r_3.1.W, v_12.2.2.2.1, v_12.2.2.2.2⟩ : Layout)))) rfl wz (h_str 0 (.inl rfl) (fun _ _ _ => trivial) 1 sz28 rfl rfl [(vS v_12.2.2.1), (vI r_3.1.W), (vI v_12.2.2.2.1), (vL Zone.enc v_12.2.2.2.2)] rfl wz (h_nil ?_)))))
  obtain rfl := some_inj hF
  exact wH_ret (finB (.inr rfl) [(.d (.agg (Layout.enc (⟨v_12.2.2.1, r_3.1.W, v_12.2.2.2.1, v_12.2.2.2.2⟩ : Layout))))] _ [0] [extN 0] ⟨⟨1, _, _, _, _, _, _, _, rfl, rfl, sz28, ag28, rfl⟩, trivial⟩ (.cons (co_data rfl rfl) (.nil)) (by kernel_rfl) ⟨(by kernel_rfl), trivial⟩ (by decide) (by kernel_rfl))
theorem kit_IsKey_ok {s_1 : ByteArray} {r : Bool} (hF : kit_IsKey s_1 = some r) :
  FnM Tryz.prog 69 [(vS s_1)] [] (vB r) [] := by
 refine FnM.of_wH ⟨Tryz.prog, 48, [], []⟩ rfl Tryz.func69 rfl rfl (Nat.le_of_ble_eq_true rfl) (by kernel_rfl) ?_
 unfold kit_IsKey at hF
 refine wH_seq (wH_region (h_op (vB false) wz rfl (h_nil (wH_seq (wH_seq (wH_region (h_op (vI 0) wz rfl (h_nil ?_))))))))
 obtain ⟨o_10, hj_11, hF⟩ := bind_some hF
 obtain ⟨nq_33, hj_11⟩ := loopO_iter hj_11
 refine wH_join (β := (Int)) (fun (s_7 : Int) => ([(0, (vS s_1))] : List (Nat × V))) (fun (s_7 : Int) => ([] : Hp)) (fun p => o_10 = .go p) ?_ ?_
 ·refine wH_block (wH_loop (β := Nat × (Int)) (fun p => (fun (k_2 : Nat) (s_7 : Int) => ([(0, (vS s_1)), (3, (vI s_7))] : List (Nat × V))) p.1 p.2) (fun p => (fun (k_2 : Nat) (s_7 : Int) => ([] : Hp)) p.1 p.2) (fun p => iterN (fun s => kit_IsKey_L1 s_1 s) p.1 p.2 = some o_10) (fun p => p.1) (nq_33, 0) hj_11 rfl (pre_r rfl) ?_)
  rintro ⟨k_2, s_7⟩ hL_9
  dsimp only at hL_9
  cases k_2 with
  | zero => cases hL_9
  | succ k_2 =>
   obtain ⟨c_, hc_8, hL_9⟩ := bind_some hL_9
   unfold kit_IsKey_L1 at hc_8
   refine wH_seq (wH_seq (wH_region (h_op (vI s_7) wz rfl (h_op (vS s_1) wz rfl (h_lens un9 rfl wz (h_op (vB (decide (s_7 < (s_1.size : Int)))) wz rfl (h_nil ?_)))))))
   rcases cond_some hc_8 with ⟨hc_12, hc_8⟩ | ⟨hc_12, hc_8⟩
   ·refine wH_ift rfl hc_12 (wH_skip (wH_seq (wH_block (wH_seq (wH_region (h_op (vS s_1) wz rfl (h_op (vI s_7) wz rfl ?_)))))))
    obtain ⟨b_13, hy_14, hc_8⟩ := bind_some hc_8
    refine h_idxs un9 rfl rfl hy_14 wz (h_op (.d (.int .u8 (b_13.toNat : Int))) wz rfl (h_nil (wH_seq ?_)))
    obtain ⟨v_15, h_16, hc_8⟩ := bind_some hc_8
    refine wH_join (β := Unit) (fun _ => ([(0, (vS s_1)), (3, (vI s_7)), (40, (vB v_15))] : List (Nat × V))) (fun _ => ([] : Hp)) (fun _ => True) ?_ ?_
    ·refine wH_region (h_op (.d (.int .u8 (b_13.toNat : Int))) wz rfl (h_op (vB (decide ((b_13.toNat : Int) ≥ 97))) wz rfl ?_))
     rcases cond_some h_16 with ⟨hc_17, h_16⟩ | ⟨hc_17, h_16⟩
     ·refine h_movb rfl hc_17 wz (h_op (.d (.int .u8 (b_13.toNat : Int))) (wg rfl rfl rfl) rfl (h_op (vB (decide ((b_13.toNat : Int) ≤ 122))) (wg rfl rfl rfl) rfl (h_op (vB (decide ((b_13.toNat : Int) ≤ 122))) wz rfl ?_)))
      rcases cond_some h_16 with ⟨hc_18, h_16⟩ | ⟨hc_18, h_16⟩
      ·refine h_movb rfl hc_18 wz (h_skip (wg rfl rfl rfl) (h_skip (wg rfl rfl rfl) (h_skip (wg rfl rfl rfl) (h_skip (wn rfl rfl) (h_skip (wn rfl rfl) (h_skip (wn rfl rfl) (h_skip (wn rfl rfl) (h_skip (wn rfl rfl) (h_skip (wn rfl rfl) (h_skip (wn rfl rfl) (h_skip (wn rfl rfl) (h_skip (wn rfl rfl) (h_skip (wn rfl rfl) (h_skip (wn rfl rfl) (h_skip (wn rfl rfl) (h_skip (wn rfl rfl) (h_skip (wn rfl rfl) (h_skip (wg rfl rfl rfl) (h_op (vB true) wz rfl (h_op (vB false) wz rfl (h_nil ?_)))))))))))))))))))))
       obtain rfl := some_inj h_16
       exact cut_mk () trivial rfl (pre_r rfl)
      ·refine h_movb rfl hc_18 wz (h_op (vI s_7) (wg rfl rfl rfl) rfl (h_op (vB (decide (s_7 > 0))) (wg rfl rfl rfl) rfl ?_))
       rcases cond_some h_16 with ⟨hc_19, h_16⟩ | ⟨hc_19, h_16⟩
       ·refine h_movb rfl hc_19 (wg rfl rfl rfl) (h_op (.d (.int .u8 (b_13.toNat : Int))) (wg rfl rfl rfl) rfl (h_op (vB (decide ((b_13.toNat : Int) ≥ 48))) (wg rfl rfl rfl) rfl ?_))
        rcases cond_some h_16 with ⟨hc_20, h_16⟩ | ⟨hc_20, h_16⟩
        ·refine h_movb rfl hc_20 (wg rfl rfl rfl) (h_op (.d (.int .u8 (b_13.toNat : Int))) (wg rfl rfl rfl) rfl (h_op (vB (decide ((b_13.toNat : Int) ≤ 57))) (wg rfl rfl rfl) rfl (h_op (vB (decide ((b_13.toNat : Int) ≤ 57))) (wg rfl rfl rfl) rfl ?_)))
         rcases cond_some h_16 with ⟨hc_21, h_16⟩ | ⟨hc_21, h_16⟩
         ·refine h_movb rfl hc_21 (wg rfl rfl rfl) (h_skip (wg rfl rfl rfl) (h_skip (wg rfl rfl rfl) (h_op (vB true) (wg rfl rfl rfl) rfl (h_op (vB true) (wg rfl rfl rfl) rfl (h_skip (wg rfl rfl rfl) (h_skip (wg rfl rfl rfl) (h_op (vB true) (wg rfl rfl rfl) rfl (h_op (vB true) (wg rfl rfl rfl) rfl (h_op (vB true) wz rfl (h_op (vB false) wz rfl (h_nil ?_)))))))))))
          obtain rfl := some_inj h_16
          exact cut_mk () trivial rfl (pre_r rfl)
         ·refine h_movb rfl hc_21 (wg rfl rfl rfl) (h_op (.d (.int .u8 (b_13.toNat : Int))) (wg rfl rfl rfl) rfl (h_op (vB ((b_13.toNat : Int) == 45)) (wg rfl rfl rfl) rfl (h_op (vB ((b_13.toNat : Int) == 45)) (wg rfl rfl rfl) rfl ?_)))
          rcases cond_some h_16 with ⟨hc_22, h_16⟩ | ⟨hc_22, h_16⟩
          ·refine h_movb rfl hc_22 (wg rfl rfl rfl) (h_skip (wg rfl rfl rfl) (h_skip (wg rfl rfl rfl) (h_op (vB true) (wg rfl rfl rfl) rfl (h_op (vB true) (wg rfl rfl rfl) rfl (h_op (vB true) wz rfl (h_op (vB false) wz rfl (h_nil ?_)))))))
           obtain rfl := some_inj h_16
           exact cut_mk () trivial rfl (pre_r rfl)
          ·refine h_movb rfl hc_22 (wg rfl rfl rfl) (h_op (.d (.int .u8 (b_13.toNat : Int))) (wg rfl rfl rfl) rfl (h_op (vB ((b_13.toNat : Int) == 95)) (wg rfl rfl rfl) rfl (h_op (vB ((b_13.toNat : Int) == 95)) (wg rfl rfl rfl) rfl (h_op (vB ((b_13.toNat : Int) == 95)) (wg rfl rfl rfl) rfl (h_op (vB ((b_13.toNat : Int) == 95)) wz rfl (h_op (vB (!((b_13.toNat : Int) == 95))) wz rfl (h_nil ?_)))))))
           obtain rfl := some_inj h_16
           exact cut_mk () trivial rfl (pre_r rfl)
        ·refine h_movb rfl hc_20 (wg rfl rfl rfl) (h_skip (wg rfl rfl rfl) (h_skip (wg rfl rfl rfl) (h_op (vB false) (wg rfl rfl rfl) rfl (h_op (vB false) (wg rfl rfl rfl) rfl (h_op (.d (.int .u8 (b_13.toNat : Int))) (wg rfl rfl rfl) rfl (h_op (vB ((b_13.toNat : Int) == 45)) (wg rfl rfl rfl) rfl (h_op (vB ((b_13.toNat : Int) == 45)) (wg rfl rfl rfl) rfl ?_)))))))
         rcases cond_some h_16 with ⟨hc_23, h_16⟩ | ⟨hc_23, h_16⟩
         ·refine h_movb rfl hc_23 (wg rfl rfl rfl) (h_skip (wg rfl rfl rfl) (h_skip (wg rfl rfl rfl) (h_op (vB true) (wg rfl rfl rfl) rfl (h_op (vB true) (wg rfl rfl rfl) rfl (h_op (vB true) wz rfl (h_op (vB false) wz rfl (h_nil ?_)))))))
          obtain rfl := some_inj h_16
          exact cut_mk () trivial rfl (pre_r rfl)
         ·refine h_movb rfl hc_23 (wg rfl rfl rfl) (h_op (.d (.int .u8 (b_13.toNat : Int))) (wg rfl rfl rfl) rfl (h_op (vB ((b_13.toNat : Int) == 95)) (wg rfl rfl rfl) rfl (h_op (vB ((b_13.toNat : Int) == 95)) (wg rfl rfl rfl) rfl (h_op (vB ((b_13.toNat : Int) == 95)) (wg rfl rfl rfl) rfl (h_op (vB ((b_13.toNat : Int) == 95)) wz rfl (h_op (vB (!((b_13.toNat : Int) == 95))) wz rfl (h_nil ?_)))))))
          obtain rfl := some_inj h_16
          exact cut_mk () trivial rfl (pre_r rfl)
       ·refine h_movb rfl hc_19 (wg rfl rfl rfl) (h_skip (wg rfl rfl rfl) (h_skip (wg rfl rfl rfl) (h_skip (wg rfl rfl rfl) (h_skip (wn rfl rfl) (h_skip (wn rfl rfl) (h_skip (wg rfl rfl rfl) (h_skip (wg rfl rfl rfl) (h_skip (wn rfl rfl) (h_skip (wn rfl rfl) (h_skip (wg rfl rfl rfl) (h_skip (wg rfl rfl rfl) (h_skip (wn rfl rfl) (h_skip (wn rfl rfl) (h_skip (wg rfl rfl rfl) (h_op (vB false) (wg rfl rfl rfl) rfl (h_op (vB false) wz rfl (h_op (vB true) wz rfl (h_nil ?_))))))))))))))))))
        obtain rfl := some_inj h_16
        exact cut_mk () trivial rfl (pre_r rfl)
     ·refine h_movb rfl hc_17 wz (h_skip (wg rfl rfl rfl) (h_skip (wg rfl rfl rfl) (h_op (vB false) wz rfl (h_op (vB false) wz rfl (h_op (vI s_7) (wg rfl rfl rfl) rfl (h_op (vB (decide (s_7 > 0))) (wg rfl rfl rfl) rfl ?_))))))
      rcases cond_some h_16 with ⟨hc_24, h_16⟩ | ⟨hc_24, h_16⟩
      ·refine h_movb rfl hc_24 (wg rfl rfl rfl) (h_op (.d (.int .u8 (b_13.toNat : Int))) (wg rfl rfl rfl) rfl (h_op (vB (decide ((b_13.toNat : Int) ≥ 48))) (wg rfl rfl rfl) rfl ?_))
       rcases cond_some h_16 with ⟨hc_25, h_16⟩ | ⟨hc_25, h_16⟩
       ·refine h_movb rfl hc_25 (wg rfl rfl rfl) (h_op (.d (.int .u8 (b_13.toNat : Int))) (wg rfl rfl rfl) rfl (h_op (vB (decide ((b_13.toNat : Int) ≤ 57))) (wg rfl rfl rfl) rfl (h_op (vB (decide ((b_13.toNat : Int) ≤ 57))) (wg rfl rfl rfl) rfl ?_)))
        rcases cond_some h_16 with ⟨hc_26, h_16⟩ | ⟨hc_26, h_16⟩
        ·refine h_movb rfl hc_26 (wg rfl rfl rfl) (h_skip (wg rfl rfl rfl) (h_skip (wg rfl rfl rfl) (h_op (vB true) (wg rfl rfl rfl) rfl (h_op (vB true) (wg rfl rfl rfl) rfl (h_skip (wg rfl rfl rfl) (h_skip (wg rfl rfl rfl) (h_op (vB true) (wg rfl rfl rfl) rfl (h_op (vB true) (wg rfl rfl rfl) rfl (h_op (vB true) wz rfl (h_op (vB false) wz rfl (h_nil ?_)))))))))))
         obtain rfl := some_inj h_16
         exact cut_mk () trivial rfl (pre_r rfl)
        ·refine h_movb rfl hc_26 (wg rfl rfl rfl) (h_op (.d (.int .u8 (b_13.toNat : Int))) (wg rfl rfl rfl) rfl (h_op (vB ((b_13.toNat : Int) == 45)) (wg rfl rfl rfl) rfl (h_op (vB ((b_13.toNat : Int) == 45)) (wg rfl rfl rfl) rfl ?_)))
         rcases cond_some h_16 with ⟨hc_27, h_16⟩ | ⟨hc_27, h_16⟩
         ·refine h_movb rfl hc_27 (wg rfl rfl rfl) (h_skip (wg rfl rfl rfl) (h_skip (wg rfl rfl rfl) (h_op (vB true) (wg rfl rfl rfl) rfl (h_op (vB true) (wg rfl rfl rfl) rfl (h_op (vB true) wz rfl (h_op (vB false) wz rfl (h_nil ?_)))))))
          obtain rfl := some_inj h_16
          exact cut_mk () trivial rfl (pre_r rfl)
         ·refine h_movb rfl hc_27 (wg rfl rfl rfl) (h_op (.d (.int .u8 (b_13.toNat : Int))) (wg rfl rfl rfl) rfl (h_op (vB ((b_13.toNat : Int) == 95)) (wg rfl rfl rfl) rfl (h_op (vB ((b_13.toNat : Int) == 95)) (wg rfl rfl rfl) rfl (h_op (vB ((b_13.toNat : Int) == 95)) (wg rfl rfl rfl) rfl (h_op (vB ((b_13.toNat : Int) == 95)) wz rfl (h_op (vB (!((b_13.toNat : Int) == 95))) wz rfl (h_nil ?_)))))))
          obtain rfl := some_inj h_16
          exact cut_mk () trivial rfl (pre_r rfl)
       ·refine h_movb rfl hc_25 (wg rfl rfl rfl) (h_skip (wg rfl rfl rfl) (h_skip (wg rfl rfl rfl) (h_op (vB false) (wg rfl rfl rfl) rfl (h_op (vB false) (wg rfl rfl rfl) rfl (h_op (.d (.int .u8 (b_13.toNat : Int))) (wg rfl rfl rfl) rfl (h_op (vB ((b_13.toNat : Int) == 45)) (wg rfl rfl rfl) rfl (h_op (vB ((b_13.toNat : Int) == 45)) (wg rfl rfl rfl) rfl ?_)))))))
        rcases cond_some h_16 with ⟨hc_28, h_16⟩ | ⟨hc_28, h_16⟩
        ·refine h_movb rfl hc_28 (wg rfl rfl rfl) (h_skip (wg rfl rfl rfl) (h_skip (wg rfl rfl rfl) (h_op (vB true) (wg rfl rfl rfl) rfl (h_op (vB true) (wg rfl rfl rfl) rfl (h_op (vB true) wz rfl (h_op (vB false) wz rfl (h_nil ?_)))))))
         obtain rfl := some_inj h_16
         exact cut_mk () trivial rfl (pre_r rfl)
        ·refine h_movb rfl hc_28 (wg rfl rfl rfl) (h_op (.d (.int .u8 (b_13.toNat : Int))) (wg rfl rfl rfl) rfl (h_op (vB ((b_13.toNat : Int) == 95)) (wg rfl rfl rfl) rfl (h_op (vB ((b_13.toNat : Int) == 95)) (wg rfl rfl rfl) rfl (h_op (vB ((b_13.toNat : Int) == 95)) (wg rfl rfl rfl) rfl (h_op (vB ((b_13.toNat : Int) == 95)) wz rfl (h_op (vB (!((b_13.toNat : Int) == 95))) wz rfl (h_nil ?_)))))))
         obtain rfl := some_inj h_16
         exact cut_mk () trivial rfl (pre_r rfl)
      ·refine h_movb rfl hc_24 (wg rfl rfl rfl) (h_skip (wg rfl rfl rfl) (h_skip (wg rfl rfl rfl) (h_skip (wg rfl rfl rfl) (h_skip (wn rfl rfl) (h_skip (wn rfl rfl) (h_skip (wg rfl rfl rfl) (h_skip (wg rfl rfl rfl) (h_skip (wn rfl rfl) (h_skip (wn rfl rfl) (h_skip (wg rfl rfl rfl) (h_skip (wg rfl rfl rfl) (h_skip (wn rfl rfl) (h_skip (wn rfl rfl) (h_skip (wg rfl rfl rfl) (h_op (vB false) (wg rfl rfl rfl) rfl (h_op (vB false) wz rfl (h_op (vB true) wz rfl (h_nil ?_))))))))))))))))))
       obtain rfl := some_inj h_16
       exact cut_mk () trivial rfl (pre_r rfl)
    ·rintro ⟨⟩ _ sl_ H_ hp_ hq_
     refine wH_at _ hp_ hq_ ?_
     rcases cond_some hc_8 with ⟨hc_29, hc_8⟩ | ⟨hc_29, hc_8⟩
     ·refine wH_ift rfl hc_29 (wH_seq (wH_region (h_op (vB false) wz rfl (h_nil ?_))))
      obtain rfl := some_inj hc_8
      obtain rfl := some_inj hL_9
      obtain rfl := some_inj hF
      exact wH_ret (fin0 (.inr rfl) [(vB false)] ⟨rfl, trivial⟩ rfl rfl rfl)
     ·refine wH_iff rfl hc_29 (wH_skip (wH_region (h_op (vI s_7) wz rfl (h_op (vI (w64 (s_7 + 1))) wz rfl (h_op (vI (w64 (s_7 + 1))) wz rfl (h_nil ?_))))))
      obtain rfl := some_inj hc_8
      exact loop_mk (k_2, (w64 (s_7 + 1))) hL_9 (Nat.lt_succ_self _) rfl (pre_r rfl)
   ·refine wH_iff rfl hc_12 (wH_exit ?_)
    obtain rfl := some_inj hc_8
    obtain rfl := some_inj hL_9
    exact cut_mk (s_7) rfl rfl (pre_r rfl)
 ·rintro s_7 ho_ sl_ H_ hp_ hq_
  subst ho_
  refine wH_at _ hp_ hq_ (wH_seq ?_)
  obtain ⟨v_30, h_31, hF⟩ := bind_some hF
  refine wH_join (β := Unit) (fun _ => ([(2, (vB v_30))] : List (Nat × V))) (fun _ => ([] : Hp)) (fun _ => True) ?_ ?_
  ·refine wH_region (h_op (vS s_1) wz rfl (h_op (vB (sNe s_1 (⟨#[]⟩ : ByteArray))) wz rfl ?_))
   rcases cond_some h_31 with ⟨hc_32, h_31⟩ | ⟨hc_32, h_31⟩
   ·refine h_movb rfl hc_32 wz (h_op (vS s_1) (wg rfl rfl rfl) rfl (h_lens un9 rfl (wg rfl rfl rfl) (h_op (vB (decide ((s_1.size : Int) ≤ 40))) (wg rfl rfl rfl) rfl (h_op (vB (decide ((s_1.size : Int) ≤ 40))) wz rfl (h_op (vB (decide ((s_1.size : Int) ≤ 40))) wz rfl (h_nil ?_))))))
    obtain rfl := some_inj h_31
    exact cut_mk () trivial rfl (pre_r rfl)
   ·refine h_movb rfl hc_32 wz (h_skip (wg rfl rfl rfl) (h_skip (wg rfl rfl rfl) (h_skip (wg rfl rfl rfl) (h_op (vB false) wz rfl (h_op (vB false) wz rfl (h_nil ?_))))))
    obtain rfl := some_inj h_31
    exact cut_mk () trivial rfl (pre_r rfl)
  ·rintro ⟨⟩ _ sl_ H_ hp_ hq_
   refine wH_at _ hp_ hq_ ?_
   obtain rfl := some_inj hF
   exact wH_ret (fin0 (.inr rfl) [(vB v_30)] ⟨rfl, trivial⟩ rfl rfl rfl)
theorem kit_Outside_ok {n_1 : Int} {low_2 : Int} {high_3 : Int} {r : Bool} (hF : kit_Outside n_1 low_2 high_3 = some r) :
  FnM Tryz.prog 73 [(vI n_1), (vI low_2), (vI high_3)] [] (vB r) [] := by
 refine FnM.of_wH ⟨Tryz.prog, 15, [], []⟩ rfl Tryz.func73 rfl rfl (Nat.le_of_ble_eq_true rfl) (by kernel_rfl) ?_
 unfold kit_Outside at hF
 refine wH_seq (wH_region (h_op (vB false) wz rfl (h_nil (wH_seq ?_))))
 obtain ⟨v_4, h_5, hF⟩ := bind_some hF
 refine wH_join (β := Unit) (fun _ => ([(6, (vB v_4))] : List (Nat × V))) (fun _ => ([] : Hp)) (fun _ => True) ?_ ?_
 ·refine wH_region (h_op (vI n_1) wz rfl (h_op (vI low_2) wz rfl (h_op (vB (decide (n_1 < low_2))) wz rfl ?_)))
  rcases cond_some h_5 with ⟨hc_6, h_5⟩ | ⟨hc_6, h_5⟩
  ·refine h_movb rfl hc_6 wz (h_skip (wg rfl rfl rfl) (h_skip (wg rfl rfl rfl) (h_skip (wg rfl rfl rfl) (h_op (vB true) wz rfl (h_op (vB true) wz rfl (h_nil ?_))))))
   obtain rfl := some_inj h_5
   exact cut_mk () trivial rfl (pre_r rfl)
  ·refine h_movb rfl hc_6 wz (h_op (vI n_1) (wg rfl rfl rfl) rfl (h_op (vI high_3) (wg rfl rfl rfl) rfl (h_op (vB (decide (n_1 > high_3))) (wg rfl rfl rfl) rfl (h_op (vB (decide (n_1 > high_3))) wz rfl (h_op (vB (decide (n_1 > high_3))) wz rfl (h_nil ?_))))))
   obtain rfl := some_inj h_5
   exact cut_mk () trivial rfl (pre_r rfl)
 ·rintro ⟨⟩ _ sl_ H_ hp_ hq_
  refine wH_at _ hp_ hq_ ?_
  obtain rfl := some_inj hF
  exact wH_ret (fin0 (.inr rfl) [(vB v_4)] ⟨rfl, trivial⟩ rfl rfl rfl)
theorem screen_isSide_ok {n_1 : Int} {r : Bool} (hF : screen_isSide n_1 = some r) :
  FnM Tryz.prog 110 [(vI n_1)] [] (vB r) [] := by
 refine FnM.of_wH ⟨Tryz.prog, 6, [], []⟩ rfl Tryz.func110 rfl rfl (Nat.le_of_ble_eq_true rfl) (by kernel_rfl) ?_
 unfold screen_isSide at hF
 refine wH_seq (wH_region (h_op (vB false) wz rfl (h_nil (wH_seq (wH_region (h_op (vI n_1) wz rfl ?_))))))
 obtain ⟨r_2, hr_3, hF⟩ := bind_some hF
 refine h_call0 (kit_Outside_ok hr_3) rfl hb73 rfl rfl rfl rfl wz (h_op (vB (!r_2)) wz rfl (h_op (vB (!r_2)) wz rfl (h_nil ?_)))
 obtain rfl := some_inj hF
 exact wH_ret (fin0 (.inr rfl) [(vB (!r_2))] ⟨rfl, trivial⟩ rfl rfl rfl)
theorem screen_sidesFault_ok {l_1 : (List Int)} {r : Int} (hF : screen_sidesFault l_1 = some r) :
  FnM Tryz.prog 70 [(vL eI l_1)] [] (vI r) [] := by
 refine FnM.of_wH ⟨Tryz.prog, 15, [], []⟩ rfl Tryz.func70 rfl rfl (Nat.le_of_ble_eq_true rfl) (by kernel_rfl) ?_
 unfold screen_sidesFault at hF
 refine wH_seq (wH_region (h_op (vI 0) wz rfl (h_nil (wH_seq (wH_seq (wH_region (h_op (vL eI l_1) wz rfl (h_len un22 rfl wz (h_op (vI 0) wz rfl (h_nil ?_))))))))))
 obtain ⟨o_10, hj_11, hF⟩ := bind_some hF
 obtain ⟨hn_6, hj_11⟩ := forL_some hj_11
 refine wH_join (β := (Unit)) (fun (s_7 : Unit) => ([] : List (Nat × V))) (fun (s_7 : Unit) => ([] : Hp)) (fun p => o_10 = .go p) ?_ ?_
 ·refine wH_block (wH_loop (β := Nat × (List Int) × (Unit)) (fun p => (fun (k_2 : Nat) (l_3 : List Int) (s_7 : Unit) => ([(5, (vL eI l_1)), (6, (vI (l_1.length : Int))), (7, (vI (k_2 : Int)))] : List (Nat × V))) p.1 p.2.1 p.2.2) (fun p => (fun (k_2 : Nat) (l_3 : List Int) (s_7 : Unit) => ([] : Hp)) p.1 p.2.1 p.2.2) (fun p => forR (fun k x s => screen_sidesFault_L1 k x s) p.2.1 p.1 p.2.2 = some o_10 ∧ (l_1).drop p.1 = p.2.1) (fun p => p.2.1.length) (0, l_1, ()) ⟨hj_11, rfl⟩ rfl (pre_r rfl) ?_)
  rintro ⟨k_2, l_3, s_7⟩ ⟨hL_9, hD_5⟩
  dsimp only at hL_9 hD_5
  cases l_3 with
  | nil =>
   obtain rfl := some_inj hL_9
   refine wH_seq (wH_region (h_op (vB (decide ((k_2 : Int) < (l_1.length : Int)))) wz rfl (h_nil ?_)))
   refine wH_seq (wH_iff rfl (drop_nil hD_5) (wH_exit ?_))
   exact cut_mk (s_7) rfl rfl (pre_r rfl)
  | cons x_4 l_3 =>
   obtain ⟨c_, hc_8, hL_9⟩ := bind_some hL_9
   refine wH_seq (wH_region (h_op (vB (decide ((k_2 : Int) < (l_1.length : Int)))) wz rfl (h_nil ?_)))
   refine wH_seq (wH_ift rfl (drop_cons hD_5) (wH_skip ?_))
   unfold screen_sidesFault_L1 at hc_8
   refine wH_seq (wH_block (wH_seq (wH_region (h_ia es22 rfl rfl (drop_idx hD_5) rfl wz (h_ldc sz3 ag3 rfl (vI x_4) rfl wz (h_op (vI x_4) wz rfl (h_nil (wH_seq (wH_region (h_op (vI x_4) wz rfl ?_))))))))))
   obtain ⟨r_12, hr_13, hc_8⟩ := bind_some hc_8
   refine h_call0 (screen_isSide_ok hr_13) rfl hb110 rfl rfl rfl rfl wz (h_op (vB (!r_12)) wz rfl (h_nil ?_))
   rcases cond_some hc_8 with ⟨hc_14, hc_8⟩ | ⟨hc_14, hc_8⟩
   ·refine wH_ift rfl hc_14 (wH_seq (wH_region (h_op (vI 1) wz rfl (h_nil ?_))))
    obtain rfl := some_inj hc_8
    obtain rfl := some_inj hL_9
    obtain rfl := some_inj hF
    exact wH_ret (fin0 (.inr rfl) [(vI 1)] ⟨rfl, trivial⟩ rfl rfl rfl)
   ·refine wH_iff rfl hc_14 (wH_skip (wH_region (h_opw (w64_next hD_5 hn_6) wz rfl (h_op (vI ((k_2 + 1 : Nat) : Int)) wz rfl (h_nil ?_)))))
    obtain rfl := some_inj hc_8
    exact loop_mk (k_2 + 1, l_3, ()) ⟨hL_9, drop_next hD_5⟩ (Nat.lt_succ_self _) rfl (pre_r rfl)
 ·rintro s_7 ho_ sl_ H_ hp_ hq_
  subst ho_
  refine wH_at _ hp_ hq_ (wH_seq (wH_region (h_op (vI 0) wz rfl (h_nil ?_))))
  obtain rfl := some_inj hF
  exact wH_ret (fin0 (.inr rfl) [(vI 0)] ⟨rfl, trivial⟩ rfl rfl rfl)
theorem screen_CheckRect_ok {r_1 : Rect} {r : Int} (hF : screen_CheckRect r_1 = some r) :
  FnM Tryz.prog 71 [(.d (.agg (Rect.enc r_1)))] [] (vI r) [] := by
 refine FnM.of_wH ⟨Tryz.prog, 25, [], []⟩ rfl Tryz.func71 rfl rfl (Nat.le_of_ble_eq_true rfl) (by kernel_rfl) ?_
 unfold screen_CheckRect at hF
 refine wH_seq (wH_region (h_box 0 (.inl rfl) [(vI r_1.X), (vI r_1.Y), (vI r_1.W), (vI r_1.H)] rfl rfl wz (fun n_2 => h_op (vI 0) wz rfl (h_nil (wH_seq (wH_seq ?_))))))
 obtain ⟨v_3, h_4, hF⟩ := bind_some hF
 refine wH_join (β := Unit) (fun _ => ([(1, (.ref n_2 0 0)), (10, (vB v_3))] : List (Nat × V))) (fun _ => ([(n_2, some (.cells 4 [(vI r_1.X), (vI r_1.Y), (vI r_1.W), (vI r_1.H)]))] : Hp)) (fun _ => True) ?_ ?_
 ·refine wH_region (h_far pl49_0 rfl 0 rfl wz (h_ldr 0 0 (.inl rfl) (fun _ _ _ => trivial) sz3 ag3 rfl rfl (vI r_1.X) rfl wz ?_))
  obtain ⟨r_5, hr_6, h_4⟩ := bind_some h_4
  refine h_call0 (kit_Outside_ok hr_6) rfl hb73 rfl rfl rfl rfl wz ?_
  rcases cond_some h_4 with ⟨hc_7, h_4⟩ | ⟨hc_7, h_4⟩
  ·refine h_movb rfl hc_7 wz (h_skip (wg rfl rfl rfl) (h_skip (wg rfl rfl rfl) (h_skip (wg rfl rfl rfl) (h_op (vB true) wz rfl (h_nil ?_)))))
   obtain rfl := some_inj h_4
   exact cut_mk () trivial rfl (pre_r rfl)
  ·refine h_movb rfl hc_7 wz (h_far pl49_1 rfl 1 rfl (wg rfl rfl rfl) (h_ldr 0 0 (.inl rfl) (fun _ _ _ => trivial) sz3 ag3 rfl rfl (vI r_1.Y) rfl (wg rfl rfl rfl) ?_))
   obtain ⟨r_8, hr_9, h_4⟩ := bind_some h_4
   refine h_call0 (kit_Outside_ok hr_9) rfl hb73 rfl rfl rfl rfl (wg rfl rfl rfl) (h_op (vB r_8) wz rfl (h_nil ?_))
   obtain rfl := some_inj h_4
   exact cut_mk () trivial rfl (pre_r rfl)
 ·rintro ⟨⟩ _ sl_ H_ hp_ hq_
  refine wH_at _ hp_ hq_ ?_
  rcases cond_some hF with ⟨hc_10, hF⟩ | ⟨hc_10, hF⟩
  ·refine wH_ift rfl hc_10 (wH_seq (wH_region (h_op (vI 1) wz rfl (h_nil ?_))))
   obtain rfl := some_inj hF
   exact wH_ret (fin0 (.inr rfl) [(vI 1)] ⟨rfl, trivial⟩ rfl rfl rfl)
  ·refine wH_iff rfl hc_10 (wH_skip (wH_seq (wH_seq ?_)))
   obtain ⟨v_11, h_12, hF⟩ := bind_some hF
   refine wH_join (β := Unit) (fun _ => ([(24, (vB v_11))] : List (Nat × V))) (fun _ => ([(n_2, some (.cells 4 [(vI r_1.X), (vI r_1.Y), (vI r_1.W), (vI r_1.H)]))] : Hp)) (fun _ => True) ?_ ?_
   ·refine wH_region (h_far pl49_2 rfl 2 rfl wz (h_ldr 0 0 (.inl rfl) (fun _ _ _ => trivial) sz3 ag3 rfl rfl (vI r_1.W) rfl wz (h_far pl49_0 rfl 0 rfl wz (h_ldr 0 0 (.inl rfl) (fun _ _ _ => trivial) sz3 ag3 rfl rfl (vI r_1.X) rfl wz (h_op (vI (w64 (100000 - r_1.X))) wz rfl ?_)))))
    obtain ⟨r_13, hr_14, h_12⟩ := bind_some h_12
    refine h_call0 (kit_Outside_ok hr_14) rfl hb73 rfl rfl rfl rfl wz ?_
    rcases cond_some h_12 with ⟨hc_15, h_12⟩ | ⟨hc_15, h_12⟩
    ·refine h_movb rfl hc_15 wz (h_skip (wg rfl rfl rfl) (h_skip (wg rfl rfl rfl) (h_skip (wg rfl rfl rfl) (h_skip (wg rfl rfl rfl) (h_skip (wg rfl rfl rfl) (h_skip (wg rfl rfl rfl) (h_op (vB true) wz rfl (h_nil ?_))))))))
     obtain rfl := some_inj h_12
     exact cut_mk () trivial rfl (pre_r rfl)
    ·refine h_movb rfl hc_15 wz (h_far pl49_3 rfl 3 rfl (wg rfl rfl rfl) (h_ldr 0 0 (.inl rfl) (fun _ _ _ => trivial) sz3 ag3 rfl rfl (vI r_1.H) rfl (wg rfl rfl rfl) (h_far pl49_1 rfl 1 rfl (wg rfl rfl rfl) (h_ldr 0 0 (.inl rfl) (fun _ _ _ => trivial) sz3 ag3 rfl rfl (vI r_1.Y) rfl (wg rfl rfl rfl) (h_op (vI (w64 (100000 - r_1.Y))) (wg rfl rfl rfl) rfl ?_)))))
     obtain ⟨r_16, hr_17, h_12⟩ := bind_some h_12
     refine h_call0 (kit_Outside_ok hr_17) rfl hb73 rfl rfl rfl rfl (wg rfl rfl rfl) (h_op (vB r_16) wz rfl (h_nil ?_))
     obtain rfl := some_inj h_12
     exact cut_mk () trivial rfl (pre_r rfl)
   ·rintro ⟨⟩ _ sl_ H_ hp_ hq_
    refine wH_at _ hp_ hq_ ?_
    rcases cond_some hF with ⟨hc_18, hF⟩ | ⟨hc_18, hF⟩
    ·refine wH_ift rfl hc_18 (wH_seq (wH_region (h_op (vI 1) wz rfl (h_nil ?_))))
     obtain rfl := some_inj hF
     exact wH_ret (fin0 (.inr rfl) [(vI 1)] ⟨rfl, trivial⟩ rfl rfl rfl)
    ·refine wH_iff rfl hc_18 (wH_skip (wH_seq (wH_region (h_op (vI 0) wz rfl (h_nil ?_)))))
     obtain rfl := some_inj hF
     exact wH_ret (fin0 (.inr rfl) [(vI 0)] ⟨rfl, trivial⟩ rfl rfl rfl)
theorem screen_inside_ok {r_1 : Rect} {wv_2 : Int} {h_3 : Int} {r : Bool} (hF : screen_inside r_1 wv_2 h_3 = some r) :
  FnM Tryz.prog 72 [(.d (.agg (Rect.enc r_1))), (vI wv_2), (vI h_3)] [] (vB r) [] := by
 refine FnM.of_wH ⟨Tryz.prog, 33, [], []⟩ rfl Tryz.func72 rfl rfl (Nat.le_of_ble_eq_true rfl) (by kernel_rfl) ?_
 unfold screen_inside at hF
 refine wH_seq (wH_region (h_box 0 (.inl rfl) [(vI r_1.X), (vI r_1.Y), (vI r_1.W), (vI r_1.H)] rfl rfl wz (fun n_4 => h_op (vB false) wz rfl (h_nil (wH_seq ?_)))))
 obtain ⟨v_5, h_6, hF⟩ := bind_some hF
 refine wH_join (β := Unit) (fun _ => ([(6, (vB v_5))] : List (Nat × V))) (fun _ => ([(n_4, some (.cells 4 [(vI r_1.X), (vI r_1.Y), (vI r_1.W), (vI r_1.H)]))] : Hp)) (fun _ => True) ?_ ?_
 ·refine wH_region (h_far pl49_0 rfl 0 rfl wz (h_ldr 0 0 (.inl rfl) (fun _ _ _ => trivial) sz3 ag3 rfl rfl (vI r_1.X) rfl wz (h_op (vB (decide (r_1.X ≥ 0))) wz rfl ?_)))
  rcases cond_some h_6 with ⟨hc_7, h_6⟩ | ⟨hc_7, h_6⟩
  ·refine h_movb rfl hc_7 wz (h_far pl49_1 rfl 1 rfl (wg rfl rfl rfl) (h_ldr 0 0 (.inl rfl) (fun _ _ _ => trivial) sz3 ag3 rfl rfl (vI r_1.Y) rfl (wg rfl rfl rfl) (h_op (vB (decide (r_1.Y ≥ 0))) (wg rfl rfl rfl) rfl (h_op (vB (decide (r_1.Y ≥ 0))) wz rfl ?_))))
   rcases cond_some h_6 with ⟨hc_8, h_6⟩ | ⟨hc_8, h_6⟩
   ·refine h_movb rfl hc_8 wz (h_far pl49_0 rfl 0 rfl (wg rfl rfl rfl) (h_ldr 0 0 (.inl rfl) (fun _ _ _ => trivial) sz3 ag3 rfl rfl (vI r_1.X) rfl (wg rfl rfl rfl) (h_far pl49_2 rfl 2 rfl (wg rfl rfl rfl) (h_ldr 0 0 (.inl rfl) (fun _ _ _ => trivial) sz3 ag3 rfl rfl (vI r_1.W) rfl (wg rfl rfl rfl) (h_op (vI (w64 (r_1.X + r_1.W))) (wg rfl rfl rfl) rfl (h_op (vI wv_2) (wg rfl rfl rfl) rfl (h_op (vB (decide ((w64 (r_1.X + r_1.W)) ≤ wv_2))) (wg rfl rfl rfl) rfl (h_op (vB (decide ((w64 (r_1.X + r_1.W)) ≤ wv_2))) wz rfl ?_))))))))
    rcases cond_some h_6 with ⟨hc_9, h_6⟩ | ⟨hc_9, h_6⟩
    ·refine h_movb rfl hc_9 wz (h_far pl49_1 rfl 1 rfl (wg rfl rfl rfl) (h_ldr 0 0 (.inl rfl) (fun _ _ _ => trivial) sz3 ag3 rfl rfl (vI r_1.Y) rfl (wg rfl rfl rfl) (h_far pl49_3 rfl 3 rfl (wg rfl rfl rfl) (h_ldr 0 0 (.inl rfl) (fun _ _ _ => trivial) sz3 ag3 rfl rfl (vI r_1.H) rfl (wg rfl rfl rfl) (h_op (vI (w64 (r_1.Y + r_1.H))) (wg rfl rfl rfl) rfl (h_op (vI h_3) (wg rfl rfl rfl) rfl (h_op (vB (decide ((w64 (r_1.Y + r_1.H)) ≤ h_3))) (wg rfl rfl rfl) rfl (h_op (vB (decide ((w64 (r_1.Y + r_1.H)) ≤ h_3))) wz rfl (h_op (vB (decide ((w64 (r_1.Y + r_1.H)) ≤ h_3))) wz rfl (h_nil ?_))))))))))
     obtain rfl := some_inj h_6
     exact cut_mk () trivial rfl (pre_r rfl)
    ·refine h_movb rfl hc_9 wz (h_skip (wg rfl rfl rfl) (h_skip (wg rfl rfl rfl) (h_skip (wg rfl rfl rfl) (h_skip (wg rfl rfl rfl) (h_skip (wg rfl rfl rfl) (h_skip (wg rfl rfl rfl) (h_skip (wg rfl rfl rfl) (h_op (vB false) wz rfl (h_op (vB false) wz rfl (h_nil ?_))))))))))
     obtain rfl := some_inj h_6
     exact cut_mk () trivial rfl (pre_r rfl)
   ·refine h_movb rfl hc_8 wz (h_skip (wg rfl rfl rfl) (h_skip (wg rfl rfl rfl) (h_skip (wg rfl rfl rfl) (h_skip (wg rfl rfl rfl) (h_skip (wg rfl rfl rfl) (h_skip (wg rfl rfl rfl) (h_skip (wg rfl rfl rfl) (h_op (vB false) wz rfl (h_op (vB false) wz rfl (h_skip (wg rfl rfl rfl) (h_skip (wg rfl rfl rfl) (h_skip (wg rfl rfl rfl) (h_skip (wg rfl rfl rfl) (h_skip (wg rfl rfl rfl) (h_skip (wg rfl rfl rfl) (h_skip (wg rfl rfl rfl) (h_op (vB false) wz rfl (h_op (vB false) wz rfl (h_nil ?_)))))))))))))))))))
    obtain rfl := some_inj h_6
    exact cut_mk () trivial rfl (pre_r rfl)
  ·refine h_movb rfl hc_7 wz (h_skip (wg rfl rfl rfl) (h_skip (wg rfl rfl rfl) (h_skip (wg rfl rfl rfl) (h_op (vB false) wz rfl (h_op (vB false) wz rfl (h_skip (wg rfl rfl rfl) (h_skip (wg rfl rfl rfl) (h_skip (wg rfl rfl rfl) (h_skip (wg rfl rfl rfl) (h_skip (wg rfl rfl rfl) (h_skip (wg rfl rfl rfl) (h_skip (wg rfl rfl rfl) (h_op (vB false) wz rfl (h_op (vB false) wz rfl (h_skip (wg rfl rfl rfl) (h_skip (wg rfl rfl rfl) (h_skip (wg rfl rfl rfl) (h_skip (wg rfl rfl rfl) (h_skip (wg rfl rfl rfl) (h_skip (wg rfl rfl rfl) (h_skip (wg rfl rfl rfl) (h_op (vB false) wz rfl (h_op (vB false) wz rfl ?_)))))))))))))))))))))))
   refine h_nil ?_
   obtain rfl := some_inj h_6
   exact cut_mk () trivial rfl (pre_r rfl)
 ·rintro ⟨⟩ _ sl_ H_ hp_ hq_
  refine wH_at _ hp_ hq_ ?_
  obtain rfl := some_inj hF
  exact wH_ret (fin0 (.inr rfl) [(vB v_5)] ⟨rfl, trivial⟩ rfl rfl rfl)
theorem screen_CheckLayout_ok {l_1 : Layout} {r : Int} (hF : screen_CheckLayout l_1 = some r) :
  FnM Tryz.prog 15 [(.d (.agg (Layout.enc l_1)))] [] (vI r) [] := by
 refine FnM.of_wH ⟨Tryz.prog, 68, [], []⟩ rfl Tryz.func15 rfl rfl (Nat.le_of_ble_eq_true rfl) (by kernel_rfl) ?_
 unfold screen_CheckLayout at hF
 refine wH_seq (wH_region (h_box 0 (.inl rfl) [(vS l_1.Key), (vI l_1.W), (vI l_1.H), (vL Zone.enc l_1.Zones)] rfl rfl wz (fun n_2 => h_op (vI 0) wz rfl (h_nil (wH_seq (wH_seq (wH_region (h_far pl28_0 rfl 0 rfl wz (h_ldr 0 0 (.inl rfl) (fun _ _ _ => trivial) sz9 ag9 rfl rfl (vS l_1.Key) rfl wz ?_)))))))))
 obtain ⟨r_3, hr_4, hF⟩ := bind_some hF
 refine h_call0 (kit_IsKey_ok hr_4) rfl hb69 rfl rfl rfl rfl wz (h_op (vB (!r_3)) wz rfl (h_nil ?_))
 rcases cond_some hF with ⟨hc_5, hF⟩ | ⟨hc_5, hF⟩
 ·refine wH_ift rfl hc_5 (wH_seq (wH_region (h_op (vI 5) wz rfl (h_nil ?_))))
  obtain rfl := some_inj hF
  exact wH_ret (fin0 (.inr rfl) [(vI 5)] ⟨rfl, trivial⟩ rfl rfl rfl)
 ·refine wH_iff rfl hc_5 (wH_skip (wH_seq (wH_seq (wH_region (h_far pl28_1 rfl 1 rfl wz (h_ldr 0 0 (.inl rfl) (fun _ _ _ => trivial) sz3 ag3 rfl rfl (vI l_1.W) rfl wz (h_far pl28_2 rfl 2 rfl wz (h_ldr 0 0 (.inl rfl) (fun _ _ _ => trivial) sz3 ag3 rfl rfl (vI l_1.H) rfl wz (h_lit (([l_1.W, l_1.H] : List Int).map eI) es22 ez22 rfl rfl rfl rfl rfl wz ?_)))))))))
  obtain ⟨r_6, hr_7, hF⟩ := bind_some hF
  refine h_call0 (screen_sidesFault_ok hr_7) rfl hb70 rfl rfl rfl rfl wz (h_op (vI r_6) wz rfl (h_nil (wH_seq (wH_region (h_op (vI r_6) wz rfl (h_op (vB (r_6 != 0)) wz rfl (h_nil ?_)))))))
  rcases cond_some hF with ⟨hc_8, hF⟩ | ⟨hc_8, hF⟩
  ·refine wH_ift rfl hc_8 (wH_seq (wH_region (h_op (vI r_6) wz rfl (h_op (vI r_6) wz rfl (h_nil ?_)))))
   obtain rfl := some_inj hF
   exact wH_ret (fin0 (.inr rfl) [(vI r_6)] ⟨rfl, trivial⟩ rfl rfl rfl)
  ·refine wH_iff rfl hc_8 (wH_skip (wH_seq (wH_seq (wH_region (h_far pl28_3 rfl 3 rfl wz (h_ldr 0 0 (.inl rfl) (fun _ _ _ => trivial) sz26 ag26 rfl rfl (vL Zone.enc l_1.Zones) rfl wz (h_len un26 rfl wz (h_op (vB (decide ((l_1.Zones.length : Int) > 30))) wz rfl (h_nil ?_)))))))))
   rcases cond_some hF with ⟨hc_9, hF⟩ | ⟨hc_9, hF⟩
   ·refine wH_ift rfl hc_9 (wH_seq (wH_region (h_op (vI 2) wz rfl (h_nil ?_))))
    obtain rfl := some_inj hF
    exact wH_ret (fin0 (.inr rfl) [(vI 2)] ⟨rfl, trivial⟩ rfl rfl rfl)
   ·refine wH_iff rfl hc_9 (wH_skip (wH_seq (wH_seq (wH_region (h_far pl28_3 rfl 3 rfl wz (h_ldr 0 0 (.inl rfl) (fun _ _ _ => trivial) sz26 ag26 rfl rfl (vL Zone.enc l_1.Zones) rfl wz (h_len un26 rfl wz (h_op (vI 0) wz rfl (h_nil ?_)))))))))
    obtain ⟨o_18, hj_19, hF⟩ := bind_some hF
    obtain ⟨hn_14, hj_19⟩ := forL_some hj_19
    refine wH_join (β := (Unit)) (fun (s_15 : Unit) => ([] : List (Nat × V))) (fun (s_15 : Unit) => ([(n_2, some (.cells 4 [(vS l_1.Key), (vI l_1.W), (vI l_1.H), (vL Zone.enc l_1.Zones)]))] : Hp)) (fun p => o_18 = .go p) ?_ ?_
    ·refine wH_block (wH_loop (β := Nat × (List Zone) × (Unit)) (fun p => (fun (k_10 : Nat) (l_11 : List Zone) (s_15 : Unit) => ([(1, (.ref n_2 0 0)), (25, (vL Zone.enc l_1.Zones)), (26, (vI (l_1.Zones.length : Int))), (27, (vI (k_10 : Int)))] : List (Nat × V))) p.1 p.2.1 p.2.2) (fun p => (fun (k_10 : Nat) (l_11 : List Zone) (s_15 : Unit) => ([(n_2, some (.cells 4 [(vS l_1.Key), (vI l_1.W), (vI l_1.H), (vL Zone.enc l_1.Zones)]))] : Hp)) p.1 p.2.1 p.2.2) (fun p => forR (fun k x s => screen_CheckLayout_L1 l_1 k x s) p.2.1 p.1 p.2.2 = some o_18 ∧ (l_1.Zones).drop p.1 = p.2.1) (fun p => p.2.1.length) (0, l_1.Zones, ()) ⟨hj_19, rfl⟩ rfl (pre_r rfl) ?_)
     rintro ⟨k_10, l_11, s_15⟩ ⟨hL_17, hD_13⟩
     dsimp only at hL_17 hD_13
     cases l_11 with
     | nil =>
      obtain rfl := some_inj hL_17
      refine wH_seq (wH_region (h_op (vB (decide ((k_10 : Int) < (l_1.Zones.length : Int)))) wz rfl (h_nil ?_)))
      refine wH_seq (wH_iff rfl (drop_nil hD_13) (wH_exit ?_))
      exact cut_mk (s_15) rfl rfl (pre_r rfl)
     | cons x_12 l_11 =>
      obtain ⟨c_, hc_16, hL_17⟩ := bind_some hL_17
      refine wH_seq (wH_region (h_op (vB (decide ((k_10 : Int) < (l_1.Zones.length : Int)))) wz rfl (h_nil ?_)))
      refine wH_seq (wH_ift rfl (drop_cons hD_13) (wH_skip ?_))
      unfold screen_CheckLayout_L1 at hc_16
      refine wH_seq (wH_block (wH_seq (wH_region (h_op (vI (k_10 : Int)) wz rfl (h_ia es26 rfl rfl (drop_idx hD_13) rfl wz (h_ldc sz107 ag107 rfl (.d (.agg (Zone.enc x_12))) rfl wz (h_alloc 0 (.inl rfl) z107 rfl wz (fun n_20 => h_op (vI (k_10 : Int)) wz rfl (h_str 0 (.inl rfl) (fun _ _ _ => trivial) 1 sz107 rfl rfl [(vS x_12.Key), (vI x_12.On.X), (vI x_12.On.Y), (vI x_12.On.W), (vI x_12.On.H), (vI x_12.Order)] rfl wz (h_nil (wH_seq (wH_seq (wH_region (h_far pl107_0 rfl 0 rfl wz (h_ldr 0 1 (.inl rfl) (fun _ _ _ => trivial) sz9 ag9 rfl rfl (vS x_12.Key) rfl wz ?_)))))))))))))))
      obtain ⟨r_21, hr_22, hc_16⟩ := bind_some hc_16
      refine h_call0 (kit_IsKey_ok hr_22) rfl hb69 rfl rfl rfl rfl wz (h_op (vB (!r_21)) wz rfl (h_nil ?_))
      rcases cond_some hc_16 with ⟨hc_23, hc_16⟩ | ⟨hc_23, hc_16⟩
      ·refine wH_ift rfl hc_23 (wH_seq (wH_region (h_op (vI 5) wz rfl (h_nil ?_))))
       obtain rfl := some_inj hc_16
       obtain rfl := some_inj hL_17
       obtain rfl := some_inj hF
       exact wH_ret (fin0 (.inr rfl) [(vI 5)] ⟨rfl, trivial⟩ rfl rfl rfl)
      ·refine wH_iff rfl hc_23 (wH_skip (wH_seq (wH_seq (wH_region (h_far pl107_1 rfl 1 rfl wz (h_ldr 0 1 (.inl rfl) (fun _ _ _ => trivial) sz49 ag49 rfl rfl (.d (.agg (Rect.enc x_12.On))) rfl wz ?_))))))
       obtain ⟨r_24, hr_25, hc_16⟩ := bind_some hc_16
       refine h_call0 (screen_CheckRect_ok hr_25) rfl hb71 rfl rfl rfl rfl wz (h_op (vI r_24) wz rfl (h_nil (wH_seq (wH_region (h_op (vI r_24) wz rfl (h_op (vB (r_24 != 0)) wz rfl (h_nil ?_)))))))
       rcases cond_some hc_16 with ⟨hc_26, hc_16⟩ | ⟨hc_26, hc_16⟩
       ·refine wH_ift rfl hc_26 (wH_seq (wH_region (h_op (vI r_24) wz rfl (h_op (vI r_24) wz rfl (h_nil ?_)))))
        obtain rfl := some_inj hc_16
        obtain rfl := some_inj hL_17
        obtain rfl := some_inj hF
        exact wH_ret (fin0 (.inr rfl) [(vI r_24)] ⟨rfl, trivial⟩ rfl rfl rfl)
       ·refine wH_iff rfl hc_26 (wH_skip (wH_seq (wH_seq (wH_region (h_far pl107_1 rfl 1 rfl wz (h_ldr 0 1 (.inl rfl) (fun _ _ _ => trivial) sz49 ag49 rfl rfl (.d (.agg (Rect.enc x_12.On))) rfl wz (h_far pl28_1 rfl 1 rfl wz (h_ldr 0 0 (.inl rfl) (fun _ _ _ => trivial) sz3 ag3 rfl rfl (vI l_1.W) rfl wz (h_far pl28_2 rfl 2 rfl wz (h_ldr 0 0 (.inl rfl) (fun _ _ _ => trivial) sz3 ag3 rfl rfl (vI l_1.H) rfl wz ?_))))))))))
        obtain ⟨r_27, hr_28, hc_16⟩ := bind_some hc_16
        refine h_call0 (screen_inside_ok hr_28) rfl hb72 rfl rfl rfl rfl wz (h_op (vB (!r_27)) wz rfl (h_nil ?_))
        rcases cond_some hc_16 with ⟨hc_29, hc_16⟩ | ⟨hc_29, hc_16⟩
        ·refine wH_ift rfl hc_29 (wH_seq (wH_region (h_op (vI 3) wz rfl (h_nil ?_))))
         obtain rfl := some_inj hc_16
         obtain rfl := some_inj hL_17
         obtain rfl := some_inj hF
         exact wH_ret (fin0 (.inr rfl) [(vI 3)] ⟨rfl, trivial⟩ rfl rfl rfl)
        ·refine wH_iff rfl hc_29 (wH_skip (wH_seq (wH_seq (wH_region (h_far pl107_2 rfl 5 rfl wz (h_ldr 0 1 (.inl rfl) (fun _ _ _ => trivial) sz3 ag3 rfl rfl (vI x_12.Order) rfl wz ?_))))))
         obtain ⟨r_30, hr_31, hc_16⟩ := bind_some hc_16
         refine h_call0 (kit_Outside_ok hr_31) rfl hb73 rfl rfl rfl rfl wz (h_nil ?_)
         rcases cond_some hc_16 with ⟨hc_32, hc_16⟩ | ⟨hc_32, hc_16⟩
         ·refine wH_ift rfl hc_32 (wH_seq (wH_region (h_op (vI 1) wz rfl (h_nil ?_))))
          obtain rfl := some_inj hc_16
          obtain rfl := some_inj hL_17
          obtain rfl := some_inj hF
          exact wH_ret (fin0 (.inr rfl) [(vI 1)] ⟨rfl, trivial⟩ rfl rfl rfl)
         ·refine wH_iff rfl hc_32 (wH_skip (wH_seq ?_))
          obtain ⟨v_33, h_34, hc_16⟩ := bind_some hc_16
          refine wH_join (β := Unit) (fun _ => ([(1, (.ref n_2 0 0)), (25, (vL Zone.enc l_1.Zones)), (26, (vI (l_1.Zones.length : Int))), (27, (vI (k_10 : Int))), (66, (vB v_33))] : List (Nat × V))) (fun _ => ([(n_2, some (.cells 4 [(vS l_1.Key), (vI l_1.W), (vI l_1.H), (vL Zone.enc l_1.Zones)])), (n_20, some (.cells 6 [(vS x_12.Key), (vI x_12.On.X), (vI x_12.On.Y), (vI x_12.On.W), (vI x_12.On.H), (vI x_12.Order)]))] : Hp)) (fun _ => True) ?_ ?_
          ·refine wH_draws (h_op (vI (k_10 : Int)) wz rfl (h_op (vB (decide ((k_10 : Int) > 0))) wz rfl ?_))
           rcases cond_some h_34 with ⟨hc_35, h_34⟩ | ⟨hc_35, h_34⟩
           ·refine h_movb rfl hc_35 wz (h_far pl107_0 rfl 0 rfl (wg rfl rfl rfl) (h_ldr 4 1 (.inr (by kernel_rfl)) (fun _ _ ag => trivial) sz9 ag9 rfl rfl (vS x_12.Key) rfl (wg rfl rfl rfl) (h_far pl28_3 rfl 3 rfl (wg rfl rfl rfl) (h_ldr 6 0 (.inr (by kernel_rfl)) (fun _ _ ag => ⟨.inl ⟨rfl, rfl⟩, trivial⟩) sz26 ag26 rfl rfl (vL Zone.enc l_1.Zones) rfl (wg rfl rfl rfl) (h_op (vI (k_10 : Int)) (wg rfl rfl rfl) rfl (h_op (vI (w64 ((k_10 : Int) - 1))) (wg rfl rfl rfl) rfl ?_))))))
            obtain ⟨y_36, hy_37, h_34⟩ := bind_some h_34
            refine h_ia es26 rfl rfl hy_37 rfl (wg rfl rfl rfl) (h_fac pl107_0 rfl [.str y_36.Key, .int .i64 y_36.On.X, .int .i64 y_36.On.Y, .int .i64 y_36.On.W, .int .i64 y_36.On.H, .int .i64 y_36.Order] rfl rfl (wg rfl rfl rfl) (h_ldc sz9 ag9 rfl (vS y_36.Key) rfl (wg rfl rfl rfl) (h_op (vB (sLe x_12.Key y_36.Key)) (wg rfl rfl rfl) rfl (h_op (vB (sLe x_12.Key y_36.Key)) wz rfl (h_nil ?_)))))
            obtain rfl := some_inj h_34
            exact cut_mk () trivial rfl (pre_r rfl)
           ·refine h_movb rfl hc_35 wz (h_skip (wg rfl rfl rfl) (h_skip (wg rfl rfl rfl) (h_skip (wg rfl rfl rfl) (h_skip (wg rfl rfl rfl) (h_skip (wg rfl rfl rfl) (h_skip (wg rfl rfl rfl) (h_skip (wg rfl rfl rfl) (h_skip (wg rfl rfl rfl) (h_skip (wg rfl rfl rfl) (h_skip (wg rfl rfl rfl) (h_op (vB false) wz rfl (h_nil ?_))))))))))))
            obtain rfl := some_inj h_34
            exact cut_mk () trivial rfl (pre_r rfl)
          ·rintro ⟨⟩ _ sl_ H_ hp_ hq_
           refine wH_at _ hp_ hq_ ?_
           rcases cond_some hc_16 with ⟨hc_38, hc_16⟩ | ⟨hc_38, hc_16⟩
           ·refine wH_ift rfl hc_38 (wH_seq (wH_region (h_op (vI 7) wz rfl (h_nil ?_))))
            obtain rfl := some_inj hc_16
            obtain rfl := some_inj hL_17
            obtain rfl := some_inj hF
            exact wH_ret (fin0 (.inr rfl) [(vI 7)] ⟨rfl, trivial⟩ rfl rfl rfl)
           ·refine wH_iff rfl hc_38 (wH_skip (wH_region (h_opw (w64_next hD_13 hn_14) wz rfl (h_op (vI ((k_10 + 1 : Nat) : Int)) wz rfl (h_nil ?_)))))
            obtain rfl := some_inj hc_16
            exact loop_mk (k_10 + 1, l_11, ()) ⟨hL_17, drop_next hD_13⟩ (Nat.lt_succ_self _) rfl (pre_r rfl)
    ·rintro s_15 ho_ sl_ H_ hp_ hq_
     subst ho_
     refine wH_at _ hp_ hq_ (wH_seq (wH_region (h_op (vI 0) wz rfl (h_nil ?_))))
     obtain rfl := some_inj hF
     exact wH_ret (fin0 (.inr rfl) [(vI 0)] ⟨rfl, trivial⟩ rfl rfl rfl)
end Go.Proofs.YtiekkaelpgahoaaGreat.Law

