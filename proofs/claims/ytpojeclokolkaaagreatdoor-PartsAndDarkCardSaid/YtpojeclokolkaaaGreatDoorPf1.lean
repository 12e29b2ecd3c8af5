/-
 The machine computes these plain functions (written by a program of ours).
-/
import Derived.Test.YtpojeclokolkaaaGreatDoorFacts
import Derived.Test.YtpojeclokolkaaaGreatDoorDefs
import Derived.Test.YtpojeclokolkaaaGreatDoorShelf
open Go Go.Eng Go.Proofs
namespace Go.Proofs.YtpojeclokolkaaaGreatDoor.Law
set_option maxRecDepth 100000
set_option linter.unusedVariables false
set_option maxHeartbeats 1000000
theorem mk_Below_ok {x_1 : Int} {n_2 : Int} {r : Int} (hF : mk_Below x_1 n_2 = some r) :
  FnM Tryz.prog 167 [(vI x_1), (vI n_2)] [] (vI r) [] := by
 refine FnM.of_wH ⟨Tryz.prog, 16, [], []⟩ rfl Tryz.func167 rfl rfl (Nat.le_of_ble_eq_true rfl) (by kernel_rfl) ?_
 unfold mk_Below at hF
 refine wH_seq (wH_region (h_op (vI 0) wz rfl (h_nil (wH_seq (wH_seq (wH_region (h_op (vI n_2) wz rfl (h_op (vB (decide (n_2 < 1))) wz rfl (h_nil ?_)))))))))
 rcases cond_some hF with ⟨hc_3, hF⟩ | ⟨hc_3, hF⟩
 ·refine wH_ift rfl hc_3 (wH_seq (wH_region (h_op (vI 0) wz rfl (h_nil ?_))))
  obtain rfl := some_inj hF
  exact wH_ret (fin0 (.inr rfl) [(vI 0)] ⟨rfl, trivial⟩ rfl rfl rfl)
 ·refine wH_iff rfl hc_3 (wH_skip (wH_seq (wH_region (h_op (vI x_1) wz rfl (h_op (vI n_2) wz rfl ?_)))))
  obtain ⟨q_4, hz_5, hF⟩ := bind_some hF
  refine h_rem rfl rfl hz_5 wz (h_op (vI q_4) wz rfl (h_nil (wH_seq (wH_seq (wH_region (h_op (vI q_4) wz rfl (h_op (vB (decide (q_4 < 0))) wz rfl (h_nil ?_))))))))
  obtain ⟨v_6, h_7, hF⟩ := bind_some hF
  refine wH_join (β := Unit) (fun _ => ([(0, (vI v_6))] : List (Nat × V))) (fun _ => ([] : Hp)) (fun _ => True) ?_ ?_
  ·rcases cond_some h_7 with ⟨hc_8, h_7⟩ | ⟨hc_8, h_7⟩
   ·refine wH_ift rfl hc_8 (wH_region (h_op (vI q_4) wz rfl (h_op (vI n_2) wz rfl (h_op (vI (w64 (q_4 + n_2))) wz rfl (h_op (vI (w64 (q_4 + n_2))) wz rfl (h_nil ?_))))))
    obtain rfl := some_inj h_7
    exact cu
   ·refine wH_iff rfl hc_8 (wH_skip ?_)
    obtain rfl := some_inj h_7
    exact cu
  ·rintro ⟨⟩ _ sl_ H_ hp_ hq_
   refine wH_at _ hp_ hq_ (wH_seq (wH_region (h_op (vI v_6) wz rfl (h_op (vI v_6) wz rfl (h_nil ?_)))))
   obtain rfl := some_inj hF
   exact wH_ret (fin0 (.inr rfl) [(vI v_6)] ⟨rfl, trivial⟩ rfl rfl rfl)
theorem mk_Stream_Next_ok {s_1 : Stream} {n_2 : Int} {r : Int × Stream} (hF : mk_Stream_Next s_1 n_2 = some r) :
  FnM Tryz.prog 84 [(.ref (extN 0) 0 0), (vI n_2)] [(.cells 2 [(vL eI s_1.L), (vI s_1.f_at)])] (vI r.1) [some (.cells 2 [(vL eI r.2.L), (vI r.2.f_at)])] := by
 refine FnM.of_wH ⟨Tryz.prog, 64, [], []⟩ rfl Tryz.func84 rfl rfl (Nat.le_of_ble_eq_true rfl) (by kernel_rfl) ?_
 unfold mk_Stream_Next at hF
 refine wH_seq (wH_region (h_op (vI 0) wz rfl (h_nil (wH_seq (wH_region (h_op (.ref (extN 0) 0 0) wz rfl (h_op (.ref (extN 0) 0 0) wz rfl (h_far pl25_1 rfl 1 rfl wz (h_ldr 0 0 il ft sz3 ag3 rfl rfl (vI s_1.f_at) rfl wz (h_op (vI (w64 (s_1.f_at + 1))) wz rfl (h_op (.ref (extN 0) 0 0) wz rfl (h_far pl25_1 rfl 1 rfl wz (h_str 0 il ft 0 sz3 rfl rfl [(vL eI s_1.L), (vI (w64 (s_1.f_at + 1)))] rfl wz (h_nil (wH_seq (wH_seq (wH_region (h_op (.ref (extN 0) 0 0) wz rfl (h_op (.ref (extN 0) 0 0) wz rfl (h_far pl25_0 rfl 0 rfl wz (h_ldr 0 0 il ft sz22 ag22 rfl rfl (vL eI s_1.L) rfl wz (h_len un22 rfl wz (h_op (vB ((s_1.L.length : Int) == 0)) wz rfl ?_)))))))))))))))))))))))
 refine h_nil ?_
 rcases cond_some hF with ⟨hc_3, hF⟩ | ⟨hc_3, hF⟩
 ·refine wH_ift rfl hc_3 (wH_seq (wH_region (h_op (.ref (extN 0) 0 0) wz rfl (h_op (.ref (extN 0) 0 0) wz rfl (h_far pl25_1 rfl 1 rfl wz (h_ldr 0 0 il ft sz3 ag3 rfl rfl (vI (w64 (s_1.f_at + 1))) rfl wz (h_op (vI (w64 ((w64 (s_1.f_at + 1)) * 7919))) wz rfl (h_op (vI n_2) wz rfl ?_))))))))
  obtain ⟨r_4, hr_5, hF⟩ := bind_some hF
  refine h_call0 (mk_Below_ok hr_5) rfl hb167 rfl rfl rfl rfl wz (h_op (vI r_4) wz rfl (h_nil ?_))
  obtain rfl := some_inj hF
  exact wH_ret (finB (.inr rfl) [(vI r_4)] _ [0] [extN 0] ⟨rfl, trivial⟩ (.cons (co_data rfl rfl) (.nil)) (by kernel_rfl) ⟨(by kernel_rfl), trivial⟩ (by decide) (by kernel_rfl))
 ·refine wH_iff rfl hc_3 (wH_skip (wH_seq (wH_draws (h_op (.ref (extN 0) 0 0) wz rfl (h_op (.ref (extN 0) 0 0) wz rfl (h_far pl25_1 rfl 1 rfl wz (h_ldr 3 0 (.inr (by kernel_rfl)) (fun _ _ ag => trivial) sz3 ag3 rfl rfl (vI (w64 (s_1.f_at + 1))) rfl wz (h_op (vI (w64 ((w64 (s_1.f_at + 1)) - 1))) wz rfl (h_op (.ref (extN 0) 0 0) wz rfl (h_op (.ref (extN 0) 0 0) wz rfl (h_far pl25_0 rfl 0 rfl wz (h_ldr 8 0 (.inr (by kernel_rfl)) (fun _ _ ag => ⟨.inl ⟨rfl, rfl⟩, trivial⟩) sz22 ag22 rfl rfl (vL eI s_1.L) rfl wz (h_len un22 rfl wz ?_)))))))))))))
  obtain ⟨q_6, hz_7, hF⟩ := bind_some hF
  refine h_rem rfl rfl hz_7 wz (h_op (vI q_6) wz rfl (h_nil (wH_seq (wH_draws (h_op (.ref (extN 0) 0 0) wz rfl (h_op (.ref (extN 0) 0 0) wz rfl (h_far pl25_1 rfl 1 rfl wz (h_ldr 3 0 (.inr (by kernel_rfl)) (fun _ _ ag => trivial) sz3 ag3 rfl rfl (vI (w64 (s_1.f_at + 1))) rfl wz (h_op (vI (w64 ((w64 (s_1.f_at + 1)) - 1))) wz rfl (h_op (.ref (extN 0) 0 0) wz rfl (h_op (.ref (extN 0) 0 0) wz rfl (h_far pl25_0 rfl 0 rfl wz (h_ldr 8 0 (.inr (by kernel_rfl)) (fun _ _ ag => ⟨.inl ⟨rfl, rfl⟩, trivial⟩) sz22 ag22 rfl rfl (vL eI s_1.L) rfl wz (h_len un22 rfl wz ?_))))))))))))))
  obtain ⟨q_8, hz_9, hF⟩ := bind_some hF
  refine h_quo rfl rfl hz_9 wz (h_op (vI q_8) wz rfl (h_nil (wH_at (H0 := ([((extN 0), some (.cells 2 [(vL eI s_1.L), (vI (w64 (s_1.f_at + 1)))]))] : Hp)) ([(0, (.ref (extN 0) 0 0)), (1, (vI n_2)), (5, (vI q_6)), (6, (vI q_8))] : List (Nat × V)) (by kernel_rfl) (pre_mk (by kernel_rfl)) (wH_seq (wH_region (h_op (.ref (extN 0) 0 0) wz rfl (h_op (.ref (extN 0) 0 0) wz rfl (h_far pl25_0 rfl 0 rfl wz (h_ldr 0 0 il ft sz22 ag22 rfl rfl (vL eI s_1.L) rfl wz (h_op (vI q_6) wz rfl ?_))))))))))
  obtain ⟨y_10, hy_11, hF⟩ := bind_some hF
  refine h_ia es22 rfl rfl hy_11 rfl wz (h_ldc sz3 ag3 rfl (vI y_10) rfl wz ?_)
  obtain ⟨r_12, hr_13, hF⟩ := bind_some hF
  refine h_call0 (mk_Below_ok hr_13) rfl hb167 rfl rfl rfl rfl wz (h_op (vI q_8) wz rfl (h_op (vI q_6) wz rfl (h_op (vI (w64 (7919 + q_6))) wz rfl (h_op (vI (w64 (q_8 * (w64 (7919 + q_6))))) wz rfl (h_op (vI (w64 (r_12 + (w64 (q_8 * (w64 (7919 + q_6))))))) wz rfl (h_op (vI n_2) wz rfl ?_))))))
  obtain ⟨r_14, hr_15, hF⟩ := bind_some hF
  refine h_call0 (mk_Below_ok hr_15) rfl hb167 rfl rfl rfl rfl wz (h_op (vI r_14) wz rfl (h_nil ?_))
  obtain rfl := some_inj hF
  exact wH_ret (finB (.inr rfl) [(vI r_14)] _ [0] [extN 0] ⟨rfl, trivial⟩ (.cons (co_data rfl rfl) (.nil)) (by kernel_rfl) ⟨(by kernel_rfl), trivial⟩ (by decide) (by kernel_rfl))
theorem mk_Stream_Pick_ok {s_1 : Stream} {l_2 : (List Int)} {r : Int × Stream} (hF : mk_Stream_Pick s_1 l_2 = some r) :
  FnM Tryz.prog 34 [(.ref (extN 0) 0 0), (vL eI l_2)] [(.cells 2 [(vL eI s_1.L), (vI s_1.f_at)])] (vI r.1) [some (.cells 2 [(vL eI r.2.L), (vI r.2.f_at)])] := by
 refine FnM.of_wH ⟨Tryz.prog, 12, [], []⟩ rfl Tryz.func34 rfl rfl (Nat.le_of_ble_eq_true rfl) (by kernel_rfl) ?_
 unfold mk_Stream_Pick at hF
 refine wH_seq (wH_region (h_op (vI 0) wz rfl (h_nil (wH_seq (wH_region (h_op (vL eI l_2) wz rfl (h_op (.ref (extN 0) 0 0) wz rfl (h_op (vL eI l_2) wz rfl (h_len un22 rfl wz ?_)))))))))
 obtain ⟨r_3, hr_4, hF⟩ := bind_some hF
 refine h_callq 0 [0] il ft (mk_Stream_Next_ok hr_4) rfl hb84 rfl (by kernel_rfl) (by kernel_rfl) (by kernel_rfl) (by kernel_rfl) (by kernel_rfl) (by kernel_rfl) (by kernel_rfl) (by decide) (by kernel_rfl) wz (vI r_3.1) (by kernel_rfl) ([((extN 0), some (.cells 2 [(vL eI r_3.2.L), (vI r_3.2.f_at)]))] : Hp) (by kernel_rfl) ?_
 obtain ⟨y_6, hy_7, hF⟩ := bind_some hF
 refine h_ia es22 rfl rfl hy_7 rfl wz (h_ldc sz3 ag3 rfl (vI y_6) rfl wz (h_op (vI y_6) wz rfl (h_nil ?_)))
 obtain rfl := some_inj hF
 exact wH_ret (finB (.inr rfl) [(vI y_6)] _ [0] [extN 0] ⟨rfl, trivial⟩ (.cons (co_data rfl rfl) (.nil)) (by kernel_rfl) ⟨(by kernel_rfl), trivial⟩ (by decide) (by kernel_rfl))
theorem mk_Stream_Range_ok {s_1 : Stream} {low_2 : Int} {high_3 : Int} {r : Int × Stream} (hF : mk_Stream_Range s_1 low_2 high_3 = some r) :
  FnM Tryz.prog 13 [(.ref (extN 0) 0 0), (vI low_2), (vI high_3)] [(.cells 2 [(vL eI s_1.L), (vI s_1.f_at)])] (vI r.1) [some (.cells 2 [(vL eI r.2.L), (vI r.2.f_at)])] := by
 refine FnM.of_wH ⟨Tryz.prog, 19, [], []⟩ rfl Tryz.func13 rfl rfl (Nat.le_of_ble_eq_true rfl) (by kernel_rfl) ?_
 unfold mk_Stream_Range at hF
 refine wH_seq (wH_region (h_op (vI 0) wz rfl (h_nil (wH_seq (wH_seq (wH_region (h_op (vI high_3) wz rfl (h_op (vI low_2) wz rfl (h_op (vB (decide (high_3 < low_2))) wz rfl (h_nil ?_))))))))))
 rcases cond_some hF with ⟨hc_4, hF⟩ | ⟨hc_4, hF⟩
 ·refine wH_ift rfl hc_4 (wH_seq (wH_region (h_op (vI low_2) wz rfl (h_op (vI low_2) wz rfl (h_nil ?_)))))
  obtain rfl := some_inj hF
  exact wH_ret (finB (.inr rfl) [(vI low_2)] _ [0] [extN 0] ⟨rfl, trivial⟩ (.cons (co_data rfl rfl) (.nil)) (by kernel_rfl) ⟨(by kernel_rfl), trivial⟩ (by decide) (by kernel_rfl))
 ·refine wH_iff rfl hc_4 (wH_skip (wH_seq (wH_region (h_op (vI low_2) wz rfl (h_op (.ref (extN 0) 0 0) wz rfl (h_op (vI high_3) wz rfl (h_op (vI low_2) wz rfl (h_op (vI (w64 (high_3 - low_2))) wz rfl (h_op (vI (w64 ((w64 (high_3 - low_2)) + 1))) wz rfl ?_)))))))))
  obtain ⟨r_5, hr_6, hF⟩ := bind_some hF
  refine h_callq 0 [0] il ft (mk_Stream_Next_ok hr_6) rfl hb84 rfl (by kernel_rfl) (by kernel_rfl) (by kernel_rfl) (by kernel_rfl) (by kernel_rfl) (by kernel_rfl) (by kernel_rfl) (by decide) (by kernel_rfl) wz (vI r_5.1) (by kernel_rfl) ([((extN 0), some (.cells 2 [(vL eI r_5.2.L), (vI r_5.2.f_at)]))] : Hp) (by kernel_rfl) (h_op (vI (w64 (low_2 + r_5.1))) wz rfl (h_op (vI (w64 (low_2 + r_5.1))) wz rfl (h_nil ?_)))
  obtain rfl := some_inj hF
  exact wH_ret (finB (.inr rfl) [(vI (w64 (low_2 + r_5.1)))] _ [0] [extN 0] ⟨rfl, trivial⟩ (.cons (co_data rfl rfl) (.nil)) (by kernel_rfl) ⟨(by kernel_rfl), trivial⟩ (by decide) (by kernel_rfl))
theorem kit_IsKey_ok {s_1 : ByteArray} {r : Bool} (hF : kit_IsKey s_1 = some r) :
  FnM Tryz.prog 124 [(vS s_1)] [] (vB r) [] := by
 refine FnM.of_wH ⟨Tryz.prog, 48, [], []⟩ rfl Tryz.func124 rfl rfl (Nat.le_of_ble_eq_true rfl) (by kernel_rfl) ?_
 unfold kit_IsKey at hF
 refine wH_seq (wH_region (h_op (vB false) wz rfl (h_nil (wH_seq (wH_seq (wH_region (h_op (vI 0) wz rfl (h_nil ?_))))))))
 obtain ⟨o_10, hj_11, hF⟩ := bind_some hF
 obtain ⟨nq_33, hj_11⟩ := loopO_iter hj_11
 refine wH_join (β := (Int)) (fun (s_7 : Int) => ([(0, (vS s_1))] : List (Nat × V))) (fun (s_7 : Int) => ([] : Hp)) (fun p => o_10 = .go p) ?_ ?_
 ·refine wH_block (wH_loop (β := Nat × (Int)) (fun p => (fun (k_2 : Nat) (s_7 : Int) => ([(0, (vS s_1)), (3, (vI s_7))] : List (Nat × V))) p.1 p.2) (fun p => (fun (k_2 : Nat) (s_7 : Int) => ([] : Hp)) p.1 p.2) (fun p => iterN (fun s => kit_IsKey_L1 s_1 s) p.1 p.2 = some o_10) (fun p => p.1) (nq_33, 0) hj_11 rfl (pre_r rfl) ?_)
  rintro ⟨k_2, s_7⟩ hL_9
  dsimp only at hL_9
  cases k_2 with
  | zero => cases hL_9
  | succ k_2 =>
   obtain ⟨c_, hc_8, hL_9⟩ := bind_some hL_9
   unfold kit_IsKey_L1 at hc_8
   refine wH_seq (wH_seq (wH_region (h_op (vI s_7) wz rfl (h_op (vS s_1) wz rfl (h_lens un9 rfl wz (h_op (vB (decide (s_7 < (s_1.size : Int)))) wz rfl (h_nil ?_)))))))
   rcases cond_some hc_8 with ⟨hc_12, hc_8⟩ | ⟨hc_12, hc_8⟩
   ·refine wH_ift rfl hc_12 (wH_skip (wH_seq (wH_block (wH_seq (wH_region (h_op (vS s_1) wz rfl (h_op (vI s_7) wz rfl ?_)))))))
    obtain ⟨b_13, hy_14, hc_8⟩ := bind_some hc_8
    refine h_idxs un9 rfl rfl hy_14 wz (h_op (.d (.int .u8 (b_13.toNat : Int))) wz rfl (h_nil (wH_seq ?_)))
    obtain ⟨v_15, h_16, hc_8⟩ := bind_some hc_8
    refine wH_join (β := Unit) (fun _ => ([(0, (vS s_1)), (3, (vI s_7)), (40, (vB v_15))] : List (Nat × V))) (fun _ => ([] : Hp)) (fun _ => True) ?_ ?_
    ·refine wH_region (h_op (.d (.int .u8 (b_13.toNat : Int))) wz rfl (h_op (vB (decide ((b_13.toNat : Int) ≥ 97))) wz rfl ?_))
     rcases cond_some h_16 with ⟨hc_17, h_16⟩ | ⟨hc_17, h_16⟩
     ·refine h_movb rfl hc_17 wz (h_op (.d (.int .u8 (b_13.toNat : Int))) wa rfl (h_op (vB (decide ((b_13.toNat : Int) ≤ 122))) wa rfl (h_op (vB (decide ((b_13.toNat : Int) ≤ 122))) wz rfl ?_)))
      rcases cond_some h_16 with ⟨hc_18, h_16⟩ | ⟨hc_18, h_16⟩
      ·refine h_movb rfl hc_18 wz (h_skip wa (h_skip wa (h_skip wa (h_skip (wn rfl rfl) (h_skip (wn rfl rfl) (h_skip (wn rfl rfl) (h_skip (wn rfl rfl) (h_skip (wn rfl rfl) (h_skip (wn rfl rfl) (h_skip (wn rfl rfl) (h_skip (wn rfl rfl) (h_skip (wn rfl rfl) (h_skip (wn rfl rfl) (h_skip (wn rfl rfl) (h_skip (wn rfl rfl) (h_skip (wn rfl rfl) (h_skip (wn rfl rfl) (h_skip wa (h_op (vB true) wz rfl (h_op (vB false) wz rfl (h_nil ?_)))))))))))))))))))))
       obtain rfl := some_inj h_16
       exact cu
      ·refine h_movb rfl hc_18 wz (h_op (vI s_7) wa rfl (h_op (vB (decide (s_7 > 0))) wa rfl ?_))
       rcases cond_some h_16 with ⟨hc_19, h_16⟩ | ⟨hc_19, h_16⟩
       ·refine h_movb rfl hc_19 wa (h_op (.d (.int .u8 (b_13.toNat : Int))) wa rfl (h_op (vB (decide ((b_13.toNat : Int) ≥ 48))) wa rfl ?_))
        rcases cond_some h_16 with ⟨hc_20, h_16⟩ | ⟨hc_20, h_16⟩
        ·refine h_movb rfl hc_20 wa (h_op (.d (.int .u8 (b_13.toNat : Int))) wa rfl (h_op (vB (decide ((b_13.toNat : Int) ≤ 57))) wa rfl (h_op (vB (decide ((b_13.toNat : Int) ≤ 57))) wa rfl ?_)))
         rcases cond_some h_16 with ⟨hc_21, h_16⟩ | ⟨hc_21, h_16⟩
         ·refine h_movb rfl hc_21 wa (h_skip wa (h_skip wa (h_op (vB true) wa rfl (h_op (vB true) wa rfl (h_skip wa (h_skip wa (h_op (vB true) wa rfl (h_op (vB true) wa rfl (h_op (vB true) wz rfl (h_op (vB false) wz rfl (h_nil ?_)))))))))))
          obtain rfl := some_inj h_16
          exact cu
         ·refine h_movb rfl hc_21 wa (h_op (.d (.int .u8 (b_13.toNat : Int))) wa rfl (h_op (vB ((b_13.toNat : Int) == 45)) wa rfl (h_op (vB ((b_13.toNat : Int) == 45)) wa rfl ?_)))
          rcases cond_some h_16 with ⟨hc_22, h_16⟩ | ⟨hc_22, h_16⟩
          ·refine h_movb rfl hc_22 wa (h_skip wa (h_skip wa (h_op (vB true) wa rfl (h_op (vB true) wa rfl (h_op (vB true) wz rfl (h_op (vB false) wz rfl (h_nil ?_)))))))
           obtain rfl := some_inj h_16
           exact cu
          ·refine h_movb rfl hc_22 wa (h_op (.d (.int .u8 (b_13.toNat : Int))) wa rfl (h_op (vB ((b_13.toNat : Int) == 95)) wa rfl (h_op (vB ((b_13.toNat : Int) == 95)) wa rfl (h_op (vB ((b_13.toNat : Int) == 95)) wa rfl (h_op (vB ((b_13.toNat : Int) == 95)) wz rfl (h_op (vB (!((b_13.toNat : Int) == 95))) wz rfl (h_nil ?_)))))))
           obtain rfl := some_inj h_16
           exact cu
        ·refine h_movb rfl hc_20 wa (h_skip wa (h_skip wa (h_op (vB false) wa rfl (h_op (vB false) wa rfl (h_op (.d (.int .u8 (b_13.toNat : Int))) wa rfl (h_op (vB ((b_13.toNat : Int) == 45)) wa rfl (h_op (vB ((b_13.toNat : Int) == 45)) wa rfl ?_)))))))
         rcases cond_some h_16 with ⟨hc_23, h_16⟩ | ⟨hc_23, h_16⟩
         ·refine h_movb rfl hc_23 wa (h_skip wa (h_skip wa (h_op (vB true) wa rfl (h_op (vB true) wa rfl (h_op (vB true) wz rfl (h_op (vB false) wz rfl (h_nil ?_)))))))
          obtain rfl := some_inj h_16
          exact cu
         ·refine h_movb rfl hc_23 wa (h_op (.d (.int .u8 (b_13.toNat : Int))) wa rfl (h_op (vB ((b_13.toNat : Int) == 95)) wa rfl (h_op (vB ((b_13.toNat : Int) == 95)) wa rfl (h_op (vB ((b_13.toNat : Int) == 95)) wa rfl (h_op (vB ((b_13.toNat : Int) == 95)) wz rfl (h_op (vB (!((b_13.toNat : Int) == 95))) wz rfl (h_nil ?_)))))))
          obtain rfl := some_inj h_16
          exact cu
       ·refine h_movb rfl hc_19 wa (h_skip wa (h_skip wa (h_skip wa (h_skip (wn rfl rfl) (h_skip (wn rfl rfl) (h_skip wa (h_skip wa (h_skip (wn rfl rfl) (h_skip (wn rfl rfl) (h_skip wa (h_skip wa (h_skip (wn rfl rfl) (h_skip (wn rfl rfl) (h_skip wa (h_op (vB false) wa rfl (h_op (vB false) wz rfl (h_op (vB true) wz rfl (h_nil ?_))))))))))))))))))
        obtain rfl := some_inj h_16
        exact cu
     ·refine h_movb rfl hc_17 wz (h_skip wa (h_skip wa (h_op (vB false) wz rfl (h_op (vB false) wz rfl (h_op (vI s_7) wa rfl (h_op (vB (decide (s_7 > 0))) wa rfl ?_))))))
      rcases cond_some h_16 with ⟨hc_24, h_16⟩ | ⟨hc_24, h_16⟩
      ·refine h_movb rfl hc_24 wa (h_op (.d (.int .u8 (b_13.toNat : Int))) wa rfl (h_op (vB (decide ((b_13.toNat : Int) ≥ 48))) wa rfl ?_))
       rcases cond_some h_16 with ⟨hc_25, h_16⟩ | ⟨hc_25, h_16⟩
       ·refine h_movb rfl hc_25 wa (h_op (.d (.int .u8 (b_13.toNat : Int))) wa rfl (h_op (vB (decide ((b_13.toNat : Int) ≤ 57))) wa rfl (h_op (vB (decide ((b_13.toNat : Int) ≤ 57))) wa rfl ?_)))
        rcases cond_some h_16 with ⟨hc_26, h_16⟩ | ⟨hc_26, h_16⟩
        ·refine h_movb rfl hc_26 wa (h_skip wa (h_skip wa (h_op (vB true) wa rfl (h_op (vB true) wa rfl (h_skip wa (h_skip wa (h_op (vB true) wa rfl (h_op (vB true) wa rfl (h_op (vB true) wz rfl (h_op (vB false) wz rfl (h_nil ?_)))))))))))
         obtain rfl := some_inj h_16
         exact cu
        ·refine h_movb rfl hc_26 wa (h_op (.d (.int .u8 (b_13.toNat : Int))) wa rfl (h_op (vB ((b_13.toNat : Int) == 45)) wa rfl (h_op (vB ((b_13.toNat : Int) == 45)) wa rfl ?_)))
         rcases cond_some h_16 with ⟨hc_27, h_16⟩ | ⟨hc_27, h_16⟩
         ·refine h_movb rfl hc_27 wa (h_skip wa (h_skip wa (h_op (vB true) wa rfl (h_op (vB true) wa rfl (h_op (vB true) wz rfl (h_op (vB false) wz rfl (h_nil ?_)))))))
          obtain rfl := some_inj h_16
          exact cu
         ·refine h_movb rfl hc_27 wa (h_op (.d (.int .u8 (b_13.toNat : Int))) wa rfl (h_op (vB ((b_13.toNat : Int) == 95)) wa rfl (h_op (vB ((b_13.toNat : Int) == 95)) wa rfl (h_op (vB ((b_13.toNat : Int) == 95)) wa rfl (h_op (vB ((b_13.toNat : Int) == 95)) wz rfl (h_op (vB (!((b_13.toNat : Int) == 95))) wz rfl (h_nil ?_)))))))
          obtain rfl := some_inj h_16
          exact cu
       ·refine h_movb rfl hc_25 wa (h_skip wa (h_skip wa (h_op (vB false) wa rfl (h_op (vB false) wa rfl (h_op (.d (.int .u8 (b_13.toNat : Int))) wa rfl (h_op (vB ((b_13.toNat : Int) == 45)) wa rfl (h_op (vB ((b_13.toNat : Int) == 45)) wa rfl ?_)))))))
        rcases cond_some h_16 with ⟨hc_28, h_16⟩ | ⟨hc_28, h_16⟩
        ·refine h_movb rfl hc_28 wa (h_skip wa (h_skip wa (h_op (vB true) wa rfl (h_op (vB true) wa rfl (h_op (vB true) wz rfl (h_op (vB false) wz rfl (h_nil ?_)))))))
         obtain rfl := some_inj h_16
         exact cu
        ·refine h_movb rfl hc_28 wa (h_op (.d (.int .u8 (b_13.toNat : Int))) wa rfl (h_op (vB ((b_13.toNat : Int) == 95)) wa rfl (h_op (vB ((b_13.toNat : Int) == 95)) wa rfl (h_op (vB ((b_13.toNat : Int) == 95)) wa rfl (h_op (vB ((b_13.toNat : Int) == 95)) wz rfl (h_op (vB (!((b_13.toNat : Int) == 95))) wz rfl (h_nil ?_)))))))
         obtain rfl := some_inj h_16
         exact cu
      ·refine h_movb rfl hc_24 wa (h_skip wa (h_skip wa (h_skip wa (h_skip (wn rfl rfl) (h_skip (wn rfl rfl) (h_skip wa (h_skip wa (h_skip (wn rfl rfl) (h_skip (wn rfl rfl) (h_skip wa (h_skip wa (h_skip (wn rfl rfl) (h_skip (wn rfl rfl) (h_skip wa (h_op (vB false) wa rfl (h_op (vB false) wz rfl (h_op (vB true) wz rfl (h_nil ?_))))))))))))))))))
       obtain rfl := some_inj h_16
       exact cu
    ·rintro ⟨⟩ _ sl_ H_ hp_ hq_
     refine wH_at _ hp_ hq_ ?_
     rcases cond_some hc_8 with ⟨hc_29, hc_8⟩ | ⟨hc_29, hc_8⟩
     ·refine wH_ift rfl hc_29 (wH_seq (wH_region (h_op (vB false) wz rfl (h_nil ?_))))
      obtain rfl := some_inj hc_8
      obtain rfl := some_inj hL_9
      obtain rfl := some_inj hF
      exact wH_ret (fin0 (.inr rfl) [(vB false)] ⟨rfl, trivial⟩ rfl rfl rfl)
     ·refine wH_iff rfl hc_29 (wH_skip (wH_region (h_op (vI s_7) wz rfl (h_op (vI (w64 (s_7 + 1))) wz rfl (h_op (vI (w64 (s_7 + 1))) wz rfl (h_nil ?_))))))
      obtain rfl := some_inj hc_8
      exact loop_mk (k_2, (w64 (s_7 + 1))) hL_9 (Nat.lt_succ_self _) rfl (pre_r rfl)
   ·refine wH_iff rfl hc_12 (wH_exit ?_)
    obtain rfl := some_inj hc_8
    obtain rfl := some_inj hL_9
    exact cut_mk (s_7) rfl rfl (pre_r rfl)
 ·rintro s_7 ho_ sl_ H_ hp_ hq_
  subst ho_
  refine wH_at _ hp_ hq_ (wH_seq ?_)
  obtain ⟨v_30, h_31, hF⟩ := bind_some hF
  refine wH_join (β := Unit) (fun _ => ([(2, (vB v_30))] : List (Nat × V))) (fun _ => ([] : Hp)) (fun _ => True) ?_ ?_
  ·refine wH_region (h_op (vS s_1) wz rfl (h_op (vB (sNe s_1 (⟨#[]⟩ : ByteArray))) wz rfl ?_))
   rcases cond_some h_31 with ⟨hc_32, h_31⟩ | ⟨hc_32, h_31⟩
   ·refine h_movb rfl hc_32 wz (h_op (vS s_1) wa rfl (h_lens un9 rfl wa (h_op (vB (decide ((s_1.size : Int) ≤ 40))) wa rfl (h_op (vB (decide ((s_1.size : Int) ≤ 40))) wz rfl (h_op (vB (decide ((s_1.size : Int) ≤ 40))) wz rfl (h_nil ?_))))))
    obtain rfl := some_inj h_31
    exact cu
   ·refine h_movb rfl hc_32 wz (h_skip wa (h_skip wa (h_skip wa (h_op (vB false) wz rfl (h_op (vB false) wz rfl (h_nil ?_))))))
    obtain rfl := some_inj h_31
    exact cu
  ·rintro ⟨⟩ _ sl_ H_ hp_ hq_
   refine wH_at _ hp_ hq_ ?_
   obtain rfl := some_inj hF
   exact wH_ret (fin0 (.inr rfl) [(vB v_30)] ⟨rfl, trivial⟩ rfl rfl rfl)
theorem kit_IsMoment_ok {n_1 : Int} {r : Bool} (hF : kit_IsMoment n_1 = some r) :
  FnM Tryz.prog 136 [(vI n_1)] [] (vB r) [] := by
 refine FnM.of_wH ⟨Tryz.prog, 9, [], []⟩ rfl Tryz.func136 rfl rfl (Nat.le_of_ble_eq_true rfl) (by kernel_rfl) ?_
 unfold kit_IsMoment at hF
 refine wH_seq (wH_region (h_op (vB false) wz rfl (h_nil (wH_seq ?_))))
 obtain ⟨v_2, h_3, hF⟩ := bind_some hF
 refine wH_join (β := Unit) (fun _ => ([(2, (vB v_2))] : List (Nat × V))) (fun _ => ([] : Hp)) (fun _ => True) ?_ ?_
 ·refine wH_region (h_op (vI n_1) wz rfl (h_op (vB (decide (n_1 ≥ 0))) wz rfl ?_))
  rcases cond_some h_3 with ⟨hc_4, h_3⟩ | ⟨hc_4, h_3⟩
  ·refine h_movb rfl hc_4 wz (h_op (vI n_1) wa rfl (h_op (vB (decide (n_1 < 345686400000))) wa rfl (h_op (vB (decide (n_1 < 345686400000))) wz rfl (h_op (vB (decide (n_1 < 345686400000))) wz rfl (h_nil ?_)))))
   obtain rfl := some_inj h_3
   exact cu
  ·refine h_movb rfl hc_4 wz (h_skip wa (h_skip wa (h_op (vB false) wz rfl (h_op (vB false) wz rfl (h_nil ?_)))))
   obtain rfl := some_inj h_3
   exact cu
 ·rintro ⟨⟩ _ sl_ H_ hp_ hq_
  refine wH_at _ hp_ hq_ ?_
  obtain rfl := some_inj hF
  exact wH_ret (fin0 (.inr rfl) [(vB v_2)] ⟨rfl, trivial⟩ rfl rfl rfl)
theorem kit_Outside_ok {n_1 : Int} {low_2 : Int} {high_3 : Int} {r : Bool} (hF : kit_Outside n_1 low_2 high_3 = some r) :
  FnM Tryz.prog 86 [(vI n_1), (vI low_2), (vI high_3)] [] (vB r) [] := by
 refine FnM.of_wH ⟨Tryz.prog, 15, [], []⟩ rfl Tryz.func86 rfl rfl (Nat.le_of_ble_eq_true rfl) (by kernel_rfl) ?_
 unfold kit_Outside at hF
 refine wH_seq (wH_region (h_op (vB false) wz rfl (h_nil (wH_seq ?_))))
 obtain ⟨v_4, h_5, hF⟩ := bind_some hF
 refine wH_join (β := Unit) (fun _ => ([(6, (vB v_4))] : List (Nat × V))) (fun _ => ([] : Hp)) (fun _ => True) ?_ ?_
 ·refine wH_region (h_op (vI n_1) wz rfl (h_op (vI low_2) wz rfl (h_op (vB (decide (n_1 < low_2))) wz rfl ?_)))
  rcases cond_some h_5 with ⟨hc_6, h_5⟩ | ⟨hc_6, h_5⟩
  ·refine h_movb rfl hc_6 wz (h_skip wa (h_skip wa (h_skip wa (h_op (vB true) wz rfl (h_op (vB true) wz rfl (h_nil ?_))))))
   obtain rfl := some_inj h_5
   exact cu
  ·refine h_movb rfl hc_6 wz (h_op (vI n_1) wa rfl (h_op (vI high_3) wa rfl (h_op (vB (decide (n_1 > high_3))) wa rfl (h_op (vB (decide (n_1 > high_3))) wz rfl (h_op (vB (decide (n_1 > high_3))) wz rfl (h_nil ?_))))))
   obtain rfl := some_inj h_5
   exact cu
 ·rintro ⟨⟩ _ sl_ H_ hp_ hq_
  refine wH_at _ hp_ hq_ ?_
  obtain rfl := some_inj hF
  exact wH_ret (fin0 (.inr rfl) [(vB v_4)] ⟨rfl, trivial⟩ rfl rfl rfl)
theorem internal_bytealg_CompareString_ok {a_1 : ByteArray} {b_2 : ByteArray} {r : Int} (hF : internal_bytealg_CompareString a_1 b_2 = some r) :
  FnM Tryz.prog 197 [(vS a_1), (vS b_2)] [] (vI r) [] := by
 refine FnM.of_wH ⟨Tryz.prog, 8, [], []⟩ rfl Tryz.func197 rfl rfl (Nat.le_of_ble_eq_true rfl) (by kernel_rfl) ?_
 unfold internal_bytealg_CompareString at hF
 refine wH_seq (wH_region (h_op (vI 0) wz rfl (h_nil (wH_seq (wH_region (h_op (vS a_1) wz rfl (h_op (vS b_2) wz rfl (h_ext (ext_cmpB (f := 241) Tryz.func241 rfl rfl (by kernel_rfl) (by kernel_rfl) _ _) rfl nb241 rfl wz (h_op (vI (cmpB a_1 b_2)) wz rfl (h_nil ?_))))))))))
 obtain rfl := some_inj hF
 exact wH_ret (fin0 (.inr rfl) [(vI (cmpB a_1 b_2))] ⟨rfl, trivial⟩ rfl rfl rfl)
theorem strings_Compare_ok {a_1 : ByteArray} {b_2 : ByteArray} {r : Int} (hF : strings_Compare a_1 b_2 = some r) :
  FnM Tryz.prog 129 [(vS a_1), (vS b_2)] [] (vI r) [] := by
 refine FnM.of_wH ⟨Tryz.prog, 8, [], []⟩ rfl Tryz.func129 rfl rfl (Nat.le_of_ble_eq_true rfl) (by kernel_rfl) ?_
 unfold strings_Compare at hF
 refine wH_seq (wH_region (h_op (vI 0) wz rfl (h_nil (wH_seq (wH_region (h_op (vS a_1) wz rfl (h_op (vS b_2) wz rfl ?_)))))))
 obtain ⟨r_3, hr_4, hF⟩ := bind_some hF
 refine h_call0 (internal_bytealg_CompareString_ok hr_4) rfl hb197 rfl rfl rfl rfl wz (h_op (vI r_3) wz rfl (h_nil ?_))
 obtain rfl := some_inj hF
 exact wH_ret (fin0 (.inr rfl) [(vI r_3)] ⟨rfl, trivial⟩ rfl rfl rfl)
theorem cmp_isNaN_int_ok {x_1 : Int} {r : Bool} (hF : cmp_isNaN_int x_1 = some r) :
  FnM Tryz.prog 205 [(vI x_1)] [] (vB r) [] := by
 refine FnM.of_wH ⟨Tryz.prog, 6, [], []⟩ rfl Tryz.func205 rfl rfl (Nat.le_of_ble_eq_true rfl) (by kernel_rfl) ?_
 unfold cmp_isNaN_int at hF
 refine wH_seq (wH_region (h_op (vB false) wz rfl (h_nil (wH_seq (wH_region (h_op (vI x_1) wz rfl (h_op (vI x_1) wz rfl (h_op (vB (x_1 != x_1)) wz rfl (h_op (vB (x_1 != x_1)) wz rfl (h_nil ?_))))))))))
 obtain rfl := some_inj hF
 exact wH_ret (fin0 (.inr rfl) [(vB (x_1 != x_1))] ⟨rfl, trivial⟩ rfl rfl rfl)
theorem cmp_Compare_int_ok {x_1 : Int} {y_2 : Int} {r : Int} (hF : cmp_Compare_int x_1 y_2 = some r) :
  FnM Tryz.prog 147 [(vI x_1), (vI y_2)] [] (vI r) [] := by
 refine FnM.of_wH ⟨Tryz.prog, 20, [], []⟩ rfl Tryz.func147 rfl rfl (Nat.le_of_ble_eq_true rfl) (by kernel_rfl) ?_
 unfold cmp_Compare_int at hF
 refine wH_seq (wH_region (h_op (vI 0) wz rfl (h_nil (wH_seq (wH_region (h_op (vI x_1) wz rfl ?_))))))
 obtain ⟨r_3, hr_4, hF⟩ := bind_some hF
 refine h_call0 (cmp_isNaN_int_ok hr_4) rfl hb205 rfl rfl rfl rfl wz (h_op (vB r_3) wz rfl (h_nil (wH_seq (wH_region (h_op (vI y_2) wz rfl ?_)))))
 obtain ⟨r_5, hr_6, hF⟩ := bind_some hF
 refine h_call0 (cmp_isNaN_int_ok hr_6) rfl hb205 rfl rfl rfl rfl wz (h_op (vB r_5) wz rfl (h_nil (wH_seq (wH_seq (wH_region (h_op (vB r_3) wz rfl (h_nil ?_)))))))
 rcases cond_some hF with ⟨hc_7, hF⟩ | ⟨hc_7, hF⟩
 ·refine wH_ift rfl hc_7 (wH_seq (wH_seq (wH_region (h_op (vB r_5) wz rfl (h_nil ?_)))))
  rcases cond_some hF with ⟨hc_8, hF⟩ | ⟨hc_8, hF⟩
  ·refine wH_ift rfl hc_8 (wH_seq (wH_region (h_op (vI 0) wz rfl (h_nil ?_))))
   obtain rfl := some_inj hF
   exact wH_ret (fin0 (.inr rfl) [(vI 0)] ⟨rfl, trivial⟩ rfl rfl rfl)
  ·refine wH_iff rfl hc_8 (wH_skip (wH_seq (wH_region (h_op (vI (-1)) wz rfl (h_nil ?_)))))
   obtain rfl := some_inj hF
   exact wH_ret (fin0 (.inr rfl) [(vI (-1))] ⟨rfl, trivial⟩ rfl rfl rfl)
 ·refine wH_iff rfl hc_7 (wH_skip (wH_seq (wH_seq (wH_region (h_op (vB r_5) wz rfl (h_nil ?_))))))
  rcases cond_some hF with ⟨hc_9, hF⟩ | ⟨hc_9, hF⟩
  ·refine wH_ift rfl hc_9 (wH_seq (wH_region (h_op (vI 1) wz rfl (h_nil ?_))))
   obtain rfl := some_inj hF
   exact wH_ret (fin0 (.inr rfl) [(vI 1)] ⟨rfl, trivial⟩ rfl rfl rfl)
  ·refine wH_iff rfl hc_9 (wH_skip (wH_seq (wH_seq (wH_region (h_op (vI x_1) wz rfl (h_op (vI y_2) wz rfl (h_op (vB (decide (x_1 < y_2))) wz rfl (h_nil ?_))))))))
   rcases cond_some hF with ⟨hc_10, hF⟩ | ⟨hc_10, hF⟩
   ·refine wH_ift rfl hc_10 (wH_seq (wH_region (h_op (vI (-1)) wz rfl (h_nil ?_))))
    obtain rfl := some_inj hF
    exact wH_ret (fin0 (.inr rfl) [(vI (-1))] ⟨rfl, trivial⟩ rfl rfl rfl)
   ·refine wH_iff rfl hc_10 (wH_skip (wH_seq (wH_seq (wH_region (h_op (vI x_1) wz rfl (h_op (vI y_2) wz rfl (h_op (vB (decide (x_1 > y_2))) wz rfl (h_nil ?_))))))))
    rcases cond_some hF with ⟨hc_11, hF⟩ | ⟨hc_11, hF⟩
    ·refine wH_ift rfl hc_11 (wH_seq (wH_region (h_op (vI 1) wz rfl (h_nil ?_))))
     obtain rfl := some_inj hF
     exact wH_ret (fin0 (.inr rfl) [(vI 1)] ⟨rfl, trivial⟩ rfl rfl rfl)
    ·refine wH_iff rfl hc_11 (wH_skip (wH_seq (wH_region (h_op (vI 0) wz rfl (h_nil ?_)))))
     obtain rfl := some_inj hF
     exact wH_ret (fin0 (.inr rfl) [(vI 0)] ⟨rfl, trivial⟩ rfl rfl rfl)
theorem cmp_Or_int_ok {vals_1 : (List Int)} {r : Int} (hF : cmp_Or_int vals_1 = some r) :
  FnM Tryz.prog 141 [(vL eI vals_1)] [] (vI r) [] := by
 refine FnM.of_wH ⟨Tryz.prog, 18, [], []⟩ rfl Tryz.func141 rfl rfl (Nat.le_of_ble_eq_true rfl) (by kernel_rfl) ?_
 unfold cmp_Or_int at hF
 refine wH_seq (wH_region (h_op (vI 0) wz rfl (h_nil (wH_seq (wH_region (h_op (vI 0) wz rfl (h_nil (wH_seq (wH_seq (wH_region (h_op (vL eI vals_1) wz rfl (h_len un22 rfl wz (h_op (vI 0) wz rfl (h_nil ?_))))))))))))))
 obtain ⟨o_10, hj_11, hF⟩ := bind_some hF
 obtain ⟨hn_6, hj_11⟩ := forL_some hj_11
 refine wH_join (β := (Unit)) (fun (s_7 : Unit) => ([(3, (vI 0))] : List (Nat × V))) (fun (s_7 : Unit) => ([] : Hp)) (fun p => o_10 = .go p) ?_ ?_
 ·refine wH_block (wH_loop (β := Nat × (List Int) × (Unit)) (fun p => (fun (k_2 : Nat) (l_3 : List Int) (s_7 : Unit) => ([(3, (vI 0)), (6, (vL eI vals_1)), (7, (vI (vals_1.length : Int))), (8, (vI (k_2 : Int)))] : List (Nat × V))) p.1 p.2.1 p.2.2) (fun p => (fun (k_2 : Nat) (l_3 : List Int) (s_7 : Unit) => ([] : Hp)) p.1 p.2.1 p.2.2) (fun p => forR (fun k x s => cmp_Or_int_L1 k x s) p.2.1 p.1 p.2.2 = some o_10 ∧ (vals_1).drop p.1 = p.2.1) (fun p => p.2.1.length) (0, vals_1, ()) ⟨hj_11, rfl⟩ rfl (pre_r rfl) ?_)
  rintro ⟨k_2, l_3, s_7⟩ ⟨hL_9, hD_5⟩
  dsimp only at hL_9 hD_5
  cases l_3 with
  | nil =>
   obtain rfl := some_inj hL_9
   refine wH_seq (wH_region (h_op (vB (decide ((k_2 : Int) < (vals_1.length : Int)))) wz rfl (h_nil ?_)))
   refine wH_seq (wH_iff rfl (drop_nil hD_5) (wH_exit ?_))
   exact cut_mk (s_7) rfl rfl (pre_r rfl)
  | cons x_4 l_3 =>
   obtain ⟨c_, hc_8, hL_9⟩ := bind_some hL_9
   refine wH_seq (wH_region (h_op (vB (decide ((k_2 : Int) < (vals_1.length : Int)))) wz rfl (h_nil ?_)))
   refine wH_seq (wH_ift rfl (drop_cons hD_5) (wH_skip ?_))
   unfold cmp_Or_int_L1 at hc_8
   refine wH_seq (wH_block (wH_seq (wH_region (h_ia es22 rfl rfl (drop_idx hD_5) rfl wz (h_ldc sz3 ag3 rfl (vI x_4) rfl wz (h_op (vI x_4) wz rfl (h_nil (wH_seq (wH_region (h_op (vI x_4) wz rfl (h_op (vI 0) wz rfl (h_op (vB (x_4 != 0)) wz rfl (h_nil ?_)))))))))))))
   rcases cond_some hc_8 with ⟨hc_12, hc_8⟩ | ⟨hc_12, hc_8⟩
   ·refine wH_ift rfl hc_12 (wH_seq (wH_region (h_op (vI x_4) wz rfl (h_op (vI x_4) wz rfl (h_nil ?_)))))
    obtain rfl := some_inj hc_8
    obtain rfl := some_inj hL_9
    obtain rfl := some_inj hF
    exact wH_ret (fin0 (.inr rfl) [(vI x_4)] ⟨rfl, trivial⟩ rfl rfl rfl)
   ·refine wH_iff rfl hc_12 (wH_skip (wH_region (h_opw (w64_next hD_5 hn_6) wz rfl (h_op (vI ((k_2 + 1 : Nat) : Int)) wz rfl (h_nil ?_)))))
    obtain rfl := some_inj hc_8
    exact loop_mk (k_2 + 1, l_3, ()) ⟨hL_9, drop_next hD_5⟩ (Nat.lt_succ_self _) rfl (pre_r rfl)
 ·rintro s_7 ho_ sl_ H_ hp_ hq_
  subst ho_
  refine wH_at _ hp_ hq_ (wH_seq (wH_region (h_op (vI 0) wz rfl (h_op (vI 0) wz rfl (h_nil ?_)))))
  obtain rfl := some_inj hF
  exact wH_ret (fin0 (.inr rfl) [(vI 0)] ⟨rfl, trivial⟩ rfl rfl rfl)
theorem screen_CheckRect_ok {r_1 : Rect} {r : Int} (hF : screen_CheckRect r_1 = some r) :
  FnM Tryz.prog 96 [(.d (.agg (Rect.enc r_1)))] [] (vI r) [] := by
 refine FnM.of_wH ⟨Tryz.prog, 25, [], []⟩ rfl Tryz.func96 rfl rfl (Nat.le_of_ble_eq_true rfl) (by kernel_rfl) ?_
 unfold screen_CheckRect at hF
 refine wH_seq (wH_region (h_box 0 (.inl rfl) [(vI r_1.X), (vI r_1.Y), (vI r_1.W), (vI r_1.H)] rfl rfl wz (fun n_2 => h_op (vI 0) wz rfl (h_nil (wH_seq (wH_seq ?_))))))
 obtain ⟨v_3, h_4, hF⟩ := bind_some hF
 refine wH_join (β := Unit) (fun _ => ([(1, (.ref n_2 0 0)), (10, (vB v_3))] : List (Nat × V))) (fun _ => ([(n_2, some (.cells 4 [(vI r_1.X), (vI r_1.Y), (vI r_1.W), (vI r_1.H)]))] : Hp)) (fun _ => True) ?_ ?_
 ·refine wH_region (h_far pl45_0 rfl 0 rfl wz (h_ldr 0 0 il ft sz3 ag3 rfl rfl (vI r_1.X) rfl wz ?_))
  obtain ⟨r_5, hr_6, h_4⟩ := bind_some h_4
  refine h_call0 (kit_Outside_ok hr_6) rfl hb86 rfl rfl rfl rfl wz ?_
  rcases cond_some h_4 with ⟨hc_7, h_4⟩ | ⟨hc_7, h_4⟩
  ·refine h_movb rfl hc_7 wz (h_skip wa (h_skip wa (h_skip wa (h_op (vB true) wz rfl (h_nil ?_)))))
   obtain rfl := some_inj h_4
   exact cu
  ·refine h_movb rfl hc_7 wz (h_far pl45_1 rfl 1 rfl wa (h_ldr 0 0 il ft sz3 ag3 rfl rfl (vI r_1.Y) rfl wa ?_))
   obtain ⟨r_8, hr_9, h_4⟩ := bind_some h_4
   refine h_call0 (kit_Outside_ok hr_9) rfl hb86 rfl rfl rfl rfl wa (h_op (vB r_8) wz rfl (h_nil ?_))
   obtain rfl := some_inj h_4
   exact cu
 ·rintro ⟨⟩ _ sl_ H_ hp_ hq_
  refine wH_at _ hp_ hq_ ?_
  rcases cond_some hF with ⟨hc_10, hF⟩ | ⟨hc_10, hF⟩
  ·refine wH_ift rfl hc_10 (wH_seq (wH_region (h_op (vI 1) wz rfl (h_nil ?_))))
   obtain rfl := some_inj hF
   exact wH_ret (fin0 (.inr rfl) [(vI 1)] ⟨rfl, trivial⟩ rfl rfl rfl)
  ·refine wH_iff rfl hc_10 (wH_skip (wH_seq (wH_seq ?_)))
   obtain ⟨v_11, h_12, hF⟩ := bind_some hF
   refine wH_join (β := Unit) (fun _ => ([(24, (vB v_11))] : List (Nat × V))) (fun _ => ([(n_2, some (.cells 4 [(vI r_1.X), (vI r_1.Y), (vI r_1.W), (vI r_1.H)]))] : Hp)) (fun _ => True) ?_ ?_
   ·refine wH_region (h_far pl45_2 rfl 2 rfl wz (h_ldr 0 0 il ft sz3 ag3 rfl rfl (vI r_1.W) rfl wz (h_far pl45_0 rfl 0 rfl wz (h_ldr 0 0 il ft sz3 ag3 rfl rfl (vI r_1.X) rfl wz (h_op (vI (w64 (100000 - r_1.X))) wz rfl ?_)))))
    obtain ⟨r_13, hr_14, h_12⟩ := bind_some h_12
    refine h_call0 (kit_Outside_ok hr_14) rfl hb86 rfl rfl rfl rfl wz ?_
    rcases cond_some h_12 with ⟨hc_15, h_12⟩ | ⟨hc_15, h_12⟩
    ·refine h_movb rfl hc_15 wz (h_skip wa (h_skip wa (h_skip wa (h_skip wa (h_skip wa (h_skip wa (h_op (vB true) wz rfl (h_nil ?_))))))))
     obtain rfl := some_inj h_12
     exact cu
    ·refine h_movb rfl hc_15 wz (h_far pl45_3 rfl 3 rfl wa (h_ldr 0 0 il ft sz3 ag3 rfl rfl (vI r_1.H) rfl wa (h_far pl45_1 rfl 1 rfl wa (h_ldr 0 0 il ft sz3 ag3 rfl rfl (vI r_1.Y) rfl wa (h_op (vI (w64 (100000 - r_1.Y))) wa rfl ?_)))))
     obtain ⟨r_16, hr_17, h_12⟩ := bind_some h_12
     refine h_call0 (kit_Outside_ok hr_17) rfl hb86 rfl rfl rfl rfl wa (h_op (vB r_16) wz rfl (h_nil ?_))
     obtain rfl := some_inj h_12
     exact cu
   ·rintro ⟨⟩ _ sl_ H_ hp_ hq_
    refine wH_at _ hp_ hq_ ?_
    rcases cond_some hF with ⟨hc_18, hF⟩ | ⟨hc_18, hF⟩
    ·refine wH_ift rfl hc_18 (wH_seq (wH_region (h_op (vI 1) wz rfl (h_nil ?_))))
     obtain rfl := some_inj hF
     exact wH_ret (fin0 (.inr rfl) [(vI 1)] ⟨rfl, trivial⟩ rfl rfl rfl)
    ·refine wH_iff rfl hc_18 (wH_skip (wH_seq (wH_region (h_op (vI 0) wz rfl (h_nil ?_)))))
     obtain rfl := some_inj hF
     exact wH_ret (fin0 (.inr rfl) [(vI 0)] ⟨rfl, trivial⟩ rfl rfl rfl)
theorem screen_rectsFault_ok {l_1 : (List Rect)} {r : Int} (hF : screen_rectsFault l_1 = some r) :
  FnM Tryz.prog 111 [(vL Rect.enc l_1)] [] (vI r) [] := by
 refine FnM.of_wH ⟨Tryz.prog, 21, [], []⟩ rfl Tryz.func111 rfl rfl (Nat.le_of_ble_eq_true rfl) (by kernel_rfl) ?_
 unfold screen_rectsFault at hF
 refine wH_seq (wH_region (h_op (vI 0) wz rfl (h_nil (wH_seq (wH_seq (wH_region (h_op (vL Rect.enc l_1) wz rfl (h_len un50 rfl wz (h_op (vB (decide ((l_1.length : Int) > 2000))) wz rfl (h_nil ?_))))))))))
 rcases cond_some hF with ⟨hc_2, hF⟩ | ⟨hc_2, hF⟩
 ·refine wH_ift rfl hc_2 (wH_seq (wH_region (h_op (vI 2) wz rfl (h_nil ?_))))
  obtain rfl := some_inj hF
  exact wH_ret (fin0 (.inr rfl) [(vI 2)] ⟨rfl, trivial⟩ rfl rfl rfl)
 ·refine wH_iff rfl hc_2 (wH_skip (wH_seq (wH_seq (wH_region (h_op (vL Rect.enc l_1) wz rfl (h_len un50 rfl wz (h_op (vI 0) wz rfl (h_nil ?_))))))))
  obtain ⟨o_11, hj_12, hF⟩ := bind_some hF
  obtain ⟨hn_7, hj_12⟩ := forL_some hj_12
  refine wH_join (β := (Unit)) (fun (s_8 : Unit) => ([] : List (Nat × V))) (fun (s_8 : Unit) => ([] : Hp)) (fun p => o_11 = .go p) ?_ ?_
  ·refine wH_block (wH_loop (β := Nat × (List Rect) × (Unit)) (fun p => (fun (k_3 : Nat) (l_4 : List Rect) (s_8 : Unit) => ([(9, (vL Rect.enc l_1)), (10, (vI (l_1.length : Int))), (11, (vI (k_3 : Int)))] : List (Nat × V))) p.1 p.2.1 p.2.2) (fun p => (fun (k_3 : Nat) (l_4 : List Rect) (s_8 : Unit) => ([] : Hp)) p.1 p.2.1 p.2.2) (fun p => forR (fun k x s => screen_rectsFault_L1 k x s) p.2.1 p.1 p.2.2 = some o_11 ∧ (l_1).drop p.1 = p.2.1) (fun p => p.2.1.length) (0, l_1, ()) ⟨hj_12, rfl⟩ rfl (pre_r rfl) ?_)
   rintro ⟨k_3, l_4, s_8⟩ ⟨hL_10, hD_6⟩
   dsimp only at hL_10 hD_6
   cases l_4 with
   | nil =>
    obtain rfl := some_inj hL_10
    refine wH_seq (wH_region (h_op (vB (decide ((k_3 : Int) < (l_1.length : Int)))) wz rfl (h_nil ?_)))
    refine wH_seq (wH_iff rfl (drop_nil hD_6) (wH_exit ?_))
    exact cut_mk (s_8) rfl rfl (pre_r rfl)
   | cons x_5 l_4 =>
    obtain ⟨c_, hc_9, hL_10⟩ := bind_some hL_10
    refine wH_seq (wH_region (h_op (vB (decide ((k_3 : Int) < (l_1.length : Int)))) wz rfl (h_nil ?_)))
    refine wH_seq (wH_ift rfl (drop_cons hD_6) (wH_skip ?_))
    unfold screen_rectsFault_L1 at hc_9
    refine wH_seq (wH_block (wH_seq (wH_region (h_ia es50 rfl rfl (drop_idx hD_6) rfl wz (h_ldc sz45 ag45 rfl (.d (.agg (Rect.enc x_5))) rfl wz (h_alloc 0 (.inl rfl) z45 rfl wz (fun n_13 => h_str 0 il ft 0 sz45 rfl rfl [(vI x_5.X), (vI x_5.Y), (vI x_5.W), (vI x_5.H)] rfl wz (h_nil (wH_seq (wH_region (h_ldr 0 0 il ft sz45 ag45 rfl rfl (.d (.agg (Rect.enc x_5))) rfl wz ?_)))))))))))
    obtain ⟨r_14, hr_15, hc_9⟩ := bind_some hc_9
    refine h_call0 (screen_CheckRect_ok hr_15) rfl hb96 rfl rfl rfl rfl wz (h_op (vI r_14) wz rfl (h_nil (wH_seq (wH_region (h_op (vI r_14) wz rfl (h_op (vB (r_14 != 0)) wz rfl (h_nil ?_)))))))
    rcases cond_some hc_9 with ⟨hc_16, hc_9⟩ | ⟨hc_16, hc_9⟩
    ·refine wH_ift rfl hc_16 (wH_seq (wH_region (h_op (vI r_14) wz rfl (h_op (vI r_14) wz rfl (h_nil ?_)))))
     obtain rfl := some_inj hc_9
     obtain rfl := some_inj hL_10
     obtain rfl := some_inj hF
     exact wH_ret (fin0 (.inr rfl) [(vI r_14)] ⟨rfl, trivial⟩ rfl rfl rfl)
    ·refine wH_iff rfl hc_16 (wH_skip (wH_region (h_opw (w64_next hD_6 hn_7) wz rfl (h_op (vI ((k_3 + 1 : Nat) : Int)) wz rfl (h_nil ?_)))))
     obtain rfl := some_inj hc_9
     exact loop_mk (k_3 + 1, l_4, ()) ⟨hL_10, drop_next hD_6⟩ (Nat.lt_succ_self _) rfl (pre_r rfl)
  ·rintro s_8 ho_ sl_ H_ hp_ hq_
   subst ho_
   refine wH_at _ hp_ hq_ (wH_seq (wH_region (h_op (vI 0) wz rfl (h_nil ?_))))
   obtain rfl := some_inj hF
   exact wH_ret (fin0 (.inr rfl) [(vI 0)] ⟨rfl, trivial⟩ rfl rfl rfl)
theorem slices_Grow_api_Rect_api_Rect_k_ok {n_1 : Int} {r : Bool} (hF : slices_Grow_api_Rect_api_Rect_k n_1 = some r) :
  FnM Tryz.prog 218 [.nil, (vI n_1)] [] (kV r (extN 0) 4 ([] : List Rect)) (kO r 4) := by
 refine FnM.of_wH ⟨Tryz.prog, 27, [], []⟩ rfl Tryz.func218 rfl rfl (Nat.le_of_ble_eq_true rfl) (by kernel_rfl) ?_
 unfold slices_Grow_api_Rect_api_Rect_k at hF
 refine wH_seq (wH_region (h_op .nil wz rfl (h_nil (wH_seq (wH_seq (wH_region (h_op (vI n_1) wz rfl (h_op (vB (decide (n_1 < 0))) wz rfl (h_nil ?_)))))))))
 rcases cond_some hF with ⟨hc_2, hF⟩ | ⟨hc_2, hF⟩
 ·refine wH_ift rfl hc_2 (wH_region ?_)
  cases hF
 ·refine wH_iff rfl hc_2 (wH_skip (wH_seq (wH_seq (wH_region (h_op (vI n_1) wz rfl (h_op .nil wz rfl (h_capn el50 rfl wz (h_op .nil wz rfl (h_lenn un50 rfl wz (h_op (vI (w64 (0 - 0))) wz rfl (h_op (vI (w64 (n_1 - (w64 (0 - 0))))) wz rfl (h_op (vI (w64 (n_1 - (w64 (0 - 0))))) wz rfl (h_nil (wH_seq (wH_region (h_op (vI (w64 (n_1 - (w64 (0 - 0))))) wz rfl (h_op (vB (decide ((w64 (n_1 - (w64 (0 - 0)))) > 0))) wz rfl (h_nil ?_))))))))))))))))))
  rcases cond_some hF with ⟨hc_3, hF⟩ | ⟨hc_3, hF⟩
  ·refine wH_ift rfl hc_3 (wH_region (h_op .nil wz rfl (h_op .nil wz rfl (h_capn el50 rfl wz (h_op .nil wz (by kernel_rfl) (h_op (vI (w64 (n_1 - (w64 (0 - 0))))) wz rfl ?_))))))
   obtain ⟨_, hz_5, hF⟩ := bind_some hF
   refine h_appz (enc := Rect.enc) 0 (.inl rfl) el50 (by kernel_rfl) sz45 z45 rfl (by decide) by45 rfl rfl hz_5 wz (fun n_4 => h_op .nil wz rfl (h_lenn un50 rfl wz (h_cutm (m := 0) un50 sz45 rfl rfl rfl (Nat.zero_le _) wz (h_op (.vs n_4 4 0 0) wz rfl (h_nil (wH_seq (wH_region (h_op (.vs n_4 4 0 0) wz rfl (h_op (.vs n_4 4 0 0) wz rfl (h_nil ?_))))))))))
   obtain rfl := some_inj hF
   exact wH_ret (finK (.inr rfl) 0 rfl rfl)
  ·refine wH_iff rfl hc_3 (wH_skip (wH_seq (wH_region (h_op .nil wz rfl (h_op .nil wz rfl (h_nil ?_))))))
   obtain rfl := some_inj hF
   exact wH_ret (finK0 (.inr rfl) rfl)
theorem slices_Concat_api_Rect_api_Rect_ok {slices_1 : (List (List Rect))} {r : (List Rect)} (hF : slices_Concat_api_Rect_api_Rect slices_1 = some r) :
  FnM Tryz.prog 180 [(vL (eL Rect.enc) slices_1)] [] (vL Rect.enc r) [] := by
 refine FnM.of_wH ⟨Tryz.prog, 36, [], []⟩ rfl Tryz.func180 rfl rfl (Nat.le_of_ble_eq_true rfl) (by kernel_rfl) ?_
 unfold slices_Concat_api_Rect_api_Rect at hF
 refine wH_seq (wH_region (h_op .nil wz rfl (h_nil (wH_seq (wH_region (h_op (vI 0) wz rfl (h_nil (wH_seq (wH_seq (wH_region (h_op (vL (eL Rect.enc) slices_1) wz rfl (h_len un289 rfl wz (h_op (vI 0) wz rfl (h_nil ?_))))))))))))))
 obtain ⟨o_10, hj_11, hF⟩ := bind_some hF
 obtain ⟨hn_6, hj_11⟩ := forL_some hj_11
 refine wH_join (β := (Int)) (fun (s_7 : Int) => ([(0, (vL (eL Rect.enc) slices_1)), (3, (vI s_7))] : List (Nat × V))) (fun (s_7 : Int) => ([] : Hp)) (fun p => o_10 = .go p) ?_ ?_
 ·refine wH_block (wH_loop (β := Nat × (List (List Rect)) × (Int)) (fun p => (fun (k_2 : Nat) (l_3 : List (List Rect)) (s_7 : Int) => ([(0, (vL (eL Rect.enc) slices_1)), (3, (vI s_7)), (9, (vL (eL Rect.enc) slices_1)), (10, (vI (slices_1.length : Int))), (11, (vI (k_2 : Int)))] : List (Nat × V))) p.1 p.2.1 p.2.2) (fun p => (fun (k_2 : Nat) (l_3 : List (List Rect)) (s_7 : Int) => ([] : Hp)) p.1 p.2.1 p.2.2) (fun p => forR (fun k x s => slices_Concat_api_Rect_api_Rect_L1 k x s) p.2.1 p.1 p.2.2 = some o_10 ∧ (slices_1).drop p.1 = p.2.1) (fun p => p.2.1.length) (0, slices_1, 0) ⟨hj_11, rfl⟩ rfl (pre_r rfl) ?_)
  rintro ⟨k_2, l_3, s_7⟩ ⟨hL_9, hD_5⟩
  dsimp only at hL_9 hD_5
  cases l_3 with
  | nil =>
   obtain rfl := some_inj hL_9
   refine wH_seq (wH_region (h_op (vB (decide ((k_2 : Int) < (slices_1.length : Int)))) wz rfl (h_nil ?_)))
   refine wH_seq (wH_iff rfl (drop_nil hD_5) (wH_exit ?_))
   exact cut_mk (s_7) rfl rfl (pre_r rfl)
  | cons x_4 l_3 =>
   obtain ⟨c_, hc_8, hL_9⟩ := bind_some hL_9
   refine wH_seq (wH_region (h_op (vB (decide ((k_2 : Int) < (slices_1.length : Int)))) wz rfl (h_nil ?_)))
   refine wH_seq (wH_ift rfl (drop_cons hD_5) (wH_skip ?_))
   unfold slices_Concat_api_Rect_api_Rect_L1 at hc_8
   refine wH_seq (wH_block (wH_seq (wH_region (h_ia es289 rfl rfl (drop_idx hD_5) rfl wz (h_ldc sz50 ag50 rfl (vL Rect.enc x_4) rfl wz (h_op (vL Rect.enc x_4) wz rfl (h_nil (wH_seq (wH_region (h_op (vI s_7) wz rfl (h_op (vL Rect.enc x_4) wz rfl (h_len un50 rfl wz (h_op (vI (w64 (s_7 + (x_4.length : Int)))) wz rfl (h_op (vI (w64 (s_7 + (x_4.length : Int)))) wz rfl (h_nil (wH_seq (wH_region (h_op (vI (w64 (s_7 + (x_4.length : Int)))) wz rfl (h_op (vB (decide ((w64 (s_7 + (x_4.length : Int))) < 0))) wz rfl (h_nil ?_))))))))))))))))))))
   obtain ⟨v_12, h_13, hc_8⟩ := bind_some hc_8
   refine wH_join (β := Unit) (fun _ => ([(0, (vL (eL Rect.enc) slices_1)), (3, (vI (w64 (s_7 + (x_4.length : Int))))), (9, (vL (eL Rect.enc) slices_1)), (10, (vI (slices_1.length : Int))), (11, (vI (k_2 : Int)))] : List (Nat × V))) (fun _ => ([] : Hp)) (fun _ => True) ?_ ?_
   ·rcases cond_some h_13 with ⟨hc_14, h_13⟩ | ⟨hc_14, h_13⟩
    ·refine wH_ift rfl hc_14 (wH_region ?_)
     cases h_13
    ·refine wH_iff rfl hc_14 (wH_skip ?_)
     obtain rfl := some_inj h_13
     exact cu
   ·rintro ⟨⟩ _ sl_ H_ hp_ hq_
    refine wH_at _ hp_ hq_ (wH_region (h_opw (w64_next hD_5 hn_6) wz rfl (h_op (vI ((k_2 + 1 : Nat) : Int)) wz rfl (h_nil ?_))))
    obtain rfl := some_inj hc_8
    exact loop_mk (k_2 + 1, l_3, (w64 (s_7 + (x_4.length : Int)))) ⟨hL_9, drop_next hD_5⟩ (Nat.lt_succ_self _) rfl (pre_r rfl)
 ·rintro s_7 ho_ sl_ H_ hp_ hq_
  subst ho_
  refine wH_at _ hp_ hq_ (wH_seq (wH_region (h_op (vI s_7) wz rfl ?_)))
  obtain ⟨b_15, hr_16, hF⟩ := bind_some hF
  refine h_callk (enc := Rect.enc) (slices_Grow_api_Rect_api_Rect_k_ok hr_16) rfl hb218 (by kernel_rfl) rfl (by kernel_rfl) wz (fun n_17 => h_op (kV b_15 n_17 4 ([] : List Rect)) wz rfl (h_nil (wH_seq (wH_seq (wH_region (h_op (vL (eL Rect.enc) slices_1) wz rfl (h_len un289 rfl wz (h_op (vI 0) wz rfl (h_nil ?_)))))))))
  obtain ⟨o_28, hj_29, hF⟩ := bind_some hF
  obtain ⟨hn_22, hj_29⟩ := forL_some hj_29
  refine wH_join (β := ((List Rect)) × Nm) (fun p => (fun (s_23 : (List Rect)) (n_25 : Nm) => ([(6, (kV b_15 n_25 4 s_23))] : List (Nat × V))) p.1 p.2) (fun p => (fun (s_23 : (List Rect)) (n_25 : Nm) => ([(n_25, kB b_15 4 Rect.enc s_23)] : Hp)) p.1 p.2) (fun p => o_28 = .go p.1) ?_ ?_
  ·refine wH_block (wH_loop (β := Nat × (List (List Rect)) × ((List Rect)) × Nm) (fun p => (fun (k_18 : Nat) (l_19 : List (List Rect)) (s_23 : (List Rect)) (n_25 : Nm) => ([(6, (kV b_15 n_25 4 s_23)), (25, (vL (eL Rect.enc) slices_1)), (26, (vI (slices_1.length : Int))), (27, (vI (k_18 : Int)))] : List (Nat × V))) p.1 p.2.1 p.2.2.1 p.2.2.2) (fun p => (fun (k_18 : Nat) (l_19 : List (List Rect)) (s_23 : (List Rect)) (n_25 : Nm) => ([(n_25, kB b_15 4 Rect.enc s_23)] : Hp)) p.1 p.2.1 p.2.2.1 p.2.2.2) (fun p => forR (fun k x s => slices_Concat_api_Rect_api_Rect_L2 k x s) p.2.1 p.1 p.2.2.1 = some o_28 ∧ (slices_1).drop p.1 = p.2.1) (fun p => p.2.1.length) (0, slices_1, ([] : List Rect), n_17) ⟨hj_29, rfl⟩ rfl (pre_r rfl) ?_)
   rintro ⟨k_18, l_19, s_23, n_25⟩ ⟨hL_27, hD_21⟩
   dsimp only at hL_27 hD_21
   cases l_19 with
   | nil =>
    obtain rfl := some_inj hL_27
    refine wH_seq (wH_region (h_op (vB (decide ((k_18 : Int) < (slices_1.length : Int)))) wz rfl (h_nil ?_)))
    refine wH_seq (wH_iff rfl (drop_nil hD_21) (wH_exit ?_))
    exact cut_mk (s_23, n_25) rfl rfl (pre_r rfl)
   | cons x_20 l_19 =>
    obtain ⟨c_, hc_26, hL_27⟩ := bind_some hL_27
    refine wH_seq (wH_region (h_op (vB (decide ((k_18 : Int) < (slices_1.length : Int)))) wz rfl (h_nil ?_)))
    refine wH_seq (wH_ift rfl (drop_cons hD_21) (wH_skip ?_))
    unfold slices_Concat_api_Rect_api_Rect_L2 at hc_26
    refine wH_seq (wH_block (wH_seq (wH_region (h_ia es289 rfl rfl (drop_idx hD_21) rfl wz (h_ldc sz50 ag50 rfl (vL Rect.enc x_20) rfl wz (h_op (vL Rect.enc x_20) wz rfl (h_nil (wH_region (h_op (kV b_15 n_25 4 s_23) wz rfl (h_op (vL Rect.enc x_20) wz rfl ?_))))))))))
    obtain ⟨a_30, hz_31, hc_26⟩ := bind_some hc_26
    refine h_appk 0 il ft (i := 0) el50 el50 sz45 z45 rfl (by decide) by45 (by decide) (fun _ => rfl) rfl rfl rfl hz_31 wz (fun n_32 => h_op (kV b_15 n_32 4 a_30) wz rfl (h_nil (wH_region (h_opw (w64_next hD_21 hn_22) wz rfl (h_op (vI ((k_18 + 1 : Nat) : Int)) wz rfl (h_nil ?_))))))
    obtain rfl := some_inj hc_26
    exact loop_mk (k_18 + 1, l_19, a_30, n_32) ⟨hL_27, drop_next hD_21⟩ (Nat.lt_succ_self _) rfl (pre_r rfl)
  ·rintro ⟨s_23, n_25⟩ ho_ sl_ H_ hp_ hq_
   subst ho_
   refine wH_at _ hp_ hq_ (wH_seq (wH_region (h_op (kV b_15 n_25 4 s_23) wz rfl (h_op (kV b_15 n_25 4 s_23) wz rfl (h_nil (wH_frozk 0 rfl (wH_cok 2 0 rfl rfl (wH_cok 6 0 rfl rfl (wH_cok 35 0 rfl rfl ?_)))))))))
   obtain rfl := some_inj hF
   exact wH_ret (fin0 (.inr rfl) [(vL Rect.enc s_23)] ⟨rfl, trivial⟩ rfl rfl rfl)
theorem slices_Sort_int_int_v1_ok {x r : (List Int)} (hF : slices_Sort_int_int_v1 x = some r) :
  FnM Tryz.prog 181 [(dV (extN 0) 1 x)] (([] : List Box) ++ gI 1 eI x) (.tup []) (([] : List Box).map some ++ gT x (gB 1 eI r)) :=
 sortI_ok Tryz.slices_Sort_int Tryz.slices_Sort_int_none hF
theorem slices_Compact_int_int_v1_ok {s_1 : (List Int)} {r : (List Int)} (hF : slices_Compact_int_int_v1 s_1 = some r) :
  FnM Tryz.prog 182 [(dV (extN 0) 1 s_1)] (([] : List Box) ++ gI 1 eI s_1) (vL eI r) (([] : List Box).map some ++ gT s_1 none) := by
 refine FnM.of_wHv ⟨Tryz.prog, 61, [], []⟩ rfl Tryz.func182 rfl rfl (Nat.le_of_ble_eq_true rfl) (by kernel_rfl) ?_
 unfold slices_Compact_int_int_v1 at hF
 refine wH_seq (wH_region (h_op .nil wz rfl (h_nil (wH_seq (wH_seq (wH_region (h_op (dV (extN 0) 1 s_1) wz rfl (h_lend un22 rfl wz (h_op (vB (decide ((s_1.length : Int) < 2))) wz rfl (h_nil ?_))))))))))
 rcases cond_some hF with ⟨hc_2, hF⟩ | ⟨hc_2, hF⟩
 ·refine wH_ift rfl hc_2 (wH_seq (wH_region (h_op (dV (extN 0) 1 s_1) wz rfl (h_op (dV (extN 0) 1 s_1) wz rfl (h_nil (wH_frozg 0 rfl (wH_cod 0 0 rfl rfl (wH_cod 2 0 rfl rfl (wH_cod 6 0 rfl rfl (wH_cod 9 0 rfl rfl (wH_drop (i := 0) rfl ?_)))))))))))
  obtain rfl := some_inj hF
  exact wH_ret (finV (bs := ([] : List Box)) (os := ([] : List Box)) (xs := s_1) (o := none) (.inr rfl) [(vL eI s_1)] ⟨rfl, trivial⟩ rfl rfl rfl rfl rfl (by kernel_rfl) none_ok rfl)
 ·refine wH_iff rfl hc_2 (wH_skip (wH_seq (wH_seq (wH_region (h_op (vI 1) wz rfl (h_nil ?_))))))
  obtain ⟨o_11, hj_12, hF⟩ := bind_some hF
  obtain ⟨nq_52, hj_12⟩ := loopO_iter hj_12
  refine wH_join (β := (Int)) (fun (s_8 : Int) => ([(0, (dV (extN 0) 1 s_1))] : List (Nat × V))) (fun (s_8 : Int) => ([((extN 0), gB 1 eI s_1)] : Hp)) (fun p => o_11 = .go p) ?_ ?_
  ·refine wH_block (wH_loop (β := Nat × (Int)) (fun p => (fun (k_3 : Nat) (s_8 : Int) => ([(0, (dV (extN 0) 1 s_1)), (3, (vI s_8))] : List (Nat × V))) p.1 p.2) (fun p => (fun (k_3 : Nat) (s_8 : Int) => ([((extN 0), gB 1 eI s_1)] : Hp)) p.1 p.2) (fun p => iterN (fun s => slices_Compact_int_int_v1_L2 s_1 s) p.1 p.2 = some o_11) (fun p => p.1) (nq_52, 1) hj_12 rfl (pre_r rfl) ?_)
   rintro ⟨k_3, s_8⟩ hL_10
   dsimp only at hL_10
   cases k_3 with
   | zero => cases hL_10
   | succ k_3 =>
    obtain ⟨c_, hc_9, hL_10⟩ := bind_some hL_10
    unfold slices_Compact_int_int_v1_L2 at hc_9
    refine wH_seq (wH_seq (wH_region (h_op (vI s_8) wz rfl (h_op (dV (extN 0) 1 s_1) wz rfl (h_lend un22 rfl wz (h_op (vB (decide (s_8 < (s_1.length : Int)))) wz rfl (h_nil ?_)))))))
    rcases cond_some hc_9 with ⟨hc_13, hc_9⟩ | ⟨hc_13, hc_9⟩
    ·refine wH_ift rfl hc_13 (wH_skip (wH_seq (wH_block (wH_seq (wH_draws (h_op (dV (extN 0) 1 s_1) wz rfl (h_op (vI s_8) wz rfl ?_)))))))
     obtain ⟨_, hi_14, hc_9⟩ := bind_some hc_9
     refine h_iavd es22 rfl rfl (inR_0 hi_14) (inR_lt hi_14) wz ?_
     obtain ⟨e_15, hy_16, hc_9⟩ := bind_some hc_9
     refine h_ldvg 3 0 (.inr (by kernel_rfl)) (fun _ _ ag => trivial) sz3 ag3 rfl rfl hy_16 (vI e_15) rfl wz (h_op (dV (extN 0) 1 s_1) wz rfl (h_op (vI s_8) wz rfl (h_op (vI (w64 (s_8 - 1))) wz rfl ?_)))
     obtain ⟨_, hi_17, hc_9⟩ := bind_some hc_9
     refine h_iavd es22 rfl rfl (inR_0 hi_17) (inR_lt hi_17) wz ?_
     obtain ⟨e_18, hy_19, hc_9⟩ := bind_some hc_9
     refine h_ldvg 8 0 (.inr (by kernel_rfl)) (fun _ _ ag => ⟨.inl ⟨rfl, rfl⟩, trivial⟩) sz3 ag3 rfl rfl hy_19 (vI e_18) rfl wz (h_op (vB (e_15 == e_18)) wz rfl (h_nil ?_))
     rcases cond_some hc_9 with ⟨hc_20, hc_9⟩ | ⟨hc_20, hc_9⟩
     ·refine wH_ift rfl hc_20 (wH_seq (wH_region (h_op (dV (extN 0) 1 s_1) wz rfl (h_op (vI s_8) wz rfl ?_))))
      obtain ⟨_, hn_21, hc_9⟩ := bind_some hc_9
      replace hn_21 := neL_ne hn_21
      refine h_re (v' := (vV (extN 0) 1 s_1)) 0 rfl (dV_cons hn_21) (h_re (v' := (vV (extN 0) 1 s_1)) 11 rfl (dV_cons hn_21) (h_re (v' := (vV (extN 0) 1 s_1)) 16 rfl (dV_cons hn_21) (h_re (v' := (vV (extN 0) 1 s_1)) 20 rfl (dV_cons hn_21) (h_re (v' := (vV (extN 0) 1 s_1)) 26 rfl (dV_cons hn_21) (h_reH 0 rfl (gB_cons hn_21) ?_)))))
      obtain ⟨_, hr_22, hc_9⟩ := bind_some hc_9
      refine h_partTF un22 sz3 rfl rfl hr_22 wz (h_op (.vs (extN 0) 1 ((s_8).toNat) (((s_1.length : Int)).toNat - (s_8).toNat)) wz rfl (h_nil (wH_seq (wH_seq (wH_region (h_op (vI 1) wz rfl (h_nil ?_)))))))
      obtain ⟨o_31, hj_32, hc_9⟩ := bind_some hc_9
      obtain ⟨nq_51, hj_32⟩ := loopO_iter hj_32
      refine wH_join (β := ((List Int) × Int × Int)) (fun (s_28 : (List Int) × Int × Int) => ([(0, (vV (extN 0) 1 s_28.1)), (3, (vI s_28.2.1))] : List (Nat × V))) (fun (s_28 : (List Int) × Int × Int) => ([((extN 0), some (bV 1 eI s_28.1))] : Hp)) (fun p => o_31 = .go p) ?_ ?_
      ·refine wH_block (wH_loop (β := Nat × ((List Int) × Int × Int)) (fun p => (fun (k_23 : Nat) (s_28 : (List Int) × Int × Int) => ([(0, (vV (extN 0) 1 s_28.1)), (3, (vI s_28.2.1)), (4, (.vs (extN 0) 1 ((s_8).toNat) (((s_1.length : Int)).toNat - (s_8).toNat))), (5, (vI s_28.2.2))] : List (Nat × V))) p.1 p.2) (fun p => (fun (k_23 : Nat) (s_28 : (List Int) × Int × Int) => ([((extN 0), some (bV 1 eI s_28.1))] : Hp)) p.1 p.2) (fun p => iterN (fun s => slices_Compact_int_int_v1_L1 s_1 s_8 s) p.1 p.2 = some o_31) (fun p => p.1) (nq_51, (s_1, s_8, 1)) hj_32 rfl (pre_r rfl) ?_)
       rintro ⟨k_23, s_28⟩ hL_30
       dsimp only at hL_30
       cases k_23 with
       | zero => cases hL_30
       | succ k_23 =>
        obtain ⟨c_, hc_29, hL_30⟩ := bind_some hL_30
        unfold slices_Compact_int_int_v1_L1 at hc_29
        refine wH_seq (wH_seq (wH_region (h_op (vI s_28.2.2) wz rfl (h_op (.vs (extN 0) 1 ((s_8).toNat) (((s_1.length : Int)).toNat - (s_8).toNat)) wz rfl (h_lenp un22 rfl wz (h_op (vB (decide (s_28.2.2 < (((((s_1.length : Int)).toNat - (s_8).toNat) : Nat) : Int)))) wz rfl (h_nil ?_)))))))
        rcases cond_some hc_29 with ⟨hc_33, hc_29⟩ | ⟨hc_33, hc_29⟩
        ·refine wH_ift rfl hc_33 (wH_skip (wH_seq (wH_block (wH_seq (wH_draws (h_op (.vs (extN 0) 1 ((s_8).toNat) (((s_1.length : Int)).toNat - (s_8).toNat)) wz rfl (h_op (vI s_28.2.2) wz rfl ?_)))))))
         obtain ⟨_, hi_34, hc_29⟩ := bind_some hc_29
         refine h_iav es22 rfl rfl (inN_0 hi_34) (inN_lt hi_34) wz ?_
         obtain ⟨e_35, hy_36, hc_29⟩ := bind_some hc_29
         refine h_ldv 3 0 (.inr (by kernel_rfl)) (fun _ _ ag => trivial) sz3 ag3 rfl rfl hy_36 (vI e_35) rfl wz (h_op (.vs (extN 0) 1 ((s_8).toNat) (((s_1.length : Int)).toNat - (s_8).toNat)) wz rfl (h_op (vI s_28.2.2) wz rfl (h_op (vI (w64 (s_28.2.2 - 1))) wz rfl ?_)))
         obtain ⟨_, hi_37, hc_29⟩ := bind_some hc_29
         refine h_iav es22 rfl rfl (inN_0 hi_37) (inN_lt hi_37) wz ?_
         obtain ⟨e_38, hy_39, hc_29⟩ := bind_some hc_29
         refine h_ldv 8 0 (.inr (by kernel_rfl)) (fun _ _ ag => ⟨.inl ⟨rfl, rfl⟩, trivial⟩) sz3 ag3 rfl rfl hy_39 (vI e_38) rfl wz (h_op (vB (e_35 != e_38)) wz rfl (h_nil ?_))
         obtain ⟨v_40, h_41, hc_29⟩ := bind_some hc_29
         refine wH_join (β := Unit) (fun _ => ([(0, (vV (extN 0) 1 v_40.1)), (3, (vI v_40.2)), (4, (.vs (extN 0) 1 ((s_8).toNat) (((s_1.length : Int)).toNat - (s_8).toNat))), (5, (vI s_28.2.2))] : List (Nat × V))) (fun _ => ([((extN 0), some (bV 1 eI v_40.1))] : Hp)) (fun _ => True) ?_ ?_
         ·rcases cond_some h_41 with ⟨hc_42, h_41⟩ | ⟨hc_42, h_41⟩
          ·refine wH_ift rfl hc_42 (wH_seq (wH_region (h_op (vV (extN 0) 1 s_28.1) wz rfl (h_op (vI s_28.2.1) wz rfl (h_op (.vs (extN 0) 1 ((s_8).toNat) (((s_1.length : Int)).toNat - (s_8).toNat)) wz rfl (h_op (vI s_28.2.2) wz rfl ?_))))))
           obtain ⟨_, hi_43, h_41⟩ := bind_some h_41
           refine h_iav es22 rfl rfl (inN_0 hi_43) (inN_lt hi_43) wz ?_
           obtain ⟨e_44, hy_45, h_41⟩ := bind_some h_41
           refine h_ldv 0 0 il ft sz3 ag3 rfl rfl hy_45 (vI e_44) rfl wz ?_
           obtain ⟨_, hi_46, h_41⟩ := bind_some h_41
           refine h_iav es22 rfl rfl (inR_0 hi_46) (inR_lt hi_46) wz ?_
           obtain ⟨e_47, hy_48, h_41⟩ := bind_some h_41
           refine h_stv 0 il ft 0 sz3 rfl rfl hy_48 e_44 rfl wz (h_re (v' := (vV (extN 0) 1 (s_28.1.set (0 + (s_28.2.1).toNat) e_44))) 0 rfl (vV_len (by simp)) (h_re (v' := (vV (extN 0) 1 (s_28.1.set (0 + (s_28.2.1).toNat) e_44))) 45 rfl (vV_len (by simp)) (h_nil (wH_region (h_op (vI s_28.2.1) wz rfl (h_op (vI (w64 (s_28.2.1 + 1))) wz rfl (h_op (vI (w64 (s_28.2.1 + 1))) wz rfl (h_nil ?_))))))))
           obtain rfl := some_inj h_41
           exact cu
          ·refine wH_iff rfl hc_42 (wH_skip ?_)
           obtain rfl := some_inj h_41
           exact cu
         ·rintro ⟨⟩ _ sl_ H_ hp_ hq_
          refine wH_at _ hp_ hq_ (wH_region (h_op (vI s_28.2.2) wz rfl (h_op (vI (w64 (s_28.2.2 + 1))) wz rfl (h_op (vI (w64 (s_28.2.2 + 1))) wz rfl (h_nil ?_)))))
          obtain rfl := some_inj hc_29
          exact loop_mk (k_23, (v_40.1, v_40.2, (w64 (s_28.2.2 + 1)))) hL_30 (Nat.lt_succ_self _) rfl (pre_r rfl)
        ·refine wH_iff rfl hc_33 (wH_exit ?_)
         obtain rfl := some_inj hc_29
         obtain rfl := some_inj hL_30
         exact cut_mk ((s_28.1, s_28.2.1, s_28.2.2)) rfl rfl (pre_r rfl)
      ·rintro s_28 ho_ sl_ H_ hp_ hq_
       subst ho_
       refine wH_at _ hp_ hq_ (wH_seq (wH_region (h_op (vV (extN 0) 1 s_28.1) wz rfl (h_op (vI s_28.2.1) wz rfl ?_))))
       obtain ⟨_, hr_49, hc_9⟩ := bind_some hc_9
       refine h_partTF un22 sz3 rfl rfl hr_49 wz (h_clear (i := 0) 0 il ft 0 el22 sz3 z3 rfl rfl rfl (by decide) rfl (subR_le hr_49) rfl wz (h_re (v' := (vV (extN 0) 1 (s_28.1.take ((s_28.2.1).toNat) ++ List.replicate (((s_28.1.length : Int)).toNat - (s_28.2.1).toNat) 0 ++ s_28.1.drop (((s_28.2.1).toNat) + (((s_28.1.length : Int)).toNat - (s_28.2.1).toNat))))) 0 rfl (vV_len (clear_len (subR_le hr_49))) (h_re (v' := (vV (extN 0) 1 (s_28.1.take ((s_28.2.1).toNat) ++ List.replicate (((s_28.1.length : Int)).toNat - (s_28.2.1).toNat) 0 ++ s_28.1.drop (((s_28.2.1).toNat) + (((s_28.1.length : Int)).toNat - (s_28.2.1).toNat))))) 54 rfl (vV_len (clear_len (subR_le hr_49))) (h_nil (wH_seq (wH_region (h_op (vV (extN 0) 1 (s_28.1.take ((s_28.2.1).toNat) ++ List.replicate (((s_28.1.length : Int)).toNat - (s_28.2.1).toNat) 0 ++ s_28.1.drop (((s_28.2.1).toNat) + (((s_28.1.length : Int)).toNat - (s_28.2.1).toNat)))) wz rfl (h_op (vI s_28.2.1) wz rfl ?_))))))))
       obtain ⟨_, hr_50, hc_9⟩ := bind_some hc_9
       refine h_partFT un22 sz3 rfl rfl hr_50 wz (h_op (.vs (extN 0) 1 0 ((s_28.2.1).toNat)) wz rfl (h_nil (wH_froz 0 rfl (wH_co 0 0 rfl rfl (wH_cop 2 0 rfl rfl (subR_le hr_50) (wH_co 54 0 rfl rfl (wH_co 57 0 rfl rfl (wH_cop 59 0 rfl rfl (subR_le hr_50) (wH_drop (i := 0) rfl ?_)))))))))
       obtain rfl := some_inj hc_9
       obtain rfl := some_inj hL_10
       obtain rfl := some_inj hF
       exact wH_ret (finV (bs := ([] : List Box)) (os := ([] : List Box)) (xs := s_1) (o := none) (.inr rfl) [(vL eI (cutL (s_28.1.take ((s_28.2.1).toNat) ++ List.replicate (((s_28.1.length : Int)).toNat - (s_28.2.1).toNat) 0 ++ s_28.1.drop (((s_28.2.1).toNat) + (((s_28.1.length : Int)).toNat - (s_28.2.1).toNat))) 0 ((s_28.2.1).toNat)))] ⟨rfl, trivial⟩ rfl rfl rfl rfl rfl (by kernel_rfl) none_ok rfl)
     ·refine wH_iff rfl hc_20 (wH_skip (wH_region (h_op (vI s_8) wz rfl (h_op (vI (w64 (s_8 + 1))) wz rfl (h_op (vI (w64 (s_8 + 1))) wz rfl (h_nil ?_))))))
      obtain rfl := some_inj hc_9
      exact loop_mk (k_3, (w64 (s_8 + 1))) hL_10 (Nat.lt_succ_self _) rfl (pre_r rfl)
    ·refine wH_iff rfl hc_13 (wH_exit ?_)
     obtain rfl := some_inj hc_9
     obtain rfl := some_inj hL_10
     exact cut_mk (s_8) rfl rfl (pre_r rfl)
  ·rintro s_8 ho_ sl_ H_ hp_ hq_
   subst ho_
   refine wH_at _ hp_ hq_ (wH_seq (wH_region (h_op (dV (extN 0) 1 s_1) wz rfl (h_op (dV (extN 0) 1 s_1) wz rfl (h_nil (wH_frozg 0 rfl (wH_cod 0 0 rfl rfl (wH_cod 2 0 rfl rfl (wH_cod 60 0 rfl rfl (wH_drop (i := 0) rfl ?_))))))))))
   obtain rfl := some_inj hF
   exact wH_ret (finV (bs := ([] : List Box)) (os := ([] : List Box)) (xs := s_1) (o := none) (.inr rfl) [(vL eI s_1)] ⟨rfl, trivial⟩ rfl rfl rfl rfl rfl (by kernel_rfl) none_ok rfl)
theorem screen_runs_1_ok {a_1 : Run} {b_2 : Run} {r : Int} (hF : screen_runs_1 a_1 b_2 = some r) :
  FnM Tryz.prog 221 [(.d (.agg (Run.enc a_1))), (.d (.agg (Run.enc b_2)))] [] (vI r) [] := by
 refine FnM.of_wH ⟨Tryz.prog, 10, [], []⟩ rfl Tryz.func221 rfl rfl (Nat.le_of_ble_eq_true rfl) (by kernel_rfl) ?_
 unfold screen_runs_1 at hF
 refine wH_seq (wH_region (h_box 0 (.inl rfl) [(vI a_1.f_from), (vI a_1.f_to)] rfl rfl wz (fun n_3 => h_box 0 (.inl rfl) [(vI b_2.f_from), (vI b_2.f_to)] rfl rfl wz (fun n_4 => h_op (vI 0) wz rfl (h_nil (wH_seq (wH_region (h_far pl264_0 rfl 0 rfl wz (h_ldr 0 0 il ft sz3 ag3 rfl rfl (vI a_1.f_from) rfl wz (h_far pl264_0 rfl 0 rfl wz (h_ldr 0 1 il ft sz3 ag3 rfl rfl (vI b_2.f_from) rfl wz (h_op (vI (w64 (a_1.f_from - b_2.f_from))) wz rfl (h_op (vI (w64 (a_1.f_from - b_2.f_from))) wz rfl (h_nil ?_))))))))))))))
 obtain rfl := some_inj hF
 exact wH_ret (fin0 (.inr rfl) [(vI (w64 (a_1.f_from - b_2.f_from)))] ⟨rfl, trivial⟩ rfl rfl rfl)
theorem math_bits_Len64_ok {x_1 : Int} {r : Int} (hF : math_bits_Len64 x_1 = some r) :
  FnM Tryz.prog 232 [(.d (.int .u64 x_1))] [] (vI r) [] := by
 refine FnM.of_wH ⟨Tryz.prog, 25, [], []⟩ rfl Tryz.func232 rfl rfl (Nat.le_of_ble_eq_true rfl) (by kernel_rfl) ?_
 unfold math_bits_Len64 at hF
 refine wH_seq (wH_region (h_op (vI 0) wz rfl (h_nil (wH_seq (wH_seq (wH_region (h_op (.d (.int .u64 x_1)) wz rfl (h_op (vB (decide (x_1 ≥ 4294967296))) wz rfl (h_nil ?_)))))))))
 obtain ⟨v_2, h_3, hF⟩ := bind_some hF
 refine wH_join (β := Unit) (fun _ => ([(0, (.d (.int .u64 v_2.1))), (2, (vI v_2.2))] : List (Nat × V))) (fun _ => ([] : Hp)) (fun _ => True) ?_ ?_
 ·rcases cond_some h_3 with ⟨hc_4, h_3⟩ | ⟨hc_4, h_3⟩
  ·refine wH_ift rfl hc_4 (wH_seq (wH_region (h_op (.d (.int .u64 x_1)) wz rfl ?_)))
   obtain ⟨q_5, hz_6, h_3⟩ := bind_some h_3
   refine h_shr rfl rfl hz_6 wz (h_op (.d (.int .u64 q_5)) wz rfl (h_nil (wH_region (h_op (vI 32) wz rfl (h_nil ?_)))))
   obtain rfl := some_inj h_3
   exact cu
  ·refine wH_iff rfl hc_4 (wH_skip ?_)
   obtain rfl := some_inj h_3
   exact cu
 ·rintro ⟨⟩ _ sl_ H_ hp_ hq_
  refine wH_at _ hp_ hq_ (wH_seq (wH_seq (wH_region (h_op (.d (.int .u64 v_2.1)) wz rfl (h_op (vB (decide (v_2.1 ≥ 65536))) wz rfl (h_nil ?_))))))
  obtain ⟨v_7, h_8, hF⟩ := bind_some hF
  refine wH_join (β := Unit) (fun _ => ([(0, (.d (.int .u64 v_7.1))), (2, (vI v_7.2))] : List (Nat × V))) (fun _ => ([] : Hp)) (fun _ => True) ?_ ?_
  ·rcases cond_some h_8 with ⟨hc_9, h_8⟩ | ⟨hc_9, h_8⟩
   ·refine wH_ift rfl hc_9 (wH_seq (wH_region (h_op (.d (.int .u64 v_2.1)) wz rfl ?_)))
    obtain ⟨q_10, hz_11, h_8⟩ := bind_some h_8
    refine h_shr rfl rfl hz_11 wz (h_op (.d (.int .u64 q_10)) wz rfl (h_nil (wH_region (h_op (vI v_2.2) wz rfl (h_op (vI (w64 (v_2.2 + 16))) wz rfl (h_op (vI (w64 (v_2.2 + 16))) wz rfl (h_nil ?_)))))))
    obtain rfl := some_inj h_8
    exact cu
   ·refine wH_iff rfl hc_9 (wH_skip ?_)
    obtain rfl := some_inj h_8
    exact cu
  ·rintro ⟨⟩ _ sl_ H_ hp_ hq_
   refine wH_at _ hp_ hq_ (wH_seq (wH_seq (wH_region (h_op (.d (.int .u64 v_7.1)) wz rfl (h_op (vB (decide (v_7.1 ≥ 256))) wz rfl (h_nil ?_))))))
   obtain ⟨v_12, h_13, hF⟩ := bind_some hF
   refine wH_join (β := Unit) (fun _ => ([(0, (.d (.int .u64 v_12.1))), (2, (vI v_12.2))] : List (Nat × V))) (fun _ => ([] : Hp)) (fun _ => True) ?_ ?_
   ·rcases cond_some h_13 with ⟨hc_14, h_13⟩ | ⟨hc_14, h_13⟩
    ·refine wH_ift rfl hc_14 (wH_seq (wH_region (h_op (.d (.int .u64 v_7.1)) wz rfl ?_)))
     obtain ⟨q_15, hz_16, h_13⟩ := bind_some h_13
     refine h_shr rfl rfl hz_16 wz (h_op (.d (.int .u64 q_15)) wz rfl (h_nil (wH_region (h_op (vI v_7.2) wz rfl (h_op (vI (w64 (v_7.2 + 8))) wz rfl (h_op (vI (w64 (v_7.2 + 8))) wz rfl (h_nil ?_)))))))
     obtain rfl := some_inj h_13
     exact cu
    ·refine wH_iff rfl hc_14 (wH_skip ?_)
     obtain rfl := some_inj h_13
     exact cu
   ·rintro ⟨⟩ _ sl_ H_ hp_ hq_
    refine wH_at _ hp_ hq_ (wH_seq (wH_region (h_op (vI v_12.2) wz rfl (h_op (.d (.int .u64 v_12.1)) wz rfl (h_conv un305 un5 rfl wz ?_)))))
    obtain ⟨b_17, hy_18, hF⟩ := bind_some hF
    refine h_idxs un9 rfl rfl hy_18 wz (h_conv un5 un3 rfl wz (h_op (vI (w64 (v_12.2 + (w64 (b_17.toNat : Int))))) wz rfl (h_op (vI (w64 (v_12.2 + (w64 (b_17.toNat : Int))))) wz rfl (h_nil ?_))))
    obtain rfl := some_inj hF
    exact wH_ret (fin0 (.inr rfl) [(vI (w64 (v_12.2 + (w64 (b_17.toNat : Int)))))] ⟨rfl, trivial⟩ rfl rfl rfl)
theorem math_bits_Len_ok {x_1 : Int} {r : Int} (hF : math_bits_Len x_1 = some r) :
  FnM Tryz.prog 189 [(.d (.int .u64 x_1))] [] (vI r) [] := by
 refine FnM.of_wH ⟨Tryz.prog, 8, [], []⟩ rfl Tryz.func189 rfl rfl (Nat.le_of_ble_eq_true rfl) (by kernel_rfl) ?_
 unfold math_bits_Len at hF
 refine wH_seq (wH_region (h_op (vI 0) wz rfl (h_nil (wH_seq (wH_iff rfl rfl (wH_skip (wH_seq (wH_region (h_op (.d (.int .u64 x_1)) wz rfl ?_)))))))))
 obtain ⟨r_2, hr_3, hF⟩ := bind_some hF
 refine h_call0 (math_bits_Len64_ok hr_3) rfl hb232 rfl rfl rfl rfl wz (h_op (vI r_2) wz rfl (h_nil ?_))
 obtain rfl := some_inj hF
 exact wH_ret (fin0 (.inr rfl) [(vI r_2)] ⟨rfl, trivial⟩ rfl rfl rfl)
theorem slices_insertionSortCmpFunc_screen_run_v1_ok {data_1 : (List Run)} {a_2 : Int} {b_3 : Int} {r : (List Run)} (hF : slices_insertionSortCmpFunc_screen_run_v1 data_1 a_2 b_3 = some r) :
  FnM Tryz.prog 304 [(dV (extN 0) 2 data_1), (vI a_2), (vI b_3), (.fn 221 [])] (([] : List Box) ++ gI 2 Run.enc data_1) (.tup []) (([] : List Box).map some ++ gT data_1 (gB 2 Run.enc r)) := by
 refine FnM.of_wHv ⟨Tryz.prog, 53, [], []⟩ rfl Tryz.func304 rfl rfl (Nat.le_of_ble_eq_true rfl) (by kernel_rfl) ?_
 unfold slices_insertionSortCmpFunc_screen_run_v1 at hF
 refine wH_seq (wH_region (h_op (vI a_2) wz rfl (h_op (vI (w64 (a_2 + 1))) wz rfl (h_op (vI (w64 (a_2 + 1))) wz rfl (h_nil ?_)))))
 obtain ⟨o_13, hj_14, hF⟩ := bind_some hF
 obtain ⟨nq_51, hj_14⟩ := loopO_iter hj_14
 refine wH_join (β := ((List Run) × Int)) (fun (s_10 : (List Run) × Int) => ([] : List (Nat × V))) (fun (s_10 : (List Run) × Int) => ([((extN 0), gB 2 Run.enc s_10.1)] : Hp)) (fun p => o_13 = .go p) ?_ ?_
 ·refine wH_block (wH_loop (β := Nat × ((List Run) × Int)) (fun p => (fun (k_5 : Nat) (s_10 : (List Run) × Int) => ([(0, (dV (extN 0) 2 s_10.1)), (1, (vI a_2)), (2, (vI b_3)), (3, (.fn 221 [])), (8, (vI s_10.2))] : List (Nat × V))) p.1 p.2) (fun p => (fun (k_5 : Nat) (s_10 : (List Run) × Int) => ([((extN 0), gB 2 Run.enc s_10.1)] : Hp)) p.1 p.2) (fun p => iterN (fun s => slices_insertionSortCmpFunc_screen_run_v1_L2 b_3 a_2 s) p.1 p.2 = some o_13) (fun p => p.1) (nq_51, (data_1, (w64 (a_2 + 1)))) hj_14 rfl (pre_r rfl) ?_)
  rintro ⟨k_5, s_10⟩ hL_12
  dsimp only at hL_12
  cases k_5 with
  | zero => cases hL_12
  | succ k_5 =>
   obtain ⟨c_, hc_11, hL_12⟩ := bind_some hL_12
   unfold slices_insertionSortCmpFunc_screen_run_v1_L2 at hc_11
   refine wH_seq (wH_seq (wH_region (h_op (vI s_10.2) wz rfl (h_op (vI b_3) wz rfl (h_op (vB (decide (s_10.2 < b_3))) wz rfl (h_nil ?_))))))
   rcases cond_some hc_11 with ⟨hc_15, hc_11⟩ | ⟨hc_15, hc_11⟩
   ·refine wH_ift rfl hc_15 (wH_skip (wH_seq (wH_block (wH_seq (wH_region (h_op (vI s_10.2) wz rfl (h_op (vI s_10.2) wz rfl (h_nil ?_))))))))
    obtain ⟨o_24, hj_25, hc_11⟩ := bind_some hc_11
    obtain ⟨nq_50, hj_25⟩ := loopO_iter hj_25
    refine wH_join (β := ((List Run) × Int)) (fun (s_21 : (List Run) × Int) => ([(0, (dV (extN 0) 2 s_21.1)), (1, (vI a_2)), (2, (vI b_3)), (3, (.fn 221 [])), (8, (vI s_10.2))] : List (Nat × V))) (fun (s_21 : (List Run) × Int) => ([((extN 0), gB 2 Run.enc s_21.1)] : Hp)) (fun p => o_24 = .go p) ?_ ?_
    ·refine wH_block (wH_loop (β := Nat × ((List Run) × Int)) (fun p => (fun (k_16 : Nat) (s_21 : (List Run) × Int) => ([(0, (dV (extN 0) 2 s_21.1)), (1, (vI a_2)), (2, (vI b_3)), (3, (.fn 221 [])), (8, (vI s_10.2)), (9, (vI s_21.2))] : List (Nat × V))) p.1 p.2) (fun p => (fun (k_16 : Nat) (s_21 : (List Run) × Int) => ([((extN 0), gB 2 Run.enc s_21.1)] : Hp)) p.1 p.2) (fun p => iterN (fun s => slices_insertionSortCmpFunc_screen_run_v1_L1 a_2 s) p.1 p.2 = some o_24) (fun p => p.1) (nq_50, (s_10.1, s_10.2)) hj_25 rfl (pre_r rfl) ?_)
     rintro ⟨k_16, s_21⟩ hL_23
     dsimp only at hL_23
     cases k_16 with
     | zero => cases hL_23
     | succ k_16 =>
      obtain ⟨c_, hc_22, hL_23⟩ := bind_some hL_23
      unfold slices_insertionSortCmpFunc_screen_run_v1_L1 at hc_22
      refine wH_seq (wH_seq ?_)
      obtain ⟨v_26, h_27, hc_22⟩ := bind_some hc_22
      refine wH_join (β := Unit) (fun _ => ([(0, (dV (extN 0) 2 s_21.1)), (1, (vI a_2)), (2, (vI b_3)), (3, (.fn 221 [])), (8, (vI s_10.2)), (9, (vI s_21.2)), (34, (vB v_26))] : List (Nat × V))) (fun _ => ([((extN 0), gB 2 Run.enc s_21.1)] : Hp)) (fun _ => True) ?_ ?_
      ·refine wH_draws (h_op (vI s_21.2) wz rfl (h_op (vI a_2) wz rfl (h_op (vB (decide (s_21.2 > a_2))) wz rfl ?_)))
       rcases cond_some h_27 with ⟨hc_28, h_27⟩ | ⟨hc_28, h_27⟩
       ·refine h_movb rfl hc_28 wz (h_op (.fn 221 []) wa rfl (h_op (dV (extN 0) 2 s_21.1) wa rfl (h_op (vI s_21.2) wa rfl ?_)))
        obtain ⟨_, hi_29, h_27⟩ := bind_some h_27
        refine h_iavd es259 rfl rfl (inR_0 hi_29) (inR_lt hi_29) wa ?_
        obtain ⟨e_30, hy_31, h_27⟩ := bind_some h_27
        refine h_ldvg 8 0 (.inr (by kernel_rfl)) (fun _ _ ag => trivial) sz264 ag264 rfl rfl hy_31 (.d (.agg (Run.enc e_30))) rfl wa (h_op (dV (extN 0) 2 s_21.1) wa rfl (h_op (vI s_21.2) wa rfl (h_op (vI (w64 (s_21.2 - 1))) wa rfl ?_)))
        obtain ⟨_, hi_32, h_27⟩ := bind_some h_27
        refine h_iavd es259 rfl rfl (inR_0 hi_32) (inR_lt hi_32) wa ?_
        obtain ⟨e_33, hy_34, h_27⟩ := bind_some h_27
        refine h_ldvg 13 0 (.inr (by kernel_rfl)) (fun _ _ ag => ⟨.inl ⟨rfl, rfl⟩, trivial⟩) sz264 ag264 rfl rfl hy_34 (.d (.agg (Run.enc e_33))) rfl wa ?_
        obtain ⟨r_35, hr_36, h_27⟩ := bind_some h_27
        refine h_call0 (screen_runs_1_ok hr_36) rfl hb221 rfl rfl rfl rfl wa (h_op (vB (decide (r_35 < 0))) wa rfl (h_op (vB (decide (r_35 < 0))) wz rfl (h_nil ?_)))
        obtain rfl := some_inj h_27
        exact cu
       ·refine h_movb rfl hc_28 wz (h_skip wa (h_skip wa (h_skip wa (h_skip wa (h_skip wa (h_skip wa (h_skip wa (h_skip wa (h_skip wa (h_skip wa (h_skip wa (h_skip wa (h_op (vB false) wz rfl (h_nil ?_))))))))))))))
        obtain rfl := some_inj h_27
        exact cu
      ·rintro ⟨⟩ _ sl_ H_ hp_ hq_
       refine wH_at _ hp_ hq_ ?_
       rcases cond_some hc_22 with ⟨hc_37, hc_22⟩ | ⟨hc_37, hc_22⟩
       ·refine wH_ift rfl hc_37 (wH_skip (wH_seq (wH_block (wH_draws (h_op (dV (extN 0) 2 s_21.1) wz rfl (h_op (vI s_21.2) wz rfl (h_op (dV (extN 0) 2 s_21.1) wz rfl (h_op (vI s_21.2) wz rfl (h_op (vI (w64 (s_21.2 - 1))) wz rfl (h_op (dV (extN 0) 2 s_21.1) wz rfl (h_op (vI s_21.2) wz rfl (h_op (vI (w64 (s_21.2 - 1))) wz rfl ?_))))))))))))
        obtain ⟨_, hi_38, hc_22⟩ := bind_some hc_22
        refine h_iavd es259 rfl rfl (inR_0 hi_38) (inR_lt hi_38) wz ?_
        obtain ⟨e_39, hy_40, hc_22⟩ := bind_some hc_22
        refine h_ldvg 9 0 (.inr (by kernel_rfl)) (fun _ _ ag => trivial) sz264 ag264 rfl rfl hy_40 (.d (.agg (Run.enc e_39))) rfl wz (h_op (dV (extN 0) 2 s_21.1) wz rfl (h_op (vI s_21.2) wz rfl ?_))
        obtain ⟨_, hi_41, hc_22⟩ := bind_some hc_22
        refine h_iavd es259 rfl rfl (inR_0 hi_41) (inR_lt hi_41) wz ?_
        obtain ⟨e_42, hy_43, hc_22⟩ := bind_some hc_22
        refine h_ldvg 13 0 (.inr (by kernel_rfl)) (fun _ _ ag => ⟨.inl ⟨rfl, rfl⟩, trivial⟩) sz264 ag264 rfl rfl hy_43 (.d (.agg (Run.enc e_42))) rfl wz ?_
        obtain ⟨_, hi_44, hc_22⟩ := bind_some hc_22
        refine h_iavd es259 rfl rfl (inR_0 hi_44) (inR_lt hi_44) wz ?_
        obtain ⟨e_45, hy_46, hc_22⟩ := bind_some hc_22
        refine h_stvg 15 (.inr (by kernel_rfl)) (fun _ _ ag => ⟨.inr (.inr (by kernel_rfl)), ⟨.inr (.inr (by kernel_rfl)), trivial⟩⟩) 0 sz264 rfl rfl hy_46 e_39 rfl wz (h_re (v' := (dV (extN 0) 2 (s_21.1.set (0 + (s_21.2).toNat) e_39))) 0 rfl (dV_len (by simp)) (h_re (v' := (dV (extN 0) 2 (s_21.1.set (0 + (s_21.2).toNat) e_39))) 37 rfl (dV_len (by simp)) (h_re (v' := (dV (extN 0) 2 (s_21.1.set (0 + (s_21.2).toNat) e_39))) 39 rfl (dV_len (by simp)) (h_re (v' := (dV (extN 0) 2 (s_21.1.set (0 + (s_21.2).toNat) e_39))) 42 rfl (dV_len (by simp)) (h_re (v' := (dV (extN 0) 2 (s_21.1.set (0 + (s_21.2).toNat) e_39))) 47 rfl (dV_len (by simp)) ?_)))))
        obtain ⟨_, hi_47, hc_22⟩ := bind_some hc_22
        refine h_iavd es259 rfl rfl (inR_0 hi_47) (inR_lt hi_47) wz ?_
        obtain ⟨e_48, hy_49, hc_22⟩ := bind_some hc_22
        refine h_stvg 17 (.inr (by kernel_rfl)) (fun _ _ ag => ⟨.inr (.inr (by kernel_rfl)), ⟨.inr (.inr (by kernel_rfl)), ⟨.inr (.inr (by kernel_rfl)), trivial⟩⟩⟩) 0 sz264 rfl rfl hy_49 e_42 rfl wz (h_re (v' := (dV (extN 0) 2 ((s_21.1.set (0 + (s_21.2).toNat) e_39).set (0 + ((w64 (s_21.2 - 1))).toNat) e_42))) 0 rfl (dV_len (by simp)) (h_re (v' := (dV (extN 0) 2 ((s_21.1.set (0 + (s_21.2).toNat) e_39).set (0 + ((w64 (s_21.2 - 1))).toNat) e_42))) 37 rfl (dV_len (by simp)) (h_re (v' := (dV (extN 0) 2 ((s_21.1.set (0 + (s_21.2).toNat) e_39).set (0 + ((w64 (s_21.2 - 1))).toNat) e_42))) 39 rfl (dV_len (by simp)) (h_re (v' := (dV (extN 0) 2 ((s_21.1.set (0 + (s_21.2).toNat) e_39).set (0 + ((w64 (s_21.2 - 1))).toNat) e_42))) 42 rfl (dV_len (by simp)) (h_re (v' := (dV (extN 0) 2 ((s_21.1.set (0 + (s_21.2).toNat) e_39).set (0 + ((w64 (s_21.2 - 1))).toNat) e_42))) 47 rfl (dV_len (by simp)) (h_nil (wH_region (h_op (vI s_21.2) wz rfl (h_op (vI (w64 (s_21.2 - 1))) wz rfl (h_op (vI (w64 (s_21.2 - 1))) wz rfl (h_nil ?_)))))))))))
        obtain rfl := some_inj hc_22
        exact loop_mk (k_16, (((s_21.1.set (0 + (s_21.2).toNat) e_39).set (0 + ((w64 (s_21.2 - 1))).toNat) e_42), (w64 (s_21.2 - 1)))) hL_23 (Nat.lt_succ_self _) rfl (pre_r rfl)
       ·refine wH_iff rfl hc_37 (wH_exit ?_)
        obtain rfl := some_inj hc_22
        obtain rfl := some_inj hL_23
        exact cut_mk ((s_21.1, s_21.2)) rfl rfl (pre_r rfl)
    ·rintro s_21 ho_ sl_ H_ hp_ hq_
     subst ho_
     refine wH_at _ hp_ hq_ (wH_region (h_op (vI s_10.2) wz rfl (h_op (vI (w64 (s_10.2 + 1))) wz rfl (h_op (vI (w64 (s_10.2 + 1))) wz rfl (h_nil ?_)))))
     obtain rfl := some_inj hc_11
     exact loop_mk (k_5, (s_21.1, (w64 (s_10.2 + 1)))) hL_12 (Nat.lt_succ_self _) rfl (pre_r rfl)
   ·refine wH_iff rfl hc_15 (wH_exit ?_)
    obtain rfl := some_inj hc_11
    obtain rfl := some_inj hL_12
    exact cut_mk ((s_10.1, s_10.2)) rfl rfl (pre_r rfl)
 ·rintro s_10 ho_ sl_ H_ hp_ hq_
  subst ho_
  show finH _ _ _ _ _ _ _ _
  obtain rfl := some_inj hF
  exact finH_at (H0 := ([((extN 0), gB 2 Run.enc s_10.1)] : Hp)) (sl' := envS []) hq_ (finV (bs := ([] : List Box)) (os := ([] : List Box)) (xs := data_1) (o := gB 2 Run.enc s_10.1) (.inl rfl) [] trivial rfl rfl rfl rfl rfl (by kernel_rfl) gB_ok rfl)
theorem slices_pdqsortCmpFunc_screen_run_v1_ok {data_1 : (List Run)} {a_2 : Int} {b_3 : Int} {limit_4 : Int} {r : (List Run)} (hF : slices_pdqsortCmpFunc_screen_run_v1 data_1 a_2 b_3 limit_4 = some r) :
  FnM Tryz.prog 276 [(dV (extN 0) 2 data_1), (vI a_2), (vI b_3), (vI limit_4), (.fn 221 [])] (([] : List Box) ++ gI 2 Run.enc data_1) (.tup []) (([] : List Box).map some ++ gT data_1 (gB 2 Run.enc r)) := by
 refine FnM.of_wHv ⟨Tryz.prog, 148, [], []⟩ rfl Tryz.func276 rfl rfl (Nat.le_of_ble_eq_true rfl) (by kernel_rfl) ?_
 unfold slices_pdqsortCmpFunc_screen_run_v1 at hF
 refine wH_seq (wH_region (h_op (vB true) wz rfl (h_nil (wH_seq (wH_region (h_op (vB true) wz rfl (h_nil ?_)))))))
 obtain ⟨o_14, hj_15, hF⟩ := bind_some hF
 obtain ⟨nq_21, hj_15⟩ := loopO_iter hj_15
 refine wH_join (β := (Unit)) (fun (s_11 : Unit) => ([] : List (Nat × V))) (fun (s_11 : Unit) => ([((extN 0), gB 2 Run.enc data_1)] : Hp)) (fun p => o_14 = .go p) ?_ ?_
 ·refine wH_block (wH_loop (β := Nat × (Unit)) (fun p => (fun (k_6 : Nat) (s_11 : Unit) => ([(0, (dV (extN 0) 2 data_1)), (1, (vI a_2)), (2, (vI b_3)), (3, (vI limit_4)), (4, (.fn 221 [])), (10, (vB true)), (11, (vB true))] : List (Nat × V))) p.1 p.2) (fun p => (fun (k_6 : Nat) (s_11 : Unit) => ([((extN 0), gB 2 Run.enc data_1)] : Hp)) p.1 p.2) (fun p => iterN (fun s => slices_pdqsortCmpFunc_screen_run_v1_L1 b_3 a_2 data_1 limit_4 s) p.1 p.2 = some o_14) (fun p => p.1) (nq_21, ()) hj_15 rfl (pre_r rfl) ?_)
  rintro ⟨k_6, s_11⟩ hL_13
  dsimp only at hL_13
  cases k_6 with
  | zero => cases hL_13
  | succ k_6 =>
   obtain ⟨c_, hc_12, hL_13⟩ := bind_some hL_13
   unfold slices_pdqsortCmpFunc_screen_run_v1_L1 at hc_12
   refine wH_block (wH_seq (wH_region (h_op (vI b_3) wz rfl (h_op (vI a_2) wz rfl (h_op (vI (w64 (b_3 - a_2))) wz rfl (h_op (vI (w64 (b_3 - a_2))) wz rfl (h_nil (wH_seq (wH_seq (wH_region (h_op (vI (w64 (b_3 - a_2))) wz rfl (h_op (vB (decide ((w64 (b_3 - a_2)) ≤ 12))) wz rfl (h_nil ?_)))))))))))))
   rcases cond_some hc_12 with ⟨hc_16, hc_12⟩ | ⟨hc_16, hc_12⟩
   ·refine wH_ift rfl hc_16 (wH_seq (wH_region (h_op (dV (extN 0) 2 data_1) wz rfl (h_op (vI a_2) wz rfl (h_op (vI b_3) wz rfl (h_op (.fn 221 []) wz rfl ?_))))))
    obtain ⟨r_17, hr_18, hc_12⟩ := bind_some hc_12
    obtain ⟨_, hs_19, hc_12⟩ := bind_some hc_12
    replace hs_19 := sameL_eq hs_19
    refine h_callv 0 [] 0 0 il ft (slices_insertionSortCmpFunc_screen_run_v1_ok hr_18) rfl hb304 rfl rfl rfl (by kernel_rfl) rfl (.inr (.inl rfl)) rfl (by kernel_rfl) (by kernel_rfl) (by kernel_rfl) (by kernel_rfl) rfl (by decide) (by kernel_rfl) gB_ok (gB_ho hs_19) wz ([((extN 0), gB 2 Run.enc r_17)] : Hp) (by kernel_rfl) (h_re (v' := (dV (extN 0) 2 r_17)) 0 rfl (dV_len hs_19.symm) (h_re (v' := (dV (extN 0) 2 r_17)) 26 rfl (dV_len hs_19.symm) (h_nil ?_)))
    obtain rfl := some_inj hc_12
    obtain rfl := some_inj hL_13
    obtain rfl := some_inj hF
    exact wH_ret (finV (bs := ([] : List Box)) (os := ([] : List Box)) (xs := data_1) (o := gB 2 Run.enc r_17) (.inr rfl) [] trivial rfl rfl rfl rfl rfl (by kernel_rfl) gB_ok rfl)
   ·refine wH_iff rfl hc_16 (wH_skip (wH_seq (wH_seq (wH_region (h_op (vI limit_4) wz rfl (h_op (vB (limit_4 == 0)) wz rfl (h_nil ?_)))))))
    rcases cond_some hc_12 with ⟨hc_20, hc_12⟩ | ⟨hc_20, hc_12⟩
    ·refine wH_ift rfl hc_20 (wH_seq (wH_region (h_op (dV (extN 0) 2 data_1) wz rfl (h_op (vI a_2) wz rfl (h_op (vI b_3) wz rfl (h_op (.fn 221 []) wz rfl ?_))))))
     cases hc_12
    ·refine wH_iff rfl hc_20 (wH_skip (wH_seq (wH_seq (wH_region (h_op (vB true) wz rfl (h_op (vB false) wz rfl (h_nil (wH_iff rfl rfl (wH_skip (wH_seq (wH_region (h_op (dV (extN 0) 2 data_1) wz rfl (h_op (vI a_2) wz rfl (h_op (vI b_3) wz rfl (h_op (.fn 221 []) wz rfl ?_)))))))))))))))
     cases hc_12
 ·rintro s_11 ho_ sl_ H_ hp_ hq_
  subst ho_
  show finH _ _ _ _ _ _ _ _
  obtain rfl := some_inj hF
  exact finH_at (H0 := ([((extN 0), gB 2 Run.enc data_1)] : Hp)) (sl' := envS []) hq_ (finV (bs := ([] : List Box)) (os := ([] : List Box)) (xs := data_1) (o := gB 2 Run.enc data_1) (.inl rfl) [] trivial rfl rfl rfl rfl rfl (by kernel_rfl) gB_ok rfl)
theorem slices_SortFunc_screen_run_screen_run_v1_ok {x_1 : (List Run)} {r : (List Run)} (hF : slices_SortFunc_screen_run_screen_run_v1 x_1 = some r) :
  FnM Tryz.prog 220 [(dV (extN 0) 2 x_1), (.fn 221 [])] (([] : List Box) ++ gI 2 Run.enc x_1) (.tup []) (([] : List Box).map some ++ gT x_1 (gB 2 Run.enc r)) := by
 refine FnM.of_wHv ⟨Tryz.prog, 14, [], []⟩ rfl Tryz.func220 rfl rfl (Nat.le_of_ble_eq_true rfl) (by kernel_rfl) ?_
 unfold slices_SortFunc_screen_run_screen_run_v1 at hF
 refine wH_seq (wH_region (h_op (dV (extN 0) 2 x_1) wz rfl (h_lend un259 rfl wz (h_op (vI (x_1.length : Int)) wz rfl (h_nil (wH_region (h_op (dV (extN 0) 2 x_1) wz rfl (h_op (vI (x_1.length : Int)) wz rfl (h_op (vI (x_1.length : Int)) wz rfl (h_conv un3 un268 rfl wz ?_))))))))))
 obtain ⟨r_3, hr_4, hF⟩ := bind_some hF
 refine h_call0 (math_bits_Len_ok hr_4) rfl hb189 rfl rfl rfl rfl wz (h_op (.fn 221 []) wz rfl ?_)
 obtain ⟨r_5, hr_6, hF⟩ := bind_some hF
 obtain ⟨_, hs_7, hF⟩ := bind_some hF
 replace hs_7 := sameL_eq hs_7
 refine h_callv 0 [] 0 0 il ft (slices_pdqsortCmpFunc_screen_run_v1_ok hr_6) rfl hb276 rfl rfl rfl (by kernel_rfl) rfl (.inr (.inl rfl)) rfl (by kernel_rfl) (by kernel_rfl) (by kernel_rfl) (by kernel_rfl) rfl (by decide) (by kernel_rfl) gB_ok (gB_ho hs_7) wz ([((extN 0), gB 2 Run.enc r_5)] : Hp) (by kernel_rfl) (h_re (v' := (dV (extN 0) 2 r_5)) 0 rfl (dV_len hs_7.symm) (h_re (v' := (dV (extN 0) 2 r_5)) 5 rfl (dV_len hs_7.symm) (h_re (v' := (dV (extN 0) 2 r_5)) 7 rfl (dV_len hs_7.symm) (h_nil ?_))))
 show finH _ _ _ _ _ _ _ _
 obtain rfl := some_inj hF
 exact finV (bs := ([] : List Box)) (os := ([] : List Box)) (xs := x_1) (o := gB 2 Run.enc r_5) (.inl rfl) [] trivial rfl rfl rfl rfl rfl (by kernel_rfl) gB_ok rfl
end Go.Proofs.YtpojeclokolkaaaGreatDoor.Law

