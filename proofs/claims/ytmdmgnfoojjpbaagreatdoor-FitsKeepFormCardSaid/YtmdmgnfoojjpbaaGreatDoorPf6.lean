/-
 The machine computes these plain functions (written by a program of ours).
-/
import Derived.Test.YtmdmgnfoojjpbaaGreatDoorFacts
import Derived.Test.YtmdmgnfoojjpbaaGreatDoorDefs
import Derived.Test.YtmdmgnfoojjpbaaGreatDoorPf5
open Go Go.Eng Go.Proofs
namespace Go.Proofs.YtmdmgnfoojjpbaaGreatDoor.Law
set_option maxRecDepth 100000
set_option linter.unusedVariables false
set_option maxHeartbeats 1000000
theorem keep_FitsKeepForm_ok {l_1 : (List Int)} {r : Bool} (hF : keep_FitsKeepForm l_1 = some r) :
  FnM Tryz.prog 4 [(vL eI l_1)] [] (vB r) [] := by
 refine FnM.of_wH ⟨Tryz.prog, 176, [], []⟩ rfl Tryz.func4 rfl rfl (Nat.le_of_ble_eq_true rfl) (by kernel_rfl) ?_
 unfold keep_FitsKeepForm at hF
 refine wH_seq (wH_region (h_op (vB false) wz rfl (h_nil (wH_seq (wH_region (h_op (vL eI l_1) wz rfl (h_op (.d (.agg (Stream.enc (⟨l_1, 0⟩ : Stream)))) wz (by kernel_rfl) (h_box 0 (.inl rfl) [(vL eI l_1), (vI 0)] rfl rfl wz (fun n_2 => h_op (.ref n_2 0 0) wz rfl (h_nil (wH_seq (wH_region (h_op (.ref n_2 0 0) wz rfl ?_)))))))))))))
 obtain ⟨r_3, hr_4, hF⟩ := bind_some hF
 refine h_callq 0 [0] (.inl rfl) (fun _ _ _ => trivial) (mk_Stream_Range_ok hr_4) rfl hb5 rfl (by kernel_rfl) (by kernel_rfl) (by kernel_rfl) (by kernel_rfl) (by kernel_rfl) (by kernel_rfl) (by kernel_rfl) (by decide) (by kernel_rfl) wz (vI r_3.1) (by kernel_rfl) ([(n_2, some (.cells 2 [(vL eI r_3.2.L), (vI r_3.2.f_at)]))] : Hp) (by kernel_rfl) (h_op (.ref n_2 0 0) wz rfl ?_)
 obtain ⟨r_6, hr_7, hF⟩ := bind_some hF
 refine h_callq 0 [0] (.inl rfl) (fun _ _ _ => trivial) (mk_Stream_Range_ok hr_7) rfl hb5 rfl (by kernel_rfl) (by kernel_rfl) (by kernel_rfl) (by kernel_rfl) (by kernel_rfl) (by kernel_rfl) (by kernel_rfl) (by decide) (by kernel_rfl) wz (vI r_6.1) (by kernel_rfl) ([(n_2, some (.cells 2 [(vL eI r_6.2.L), (vI r_6.2.f_at)]))] : Hp) (by kernel_rfl) (h_op (.ref n_2 0 0) wz rfl ?_)
 obtain ⟨r_9, hr_10, hF⟩ := bind_some hF
 refine h_callq 0 [0] (.inl rfl) (fun _ _ _ => trivial) (mk_Stream_Range_ok hr_10) rfl hb5 rfl (by kernel_rfl) (by kernel_rfl) (by kernel_rfl) (by kernel_rfl) (by kernel_rfl) (by kernel_rfl) (by kernel_rfl) (by decide) (by kernel_rfl) wz (vI r_9.1) (by kernel_rfl) ([(n_2, some (.cells 2 [(vL eI r_9.2.L), (vI r_9.2.f_at)]))] : Hp) (by kernel_rfl) (h_op (.ref n_2 0 0) wz rfl ?_)
 obtain ⟨r_12, hr_13, hF⟩ := bind_some hF
 refine h_callq 0 [0] (.inl rfl) (fun _ _ _ => trivial) (mk_Stream_Range_ok hr_13) rfl hb5 rfl (by kernel_rfl) (by kernel_rfl) (by kernel_rfl) (by kernel_rfl) (by kernel_rfl) (by kernel_rfl) (by kernel_rfl) (by decide) (by kernel_rfl) wz (vI r_12.1) (by kernel_rfl) ([(n_2, some (.cells 2 [(vL eI r_12.2.L), (vI r_12.2.f_at)]))] : Hp) (by kernel_rfl) (h_op (vI r_3.1) wz rfl (h_op (vI r_6.1) wz rfl (h_op (vI r_9.1) wz rfl (h_op (vI r_12.1) wz rfl (h_nil (wH_seq (wH_seq (wH_region (h_op (vI 1) wz rfl (h_nil ?_))))))))))
 obtain ⟨o_23, hj_24, hF⟩ := bind_some hF
 obtain ⟨nq_64, hj_24⟩ := loopO_iter hj_24
 refine wH_join (β := (Int)) (fun (s_20 : Int) => ([] : List (Nat × V))) (fun (s_20 : Int) => ([(n_2, some (.cells 2 [(vL eI r_12.2.L), (vI r_12.2.f_at)]))] : Hp)) (fun p => o_23 = .go p) ?_ ?_
 ·refine wH_block (wH_loop (β := Nat × (Int)) (fun p => (fun (k_15 : Nat) (s_20 : Int) => ([(4, (vI r_3.1)), (5, (vI r_6.1)), (6, (vI r_9.1)), (7, (vI r_12.1)), (8, (vI s_20))] : List (Nat × V))) p.1 p.2) (fun p => (fun (k_15 : Nat) (s_20 : Int) => ([(n_2, some (.cells 2 [(vL eI r_12.2.L), (vI r_12.2.f_at)]))] : Hp)) p.1 p.2) (fun p => iterN (fun s => keep_FitsKeepForm_L1 r_3 r_6 r_9 r_12 s) p.1 p.2 = some o_23) (fun p => p.1) (nq_64, 1) hj_24 rfl (pre_r rfl) ?_)
  rintro ⟨k_15, s_20⟩ hL_22
  dsimp only at hL_22
  cases k_15 with
  | zero => cases hL_22
  | succ k_15 =>
   obtain ⟨c_, hc_21, hL_22⟩ := bind_some hL_22
   unfold keep_FitsKeepForm_L1 at hc_21
   refine wH_seq (wH_seq (wH_region (h_op (vI s_20) wz rfl (h_op (vB (decide (s_20 ≤ 3))) wz rfl (h_nil ?_)))))
   rcases cond_some hc_21 with ⟨hc_25, hc_21⟩ | ⟨hc_25, hc_21⟩
   ·refine wH_ift rfl hc_25 (wH_skip (wH_seq (wH_block (wH_seq (wH_region (h_op (vI r_3.1) wz rfl (h_op (vI r_6.1) wz rfl (h_op (vI r_9.1) wz rfl (h_op (vI r_12.1) wz rfl (h_op (vI s_20) wz rfl ?_))))))))))
    obtain ⟨r_26, hr_27, hc_21⟩ := bind_some hc_21
    refine h_call0 (screen_Fit_ok hr_27) rfl hb8 rfl rfl rfl rfl wz (h_op (.tup [(.d (.agg (Rect.enc r_26.1))), (.d (.agg (Rect.enc r_26.2.1))), (vI r_26.2.2)]) wz rfl (h_op (.d (.agg (Rect.enc r_26.1))) wz rfl (h_op (.d (.agg (Rect.enc r_26.2.1))) wz rfl (h_op (vI r_26.2.2) wz rfl (h_alloc 0 (.inl rfl) z28 rfl wz (fun n_28 => h_alloc 0 (.inl rfl) z28 rfl wz (fun n_29 => h_str 0 (.inl rfl) (fun _ _ _ => trivial) 1 sz28 rfl rfl [(vI r_26.1.X), (vI r_26.1.Y), (vI r_26.1.W), (vI r_26.1.H)] rfl wz (h_str 0 (.inl rfl) (fun _ _ _ => trivial) 2 sz28 rfl rfl [(vI r_26.2.1.X), (vI r_26.2.1.Y), (vI r_26.2.1.W), (vI r_26.2.1.H)] rfl wz (h_op (vI r_26.2.2) wz rfl (h_nil (wH_seq (wH_seq ?_))))))))))))
    obtain ⟨v_30, h_31, hc_21⟩ := bind_some hc_21
    refine wH_join (β := Unit) (fun _ => ([(4, (vI r_3.1)), (5, (vI r_6.1)), (6, (vI r_9.1)), (7, (vI r_12.1)), (8, (vI s_20)), (9, (.ref n_28 0 0)), (10, (.ref n_29 0 0)), (116, (vB v_30))] : List (Nat × V))) (fun _ => ([(n_2, some (.cells 2 [(vL eI r_12.2.L), (vI r_12.2.f_at)])), (n_28, some (.cells 4 [(vI r_26.1.X), (vI r_26.1.Y), (vI r_26.1.W), (vI r_26.1.H)])), (n_29, some (.cells 4 [(vI r_26.2.1.X), (vI r_26.2.1.Y), (vI r_26.2.1.W), (vI r_26.2.1.H)]))] : Hp)) (fun _ => True) ?_ ?_
    ·refine wH_region (h_op (vI r_26.2.2) wz rfl (h_op (vB (r_26.2.2 != 0)) wz rfl ?_))
     rcases cond_some h_31 with ⟨hc_32, h_31⟩ | ⟨hc_32, h_31⟩
     ·refine h_movb rfl hc_32 wz (h_skip (wg rfl rfl rfl) (h_skip (wg rfl rfl rfl) (h_skip (wg rfl rfl rfl) (h_op (vB true) wz rfl (h_op (vB true) wz rfl (h_skip (wg rfl rfl rfl) (h_skip (wg rfl rfl rfl) (h_skip (wg rfl rfl rfl) (h_op (vB true) wz rfl (h_op (vB true) wz rfl (h_skip (wg rfl rfl rfl) (h_skip (wg rfl rfl rfl) (h_skip (wg rfl rfl rfl) (h_op (vB true) wz rfl (h_op (vB true) wz rfl (h_skip (wg rfl rfl rfl) (h_skip (wg rfl rfl rfl) (h_skip (wg rfl rfl rfl) (h_op (vB true) wz rfl (h_op (vB true) wz rfl (h_skip (wg rfl rfl rfl) (h_skip (wg rfl rfl rfl) (h_skip (wg rfl rfl rfl) ?_)))))))))))))))))))))))
      refine h_op (vB true) wz rfl (h_op (vB true) wz rfl (h_skip (wg rfl rfl rfl) (h_skip (wg rfl rfl rfl) (h_skip (wg rfl rfl rfl) (h_op (vB true) wz rfl (h_op (vB true) wz rfl (h_skip (wg rfl rfl rfl) (h_skip (wg rfl rfl rfl) (h_skip (wg rfl rfl rfl) (h_op (vB true) wz rfl (h_op (vB true) wz rfl (h_skip (wg rfl rfl rfl) (h_skip (wg rfl rfl rfl) (h_skip (wg rfl rfl rfl) (h_op (vB true) wz rfl (h_op (vB true) wz rfl (h_skip (wg rfl rfl rfl) (h_skip (wg rfl rfl rfl) (h_skip (wg rfl rfl rfl) (h_skip (wg rfl rfl rfl) (h_skip (wg rfl rfl rfl) (h_skip (wg rfl rfl rfl) (h_skip (wg rfl rfl rfl) ?_)))))))))))))))))))))))
      refine h_op (vB true) wz rfl (h_op (vB true) wz rfl (h_skip (wg rfl rfl rfl) (h_skip (wg rfl rfl rfl) (h_skip (wg rfl rfl rfl) (h_skip (wg rfl rfl rfl) (h_skip (wg rfl rfl rfl) (h_skip (wg rfl rfl rfl) (h_skip (wg rfl rfl rfl) (h_op (vB true) wz rfl (h_op (vB true) wz rfl (h_skip (wg rfl rfl rfl) (h_skip (wg rfl rfl rfl) (h_skip (wg rfl rfl rfl) (h_skip (wg rfl rfl rfl) (h_skip (wg rfl rfl rfl) (h_skip (wg rfl rfl rfl) (h_skip (wg rfl rfl rfl) (h_op (vB true) wz rfl (h_op (vB true) wz rfl (h_skip (wg rfl rfl rfl) (h_skip (wg rfl rfl rfl) (h_skip (wg rfl rfl rfl) (h_skip (wg rfl rfl rfl) ?_)))))))))))))))))))))))
      refine h_skip (wg rfl rfl rfl) (h_skip (wg rfl rfl rfl) (h_skip (wg rfl rfl rfl) (h_op (vB true) wz rfl (h_nil ?_))))
      obtain rfl := some_inj h_31
      exact cut_mk () trivial rfl (pre_r rfl)
     ·refine h_movb rfl hc_32 wz (h_far pl28_0 rfl 0 rfl (wg rfl rfl rfl) (h_ldr 0 1 (.inl rfl) (fun _ _ _ => trivial) sz3 ag3 rfl rfl (vI r_26.1.X) rfl (wg rfl rfl rfl) (h_op (vB (decide (r_26.1.X < 0))) (wg rfl rfl rfl) rfl (h_op (vB (decide (r_26.1.X < 0))) wz rfl ?_))))
      rcases cond_some h_31 with ⟨hc_33, h_31⟩ | ⟨hc_33, h_31⟩
      ·refine h_movb rfl hc_33 wz (h_skip (wg rfl rfl rfl) (h_skip (wg rfl rfl rfl) (h_skip (wg rfl rfl rfl) (h_op (vB true) wz rfl (h_op (vB true) wz rfl (h_skip (wg rfl rfl rfl) (h_skip (wg rfl rfl rfl) (h_skip (wg rfl rfl rfl) (h_op (vB true) wz rfl (h_op (vB true) wz rfl (h_skip (wg rfl rfl rfl) (h_skip (wg rfl rfl rfl) (h_skip (wg rfl rfl rfl) (h_op (vB true) wz rfl (h_op (vB true) wz rfl (h_skip (wg rfl rfl rfl) (h_skip (wg rfl rfl rfl) (h_skip (wg rfl rfl rfl) (h_op (vB true) wz rfl (h_op (vB true) wz rfl (h_skip (wg rfl rfl rfl) (h_skip (wg rfl rfl rfl) (h_skip (wg rfl rfl rfl) ?_)))))))))))))))))))))))
       refine h_op (vB true) wz rfl (h_op (vB true) wz rfl (h_skip (wg rfl rfl rfl) (h_skip (wg rfl rfl rfl) (h_skip (wg rfl rfl rfl) (h_op (vB true) wz rfl (h_op (vB true) wz rfl (h_skip (wg rfl rfl rfl) (h_skip (wg rfl rfl rfl) (h_skip (wg rfl rfl rfl) (h_op (vB true) wz rfl (h_op (vB true) wz rfl (h_skip (wg rfl rfl rfl) (h_skip (wg rfl rfl rfl) (h_skip (wg rfl rfl rfl) (h_skip (wg rfl rfl rfl) (h_skip (wg rfl rfl rfl) (h_skip (wg rfl rfl rfl) (h_skip (wg rfl rfl rfl) (h_op (vB true) wz rfl (h_op (vB true) wz rfl (h_skip (wg rfl rfl rfl) (h_skip (wg rfl rfl rfl) (h_skip (wg rfl rfl rfl) ?_)))))))))))))))))))))))
       refine h_skip (wg rfl rfl rfl) (h_skip (wg rfl rfl rfl) (h_skip (wg rfl rfl rfl) (h_skip (wg rfl rfl rfl) (h_op (vB true) wz rfl (h_op (vB true) wz rfl (h_skip (wg rfl rfl rfl) (h_skip (wg rfl rfl rfl) (h_skip (wg rfl rfl rfl) (h_skip (wg rfl rfl rfl) (h_skip (wg rfl rfl rfl) (h_skip (wg rfl rfl rfl) (h_skip (wg rfl rfl rfl) (h_op (vB true) wz rfl (h_op (vB true) wz rfl (h_skip (wg rfl rfl rfl) (h_skip (wg rfl rfl rfl) (h_skip (wg rfl rfl rfl) (h_skip (wg rfl rfl rfl) (h_skip (wg rfl rfl rfl) (h_skip (wg rfl rfl rfl) (h_skip (wg rfl rfl rfl) (h_op (vB true) wz rfl (h_nil ?_)))))))))))))))))))))))
       obtain rfl := some_inj h_31
       exact cut_mk () trivial rfl (pre_r rfl)
      ·refine h_movb rfl hc_33 wz (h_far pl28_1 rfl 1 rfl (wg rfl rfl rfl) (h_ldr 0 1 (.inl rfl) (fun _ _ _ => trivial) sz3 ag3 rfl rfl (vI r_26.1.Y) rfl (wg rfl rfl rfl) (h_op (vB (decide (r_26.1.Y < 0))) (wg rfl rfl rfl) rfl (h_op (vB (decide (r_26.1.Y < 0))) wz rfl ?_))))
       rcases cond_some h_31 with ⟨hc_34, h_31⟩ | ⟨hc_34, h_31⟩
       ·refine h_movb rfl hc_34 wz (h_skip (wg rfl rfl rfl) (h_skip (wg rfl rfl rfl) (h_skip (wg rfl rfl rfl) (h_op (vB true) wz rfl (h_op (vB true) wz rfl (h_skip (wg rfl rfl rfl) (h_skip (wg rfl rfl rfl) (h_skip (wg rfl rfl rfl) (h_op (vB true) wz rfl (h_op (vB true) wz rfl (h_skip (wg rfl rfl rfl) (h_skip (wg rfl rfl rfl) (h_skip (wg rfl rfl rfl) (h_op (vB true) wz rfl (h_op (vB true) wz rfl (h_skip (wg rfl rfl rfl) (h_skip (wg rfl rfl rfl) (h_skip (wg rfl rfl rfl) (h_op (vB true) wz rfl (h_op (vB true) wz rfl (h_skip (wg rfl rfl rfl) (h_skip (wg rfl rfl rfl) (h_skip (wg rfl rfl rfl) ?_)))))))))))))))))))))))
        refine h_op (vB true) wz rfl (h_op (vB true) wz rfl (h_skip (wg rfl rfl rfl) (h_skip (wg rfl rfl rfl) (h_skip (wg rfl rfl rfl) (h_op (vB true) wz rfl (h_op (vB true) wz rfl (h_skip (wg rfl rfl rfl) (h_skip (wg rfl rfl rfl) (h_skip (wg rfl rfl rfl) (h_skip (wg rfl rfl rfl) (h_skip (wg rfl rfl rfl) (h_skip (wg rfl rfl rfl) (h_skip (wg rfl rfl rfl) (h_op (vB true) wz rfl (h_op (vB true) wz rfl (h_skip (wg rfl rfl rfl) (h_skip (wg rfl rfl rfl) (h_skip (wg rfl rfl rfl) (h_skip (wg rfl rfl rfl) (h_skip (wg rfl rfl rfl) (h_skip (wg rfl rfl rfl) (h_skip (wg rfl rfl rfl) (h_op (vB true) wz rfl ?_)))))))))))))))))))))))
        refine h_op (vB true) wz rfl (h_skip (wg rfl rfl rfl) (h_skip (wg rfl rfl rfl) (h_skip (wg rfl rfl rfl) (h_skip (wg rfl rfl rfl) (h_skip (wg rfl rfl rfl) (h_skip (wg rfl rfl rfl) (h_skip (wg rfl rfl rfl) (h_op (vB true) wz rfl (h_op (vB true) wz rfl (h_skip (wg rfl rfl rfl) (h_skip (wg rfl rfl rfl) (h_skip (wg rfl rfl rfl) (h_skip (wg rfl rfl rfl) (h_skip (wg rfl rfl rfl) (h_skip (wg rfl rfl rfl) (h_skip (wg rfl rfl rfl) (h_op (vB true) wz rfl (h_nil ?_))))))))))))))))))
        obtain rfl := some_inj h_31
        exact cut_mk () trivial rfl (pre_r rfl)
       ·refine h_movb rfl hc_34 wz (h_far pl28_0 rfl 0 rfl (wg rfl rfl rfl) (h_ldr 0 2 (.inl rfl) (fun _ _ _ => trivial) sz3 ag3 rfl rfl (vI r_26.2.1.X) rfl (wg rfl rfl rfl) (h_op (vB (decide (r_26.2.1.X < 0))) (wg rfl rfl rfl) rfl (h_op (vB (decide (r_26.2.1.X < 0))) wz rfl ?_))))
        rcases cond_some h_31 with ⟨hc_35, h_31⟩ | ⟨hc_35, h_31⟩
        ·refine h_movb rfl hc_35 wz (h_skip (wg rfl rfl rfl) (h_skip (wg rfl rfl rfl) (h_skip (wg rfl rfl rfl) (h_op (vB true) wz rfl (h_op (vB true) wz rfl (h_skip (wg rfl rfl rfl) (h_skip (wg rfl rfl rfl) (h_skip (wg rfl rfl rfl) (h_op (vB true) wz rfl (h_op (vB true) wz rfl (h_skip (wg rfl rfl rfl) (h_skip (wg rfl rfl rfl) (h_skip (wg rfl rfl rfl) (h_op (vB true) wz rfl (h_op (vB true) wz rfl (h_skip (wg rfl rfl rfl) (h_skip (wg rfl rfl rfl) (h_skip (wg rfl rfl rfl) (h_op (vB true) wz rfl (h_op (vB true) wz rfl (h_skip (wg rfl rfl rfl) (h_skip (wg rfl rfl rfl) (h_skip (wg rfl rfl rfl) ?_)))))))))))))))))))))))
         refine h_op (vB true) wz rfl (h_op (vB true) wz rfl (h_skip (wg rfl rfl rfl) (h_skip (wg rfl rfl rfl) (h_skip (wg rfl rfl rfl) (h_skip (wg rfl rfl rfl) (h_skip (wg rfl rfl rfl) (h_skip (wg rfl rfl rfl) (h_skip (wg rfl rfl rfl) (h_op (vB true) wz rfl (h_op (vB true) wz rfl (h_skip (wg rfl rfl rfl) (h_skip (wg rfl rfl rfl) (h_skip (wg rfl rfl rfl) (h_skip (wg rfl rfl rfl) (h_skip (wg rfl rfl rfl) (h_skip (wg rfl rfl rfl) (h_skip (wg rfl rfl rfl) (h_op (vB true) wz rfl (h_op (vB true) wz rfl (h_skip (wg rfl rfl rfl) (h_skip (wg rfl rfl rfl) (h_skip (wg rfl rfl rfl) (h_skip (wg rfl rfl rfl) ?_)))))))))))))))))))))))
         refine h_skip (wg rfl rfl rfl) (h_skip (wg rfl rfl rfl) (h_skip (wg rfl rfl rfl) (h_op (vB true) wz rfl (h_op (vB true) wz rfl (h_skip (wg rfl rfl rfl) (h_skip (wg rfl rfl rfl) (h_skip (wg rfl rfl rfl) (h_skip (wg rfl rfl rfl) (h_skip (wg rfl rfl rfl) (h_skip (wg rfl rfl rfl) (h_skip (wg rfl rfl rfl) (h_op (vB true) wz rfl (h_nil ?_)))))))))))))
         obtain rfl := some_inj h_31
         exact cut_mk () trivial rfl (pre_r rfl)
        ·refine h_movb rfl hc_35 wz (h_far pl28_1 rfl 1 rfl (wg rfl rfl rfl) (h_ldr 0 2 (.inl rfl) (fun _ _ _ => trivial) sz3 ag3 rfl rfl (vI r_26.2.1.Y) rfl (wg rfl rfl rfl) (h_op (vB (decide (r_26.2.1.Y < 0))) (wg rfl rfl rfl) rfl (h_op (vB (decide (r_26.2.1.Y < 0))) wz rfl ?_))))
         rcases cond_some h_31 with ⟨hc_36, h_31⟩ | ⟨hc_36, h_31⟩
         ·refine h_movb rfl hc_36 wz (h_skip (wg rfl rfl rfl) (h_skip (wg rfl rfl rfl) (h_skip (wg rfl rfl rfl) (h_op (vB true) wz rfl (h_op (vB true) wz rfl (h_skip (wg rfl rfl rfl) (h_skip (wg rfl rfl rfl) (h_skip (wg rfl rfl rfl) (h_op (vB true) wz rfl (h_op (vB true) wz rfl (h_skip (wg rfl rfl rfl) (h_skip (wg rfl rfl rfl) (h_skip (wg rfl rfl rfl) (h_op (vB true) wz rfl (h_op (vB true) wz rfl (h_skip (wg rfl rfl rfl) (h_skip (wg rfl rfl rfl) (h_skip (wg rfl rfl rfl) (h_op (vB true) wz rfl (h_op (vB true) wz rfl (h_skip (wg rfl rfl rfl) (h_skip (wg rfl rfl rfl) (h_skip (wg rfl rfl rfl) ?_)))))))))))))))))))))))
          refine h_skip (wg rfl rfl rfl) (h_skip (wg rfl rfl rfl) (h_skip (wg rfl rfl rfl) (h_skip (wg rfl rfl rfl) (h_op (vB true) wz rfl (h_op (vB true) wz rfl (h_skip (wg rfl rfl rfl) (h_skip (wg rfl rfl rfl) (h_skip (wg rfl rfl rfl) (h_skip (wg rfl rfl rfl) (h_skip (wg rfl rfl rfl) (h_skip (wg rfl rfl rfl) (h_skip (wg rfl rfl rfl) (h_op (vB true) wz rfl (h_op (vB true) wz rfl (h_skip (wg rfl rfl rfl) (h_skip (wg rfl rfl rfl) (h_skip (wg rfl rfl rfl) (h_skip (wg rfl rfl rfl) (h_skip (wg rfl rfl rfl) (h_skip (wg rfl rfl rfl) (h_skip (wg rfl rfl rfl) (h_op (vB true) wz rfl (h_op (vB true) wz rfl ?_)))))))))))))))))))))))
          refine h_skip (wg rfl rfl rfl) (h_skip (wg rfl rfl rfl) (h_skip (wg rfl rfl rfl) (h_skip (wg rfl rfl rfl) (h_skip (wg rfl rfl rfl) (h_skip (wg rfl rfl rfl) (h_skip (wg rfl rfl rfl) (h_op (vB true) wz rfl (h_nil ?_))))))))
          obtain rfl := some_inj h_31
          exact cut_mk () trivial rfl (pre_r rfl)
         ·refine h_movb rfl hc_36 wz (h_far pl28_2 rfl 2 rfl (wg rfl rfl rfl) (h_ldr 0 1 (.inl rfl) (fun _ _ _ => trivial) sz3 ag3 rfl rfl (vI r_26.1.W) rfl (wg rfl rfl rfl) (h_op (vB (decide (r_26.1.W < 1))) (wg rfl rfl rfl) rfl (h_op (vB (decide (r_26.1.W < 1))) wz rfl ?_))))
          rcases cond_some h_31 with ⟨hc_37, h_31⟩ | ⟨hc_37, h_31⟩
          ·refine h_movb rfl hc_37 wz (h_skip (wg rfl rfl rfl) (h_skip (wg rfl rfl rfl) (h_skip (wg rfl rfl rfl) (h_op (vB true) wz rfl (h_op (vB true) wz rfl (h_skip (wg rfl rfl rfl) (h_skip (wg rfl rfl rfl) (h_skip (wg rfl rfl rfl) (h_op (vB true) wz rfl (h_op (vB true) wz rfl (h_skip (wg rfl rfl rfl) (h_skip (wg rfl rfl rfl) (h_skip (wg rfl rfl rfl) (h_op (vB true) wz rfl (h_op (vB true) wz rfl (h_skip (wg rfl rfl rfl) (h_skip (wg rfl rfl rfl) (h_skip (wg rfl rfl rfl) (h_skip (wg rfl rfl rfl) (h_skip (wg rfl rfl rfl) (h_skip (wg rfl rfl rfl) (h_skip (wg rfl rfl rfl) (h_op (vB true) wz rfl ?_)))))))))))))))))))))))
           refine h_op (vB true) wz rfl (h_skip (wg rfl rfl rfl) (h_skip (wg rfl rfl rfl) (h_skip (wg rfl rfl rfl) (h_skip (wg rfl rfl rfl) (h_skip (wg rfl rfl rfl) (h_skip (wg rfl rfl rfl) (h_skip (wg rfl rfl rfl) (h_op (vB true) wz rfl (h_op (vB true) wz rfl (h_skip (wg rfl rfl rfl) (h_skip (wg rfl rfl rfl) (h_skip (wg rfl rfl rfl) (h_skip (wg rfl rfl rfl) (h_skip (wg rfl rfl rfl) (h_skip (wg rfl rfl rfl) (h_skip (wg rfl rfl rfl) (h_op (vB true) wz rfl (h_op (vB true) wz rfl (h_skip (wg rfl rfl rfl) (h_skip (wg rfl rfl rfl) (h_skip (wg rfl rfl rfl) (h_skip (wg rfl rfl rfl) (h_skip (wg rfl rfl rfl) ?_)))))))))))))))))))))))
           refine h_skip (wg rfl rfl rfl) (h_skip (wg rfl rfl rfl) (h_op (vB true) wz rfl (h_nil ?_)))
           obtain rfl := some_inj h_31
           exact cut_mk () trivial rfl (pre_r rfl)
          ·refine h_movb rfl hc_37 wz (h_far pl28_3 rfl 3 rfl (wg rfl rfl rfl) (h_ldr 0 1 (.inl rfl) (fun _ _ _ => trivial) sz3 ag3 rfl rfl (vI r_26.1.H) rfl (wg rfl rfl rfl) (h_op (vB (decide (r_26.1.H < 1))) (wg rfl rfl rfl) rfl (h_op (vB (decide (r_26.1.H < 1))) wz rfl ?_))))
           rcases cond_some h_31 with ⟨hc_38, h_31⟩ | ⟨hc_38, h_31⟩
           ·refine h_movb rfl hc_38 wz (h_skip (wg rfl rfl rfl) (h_skip (wg rfl rfl rfl) (h_skip (wg rfl rfl rfl) (h_op (vB true) wz rfl (h_op (vB true) wz rfl (h_skip (wg rfl rfl rfl) (h_skip (wg rfl rfl rfl) (h_skip (wg rfl rfl rfl) (h_op (vB true) wz rfl (h_op (vB true) wz rfl (h_skip (wg rfl rfl rfl) (h_skip (wg rfl rfl rfl) (h_skip (wg rfl rfl rfl) (h_skip (wg rfl rfl rfl) (h_skip (wg rfl rfl rfl) (h_skip (wg rfl rfl rfl) (h_skip (wg rfl rfl rfl) (h_op (vB true) wz rfl (h_op (vB true) wz rfl (h_skip (wg rfl rfl rfl) (h_skip (wg rfl rfl rfl) (h_skip (wg rfl rfl rfl) (h_skip (wg rfl rfl rfl) ?_)))))))))))))))))))))))
            refine h_skip (wg rfl rfl rfl) (h_skip (wg rfl rfl rfl) (h_skip (wg rfl rfl rfl) (h_op (vB true) wz rfl (h_op (vB true) wz rfl (h_skip (wg rfl rfl rfl) (h_skip (wg rfl rfl rfl) (h_skip (wg rfl rfl rfl) (h_skip (wg rfl rfl rfl) (h_skip (wg rfl rfl rfl) (h_skip (wg rfl rfl rfl) (h_skip (wg rfl rfl rfl) (h_op (vB true) wz rfl (h_op (vB true) wz rfl (h_skip (wg rfl rfl rfl) (h_skip (wg rfl rfl rfl) (h_skip (wg rfl rfl rfl) (h_skip (wg rfl rfl rfl) (h_skip (wg rfl rfl rfl) (h_skip (wg rfl rfl rfl) (h_skip (wg rfl rfl rfl) (h_op (vB true) wz rfl (h_nil ?_))))))))))))))))))))))
            obtain rfl := some_inj h_31
            exact cut_mk () trivial rfl (pre_r rfl)
           ·refine h_movb rfl hc_38 wz (h_far pl28_2 rfl 2 rfl (wg rfl rfl rfl) (h_ldr 0 2 (.inl rfl) (fun _ _ _ => trivial) sz3 ag3 rfl rfl (vI r_26.2.1.W) rfl (wg rfl rfl rfl) (h_op (vB (decide (r_26.2.1.W < 1))) (wg rfl rfl rfl) rfl (h_op (vB (decide (r_26.2.1.W < 1))) wz rfl ?_))))
            rcases cond_some h_31 with ⟨hc_39, h_31⟩ | ⟨hc_39, h_31⟩
            ·refine h_movb rfl hc_39 wz (h_skip (wg rfl rfl rfl) (h_skip (wg rfl rfl rfl) (h_skip (wg rfl rfl rfl) (h_op (vB true) wz rfl (h_op (vB true) wz rfl (h_skip (wg rfl rfl rfl) (h_skip (wg rfl rfl rfl) (h_skip (wg rfl rfl rfl) (h_skip (wg rfl rfl rfl) (h_skip (wg rfl rfl rfl) (h_skip (wg rfl rfl rfl) (h_skip (wg rfl rfl rfl) (h_op (vB true) wz rfl (h_op (vB true) wz rfl (h_skip (wg rfl rfl rfl) (h_skip (wg rfl rfl rfl) (h_skip (wg rfl rfl rfl) (h_skip (wg rfl rfl rfl) (h_skip (wg rfl rfl rfl) (h_skip (wg rfl rfl rfl) (h_skip (wg rfl rfl rfl) (h_op (vB true) wz rfl (h_op (vB true) wz rfl ?_)))))))))))))))))))))))
             refine h_skip (wg rfl rfl rfl) (h_skip (wg rfl rfl rfl) (h_skip (wg rfl rfl rfl) (h_skip (wg rfl rfl rfl) (h_skip (wg rfl rfl rfl) (h_skip (wg rfl rfl rfl) (h_skip (wg rfl rfl rfl) (h_op (vB true) wz rfl (h_op (vB true) wz rfl (h_skip (wg rfl rfl rfl) (h_skip (wg rfl rfl rfl) (h_skip (wg rfl rfl rfl) (h_skip (wg rfl rfl rfl) (h_skip (wg rfl rfl rfl) (h_skip (wg rfl rfl rfl) (h_skip (wg rfl rfl rfl) (h_op (vB true) wz rfl (h_nil ?_)))))))))))))))))
             obtain rfl := some_inj h_31
             exact cut_mk () trivial rfl (pre_r rfl)
            ·refine h_movb rfl hc_39 wz (h_far pl28_3 rfl 3 rfl (wg rfl rfl rfl) (h_ldr 0 2 (.inl rfl) (fun _ _ _ => trivial) sz3 ag3 rfl rfl (vI r_26.2.1.H) rfl (wg rfl rfl rfl) (h_op (vB (decide (r_26.2.1.H < 1))) (wg rfl rfl rfl) rfl (h_op (vB (decide (r_26.2.1.H < 1))) wz rfl ?_))))
             rcases cond_some h_31 with ⟨hc_40, h_31⟩ | ⟨hc_40, h_31⟩
             ·refine h_movb rfl hc_40 wz (h_skip (wg rfl rfl rfl) (h_skip (wg rfl rfl rfl) (h_skip (wg rfl rfl rfl) (h_skip (wg rfl rfl rfl) (h_skip (wg rfl rfl rfl) (h_skip (wg rfl rfl rfl) (h_skip (wg rfl rfl rfl) (h_op (vB true) wz rfl (h_op (vB true) wz rfl (h_skip (wg rfl rfl rfl) (h_skip (wg rfl rfl rfl) (h_skip (wg rfl rfl rfl) (h_skip (wg rfl rfl rfl) (h_skip (wg rfl rfl rfl) (h_skip (wg rfl rfl rfl) (h_skip (wg rfl rfl rfl) (h_op (vB true) wz rfl (h_op (vB true) wz rfl (h_skip (wg rfl rfl rfl) (h_skip (wg rfl rfl rfl) (h_skip (wg rfl rfl rfl) (h_skip (wg rfl rfl rfl) (h_skip (wg rfl rfl rfl) ?_)))))))))))))))))))))))
              refine h_skip (wg rfl rfl rfl) (h_skip (wg rfl rfl rfl) (h_op (vB true) wz rfl (h_op (vB true) wz rfl (h_skip (wg rfl rfl rfl) (h_skip (wg rfl rfl rfl) (h_skip (wg rfl rfl rfl) (h_skip (wg rfl rfl rfl) (h_skip (wg rfl rfl rfl) (h_skip (wg rfl rfl rfl) (h_skip (wg rfl rfl rfl) (h_op (vB true) wz rfl (h_nil ?_))))))))))))
              obtain rfl := some_inj h_31
              exact cut_mk () trivial rfl (pre_r rfl)
             ·refine h_movb rfl hc_40 wz (h_far pl28_0 rfl 0 rfl (wg rfl rfl rfl) (h_ldr 0 1 (.inl rfl) (fun _ _ _ => trivial) sz3 ag3 rfl rfl (vI r_26.1.X) rfl (wg rfl rfl rfl) (h_far pl28_2 rfl 2 rfl (wg rfl rfl rfl) (h_ldr 0 1 (.inl rfl) (fun _ _ _ => trivial) sz3 ag3 rfl rfl (vI r_26.1.W) rfl (wg rfl rfl rfl) (h_op (vI (w64 (r_26.1.X + r_26.1.W))) (wg rfl rfl rfl) rfl (h_op (vI r_3.1) (wg rfl rfl rfl) rfl (h_op (vB (decide ((w64 (r_26.1.X + r_26.1.W)) > r_3.1))) (wg rfl rfl rfl) rfl (h_op (vB (decide ((w64 (r_26.1.X + r_26.1.W)) > r_3.1))) wz rfl ?_))))))))
              rcases cond_some h_31 with ⟨hc_41, h_31⟩ | ⟨hc_41, h_31⟩
              ·refine h_movb rfl hc_41 wz (h_skip (wg rfl rfl rfl) (h_skip (wg rfl rfl rfl) (h_skip (wg rfl rfl rfl) (h_skip (wg rfl rfl rfl) (h_skip (wg rfl rfl rfl) (h_skip (wg rfl rfl rfl) (h_skip (wg rfl rfl rfl) (h_op (vB true) wz rfl (h_op (vB true) wz rfl (h_skip (wg rfl rfl rfl) (h_skip (wg rfl rfl rfl) (h_skip (wg rfl rfl rfl) (h_skip (wg rfl rfl rfl) (h_skip (wg rfl rfl rfl) (h_skip (wg rfl rfl rfl) (h_skip (wg rfl rfl rfl) (h_op (vB true) wz rfl (h_op (vB true) wz rfl (h_skip (wg rfl rfl rfl) (h_skip (wg rfl rfl rfl) (h_skip (wg rfl rfl rfl) (h_skip (wg rfl rfl rfl) (h_skip (wg rfl rfl rfl) ?_)))))))))))))))))))))))
               refine h_skip (wg rfl rfl rfl) (h_skip (wg rfl rfl rfl) (h_op (vB true) wz rfl (h_nil ?_)))
               obtain rfl := some_inj h_31
               exact cut_mk () trivial rfl (pre_r rfl)
              ·refine h_movb rfl hc_41 wz (h_far pl28_1 rfl 1 rfl (wg rfl rfl rfl) (h_ldr 0 1 (.inl rfl) (fun _ _ _ => trivial) sz3 ag3 rfl rfl (vI r_26.1.Y) rfl (wg rfl rfl rfl) (h_far pl28_3 rfl 3 rfl (wg rfl rfl rfl) (h_ldr 0 1 (.inl rfl) (fun _ _ _ => trivial) sz3 ag3 rfl rfl (vI r_26.1.H) rfl (wg rfl rfl rfl) (h_op (vI (w64 (r_26.1.Y + r_26.1.H))) (wg rfl rfl rfl) rfl (h_op (vI r_6.1) (wg rfl rfl rfl) rfl (h_op (vB (decide ((w64 (r_26.1.Y + r_26.1.H)) > r_6.1))) (wg rfl rfl rfl) rfl (h_op (vB (decide ((w64 (r_26.1.Y + r_26.1.H)) > r_6.1))) wz rfl ?_))))))))
               rcases cond_some h_31 with ⟨hc_42, h_31⟩ | ⟨hc_42, h_31⟩
               ·refine h_movb rfl hc_42 wz (h_skip (wg rfl rfl rfl) (h_skip (wg rfl rfl rfl) (h_skip (wg rfl rfl rfl) (h_skip (wg rfl rfl rfl) (h_skip (wg rfl rfl rfl) (h_skip (wg rfl rfl rfl) (h_skip (wg rfl rfl rfl) (h_op (vB true) wz rfl (h_op (vB true) wz rfl (h_skip (wg rfl rfl rfl) (h_skip (wg rfl rfl rfl) (h_skip (wg rfl rfl rfl) (h_skip (wg rfl rfl rfl) (h_skip (wg rfl rfl rfl) (h_skip (wg rfl rfl rfl) (h_skip (wg rfl rfl rfl) (h_op (vB true) wz rfl (h_nil ?_))))))))))))))))))
                obtain rfl := some_inj h_31
                exact cut_mk () trivial rfl (pre_r rfl)
               ·refine h_movb rfl hc_42 wz (h_far pl28_0 rfl 0 rfl (wg rfl rfl rfl) (h_ldr 0 2 (.inl rfl) (fun _ _ _ => trivial) sz3 ag3 rfl rfl (vI r_26.2.1.X) rfl (wg rfl rfl rfl) (h_far pl28_2 rfl 2 rfl (wg rfl rfl rfl) (h_ldr 0 2 (.inl rfl) (fun _ _ _ => trivial) sz3 ag3 rfl rfl (vI r_26.2.1.W) rfl (wg rfl rfl rfl) (h_op (vI (w64 (r_26.2.1.X + r_26.2.1.W))) (wg rfl rfl rfl) rfl (h_op (vI r_9.1) (wg rfl rfl rfl) rfl (h_op (vB (decide ((w64 (r_26.2.1.X + r_26.2.1.W)) > r_9.1))) (wg rfl rfl rfl) rfl (h_op (vB (decide ((w64 (r_26.2.1.X + r_26.2.1.W)) > r_9.1))) wz rfl ?_))))))))
                rcases cond_some h_31 with ⟨hc_43, h_31⟩ | ⟨hc_43, h_31⟩
                ·refine h_movb rfl hc_43 wz (h_skip (wg rfl rfl rfl) (h_skip (wg rfl rfl rfl) (h_skip (wg rfl rfl rfl) (h_skip (wg rfl rfl rfl) (h_skip (wg rfl rfl rfl) (h_skip (wg rfl rfl rfl) (h_skip (wg rfl rfl rfl) (h_op (vB true) wz rfl (h_nil ?_)))))))))
                 obtain rfl := some_inj h_31
                 exact cut_mk () trivial rfl (pre_r rfl)
                ·refine h_movb rfl hc_43 wz (h_far pl28_1 rfl 1 rfl (wg rfl rfl rfl) (h_ldr 0 2 (.inl rfl) (fun _ _ _ => trivial) sz3 ag3 rfl rfl (vI r_26.2.1.Y) rfl (wg rfl rfl rfl) (h_far pl28_3 rfl 3 rfl (wg rfl rfl rfl) (h_ldr 0 2 (.inl rfl) (fun _ _ _ => trivial) sz3 ag3 rfl rfl (vI r_26.2.1.H) rfl (wg rfl rfl rfl) (h_op (vI (w64 (r_26.2.1.Y + r_26.2.1.H))) (wg rfl rfl rfl) rfl (h_op (vI r_12.1) (wg rfl rfl rfl) rfl (h_op (vB (decide ((w64 (r_26.2.1.Y + r_26.2.1.H)) > r_12.1))) (wg rfl rfl rfl) rfl (h_op (vB (decide ((w64 (r_26.2.1.Y + r_26.2.1.H)) > r_12.1))) wz rfl (h_nil ?_)))))))))
                 obtain rfl := some_inj h_31
                 exact cut_mk () trivial rfl (pre_r rfl)
    ·rintro ⟨⟩ _ sl_ H_ hp_ hq_
     refine wH_at _ hp_ hq_ ?_
     rcases cond_some hc_21 with ⟨hc_44, hc_21⟩ | ⟨hc_44, hc_21⟩
     ·refine wH_ift rfl hc_44 (wH_seq (wH_region (h_op (vB false) wz rfl (h_nil ?_))))
      obtain rfl := some_inj hc_21
      obtain rfl := some_inj hL_22
      obtain rfl := some_inj hF
      exact wH_ret (fin0 (.inr rfl) [(vB false)] ⟨rfl, trivial⟩ rfl rfl rfl)
     ·refine wH_iff rfl hc_44 (wH_skip (wH_seq (wH_draws (h_ldr 0 1 (.inr (by kernel_rfl)) (fun _ _ ag => trivial) sz28 ag28 rfl rfl (.d (.agg (Rect.enc r_26.1))) rfl wz (h_op (vI r_3.1) wz rfl (h_op (vI r_6.1) wz rfl (h_op (.d (.agg (Rect.enc (⟨0, 0, r_3.1, r_6.1⟩ : Rect)))) wz (by kernel_rfl) (h_op (vB ((r_26.1.X == 0) && ((r_26.1.Y == 0) && ((r_26.1.W == r_3.1) && ((r_26.1.H == r_6.1) && true))))) wz (by kernel_rfl) (h_ldr 5 2 (.inr (by kernel_rfl)) (fun _ _ ag => ⟨.inl ⟨rfl, rfl⟩, trivial⟩) sz28 ag28 rfl rfl (.d (.agg (Rect.enc r_26.2.1))) rfl wz (h_op (vI r_9.1) wz rfl (h_op (vI r_12.1) wz rfl (h_op (.d (.agg (Rect.enc (⟨0, 0, r_9.1, r_12.1⟩ : Rect)))) wz (by kernel_rfl) (h_op (vB ((r_26.2.1.X == 0) && ((r_26.2.1.Y == 0) && ((r_26.2.1.W == r_9.1) && ((r_26.2.1.H == r_12.1) && true))))) wz (by kernel_rfl) (h_op (vB ((r_26.1.X == 0) && ((r_26.1.Y == 0) && ((r_26.1.W == r_3.1) && ((r_26.1.H == r_6.1) && true))))) wz rfl (h_op (vB ((r_26.2.1.X == 0) && ((r_26.2.1.Y == 0) && ((r_26.2.1.W == r_9.1) && ((r_26.2.1.H == r_12.1) && true))))) wz rfl (h_nil (wH_block (wH_seq ?_))))))))))))))))))
      obtain ⟨v_45, h_46, hc_21⟩ := bind_some hc_21
      refine wH_join (β := Unit) (fun _ => ([(4, (vI r_3.1)), (5, (vI r_6.1)), (6, (vI r_9.1)), (7, (vI r_12.1)), (8, (vI s_20)), (9, (.ref n_28 0 0)), (10, (.ref n_29 0 0)), (12, (vB ((r_26.1.X == 0) && ((r_26.1.Y == 0) && ((r_26.1.W == r_3.1) && ((r_26.1.H == r_6.1) && true)))))), (13, (vB ((r_26.2.1.X == 0) && ((r_26.2.1.Y == 0) && ((r_26.2.1.W == r_9.1) && ((r_26.2.1.H == r_12.1) && true)))))), (127, (vB v_45))] : List (Nat × V))) (fun _ => ([(n_2, some (.cells 2 [(vL eI r_12.2.L), (vI r_12.2.f_at)])), (n_28, some (.cells 4 [(vI r_26.1.X), (vI r_26.1.Y), (vI r_26.1.W), (vI r_26.1.H)])), (n_29, some (.cells 4 [(vI r_26.2.1.X), (vI r_26.2.1.Y), (vI r_26.2.1.W), (vI r_26.2.1.H)]))] : Hp)) (fun _ => True) ?_ ?_
      ·refine wH_region (h_op (vI s_20) wz rfl (h_op (vB (s_20 == 1)) wz rfl ?_))
       rcases cond_some h_46 with ⟨hc_47, h_46⟩ | ⟨hc_47, h_46⟩
       ·refine h_movb rfl hc_47 wz (h_op (vB ((r_26.1.X == 0) && ((r_26.1.Y == 0) && ((r_26.1.W == r_3.1) && ((r_26.1.H == r_6.1) && true))))) (wg rfl rfl rfl) rfl ?_)
        rcases cond_some h_46 with ⟨hc_48, h_46⟩ | ⟨hc_48, h_46⟩
        ·refine h_movb rfl hc_48 (wg rfl rfl rfl) (h_op (vB ((r_26.2.1.X == 0) && ((r_26.2.1.Y == 0) && ((r_26.2.1.W == r_9.1) && ((r_26.2.1.H == r_12.1) && true))))) (wg rfl rfl rfl) rfl (h_op (vB ((r_26.2.1.X == 0) && ((r_26.2.1.Y == 0) && ((r_26.2.1.W == r_9.1) && ((r_26.2.1.H == r_12.1) && true))))) (wg rfl rfl rfl) rfl (h_op (vB (!((r_26.2.1.X == 0) && ((r_26.2.1.Y == 0) && ((r_26.2.1.W == r_9.1) && ((r_26.2.1.H == r_12.1) && true)))))) (wg rfl rfl rfl) rfl (h_op (vB (!((r_26.2.1.X == 0) && ((r_26.2.1.Y == 0) && ((r_26.2.1.W == r_9.1) && ((r_26.2.1.H == r_12.1) && true)))))) wz rfl (h_op (vB (!((r_26.2.1.X == 0) && ((r_26.2.1.Y == 0) && ((r_26.2.1.W == r_9.1) && ((r_26.2.1.H == r_12.1) && true)))))) wz rfl (h_nil ?_))))))
         obtain rfl := some_inj h_46
         exact cut_mk () trivial rfl (pre_r rfl)
        ·refine h_movb rfl hc_48 (wg rfl rfl rfl) (h_skip (wg rfl rfl rfl) (h_op (vB false) (wg rfl rfl rfl) rfl (h_op (vB true) (wg rfl rfl rfl) rfl (h_op (vB true) wz rfl (h_op (vB true) wz rfl (h_nil ?_))))))
         obtain rfl := some_inj h_46
         exact cut_mk () trivial rfl (pre_r rfl)
       ·refine h_movb rfl hc_47 wz (h_skip (wg rfl rfl rfl) (h_skip (wg rfl rfl rfl) (h_skip (wn rfl rfl) (h_skip (wg rfl rfl rfl) (h_skip (wg rfl rfl rfl) (h_op (vB false) wz rfl (h_op (vB false) wz rfl (h_nil ?_))))))))
        obtain rfl := some_inj h_46
        exact cut_mk () trivial rfl (pre_r rfl)
      ·rintro ⟨⟩ _ sl_ H_ hp_ hq_
       refine wH_at _ hp_ hq_ ?_
       rcases cond_some hc_21 with ⟨hc_49, hc_21⟩ | ⟨hc_49, hc_21⟩
       ·refine wH_ift rfl hc_49 (wH_seq (wH_region (h_op (vB false) wz rfl (h_nil ?_))))
        obtain rfl := some_inj hc_21
        obtain rfl := some_inj hL_22
        obtain rfl := some_inj hF
        exact wH_ret (fin0 (.inr rfl) [(vB false)] ⟨rfl, trivial⟩ rfl rfl rfl)
       ·refine wH_iff rfl hc_49 (wH_seq ?_)
        obtain ⟨v_50, h_51, hc_21⟩ := bind_some hc_21
        refine wH_join (β := Unit) (fun _ => ([(4, (vI r_3.1)), (5, (vI r_6.1)), (6, (vI r_9.1)), (7, (vI r_12.1)), (8, (vI s_20)), (9, (.ref n_28 0 0)), (13, (vB ((r_26.2.1.X == 0) && ((r_26.2.1.Y == 0) && ((r_26.2.1.W == r_9.1) && ((r_26.2.1.H == r_12.1) && true)))))), (137, (vB v_50))] : List (Nat × V))) (fun _ => ([(n_2, some (.cells 2 [(vL eI r_12.2.L), (vI r_12.2.f_at)])), (n_28, some (.cells 4 [(vI r_26.1.X), (vI r_26.1.Y), (vI r_26.1.W), (vI r_26.1.H)])), (n_29, some (.cells 4 [(vI r_26.2.1.X), (vI r_26.2.1.Y), (vI r_26.2.1.W), (vI r_26.2.1.H)]))] : Hp)) (fun _ => True) ?_ ?_
        ·refine wH_region (h_op (vI s_20) wz rfl (h_op (vB (s_20 == 2)) wz rfl ?_))
         rcases cond_some h_51 with ⟨hc_52, h_51⟩ | ⟨hc_52, h_51⟩
         ·refine h_movb rfl hc_52 wz (h_op (vB ((r_26.1.X == 0) && ((r_26.1.Y == 0) && ((r_26.1.W == r_3.1) && ((r_26.1.H == r_6.1) && true))))) (wg rfl rfl rfl) rfl (h_op (vB (!((r_26.1.X == 0) && ((r_26.1.Y == 0) && ((r_26.1.W == r_3.1) && ((r_26.1.H == r_6.1) && true)))))) (wg rfl rfl rfl) rfl ?_))
          rcases cond_some h_51 with ⟨hc_53, h_51⟩ | ⟨hc_53, h_51⟩
          ·refine h_movb rfl hc_53 (wg rfl rfl rfl) (h_skip (wg rfl rfl rfl) (h_skip (wg rfl rfl rfl) (h_skip (wg rfl rfl rfl) (h_skip (wg rfl rfl rfl) (h_skip (wg rfl rfl rfl) (h_skip (wn rfl rfl) (h_skip (wn rfl rfl) (h_skip (wn rfl rfl) (h_skip (wn rfl rfl) (h_skip (wg rfl rfl rfl) (h_op (vB true) (wg rfl rfl rfl) rfl (h_op (vB true) wz rfl (h_op (vB true) wz rfl (h_nil ?_))))))))))))))
           obtain rfl := some_inj h_51
           exact cut_mk () trivial rfl (pre_r rfl)
          ·refine h_movb rfl hc_53 (wg rfl rfl rfl) (h_far pl28_2 rfl 2 rfl (wg rfl rfl rfl) (h_ldr 0 2 (.inl rfl) (fun _ _ _ => trivial) sz3 ag3 rfl rfl (vI r_26.2.1.W) rfl (wg rfl rfl rfl) (h_op (vI r_9.1) (wg rfl rfl rfl) rfl (h_op (vB (r_26.2.1.W != r_9.1)) (wg rfl rfl rfl) rfl ?_))))
           rcases cond_some h_51 with ⟨hc_54, h_51⟩ | ⟨hc_54, h_51⟩
           ·refine h_movb rfl hc_54 (wg rfl rfl rfl) (h_far pl28_3 rfl 3 rfl (wg rfl rfl rfl) (h_ldr 0 2 (.inl rfl) (fun _ _ _ => trivial) sz3 ag3 rfl rfl (vI r_26.2.1.H) rfl (wg rfl rfl rfl) (h_op (vI r_12.1) (wg rfl rfl rfl) rfl (h_op (vB (r_26.2.1.H != r_12.1)) (wg rfl rfl rfl) rfl (h_op (vB (r_26.2.1.H != r_12.1)) (wg rfl rfl rfl) rfl (h_op (vB (r_26.2.1.H != r_12.1)) (wg rfl rfl rfl) rfl (h_op (vB (r_26.2.1.H != r_12.1)) wz rfl (h_op (vB (r_26.2.1.H != r_12.1)) wz rfl (h_nil ?_)))))))))
            obtain rfl := some_inj h_51
            exact cut_mk () trivial rfl (pre_r rfl)
           ·refine h_movb rfl hc_54 (wg rfl rfl rfl) (h_skip (wg rfl rfl rfl) (h_skip (wg rfl rfl rfl) (h_skip (wg rfl rfl rfl) (h_skip (wg rfl rfl rfl) (h_op (vB false) (wg rfl rfl rfl) rfl (h_op (vB false) (wg rfl rfl rfl) rfl (h_op (vB false) wz rfl (h_op (vB false) wz rfl (h_nil ?_)))))))))
            obtain rfl := some_inj h_51
            exact cut_mk () trivial rfl (pre_r rfl)
         ·refine h_movb rfl hc_52 wz (h_skip (wg rfl rfl rfl) (h_skip (wg rfl rfl rfl) (h_skip (wg rfl rfl rfl) (h_skip (wn rfl rfl) (h_skip (wn rfl rfl) (h_skip (wn rfl rfl) (h_skip (wn rfl rfl) (h_skip (wn rfl rfl) (h_skip (wn rfl rfl) (h_skip (wn rfl rfl) (h_skip (wn rfl rfl) (h_skip (wn rfl rfl) (h_skip (wn rfl rfl) (h_skip (wg rfl rfl rfl) (h_op (vB false) wz rfl (h_op (vB false) wz rfl (h_nil ?_)))))))))))))))))
          obtain rfl := some_inj h_51
          exact cut_mk () trivial rfl (pre_r rfl)
        ·rintro ⟨⟩ _ sl_ H_ hp_ hq_
         refine wH_at _ hp_ hq_ ?_
         rcases cond_some hc_21 with ⟨hc_55, hc_21⟩ | ⟨hc_55, hc_21⟩
         ·refine wH_ift rfl hc_55 (wH_seq (wH_region (h_op (vB false) wz rfl (h_nil ?_))))
          obtain rfl := some_inj hc_21
          obtain rfl := some_inj hL_22
          obtain rfl := some_inj hF
          exact wH_ret (fin0 (.inr rfl) [(vB false)] ⟨rfl, trivial⟩ rfl rfl rfl)
         ·refine wH_iff rfl hc_55 (wH_seq ?_)
          obtain ⟨v_56, h_57, hc_21⟩ := bind_some hc_21
          refine wH_join (β := Unit) (fun _ => ([(4, (vI r_3.1)), (5, (vI r_6.1)), (6, (vI r_9.1)), (7, (vI r_12.1)), (8, (vI s_20)), (156, (vB v_56))] : List (Nat × V))) (fun _ => ([(n_2, some (.cells 2 [(vL eI r_12.2.L), (vI r_12.2.f_at)])), (n_28, some (.cells 4 [(vI r_26.1.X), (vI r_26.1.Y), (vI r_26.1.W), (vI r_26.1.H)])), (n_29, some (.cells 4 [(vI r_26.2.1.X), (vI r_26.2.1.Y), (vI r_26.2.1.W), (vI r_26.2.1.H)]))] : Hp)) (fun _ => True) ?_ ?_
          ·refine wH_region (h_op (vI s_20) wz rfl (h_op (vB (s_20 == 3)) wz rfl ?_))
           rcases cond_some h_57 with ⟨hc_58, h_57⟩ | ⟨hc_58, h_57⟩
           ·refine h_movb rfl hc_58 wz (h_op (vB ((r_26.2.1.X == 0) && ((r_26.2.1.Y == 0) && ((r_26.2.1.W == r_9.1) && ((r_26.2.1.H == r_12.1) && true))))) (wg rfl rfl rfl) rfl (h_op (vB (!((r_26.2.1.X == 0) && ((r_26.2.1.Y == 0) && ((r_26.2.1.W == r_9.1) && ((r_26.2.1.H == r_12.1) && true)))))) (wg rfl rfl rfl) rfl ?_))
            rcases cond_some h_57 with ⟨hc_59, h_57⟩ | ⟨hc_59, h_57⟩
            ·refine h_movb rfl hc_59 (wg rfl rfl rfl) (h_skip (wg rfl rfl rfl) (h_skip (wg rfl rfl rfl) (h_skip (wg rfl rfl rfl) (h_skip (wg rfl rfl rfl) (h_skip (wg rfl rfl rfl) (h_skip (wn rfl rfl) (h_skip (wn rfl rfl) (h_skip (wn rfl rfl) (h_skip (wn rfl rfl) (h_skip (wg rfl rfl rfl) (h_op (vB true) (wg rfl rfl rfl) rfl (h_op (vB true) wz rfl (h_op (vB true) wz rfl (h_nil ?_))))))))))))))
             obtain rfl := some_inj h_57
             exact cut_mk () trivial rfl (pre_r rfl)
            ·refine h_movb rfl hc_59 (wg rfl rfl rfl) (h_far pl28_2 rfl 2 rfl (wg rfl rfl rfl) (h_ldr 0 1 (.inl rfl) (fun _ _ _ => trivial) sz3 ag3 rfl rfl (vI r_26.1.W) rfl (wg rfl rfl rfl) (h_op (vI r_3.1) (wg rfl rfl rfl) rfl (h_op (vB (r_26.1.W != r_3.1)) (wg rfl rfl rfl) rfl ?_))))
             rcases cond_some h_57 with ⟨hc_60, h_57⟩ | ⟨hc_60, h_57⟩
             ·refine h_movb rfl hc_60 (wg rfl rfl rfl) (h_far pl28_3 rfl 3 rfl (wg rfl rfl rfl) (h_ldr 0 1 (.inl rfl) (fun _ _ _ => trivial) sz3 ag3 rfl rfl (vI r_26.1.H) rfl (wg rfl rfl rfl) (h_op (vI r_6.1) (wg rfl rfl rfl) rfl (h_op (vB (r_26.1.H != r_6.1)) (wg rfl rfl rfl) rfl (h_op (vB (r_26.1.H != r_6.1)) (wg rfl rfl rfl) rfl (h_op (vB (r_26.1.H != r_6.1)) (wg rfl rfl rfl) rfl (h_op (vB (r_26.1.H != r_6.1)) wz rfl (h_op (vB (r_26.1.H != r_6.1)) wz rfl (h_nil ?_)))))))))
              obtain rfl := some_inj h_57
              exact cut_mk () trivial rfl (pre_r rfl)
             ·refine h_movb rfl hc_60 (wg rfl rfl rfl) (h_skip (wg rfl rfl rfl) (h_skip (wg rfl rfl rfl) (h_skip (wg rfl rfl rfl) (h_skip (wg rfl rfl rfl) (h_op (vB false) (wg rfl rfl rfl) rfl (h_op (vB false) (wg rfl rfl rfl) rfl (h_op (vB false) wz rfl (h_op (vB false) wz rfl (h_nil ?_)))))))))
              obtain rfl := some_inj h_57
              exact cut_mk () trivial rfl (pre_r rfl)
           ·refine h_movb rfl hc_58 wz (h_skip (wg rfl rfl rfl) (h_skip (wg rfl rfl rfl) (h_skip (wg rfl rfl rfl) (h_skip (wn rfl rfl) (h_skip (wn rfl rfl) (h_skip (wn rfl rfl) (h_skip (wn rfl rfl) (h_skip (wn rfl rfl) (h_skip (wn rfl rfl) (h_skip (wn rfl rfl) (h_skip (wn rfl rfl) (h_skip (wn rfl rfl) (h_skip (wn rfl rfl) (h_skip (wg rfl rfl rfl) (h_op (vB false) wz rfl (h_op (vB false) wz rfl (h_nil ?_)))))))))))))))))
            obtain rfl := some_inj h_57
            exact cut_mk () trivial rfl (pre_r rfl)
          ·rintro ⟨⟩ _ sl_ H_ hp_ hq_
           refine wH_at _ hp_ hq_ ?_
           rcases cond_some hc_21 with ⟨hc_61, hc_21⟩ | ⟨hc_61, hc_21⟩
           ·refine wH_ift rfl hc_61 (wH_seq (wH_region (h_op (vB false) wz rfl (h_nil ?_))))
            obtain rfl := some_inj hc_21
            obtain rfl := some_inj hL_22
            obtain rfl := some_inj hF
            exact wH_ret (fin0 (.inr rfl) [(vB false)] ⟨rfl, trivial⟩ rfl rfl rfl)
           ·refine wH_iff rfl hc_61 (wH_skip (wH_region (h_op (vI s_20) wz rfl (h_op (vI (w64 (s_20 + 1))) wz rfl (h_op (vI (w64 (s_20 + 1))) wz rfl (h_nil ?_))))))
            obtain rfl := some_inj hc_21
            exact loop_mk (k_15, (w64 (s_20 + 1))) hL_22 (Nat.lt_succ_self _) rfl (pre_r rfl)
   ·refine wH_iff rfl hc_25 (wH_exit ?_)
    obtain rfl := some_inj hc_21
    obtain rfl := some_inj hL_22
    exact cut_mk (s_20) rfl rfl (pre_r rfl)
 ·rintro s_20 ho_ sl_ H_ hp_ hq_
  subst ho_
  refine wH_at _ hp_ hq_ (wH_seq (wH_region ?_))
  obtain ⟨r_62, hr_63, hF⟩ := bind_some hF
  refine h_call0 (keep_ready_ok hr_63) rfl hb7 rfl rfl rfl rfl wz (h_op (vB r_62) wz rfl (h_nil ?_))
  obtain rfl := some_inj hF
  exact wH_ret (fin0 (.inr rfl) [(vB r_62)] ⟨rfl, trivial⟩ rfl rfl rfl)
end Go.Proofs.YtmdmgnfoojjpbaaGreatDoor.Law

