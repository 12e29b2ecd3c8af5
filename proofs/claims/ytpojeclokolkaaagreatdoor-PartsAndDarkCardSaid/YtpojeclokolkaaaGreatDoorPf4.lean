/-
 The machine computes these plain functions (written by a program of ours).
-/
import Derived.Test.YtpojeclokolkaaaGreatDoorFacts
import Derived.Test.YtpojeclokolkaaaGreatDoorDefs
import Derived.Test.YtpojeclokolkaaaGreatDoorPf3
open Go Go.Eng Go.Proofs
namespace Go.Proofs.YtpojeclokolkaaaGreatDoor.Law
set_option maxRecDepth 100000
set_option linter.unusedVariables false
set_option maxHeartbeats 1000000
theorem proof_mapped_ok {l_1 : (List Beat_)} {n_2 : Int} {r : Int × Int} (hF : proof_mapped l_1 n_2 = some r) :
  FnM Tryz.prog 216 [(vL Beat_.enc l_1), (vI n_2)] [] (.tup [(vI r.1), (vI r.2)]) [] := by
 refine FnM.of_wH ⟨Tryz.prog, 108, [], []⟩ rfl Tryz.func216 rfl rfl (Nat.le_of_ble_eq_true rfl) (by kernel_rfl) ?_
 unfold proof_mapped at hF
 refine wH_seq (wH_region (h_op (vI 0) wz rfl (h_op (vI 0) wz rfl (h_nil (wH_seq (wH_seq (wH_region (h_op (vL Beat_.enc l_1) wz rfl (h_len un287 rfl wz (h_op (vB ((l_1.length : Int) == 0)) wz rfl (h_nil ?_)))))))))))
 rcases cond_some hF with ⟨hc_3, hF⟩ | ⟨hc_3, hF⟩
 ·refine wH_ift rfl hc_3 (wH_seq (wH_region (h_op (vI 0) wz rfl (h_op (vI 8) wz rfl (h_nil ?_)))))
  obtain rfl := some_inj hF
  exact wH_ret (fin0 (.inr rfl) [(vI 0), (vI 8)] ⟨rfl, ⟨rfl, trivial⟩⟩ rfl rfl rfl)
 ·refine wH_iff rfl hc_3 (wH_skip (wH_seq (wH_region (h_op (vI 0) wz rfl (h_nil (wH_seq ?_))))))
  obtain ⟨o_12, hj_13, hF⟩ := bind_some hF
  obtain ⟨nq_51, hj_13⟩ := loopO_iter hj_13
  refine wH_join (β := (Int)) (fun (s_9 : Int) => ([(0, (vL Beat_.enc l_1)), (1, (vI n_2)), (6, (vI s_9))] : List (Nat × V))) (fun (s_9 : Int) => ([] : Hp)) (fun p => o_12 = .go p) ?_ ?_
  ·refine wH_block (wH_loop (β := Nat × (Int)) (fun p => (fun (k_4 : Nat) (s_9 : Int) => ([(0, (vL Beat_.enc l_1)), (1, (vI n_2)), (6, (vI s_9))] : List (Nat × V))) p.1 p.2) (fun p => (fun (k_4 : Nat) (s_9 : Int) => ([] : Hp)) p.1 p.2) (fun p => iterN (fun s => proof_mapped_L1 l_1 n_2 s) p.1 p.2 = some o_12) (fun p => p.1) (nq_51, 0) hj_13 rfl (pre_r rfl) ?_)
   rintro ⟨k_4, s_9⟩ hL_11
   dsimp only at hL_11
   cases k_4 with
   | zero => cases hL_11
   | succ k_4 =>
    obtain ⟨c_, hc_10, hL_11⟩ := bind_some hL_11
    unfold proof_mapped_L1 at hc_10
    refine wH_seq (wH_seq ?_)
    obtain ⟨v_14, h_15, hc_10⟩ := bind_some hc_10
    refine wH_join (β := Unit) (fun _ => ([(0, (vL Beat_.enc l_1)), (1, (vI n_2)), (6, (vI s_9)), (25, (vB v_14))] : List (Nat × V))) (fun _ => ([] : Hp)) (fun _ => True) ?_ ?_
    ·refine wH_region (h_op (vI s_9) wz rfl (h_op (vL Beat_.enc l_1) wz rfl (h_len un287 rfl wz (h_op (vB (decide (s_9 < (l_1.length : Int)))) wz rfl ?_))))
     rcases cond_some h_15 with ⟨hc_16, h_15⟩ | ⟨hc_16, h_15⟩
     ·refine h_movb rfl hc_16 wz (h_op (vL Beat_.enc l_1) wa rfl (h_op (vI s_9) wa rfl ?_))
      obtain ⟨y_17, hy_18, h_15⟩ := bind_some h_15
      refine h_ia es287 rfl rfl hy_18 rfl wa (h_fac pl325_0 rfl [.int .i64 y_17.f_from, .int .i64 y_17.f_to] rfl rfl wa (h_ldc sz3 ag3 rfl (vI y_17.f_from) rfl wa (h_op (vI n_2) wa rfl (h_op (vB (decide (y_17.f_from ≤ n_2))) wa rfl (h_op (vB (decide (y_17.f_from ≤ n_2))) wz rfl (h_nil ?_))))))
      obtain rfl := some_inj h_15
      exact cu
     ·refine h_movb rfl hc_16 wz (h_skip wa (h_skip wa (h_skip wa (h_skip wa (h_skip wa (h_skip wa (h_skip wa (h_op (vB false) wz rfl (h_nil ?_)))))))))
      obtain rfl := some_inj h_15
      exact cu
    ·rintro ⟨⟩ _ sl_ H_ hp_ hq_
     refine wH_at _ hp_ hq_ ?_
     rcases cond_some hc_10 with ⟨hc_19, hc_10⟩ | ⟨hc_19, hc_10⟩
     ·refine wH_ift rfl hc_19 (wH_skip (wH_block (wH_region (h_op (vI s_9) wz rfl (h_op (vI (w64 (s_9 + 1))) wz rfl (h_op (vI (w64 (s_9 + 1))) wz rfl (h_nil ?_)))))))
      obtain rfl := some_inj hc_10
      exact loop_mk (k_4, (w64 (s_9 + 1))) hL_11 (Nat.lt_succ_self _) rfl (pre_r rfl)
     ·refine wH_iff rfl hc_19 (wH_exit ?_)
      obtain rfl := some_inj hc_10
      obtain rfl := some_inj hL_11
      exact cut_mk (s_9) rfl rfl (pre_r rfl)
  ·rintro s_9 ho_ sl_ H_ hp_ hq_
   subst ho_
   refine wH_at _ hp_ hq_ (wH_seq (wH_region (h_op (vI 0) wz rfl (h_nil (wH_seq (wH_block (wH_seq (wH_region (h_op (vI s_9) wz rfl (h_op (vB (s_9 == 0)) wz rfl (h_op (vB (s_9 == 0)) wz rfl (h_nil ?_))))))))))))
   rcases cond_some hF with ⟨hc_20, hF⟩ | ⟨hc_20, hF⟩
   ·refine wH_ift rfl hc_20 (wH_draws (h_op (vL Beat_.enc l_1) wz rfl ?_))
    obtain ⟨y_21, hy_22, hF⟩ := bind_some hF
    refine h_ia es287 rfl rfl hy_22 rfl wz (h_fac pl325_1 rfl [.int .i64 y_21.f_to] rfl rfl wz (h_ldc sz3 ag3 rfl (vI y_21.f_to) rfl wz (h_op (vL Beat_.enc l_1) wz rfl ?_)))
    obtain ⟨y_23, hy_24, hF⟩ := bind_some hF
    refine h_ia es287 rfl rfl hy_24 rfl wz (h_fac pl325_0 rfl [.int .i64 y_23.f_from, .int .i64 y_23.f_to] rfl rfl wz (h_ldc sz3 ag3 rfl (vI y_23.f_from) rfl wz (h_op (vI n_2) wz rfl (h_op (vI (w64 (y_23.f_from - n_2))) wz rfl (h_op (vI (w64 (y_21.f_to - (w64 (y_23.f_from - n_2))))) wz rfl (h_op (vI (w64 (y_21.f_to - (w64 (y_23.f_from - n_2))))) wz rfl (h_nil (wH_seq (wH_seq (wH_region (h_op (vI (w64 (y_21.f_to - (w64 (y_23.f_from - n_2))))) wz rfl ?_)))))))))))
    obtain ⟨r_25, hr_26, hF⟩ := bind_some hF
    refine h_call0 (kit_IsMoment_ok hr_26) rfl hb136 rfl rfl rfl rfl wz (h_op (vB (!r_25)) wz rfl (h_nil ?_))
    rcases cond_some hF with ⟨hc_27, hF⟩ | ⟨hc_27, hF⟩
    ·refine wH_ift rfl hc_27 (wH_seq (wH_region (h_op (vI 0) wz rfl (h_op (vI 11) wz rfl (h_nil ?_)))))
     obtain rfl := some_inj hF
     exact wH_ret (fin0 (.inr rfl) [(vI 0), (vI 11)] ⟨rfl, ⟨rfl, trivial⟩⟩ rfl rfl rfl)
    ·refine wH_iff rfl hc_27 (wH_skip (wH_seq (wH_region (h_op (vI (w64 (y_21.f_to - (w64 (y_23.f_from - n_2))))) wz rfl (h_op (vI (w64 (y_21.f_to - (w64 (y_23.f_from - n_2))))) wz rfl (h_op (vI 0) wz rfl (h_nil ?_)))))))
     obtain rfl := some_inj hF
     exact wH_ret (fin0 (.inr rfl) [(vI (w64 (y_21.f_to - (w64 (y_23.f_from - n_2))))), (vI 0)] ⟨rfl, ⟨rfl, trivial⟩⟩ rfl rfl rfl)
   ·refine wH_iff rfl hc_20 (wH_seq (wH_region (h_op (vI s_9) wz rfl (h_op (vL Beat_.enc l_1) wz rfl (h_len un287 rfl wz (h_op (vB (s_9 == (l_1.length : Int))) wz rfl (h_op (vB (s_9 == (l_1.length : Int))) wz rfl (h_nil ?_))))))))
    rcases cond_some hF with ⟨hc_28, hF⟩ | ⟨hc_28, hF⟩
    ·refine wH_ift rfl hc_28 (wH_draws (h_op (vL Beat_.enc l_1) wz rfl (h_op (vI s_9) wz rfl (h_op (vI (w64 (s_9 - 1))) wz rfl ?_))))
     obtain ⟨y_29, hy_30, hF⟩ := bind_some hF
     refine h_ia es287 rfl rfl hy_30 rfl wz (h_fac pl325_1 rfl [.int .i64 y_29.f_to] rfl rfl wz (h_ldc sz3 ag3 rfl (vI y_29.f_to) rfl wz (h_op (vI n_2) wz rfl (h_op (vI (w64 (y_29.f_to + n_2))) wz rfl (h_op (vL Beat_.enc l_1) wz rfl (h_op (vI s_9) wz rfl (h_op (vI (w64 (s_9 - 1))) wz rfl ?_)))))))
     obtain ⟨y_31, hy_32, hF⟩ := bind_some hF
     refine h_ia es287 rfl rfl hy_32 rfl wz (h_fac pl325_0 rfl [.int .i64 y_31.f_from, .int .i64 y_31.f_to] rfl rfl wz (h_ldc sz3 ag3 rfl (vI y_31.f_from) rfl wz (h_op (vI (w64 ((w64 (y_29.f_to + n_2)) - y_31.f_from))) wz rfl (h_op (vI (w64 ((w64 (y_29.f_to + n_2)) - y_31.f_from))) wz rfl (h_nil (wH_seq (wH_seq (wH_region (h_op (vI (w64 ((w64 (y_29.f_to + n_2)) - y_31.f_from))) wz rfl ?_)))))))))
     obtain ⟨r_33, hr_34, hF⟩ := bind_some hF
     refine h_call0 (kit_IsMoment_ok hr_34) rfl hb136 rfl rfl rfl rfl wz (h_op (vB (!r_33)) wz rfl (h_nil ?_))
     rcases cond_some hF with ⟨hc_35, hF⟩ | ⟨hc_35, hF⟩
     ·refine wH_ift rfl hc_35 (wH_seq (wH_region (h_op (vI 0) wz rfl (h_op (vI 11) wz rfl (h_nil (wH_at (H0 := ([] : Hp)) ([(4, (vI 0)), (5, (vI 11))] : List (Nat × V)) (by kernel_rfl) (pre_mk (by kernel_rfl)) ?_))))))
      obtain rfl := some_inj hF
      exact wH_ret (fin0 (.inr rfl) [(vI 0), (vI 11)] ⟨rfl, ⟨rfl, trivial⟩⟩ rfl rfl rfl)
     ·refine wH_iff rfl hc_35 (wH_skip (wH_seq (wH_region (h_op (vI (w64 ((w64 (y_29.f_to + n_2)) - y_31.f_from))) wz rfl (h_op (vI (w64 ((w64 (y_29.f_to + n_2)) - y_31.f_from))) wz rfl (h_op (vI 0) wz rfl (h_nil (wH_at (H0 := ([] : Hp)) ([(4, (vI (w64 ((w64 (y_29.f_to + n_2)) - y_31.f_from)))), (5, (vI 0))] : List (Nat × V)) (by kernel_rfl) (pre_mk (by kernel_rfl)) ?_))))))))
      obtain rfl := some_inj hF
      exact wH_ret (fin0 (.inr rfl) [(vI (w64 ((w64 (y_29.f_to + n_2)) - y_31.f_from))), (vI 0)] ⟨rfl, ⟨rfl, trivial⟩⟩ rfl rfl rfl)
    ·refine wH_iff rfl hc_28 (wH_seq (wH_draws (h_op (vL Beat_.enc l_1) wz rfl (h_op (vI s_9) wz rfl (h_op (vI (w64 (s_9 - 1))) wz rfl ?_)))))
     obtain ⟨y_36, hy_37, hF⟩ := bind_some hF
     refine h_ia es287 rfl rfl hy_37 rfl wz (h_ldc sz325 ag325 rfl (.d (.agg (Beat_.enc y_36))) rfl wz (h_op (vL Beat_.enc l_1) wz rfl (h_op (vI s_9) wz rfl ?_)))
     obtain ⟨y_38, hy_39, hF⟩ := bind_some hF
     refine h_ia es287 rfl rfl hy_39 rfl wz (h_ldc sz325 ag325 rfl (.d (.agg (Beat_.enc y_38))) rfl wz (h_alloc 9 (.inr (by kernel_rfl)) z325 rfl wz (fun n_40 => h_alloc 10 (.inr (by kernel_rfl)) z325 rfl wz (fun n_41 => h_str 11 (.inr (by kernel_rfl)) (fun _ _ ag => ⟨.inr (.inr (by kernel_rfl)), ⟨.inr (.inr (by kernel_rfl)), trivial⟩⟩) 0 sz325 rfl rfl [(vI y_36.f_from), (vI y_36.f_to)] rfl wz (h_str 12 (.inr (by kernel_rfl)) (fun _ _ ag => ⟨.inr (.inr (by kernel_rfl)), ⟨.inr (.inr (by kernel_rfl)), ⟨.inr (.inr (by kernel_rfl)), trivial⟩⟩⟩) 1 sz325 rfl rfl [(vI y_38.f_from), (vI y_38.f_to)] rfl wz (h_nil (wH_seq (wH_seq ?_))))))))
     obtain ⟨v_42, h_43, hF⟩ := bind_some hF
     refine wH_join (β := Unit) (fun _ => ([(1, (vI n_2)), (8, (.ref n_40 0 0)), (9, (.ref n_41 0 0)), (50, (vB v_42))] : List (Nat × V))) (fun _ => ([(n_40, some (.cells 2 [(vI y_36.f_from), (vI y_36.f_to)])), (n_41, some (.cells 2 [(vI y_38.f_from), (vI y_38.f_to)]))] : Hp)) (fun _ => True) ?_ ?_
     ·refine wH_region (h_far pl325_0 rfl 0 rfl wz (h_ldr 0 1 il ft sz3 ag3 rfl rfl (vI y_38.f_from) rfl wz (h_far pl325_0 rfl 0 rfl wz (h_ldr 0 0 il ft sz3 ag3 rfl rfl (vI y_36.f_from) rfl wz (h_op (vI (w64 (y_38.f_from - y_36.f_from))) wz rfl (h_op (vB (decide ((w64 (y_38.f_from - y_36.f_from)) > 2592000000))) wz rfl ?_))))))
      rcases cond_some h_43 with ⟨hc_44, h_43⟩ | ⟨hc_44, h_43⟩
      ·refine h_movb rfl hc_44 wz (h_skip wa (h_skip wa (h_skip wa (h_skip wa (h_skip wa (h_skip wa (h_op (vB true) wz rfl (h_nil ?_))))))))
       obtain rfl := some_inj h_43
       exact cu
      ·refine h_movb rfl hc_44 wz (h_far pl325_1 rfl 1 rfl wa (h_ldr 0 1 il ft sz3 ag3 rfl rfl (vI y_38.f_to) rfl wa (h_far pl325_1 rfl 1 rfl wa (h_ldr 0 0 il ft sz3 ag3 rfl rfl (vI y_36.f_to) rfl wa (h_op (vI (w64 (y_38.f_to - y_36.f_to))) wa rfl (h_op (vB (decide ((w64 (y_38.f_to - y_36.f_to)) > 2592000000))) wa rfl (h_op (vB (decide ((w64 (y_38.f_to - y_36.f_to)) > 2592000000))) wz rfl (h_nil ?_))))))))
       obtain rfl := some_inj h_43
       exact cu
     ·rintro ⟨⟩ _ sl_ H_ hp_ hq_
      refine wH_at _ hp_ hq_ ?_
      rcases cond_some hF with ⟨hc_45, hF⟩ | ⟨hc_45, hF⟩
      ·refine wH_ift rfl hc_45 (wH_seq (wH_region (h_op (vI 0) wz rfl (h_op (vI 2) wz rfl (h_nil ?_)))))
       obtain rfl := some_inj hF
       exact wH_ret (fin0 (.inr rfl) [(vI 0), (vI 2)] ⟨rfl, ⟨rfl, trivial⟩⟩ rfl rfl rfl)
      ·refine wH_iff rfl hc_45 (wH_skip (wH_draws (h_far pl325_1 rfl 1 rfl wz (h_ldr 1 0 (.inr (by kernel_rfl)) (fun _ _ ag => trivial) sz3 ag3 rfl rfl (vI y_36.f_to) rfl wz (h_op (vI n_2) wz rfl (h_far pl325_0 rfl 0 rfl wz (h_ldr 4 0 (.inr (by kernel_rfl)) (fun _ _ ag => ⟨.inl ⟨rfl, rfl⟩, trivial⟩) sz3 ag3 rfl rfl (vI y_36.f_from) rfl wz (h_op (vI (w64 (n_2 - y_36.f_from))) wz rfl (h_far pl325_1 rfl 1 rfl wz (h_ldr 7 1 (.inr (by kernel_rfl)) (fun _ _ ag => ⟨.inl ⟨rfl, rfl⟩, ⟨.inl ⟨rfl, rfl⟩, trivial⟩⟩) sz3 ag3 rfl rfl (vI y_38.f_to) rfl wz (h_far pl325_1 rfl 1 rfl wz (h_ldr 9 0 (.inr (by kernel_rfl)) (fun _ _ ag => ⟨.inl ⟨rfl, rfl⟩, ⟨.inl ⟨rfl, rfl⟩, ⟨.inl ⟨rfl, rfl⟩, trivial⟩⟩⟩) sz3 ag3 rfl rfl (vI y_36.f_to) rfl wz (h_op (vI (w64 (y_38.f_to - y_36.f_to))) wz rfl (h_op (vI (w64 ((w64 (n_2 - y_36.f_from)) * (w64 (y_38.f_to - y_36.f_to))))) wz rfl (h_far pl325_0 rfl 0 rfl wz (h_ldr 13 1 (.inr (by kernel_rfl)) (fun _ _ ag => ⟨.inl ⟨rfl, rfl⟩, ⟨.inl ⟨rfl, rfl⟩, ⟨.inl ⟨rfl, rfl⟩, ⟨.inl ⟨rfl, rfl⟩, trivial⟩⟩⟩⟩) sz3 ag3 rfl rfl (vI y_38.f_from) rfl wz (h_far pl325_0 rfl 0 rfl wz (h_ldr 15 0 (.inr (by kernel_rfl)) (fun _ _ ag => ⟨.inl ⟨rfl, rfl⟩, ⟨.inl ⟨rfl, rfl⟩, ⟨.inl ⟨rfl, rfl⟩, ⟨.inl ⟨rfl, rfl⟩, ⟨.inl ⟨rfl, rfl⟩, trivial⟩⟩⟩⟩⟩) sz3 ag3 rfl rfl (vI y_36.f_from) rfl wz (h_op (vI (w64 (y_38.f_from - y_36.f_from))) wz rfl ?_)))))))))))))))))))
       obtain ⟨q_46, hz_47, hF⟩ := bind_some hF
       refine h_quo rfl rfl hz_47 wz (h_op (vI (w64 (y_36.f_to + q_46))) wz rfl (h_op (vI (w64 (y_36.f_to + q_46))) wz rfl (h_nil (wH_seq (wH_seq (wH_region (h_op (vI (w64 (y_36.f_to + q_46))) wz rfl ?_)))))))
       obtain ⟨r_48, hr_49, hF⟩ := bind_some hF
       refine h_call0 (kit_IsMoment_ok hr_49) rfl hb136 rfl rfl rfl rfl wz (h_op (vB (!r_48)) wz rfl (h_nil ?_))
       rcases cond_some hF with ⟨hc_50, hF⟩ | ⟨hc_50, hF⟩
       ·refine wH_ift rfl hc_50 (wH_seq (wH_region (h_op (vI 0) wz rfl (h_op (vI 11) wz rfl (h_nil ?_)))))
        obtain rfl := some_inj hF
        exact wH_ret (fin0 (.inr rfl) [(vI 0), (vI 11)] ⟨rfl, ⟨rfl, trivial⟩⟩ rfl rfl rfl)
       ·refine wH_iff rfl hc_50 (wH_skip (wH_seq (wH_region (h_op (vI (w64 (y_36.f_to + q_46))) wz rfl (h_op (vI (w64 (y_36.f_to + q_46))) wz rfl (h_op (vI 0) wz rfl (h_nil ?_)))))))
        obtain rfl := some_inj hF
        exact wH_ret (fin0 (.inr rfl) [(vI (w64 (y_36.f_to + q_46))), (vI 0)] ⟨rfl, ⟨rfl, trivial⟩⟩ rfl rfl rfl)
theorem proof_asked_ok {l_1 : (List Beat)} {player_2 : ByteArray} {n_3 : Int} {back_4 : Bool} {r : Int × Int} (hF : proof_asked l_1 player_2 n_3 back_4 = some r) :
  FnM Tryz.prog 175 [(vL Beat.enc l_1), (vS player_2), (vI n_3), (vB back_4)] [] (.tup [(vI r.1), (vI r.2)]) [] := by
 refine FnM.of_wH ⟨Tryz.prog, 30, [], []⟩ rfl Tryz.func175 rfl rfl (Nat.le_of_ble_eq_true rfl) (by kernel_rfl) ?_
 unfold proof_asked at hF
 refine wH_seq (wH_region (h_op (vI 0) wz rfl (h_op (vI 0) wz rfl (h_nil (wH_seq (wH_seq (wH_region (h_op (vL Beat.enc l_1) wz rfl ?_))))))))
 obtain ⟨r_5, hr_6, hF⟩ := bind_some hF
 refine h_call0 (proof_CheckBeats_ok hr_6) rfl hb215 rfl rfl rfl rfl wz (h_op (vI r_5) wz rfl (h_nil (wH_seq (wH_region (h_op (vI r_5) wz rfl (h_op (vB (r_5 != 0)) wz rfl (h_nil ?_)))))))
 rcases cond_some hF with ⟨hc_7, hF⟩ | ⟨hc_7, hF⟩
 ·refine wH_ift rfl hc_7 (wH_seq (wH_region (h_op (vI r_5) wz rfl (h_op (vI 0) wz rfl (h_op (vI r_5) wz rfl (h_nil ?_))))))
  obtain rfl := some_inj hF
  exact wH_ret (fin0 (.inr rfl) [(vI 0), (vI r_5)] ⟨rfl, ⟨rfl, trivial⟩⟩ rfl rfl rfl)
 ·refine wH_iff rfl hc_7 (wH_skip (wH_seq (wH_seq (wH_region (h_op (vS player_2) wz rfl ?_)))))
  obtain ⟨r_8, hr_9, hF⟩ := bind_some hF
  refine h_call0 (kit_IsKey_ok hr_9) rfl hb124 rfl rfl rfl rfl wz (h_op (vB (!r_8)) wz rfl (h_nil ?_))
  rcases cond_some hF with ⟨hc_10, hF⟩ | ⟨hc_10, hF⟩
  ·refine wH_ift rfl hc_10 (wH_seq (wH_region (h_op (vI 0) wz rfl (h_op (vI 5) wz rfl (h_nil ?_)))))
   obtain rfl := some_inj hF
   exact wH_ret (fin0 (.inr rfl) [(vI 0), (vI 5)] ⟨rfl, ⟨rfl, trivial⟩⟩ rfl rfl rfl)
  ·refine wH_iff rfl hc_10 (wH_skip (wH_seq (wH_seq (wH_region (h_op (vI n_3) wz rfl ?_)))))
   obtain ⟨r_11, hr_12, hF⟩ := bind_some hF
   refine h_call0 (kit_IsMoment_ok hr_12) rfl hb136 rfl rfl rfl rfl wz (h_op (vB (!r_11)) wz rfl (h_nil ?_))
   rcases cond_some hF with ⟨hc_13, hF⟩ | ⟨hc_13, hF⟩
   ·refine wH_ift rfl hc_13 (wH_seq (wH_region (h_op (vI 0) wz rfl (h_op (vI 1) wz rfl (h_nil ?_)))))
    obtain rfl := some_inj hF
    exact wH_ret (fin0 (.inr rfl) [(vI 0), (vI 1)] ⟨rfl, ⟨rfl, trivial⟩⟩ rfl rfl rfl)
   ·refine wH_iff rfl hc_13 (wH_skip (wH_seq (wH_region (h_op (vL Beat.enc l_1) wz rfl (h_op (vS player_2) wz rfl (h_op (vB back_4) wz rfl ?_))))))
    obtain ⟨r_14, hr_15, hF⟩ := bind_some hF
    refine h_call0 (proof_beatsOf_ok hr_15) rfl hb217 rfl rfl rfl rfl wz (h_op (vI n_3) wz rfl ?_)
    obtain ⟨r_16, hr_17, hF⟩ := bind_some hF
    refine h_call0 (proof_mapped_ok hr_17) rfl hb216 rfl rfl rfl rfl wz (h_op (vI r_16.1) wz rfl (h_op (vI r_16.2) wz rfl (h_op (vI r_16.1) wz rfl (h_op (vI r_16.2) wz rfl (h_nil ?_)))))
    obtain rfl := some_inj hF
    exact wH_ret (fin0 (.inr rfl) [(vI r_16.1), (vI r_16.2)] ⟨rfl, ⟨rfl, trivial⟩⟩ rfl rfl rfl)
theorem proof_Right_ok {l_1 : (List Beat)} {player_2 : ByteArray} {clock_3 : Int} {r : Int × Int} (hF : proof_Right l_1 player_2 clock_3 = some r) :
  FnM Tryz.prog 92 [(vL Beat.enc l_1), (vS player_2), (vI clock_3)] [] (.tup [(vI r.1), (vI r.2)]) [] := by
 refine FnM.of_wH ⟨Tryz.prog, 14, [], []⟩ rfl Tryz.func92 rfl rfl (Nat.le_of_ble_eq_true rfl) (by kernel_rfl) ?_
 unfold proof_Right at hF
 refine wH_seq (wH_region (h_op (vI 0) wz rfl (h_op (vI 0) wz rfl (h_nil (wH_seq (wH_region (h_op (vL Beat.enc l_1) wz rfl (h_op (vS player_2) wz rfl (h_op (vI clock_3) wz rfl ?_)))))))))
 obtain ⟨r_4, hr_5, hF⟩ := bind_some hF
 refine h_call0 (proof_asked_ok hr_5) rfl hb175 rfl rfl rfl rfl wz (h_op (vI r_4.1) wz rfl (h_op (vI r_4.2) wz rfl (h_op (vI r_4.1) wz rfl (h_op (vI r_4.2) wz rfl (h_nil ?_)))))
 obtain rfl := some_inj hF
 exact wH_ret (fin0 (.inr rfl) [(vI r_4.1), (vI r_4.2)] ⟨rfl, ⟨rfl, trivial⟩⟩ rfl rfl rfl)
theorem alert_refsFault_ok {a_1 : Alert} {r : Int} (hF : alert_refsFault a_1 = some r) :
  FnM Tryz.prog 242 [(.d (.agg (Alert.enc a_1)))] [] (vI r) [] := by
 refine FnM.of_wH ⟨Tryz.prog, 48, [], []⟩ rfl Tryz.func242 rfl rfl (Nat.le_of_ble_eq_true rfl) (by kernel_rfl) ?_
 unfold alert_refsFault at hF
 refine wH_seq (wH_region (h_box 0 (.inl rfl) [(vS a_1.Id), (vS a_1.Sender), (vI a_1.Kind), (vL eS a_1.Refs), (vI a_1.At), (vI a_1.Until), (vI a_1.Weight), (vL Rect.enc a_1.Areas), (vS a_1.Text)] rfl rfl wz (fun n_2 => h_op (vI 0) wz rfl (h_nil (wH_seq (wH_seq (wH_region (h_far pl82_3 rfl 3 rfl wz (h_ldr 0 0 il ft sz80 ag80 rfl rfl (vL eS a_1.Refs) rfl wz (h_len un80 rfl wz (h_op (vB (decide ((a_1.Refs.length : Int) > 20))) wz rfl (h_nil ?_))))))))))))
 rcases cond_some hF with ⟨hc_3, hF⟩ | ⟨hc_3, hF⟩
 ·refine wH_ift rfl hc_3 (wH_seq (wH_region (h_op (vI 2) wz rfl (h_nil ?_))))
  obtain rfl := some_inj hF
  exact wH_ret (fin0 (.inr rfl) [(vI 2)] ⟨rfl, trivial⟩ rfl rfl rfl)
 ·refine wH_iff rfl hc_3 (wH_skip (wH_seq (wH_seq (wH_region (h_far pl82_3 rfl 3 rfl wz (h_ldr 0 0 il ft sz80 ag80 rfl rfl (vL eS a_1.Refs) rfl wz (h_len un80 rfl wz (h_op (vI 0) wz rfl (h_nil ?_)))))))))
  obtain ⟨o_12, hj_13, hF⟩ := bind_some hF
  obtain ⟨hn_8, hj_13⟩ := forL_some hj_13
  refine wH_join (β := (Unit)) (fun (s_9 : Unit) => ([(1, (.ref n_2 0 0))] : List (Nat × V))) (fun (s_9 : Unit) => ([(n_2, some (.cells 9 [(vS a_1.Id), (vS a_1.Sender), (vI a_1.Kind), (vL eS a_1.Refs), (vI a_1.At), (vI a_1.Until), (vI a_1.Weight), (vL Rect.enc a_1.Areas), (vS a_1.Text)]))] : Hp)) (fun p => o_12 = .go p) ?_ ?_
  ·refine wH_block (wH_loop (β := Nat × (List ByteArray) × (Unit)) (fun p => (fun (k_4 : Nat) (l_5 : List ByteArray) (s_9 : Unit) => ([(1, (.ref n_2 0 0)), (10, (vL eS a_1.Refs)), (11, (vI (a_1.Refs.length : Int))), (12, (vI (k_4 : Int)))] : List (Nat × V))) p.1 p.2.1 p.2.2) (fun p => (fun (k_4 : Nat) (l_5 : List ByteArray) (s_9 : Unit) => ([(n_2, some (.cells 9 [(vS a_1.Id), (vS a_1.Sender), (vI a_1.Kind), (vL eS a_1.Refs), (vI a_1.At), (vI a_1.Until), (vI a_1.Weight), (vL Rect.enc a_1.Areas), (vS a_1.Text)]))] : Hp)) p.1 p.2.1 p.2.2) (fun p => forR (fun k x s => alert_refsFault_L1 a_1 k x s) p.2.1 p.1 p.2.2 = some o_12 ∧ (a_1.Refs).drop p.1 = p.2.1) (fun p => p.2.1.length) (0, a_1.Refs, ()) ⟨hj_13, rfl⟩ rfl (pre_r rfl) ?_)
   rintro ⟨k_4, l_5, s_9⟩ ⟨hL_11, hD_7⟩
   dsimp only at hL_11 hD_7
   cases l_5 with
   | nil =>
    obtain rfl := some_inj hL_11
    refine wH_seq (wH_region (h_op (vB (decide ((k_4 : Int) < (a_1.Refs.length : Int)))) wz rfl (h_nil ?_)))
    refine wH_seq (wH_iff rfl (drop_nil hD_7) (wH_exit ?_))
    exact cut_mk (s_9) rfl rfl (pre_r rfl)
   | cons x_6 l_5 =>
    obtain ⟨c_, hc_10, hL_11⟩ := bind_some hL_11
    refine wH_seq (wH_region (h_op (vB (decide ((k_4 : Int) < (a_1.Refs.length : Int)))) wz rfl (h_nil ?_)))
    refine wH_seq (wH_ift rfl (drop_cons hD_7) (wH_skip ?_))
    unfold alert_refsFault_L1 at hc_10
    refine wH_seq (wH_block (wH_seq (wH_region (h_op (vI (k_4 : Int)) wz rfl (h_ia es80 rfl rfl (drop_idx hD_7) rfl wz (h_ldc sz9 ag9 rfl (vS x_6) rfl wz (h_op (vI (k_4 : Int)) wz rfl (h_op (vS x_6) wz rfl (h_nil (wH_block (wH_seq (wH_region (h_op (vS x_6) wz rfl ?_)))))))))))))
    obtain ⟨r_14, hr_15, hc_10⟩ := bind_some hc_10
    refine h_call0 (kit_IsKey_ok hr_15) rfl hb124 rfl rfl rfl rfl wz (h_op (vB (!r_14)) wz rfl (h_op (vB (!r_14)) wz rfl (h_nil ?_)))
    rcases cond_some hc_10 with ⟨hc_16, hc_10⟩ | ⟨hc_16, hc_10⟩
    ·refine wH_ift rfl hc_16 (wH_seq (wH_region (h_op (vI 5) wz rfl (h_nil ?_))))
     obtain rfl := some_inj hc_10
     obtain rfl := some_inj hL_11
     obtain rfl := some_inj hF
     exact wH_ret (fin0 (.inr rfl) [(vI 5)] ⟨rfl, trivial⟩ rfl rfl rfl)
    ·refine wH_iff rfl hc_16 (wH_seq ?_)
     obtain ⟨v_17, h_18, hc_10⟩ := bind_some hc_10
     refine wH_join (β := Unit) (fun _ => ([(1, (.ref n_2 0 0)), (4, (vS x_6)), (10, (vL eS a_1.Refs)), (11, (vI (a_1.Refs.length : Int))), (12, (vI (k_4 : Int))), (21, (vB v_17))] : List (Nat × V))) (fun _ => ([(n_2, some (.cells 9 [(vS a_1.Id), (vS a_1.Sender), (vI a_1.Kind), (vL eS a_1.Refs), (vI a_1.At), (vI a_1.Until), (vI a_1.Weight), (vL Rect.enc a_1.Areas), (vS a_1.Text)]))] : Hp)) (fun _ => True) ?_ ?_
     ·refine wH_region (h_op (vI (k_4 : Int)) wz rfl (h_op (vB (decide ((k_4 : Int) > 0))) wz rfl ?_))
      rcases cond_some h_18 with ⟨hc_19, h_18⟩ | ⟨hc_19, h_18⟩
      ·refine h_movb rfl hc_19 wz (h_op (vS x_6) wa rfl (h_far pl82_3 rfl 3 rfl wa (h_ldr 0 0 il ft sz80 ag80 rfl rfl (vL eS a_1.Refs) rfl wa (h_op (vI (k_4 : Int)) wa rfl (h_op (vI (w64 ((k_4 : Int) - 1))) wa rfl ?_)))))
       obtain ⟨y_20, hy_21, h_18⟩ := bind_some h_18
       refine h_ia es80 rfl rfl hy_21 rfl wa (h_ldc sz9 ag9 rfl (vS y_20) rfl wa (h_op (vB (sLe x_6 y_20)) wa rfl (h_op (vB (sLe x_6 y_20)) wz rfl (h_op (vB (sLe x_6 y_20)) wz rfl (h_nil ?_)))))
       obtain rfl := some_inj h_18
       exact cu
      ·refine h_movb rfl hc_19 wz (h_skip wa (h_skip wa (h_skip wa (h_skip wa (h_skip wa (h_skip wa (h_skip wa (h_skip wa (h_op (vB false) wz rfl (h_op (vB false) wz rfl (h_nil ?_)))))))))))
       obtain rfl := some_inj h_18
       exact cu
     ·rintro ⟨⟩ _ sl_ H_ hp_ hq_
      refine wH_at _ hp_ hq_ ?_
      rcases cond_some hc_10 with ⟨hc_22, hc_10⟩ | ⟨hc_22, hc_10⟩
      ·refine wH_ift rfl hc_22 (wH_seq (wH_region (h_op (vI 7) wz rfl (h_nil ?_))))
       obtain rfl := some_inj hc_10
       obtain rfl := some_inj hL_11
       obtain rfl := some_inj hF
       exact wH_ret (fin0 (.inr rfl) [(vI 7)] ⟨rfl, trivial⟩ rfl rfl rfl)
      ·refine wH_iff rfl hc_22 (wH_seq (wH_region (h_op (vS x_6) wz rfl (h_far pl82_0 rfl 0 rfl wz (h_ldr 0 0 il ft sz9 ag9 rfl rfl (vS a_1.Id) rfl wz (h_op (vB (sEq x_6 a_1.Id)) wz rfl (h_op (vB (sEq x_6 a_1.Id)) wz rfl (h_nil ?_))))))))
       rcases cond_some hc_10 with ⟨hc_23, hc_10⟩ | ⟨hc_23, hc_10⟩
       ·refine wH_ift rfl hc_23 (wH_seq (wH_region (h_op (vI 14) wz rfl (h_nil ?_))))
        obtain rfl := some_inj hc_10
        obtain rfl := some_inj hL_11
        obtain rfl := some_inj hF
        exact wH_ret (fin0 (.inr rfl) [(vI 14)] ⟨rfl, trivial⟩ rfl rfl rfl)
       ·refine wH_iff rfl hc_23 (wH_skip (wH_region (h_opw (w64_next hD_7 hn_8) wz rfl (h_op (vI ((k_4 + 1 : Nat) : Int)) wz rfl (h_nil ?_)))))
        obtain rfl := some_inj hc_10
        exact loop_mk (k_4 + 1, l_5, ()) ⟨hL_11, drop_next hD_7⟩ (Nat.lt_succ_self _) rfl (pre_r rfl)
  ·rintro s_9 ho_ sl_ H_ hp_ hq_
   subst ho_
   refine wH_at _ hp_ hq_ (wH_seq (wH_seq (wH_region (h_far pl82_2 rfl 2 rfl wz (h_ldr 0 0 il ft sz3 ag3 rfl rfl (vI a_1.Kind) rfl wz (h_op (vB (a_1.Kind == 1)) wz rfl (h_far pl82_3 rfl 3 rfl wz (h_ldr 0 0 il ft sz80 ag80 rfl rfl (vL eS a_1.Refs) rfl wz (h_len un80 rfl wz (h_op (vB ((a_1.Refs.length : Int) == 0)) wz rfl (h_bneq un4 rfl rfl wz (h_nil ?_))))))))))))
   rcases cond_some hF with ⟨hc_24, hF⟩ | ⟨hc_24, hF⟩
   ·refine wH_ift rfl hc_24 (wH_seq (wH_region (h_op (vI 3) wz rfl (h_nil ?_))))
    obtain rfl := some_inj hF
    exact wH_ret (fin0 (.inr rfl) [(vI 3)] ⟨rfl, trivial⟩ rfl rfl rfl)
   ·refine wH_iff rfl hc_24 (wH_skip (wH_seq (wH_region (h_op (vI 0) wz rfl (h_nil ?_)))))
    obtain rfl := some_inj hF
    exact wH_ret (fin0 (.inr rfl) [(vI 0)] ⟨rfl, trivial⟩ rfl rfl rfl)
theorem unicode_utf8_word_string_ok {s_1 : ByteArray} {r : Int} (hF : unicode_utf8_word_string s_1 = some r) :
  FnM Tryz.prog 282 [(vS s_1)] [] (.d (.int .u64 r)) [] := by
 refine FnM.of_wH ⟨Tryz.prog, 59, [], []⟩ rfl Tryz.func282 rfl rfl (Nat.le_of_ble_eq_true rfl) (by kernel_rfl) ?_
 unfold unicode_utf8_word_string at hF
 refine wH_seq (wH_region (h_op (.d (.int .u64 0)) wz rfl (h_nil (wH_seq (wH_iff rfl rfl (wH_skip (wH_seq (wH_draws (h_op (vS s_1) wz rfl ?_)))))))))
 obtain ⟨b_2, hy_3, hF⟩ := bind_some hF
 refine h_idxs un9 rfl rfl hy_3 wz (h_conv un5 un305 rfl wz (h_op (vS s_1) wz rfl ?_))
 obtain ⟨b_4, hy_5, hF⟩ := bind_some hF
 refine h_idxs un9 rfl rfl hy_5 wz (h_conv un5 un305 rfl wz ?_)
 obtain ⟨q_6, hz_7, hF⟩ := bind_some hF
 refine h_shl rfl rfl hz_7 wz (h_op (.d (.int .u64 (orI .u64 (IntKind.u64.wrap (b_2.toNat : Int)) q_6))) wz rfl (h_op (vS s_1) wz rfl ?_))
 obtain ⟨b_8, hy_9, hF⟩ := bind_some hF
 refine h_idxs un9 rfl rfl hy_9 wz (h_conv un5 un305 rfl wz ?_)
 obtain ⟨q_10, hz_11, hF⟩ := bind_some hF
 refine h_shl rfl rfl hz_11 wz (h_op (.d (.int .u64 (orI .u64 (orI .u64 (IntKind.u64.wrap (b_2.toNat : Int)) q_6) q_10))) wz rfl (h_op (vS s_1) wz rfl ?_))
 obtain ⟨b_12, hy_13, hF⟩ := bind_some hF
 refine h_idxs un9 rfl rfl hy_13 wz (h_conv un5 un305 rfl wz ?_)
 obtain ⟨q_14, hz_15, hF⟩ := bind_some hF
 refine h_shl rfl rfl hz_15 wz (h_op (.d (.int .u64 (orI .u64 (orI .u64 (orI .u64 (IntKind.u64.wrap (b_2.toNat : Int)) q_6) q_10) q_14))) wz rfl (h_op (vS s_1) wz rfl ?_))
 obtain ⟨b_16, hy_17, hF⟩ := bind_some hF
 refine h_idxs un9 rfl rfl hy_17 wz (h_conv un5 un305 rfl wz ?_)
 obtain ⟨q_18, hz_19, hF⟩ := bind_some hF
 refine h_shl rfl rfl hz_19 wz (h_op (.d (.int .u64 (orI .u64 (orI .u64 (orI .u64 (orI .u64 (IntKind.u64.wrap (b_2.toNat : Int)) q_6) q_10) q_14) q_18))) wz rfl (h_op (vS s_1) wz rfl ?_))
 obtain ⟨b_20, hy_21, hF⟩ := bind_some hF
 refine h_idxs un9 rfl rfl hy_21 wz (h_conv un5 un305 rfl wz ?_)
 obtain ⟨q_22, hz_23, hF⟩ := bind_some hF
 refine h_shl rfl rfl hz_23 wz (h_op (.d (.int .u64 (orI .u64 (orI .u64 (orI .u64 (orI .u64 (orI .u64 (IntKind.u64.wrap (b_2.toNat : Int)) q_6) q_10) q_14) q_18) q_22))) wz rfl (h_op (vS s_1) wz rfl ?_))
 obtain ⟨b_24, hy_25, hF⟩ := bind_some hF
 refine h_idxs un9 rfl rfl hy_25 wz (h_conv un5 un305 rfl wz ?_)
 obtain ⟨q_26, hz_27, hF⟩ := bind_some hF
 refine h_shl rfl rfl hz_27 wz (h_op (.d (.int .u64 (orI .u64 (orI .u64 (orI .u64 (orI .u64 (orI .u64 (orI .u64 (IntKind.u64.wrap (b_2.toNat : Int)) q_6) q_10) q_14) q_18) q_22) q_26))) wz rfl (h_op (vS s_1) wz rfl ?_))
 obtain ⟨b_28, hy_29, hF⟩ := bind_some hF
 refine h_idxs un9 rfl rfl hy_29 wz (h_conv un5 un305 rfl wz ?_)
 obtain ⟨q_30, hz_31, hF⟩ := bind_some hF
 refine h_shl rfl rfl hz_31 wz (h_op (.d (.int .u64 (orI .u64 (orI .u64 (orI .u64 (orI .u64 (orI .u64 (orI .u64 (orI .u64 (IntKind.u64.wrap (b_2.toNat : Int)) q_6) q_10) q_14) q_18) q_22) q_26) q_30))) wz rfl (h_op (.d (.int .u64 (orI .u64 (orI .u64 (orI .u64 (orI .u64 (orI .u64 (orI .u64 (orI .u64 (IntKind.u64.wrap (b_2.toNat : Int)) q_6) q_10) q_14) q_18) q_22) q_26) q_30))) wz rfl (h_nil (wH_at (H0 := ([] : Hp)) ([(2, (.d (.int .u64 (orI .u64 (orI .u64 (orI .u64 (orI .u64 (orI .u64 (orI .u64 (orI .u64 (IntKind.u64.wrap (b_2.toNat : Int)) q_6) q_10) q_14) q_18) q_22) q_26) q_30))))] : List (Nat × V)) (by kernel_rfl) (pre_mk (by kernel_rfl)) ?_))))
 obtain rfl := some_inj hF
 exact wH_ret (fin0 (.inr rfl) [(.d (.int .u64 (orI .u64 (orI .u64 (orI .u64 (orI .u64 (orI .u64 (orI .u64 (orI .u64 (IntKind.u64.wrap (b_2.toNat : Int)) q_6) q_10) q_14) q_18) q_22) q_26) q_30)))] ⟨rfl, trivial⟩ rfl rfl rfl)
theorem unicode_utf8_ValidString_ok {s_1 : ByteArray} {r : Bool} (hF : unicode_utf8_ValidString s_1 = some r) :
  FnM Tryz.prog 235 [(vS s_1)] [] (vB r) [] := by
 refine FnM.of_wH ⟨Tryz.prog, 169, [], []⟩ rfl Tryz.func235 rfl rfl (Nat.le_of_ble_eq_true rfl) (by kernel_rfl) ?_
 unfold unicode_utf8_ValidString at hF
 refine wH_seq (wH_region (h_op (vB false) wz rfl (h_nil (wH_seq ?_))))
 obtain ⟨o_10, hj_11, hF⟩ := bind_some hF
 obtain ⟨nq_71, hj_11⟩ := loopO_iter hj_11
 refine wH_join (β := (ByteArray)) (fun (s_7 : ByteArray) => ([] : List (Nat × V))) (fun (s_7 : ByteArray) => ([] : Hp)) (fun p => o_10 = .go p) ?_ ?_
 ·refine wH_block (wH_loop (β := Nat × (ByteArray)) (fun p => (fun (k_2 : Nat) (s_7 : ByteArray) => ([(0, (vS s_7))] : List (Nat × V))) p.1 p.2) (fun p => (fun (k_2 : Nat) (s_7 : ByteArray) => ([] : Hp)) p.1 p.2) (fun p => iterN (fun s => unicode_utf8_ValidString_L2 s) p.1 p.2 = some o_10) (fun p => p.1) (nq_71, s_1) hj_11 rfl (pre_r rfl) ?_)
  rintro ⟨k_2, s_7⟩ hL_9
  dsimp only at hL_9
  cases k_2 with
  | zero => cases hL_9
  | succ k_2 =>
   obtain ⟨c_, hc_8, hL_9⟩ := bind_some hL_9
   unfold unicode_utf8_ValidString_L2 at hc_8
   refine wH_seq (wH_seq (wH_region (h_op (vS s_7) wz rfl (h_lens un9 rfl wz (h_op (vB (decide ((s_7.size : Int) > 0))) wz rfl (h_nil ?_))))))
   rcases cond_some hc_8 with ⟨hc_12, hc_8⟩ | ⟨hc_12, hc_8⟩
   ·refine wH_ift rfl hc_12 (wH_skip (wH_block (wH_seq (wH_region (h_op (vS s_7) wz rfl ?_)))))
    obtain ⟨b_13, hy_14, hc_8⟩ := bind_some hc_8
    refine h_idxs un9 rfl rfl hy_14 wz (h_op (.d (.int .u8 (b_13.toNat : Int))) wz rfl (h_nil (wH_seq (wH_seq (wH_region (h_op (.d (.int .u8 (b_13.toNat : Int))) wz rfl (h_op (vB (decide ((b_13.toNat : Int) < 128))) wz rfl (h_nil ?_))))))))
    rcases cond_some hc_8 with ⟨hc_15, hc_8⟩ | ⟨hc_15, hc_8⟩
    ·refine wH_ift rfl hc_15 (wH_seq (wH_region (h_op (vS s_7) wz rfl ?_)))
     obtain ⟨y_16, hy_17, hc_8⟩ := bind_some hc_8
     refine h_subTrueFalse un9 rfl rfl hy_17 wz (h_op (vS y_16) wz rfl (h_nil (wH_seq (wH_seq ?_))))
     obtain ⟨v_18, h_19, hc_8⟩ := bind_some hc_8
     refine wH_join (β := Unit) (fun _ => ([(0, (vS y_16)), (24, (vB v_18))] : List (Nat × V))) (fun _ => ([] : Hp)) (fun _ => True) ?_ ?_
     ·refine wH_region (h_op (vS y_16) wz rfl (h_lens un9 rfl wz (h_op (vB (decide ((y_16.size : Int) > 8))) wz rfl ?_)))
      rcases cond_some h_19 with ⟨hc_20, h_19⟩ | ⟨hc_20, h_19⟩
      ·refine h_movb rfl hc_20 wz (h_op (vS y_16) wa rfl ?_)
       obtain ⟨r_21, hr_22, h_19⟩ := bind_some h_19
       refine h_call0 (unicode_utf8_word_string_ok hr_22) rfl hb282 rfl rfl rfl rfl wa (h_op (.d (.int .u64 (andI .u64 r_21 9259542123273814144))) wa rfl (h_op (vB ((andI .u64 r_21 9259542123273814144) == 0)) wa rfl (h_op (vB ((andI .u64 r_21 9259542123273814144) == 0)) wz rfl (h_nil ?_))))
       obtain rfl := some_inj h_19
       exact cu
      ·refine h_movb rfl hc_20 wz (h_skip wa (h_skip wa (h_skip wa (h_skip wa (h_op (vB false) wz rfl (h_nil ?_))))))
       obtain rfl := some_inj h_19
       exact cu
     ·rintro ⟨⟩ _ sl_ H_ hp_ hq_
      refine wH_at _ hp_ hq_ ?_
      obtain ⟨v_23, h_24, hc_8⟩ := bind_some hc_8
      refine wH_join (β := Unit) (fun _ => ([(0, (vS v_23))] : List (Nat × V))) (fun _ => ([] : Hp)) (fun _ => True) ?_ ?_
      ·rcases cond_some h_24 with ⟨hc_25, h_24⟩ | ⟨hc_25, h_24⟩
       ·refine wH_ift rfl hc_25 (wH_seq (wH_region (h_op (vS y_16) wz rfl ?_)))
        obtain ⟨y_26, hy_27, h_24⟩ := bind_some h_24
        refine h_subTrueFalse un9 rfl rfl hy_27 wz (h_op (vS y_26) wz rfl (h_nil (wH_seq ?_)))
        obtain ⟨v_28, h_29, h_24⟩ := bind_some h_24
        refine wH_join (β := Unit) (fun _ => ([(0, (vS y_26)), (39, (vB v_28))] : List (Nat × V))) (fun _ => ([] : Hp)) (fun _ => True) ?_ ?_
        ·refine wH_draws (h_op (vS y_26) wz rfl (h_lens un9 rfl wz (h_op (vB (decide ((y_26.size : Int) > 16))) wz rfl ?_)))
         rcases cond_some h_29 with ⟨hc_30, h_29⟩ | ⟨hc_30, h_29⟩
         ·refine h_movb rfl hc_30 wz (h_op (vS y_26) wa rfl ?_)
          obtain ⟨r_31, hr_32, h_29⟩ := bind_some h_29
          refine h_call0 (unicode_utf8_word_string_ok hr_32) rfl hb282 rfl rfl rfl rfl wa (h_op (vS y_26) wa rfl ?_)
          obtain ⟨y_33, hy_34, h_29⟩ := bind_some h_29
          refine h_subTrueFalse un9 rfl rfl hy_34 wa ?_
          obtain ⟨r_35, hr_36, h_29⟩ := bind_some h_29
          refine h_call0 (unicode_utf8_word_string_ok hr_36) rfl hb282 rfl rfl rfl rfl wa (h_op (.d (.int .u64 (orI .u64 r_31 r_35))) wa rfl (h_op (.d (.int .u64 (andI .u64 (orI .u64 r_31 r_35) 9259542123273814144))) wa rfl (h_op (vB ((andI .u64 (orI .u64 r_31 r_35) 9259542123273814144) == 0)) wa rfl (h_op (vB ((andI .u64 (orI .u64 r_31 r_35) 9259542123273814144) == 0)) wz rfl (h_nil ?_)))))
          obtain rfl := some_inj h_29
          exact cu
         ·refine h_movb rfl hc_30 wz (h_skip wa (h_skip wa (h_skip wa (h_skip wa (h_skip wa (h_skip wa (h_skip wa (h_skip wa (h_op (vB false) wz rfl (h_nil ?_))))))))))
          obtain rfl := some_inj h_29
          exact cu
        ·rintro ⟨⟩ _ sl_ H_ hp_ hq_
         refine wH_at _ hp_ hq_ ?_
         rcases cond_some h_24 with ⟨hc_37, h_24⟩ | ⟨hc_37, h_24⟩
         ·refine wH_ift rfl hc_37 (wH_seq (wH_region (h_op (vS y_26) wz rfl ?_)))
          obtain ⟨y_38, hy_39, h_24⟩ := bind_some h_24
          refine h_subTrueFalse un9 rfl rfl hy_39 wz (h_op (vS y_38) wz rfl (h_nil ?_))
          obtain ⟨o_48, hj_49, h_24⟩ := bind_some h_24
          obtain ⟨nq_70, hj_49⟩ := loopO_iter hj_49
          refine wH_join (β := (ByteArray)) (fun (s_45 : ByteArray) => ([(0, (vS s_45))] : List (Nat × V))) (fun (s_45 : ByteArray) => ([] : Hp)) (fun p => o_48 = .go p) ?_ ?_
          ·refine wH_block (wH_loop (β := Nat × (ByteArray)) (fun p => (fun (k_40 : Nat) (s_45 : ByteArray) => ([(0, (vS s_45))] : List (Nat × V))) p.1 p.2) (fun p => (fun (k_40 : Nat) (s_45 : ByteArray) => ([] : Hp)) p.1 p.2) (fun p => iterN (fun s => unicode_utf8_ValidString_L1 s) p.1 p.2 = some o_48) (fun p => p.1) (nq_70, y_38) hj_49 rfl (pre_r rfl) ?_)
           rintro ⟨k_40, s_45⟩ hL_47
           dsimp only at hL_47
           cases k_40 with
           | zero => cases hL_47
           | succ k_40 =>
            obtain ⟨c_, hc_46, hL_47⟩ := bind_some hL_47
            unfold unicode_utf8_ValidString_L1 at hc_46
            refine wH_seq (wH_seq ?_)
            obtain ⟨v_50, h_51, hc_46⟩ := bind_some hc_46
            refine wH_join (β := Unit) (fun _ => ([(0, (vS s_45)), (62, (vB v_50))] : List (Nat × V))) (fun _ => ([] : Hp)) (fun _ => True) ?_ ?_
            ·refine wH_draws (h_op (vS s_45) wz rfl (h_lens un9 rfl wz (h_op (vB (decide ((s_45.size : Int) > 32))) wz rfl ?_)))
             rcases cond_some h_51 with ⟨hc_52, h_51⟩ | ⟨hc_52, h_51⟩
             ·refine h_movb rfl hc_52 wz (h_op (vS s_45) wa rfl ?_)
              obtain ⟨r_53, hr_54, h_51⟩ := bind_some h_51
              refine h_call0 (unicode_utf8_word_string_ok hr_54) rfl hb282 rfl rfl rfl rfl wa (h_op (vS s_45) wa rfl ?_)
              obtain ⟨y_55, hy_56, h_51⟩ := bind_some h_51
              refine h_subTrueFalse un9 rfl rfl hy_56 wa ?_
              obtain ⟨r_57, hr_58, h_51⟩ := bind_some h_51
              refine h_call0 (unicode_utf8_word_string_ok hr_58) rfl hb282 rfl rfl rfl rfl wa (h_op (.d (.int .u64 (orI .u64 r_53 r_57))) wa rfl (h_op (vS s_45) wa rfl ?_))
              obtain ⟨y_59, hy_60, h_51⟩ := bind_some h_51
              refine h_subTrueFalse un9 rfl rfl hy_60 wa ?_
              obtain ⟨r_61, hr_62, h_51⟩ := bind_some h_51
              refine h_call0 (unicode_utf8_word_string_ok hr_62) rfl hb282 rfl rfl rfl rfl wa (h_op (vS s_45) wa rfl ?_)
              obtain ⟨y_63, hy_64, h_51⟩ := bind_some h_51
              refine h_subTrueFalse un9 rfl rfl hy_64 wa ?_
              obtain ⟨r_65, hr_66, h_51⟩ := bind_some h_51
              refine h_call0 (unicode_utf8_word_string_ok hr_66) rfl hb282 rfl rfl rfl rfl wa (h_op (.d (.int .u64 (orI .u64 r_61 r_65))) wa rfl (h_op (.d (.int .u64 (orI .u64 (orI .u64 r_53 r_57) (orI .u64 r_61 r_65)))) wa rfl (h_op (.d (.int .u64 (andI .u64 (orI .u64 (orI .u64 r_53 r_57) (orI .u64 r_61 r_65)) 9259542123273814144))) wa rfl (h_op (vB ((andI .u64 (orI .u64 (orI .u64 r_53 r_57) (orI .u64 r_61 r_65)) 9259542123273814144) == 0)) wa rfl (h_op (vB ((andI .u64 (orI .u64 (orI .u64 r_53 r_57) (orI .u64 r_61 r_65)) 9259542123273814144) == 0)) wz rfl (h_nil ?_))))))
              obtain rfl := some_inj h_51
              exact cu
             ·refine h_movb rfl hc_52 wz (h_skip wa (h_skip wa (h_skip wa (h_skip wa (h_skip wa (h_skip wa (h_skip wa (h_skip wa (h_skip wa (h_skip wa (h_skip wa (h_skip wa (h_skip wa (h_skip wa (h_skip wa (h_skip wa (h_op (vB false) wz rfl (h_nil ?_))))))))))))))))))
              obtain rfl := some_inj h_51
              exact cu
            ·rintro ⟨⟩ _ sl_ H_ hp_ hq_
             refine wH_at _ hp_ hq_ ?_
             rcases cond_some hc_46 with ⟨hc_67, hc_46⟩ | ⟨hc_67, hc_46⟩
             ·refine wH_ift rfl hc_67 (wH_skip (wH_block (wH_region (h_op (vS s_45) wz rfl ?_))))
              obtain ⟨y_68, hy_69, hc_46⟩ := bind_some hc_46
              refine h_subTrueFalse un9 rfl rfl hy_69 wz (h_op (vS y_68) wz rfl (h_nil ?_))
              obtain rfl := some_inj hc_46
              exact loop_mk (k_40, y_68) hL_47 (Nat.lt_succ_self _) rfl (pre_r rfl)
             ·refine wH_iff rfl hc_67 (wH_exit ?_)
              obtain rfl := some_inj hc_46
              obtain rfl := some_inj hL_47
              exact cut_mk (s_45) rfl rfl (pre_r rfl)
          ·rintro s_45 ho_ sl_ H_ hp_ hq_
           subst ho_
           obtain rfl := some_inj h_24
           exact cut_mk () trivial (pick_at [0] hp_ rfl) (pre_at hq_ (pre_r rfl))
         ·refine wH_iff rfl hc_37 (wH_skip ?_)
          obtain rfl := some_inj h_24
          exact cu
       ·refine wH_iff rfl hc_25 (wH_skip ?_)
        obtain rfl := some_inj h_24
        exact cu
      ·rintro ⟨⟩ _ sl_ H_ hp_ hq_
       refine wH_at _ hp_ hq_ (wH_exit ?_)
       obtain rfl := some_inj hc_8
       exact loop_mk (k_2, v_23) hL_9 (Nat.lt_succ_self _) rfl (pre_r rfl)
    ·refine wH_iff rfl hc_15 (wH_skip (wH_seq (wH_region (h_op (.d (.int .u8 (b_13.toNat : Int))) wz rfl ?_))))
     cases hc_8
   ·refine wH_iff rfl hc_12 (wH_exit ?_)
    obtain rfl := some_inj hc_8
    obtain rfl := some_inj hL_9
    exact cut_mk (s_7) rfl rfl (pre_r rfl)
 ·rintro s_7 ho_ sl_ H_ hp_ hq_
  subst ho_
  refine wH_at _ hp_ hq_ (wH_seq (wH_region (h_op (vB true) wz rfl (h_nil ?_))))
  obtain rfl := some_inj hF
  exact wH_ret (fin0 (.inr rfl) [(vB true)] ⟨rfl, trivial⟩ rfl rfl rfl)
theorem strings_trimRightByte_ok {s_1 : ByteArray} {c_2 : Int} {r : ByteArray} (hF : strings_trimRightByte s_1 c_2 = some r) :
  FnM Tryz.prog 285 [(vS s_1), (.d (.int .u8 c_2))] [] (vS r) [] := by
 refine FnM.of_wH ⟨Tryz.prog, 23, [], []⟩ rfl Tryz.func285 rfl rfl (Nat.le_of_ble_eq_true rfl) (by kernel_rfl) ?_
 unfold strings_trimRightByte at hF
 refine wH_seq (wH_region (h_op (vS (⟨#[]⟩ : ByteArray)) wz rfl (h_nil (wH_seq ?_))))
 obtain ⟨o_11, hj_12, hF⟩ := bind_some hF
 obtain ⟨nq_21, hj_12⟩ := loopO_iter hj_12
 refine wH_join (β := (ByteArray)) (fun (s_8 : ByteArray) => ([(0, (vS s_8))] : List (Nat × V))) (fun (s_8 : ByteArray) => ([] : Hp)) (fun p => o_11 = .go p) ?_ ?_
 ·refine wH_block (wH_loop (β := Nat × (ByteArray)) (fun p => (fun (k_3 : Nat) (s_8 : ByteArray) => ([(0, (vS s_8)), (1, (.d (.int .u8 c_2)))] : List (Nat × V))) p.1 p.2) (fun p => (fun (k_3 : Nat) (s_8 : ByteArray) => ([] : Hp)) p.1 p.2) (fun p => iterN (fun s => strings_trimRightByte_L1 c_2 s) p.1 p.2 = some o_11) (fun p => p.1) (nq_21, s_1) hj_12 rfl (pre_r rfl) ?_)
  rintro ⟨k_3, s_8⟩ hL_10
  dsimp only at hL_10
  cases k_3 with
  | zero => cases hL_10
  | succ k_3 =>
   obtain ⟨c_, hc_9, hL_10⟩ := bind_some hL_10
   unfold strings_trimRightByte_L1 at hc_9
   refine wH_seq (wH_seq ?_)
   obtain ⟨v_13, h_14, hc_9⟩ := bind_some hc_9
   refine wH_join (β := Unit) (fun _ => ([(0, (vS s_8)), (1, (.d (.int .u8 c_2))), (16, (vB v_13))] : List (Nat × V))) (fun _ => ([] : Hp)) (fun _ => True) ?_ ?_
   ·refine wH_region (h_op (vS s_8) wz rfl (h_lens un9 rfl wz (h_op (vB (decide ((s_8.size : Int) > 0))) wz rfl ?_)))
    rcases cond_some h_14 with ⟨hc_15, h_14⟩ | ⟨hc_15, h_14⟩
    ·refine h_movb rfl hc_15 wz (h_op (vS s_8) wa rfl (h_op (vS s_8) wa rfl (h_lens un9 rfl wa (h_op (vI (w64 ((s_8.size : Int) - 1))) wa rfl ?_))))
     obtain ⟨b_16, hy_17, h_14⟩ := bind_some h_14
     refine h_idxs un9 rfl rfl hy_17 wa (h_op (.d (.int .u8 c_2)) wa rfl (h_op (vB ((b_16.toNat : Int) == c_2)) wa rfl (h_op (vB ((b_16.toNat : Int) == c_2)) wz rfl (h_nil ?_))))
     obtain rfl := some_inj h_14
     exact cu
    ·refine h_movb rfl hc_15 wz (h_skip wa (h_skip wa (h_skip wa (h_skip wa (h_skip wa (h_skip wa (h_skip wa (h_op (vB false) wz rfl (h_nil ?_)))))))))
     obtain rfl := some_inj h_14
     exact cu
   ·rintro ⟨⟩ _ sl_ H_ hp_ hq_
    refine wH_at _ hp_ hq_ ?_
    rcases cond_some hc_9 with ⟨hc_18, hc_9⟩ | ⟨hc_18, hc_9⟩
    ·refine wH_ift rfl hc_18 (wH_skip (wH_block (wH_region (h_op (vS s_8) wz rfl (h_op (vS s_8) wz rfl (h_lens un9 rfl wz (h_op (vI (w64 ((s_8.size : Int) - 1))) wz rfl ?_)))))))
     obtain ⟨y_19, hy_20, hc_9⟩ := bind_some hc_9
     refine h_subFalseTrue un9 rfl rfl hy_20 wz (h_op (vS y_19) wz rfl (h_nil ?_))
     obtain rfl := some_inj hc_9
     exact loop_mk (k_3, y_19) hL_10 (Nat.lt_succ_self _) rfl (pre_r rfl)
    ·refine wH_iff rfl hc_18 (wH_exit ?_)
     obtain rfl := some_inj hc_9
     obtain rfl := some_inj hL_10
     exact cut_mk (s_8) rfl rfl (pre_r rfl)
 ·rintro s_8 ho_ sl_ H_ hp_ hq_
  subst ho_
  refine wH_at _ hp_ hq_ (wH_seq (wH_region (h_op (vS s_8) wz rfl (h_op (vS s_8) wz rfl (h_nil ?_)))))
  obtain rfl := some_inj hF
  exact wH_ret (fin0 (.inr rfl) [(vS s_8)] ⟨rfl, trivial⟩ rfl rfl rfl)
theorem strings_trimLeftByte_ok {s_1 : ByteArray} {c_2 : Int} {r : ByteArray} (hF : strings_trimLeftByte s_1 c_2 = some r) :
  FnM Tryz.prog 284 [(vS s_1), (.d (.int .u8 c_2))] [] (vS r) [] := by
 refine FnM.of_wH ⟨Tryz.prog, 17, [], []⟩ rfl Tryz.func284 rfl rfl (Nat.le_of_ble_eq_true rfl) (by kernel_rfl) ?_
 unfold strings_trimLeftByte at hF
 refine wH_seq (wH_region (h_op (vS (⟨#[]⟩ : ByteArray)) wz rfl (h_nil (wH_seq ?_))))
 obtain ⟨o_11, hj_12, hF⟩ := bind_some hF
 obtain ⟨nq_21, hj_12⟩ := loopO_iter hj_12
 refine wH_join (β := (ByteArray)) (fun (s_8 : ByteArray) => ([(0, (vS s_8))] : List (Nat × V))) (fun (s_8 : ByteArray) => ([] : Hp)) (fun p => o_11 = .go p) ?_ ?_
 ·refine wH_block (wH_loop (β := Nat × (ByteArray)) (fun p => (fun (k_3 : Nat) (s_8 : ByteArray) => ([(0, (vS s_8)), (1, (.d (.int .u8 c_2)))] : List (Nat × V))) p.1 p.2) (fun p => (fun (k_3 : Nat) (s_8 : ByteArray) => ([] : Hp)) p.1 p.2) (fun p => iterN (fun s => strings_trimLeftByte_L1 c_2 s) p.1 p.2 = some o_11) (fun p => p.1) (nq_21, s_1) hj_12 rfl (pre_r rfl) ?_)
  rintro ⟨k_3, s_8⟩ hL_10
  dsimp only at hL_10
  cases k_3 with
  | zero => cases hL_10
  | succ k_3 =>
   obtain ⟨c_, hc_9, hL_10⟩ := bind_some hL_10
   unfold strings_trimLeftByte_L1 at hc_9
   refine wH_seq (wH_seq ?_)
   obtain ⟨v_13, h_14, hc_9⟩ := bind_some hc_9
   refine wH_join (β := Unit) (fun _ => ([(0, (vS s_8)), (1, (.d (.int .u8 c_2))), (13, (vB v_13))] : List (Nat × V))) (fun _ => ([] : Hp)) (fun _ => True) ?_ ?_
   ·refine wH_region (h_op (vS s_8) wz rfl (h_lens un9 rfl wz (h_op (vB (decide ((s_8.size : Int) > 0))) wz rfl ?_)))
    rcases cond_some h_14 with ⟨hc_15, h_14⟩ | ⟨hc_15, h_14⟩
    ·refine h_movb rfl hc_15 wz (h_op (vS s_8) wa rfl ?_)
     obtain ⟨b_16, hy_17, h_14⟩ := bind_some h_14
     refine h_idxs un9 rfl rfl hy_17 wa (h_op (.d (.int .u8 c_2)) wa rfl (h_op (vB ((b_16.toNat : Int) == c_2)) wa rfl (h_op (vB ((b_16.toNat : Int) == c_2)) wz rfl (h_nil ?_))))
     obtain rfl := some_inj h_14
     exact cu
    ·refine h_movb rfl hc_15 wz (h_skip wa (h_skip wa (h_skip wa (h_skip wa (h_op (vB false) wz rfl (h_nil ?_))))))
     obtain rfl := some_inj h_14
     exact cu
   ·rintro ⟨⟩ _ sl_ H_ hp_ hq_
    refine wH_at _ hp_ hq_ ?_
    rcases cond_some hc_9 with ⟨hc_18, hc_9⟩ | ⟨hc_18, hc_9⟩
    ·refine wH_ift rfl hc_18 (wH_skip (wH_block (wH_region (h_op (vS s_8) wz rfl ?_))))
     obtain ⟨y_19, hy_20, hc_9⟩ := bind_some hc_9
     refine h_subTrueFalse un9 rfl rfl hy_20 wz (h_op (vS y_19) wz rfl (h_nil ?_))
     obtain rfl := some_inj hc_9
     exact loop_mk (k_3, y_19) hL_10 (Nat.lt_succ_self _) rfl (pre_r rfl)
    ·refine wH_iff rfl hc_18 (wH_exit ?_)
     obtain rfl := some_inj hc_9
     obtain rfl := some_inj hL_10
     exact cut_mk (s_8) rfl rfl (pre_r rfl)
 ·rintro s_8 ho_ sl_ H_ hp_ hq_
  subst ho_
  refine wH_at _ hp_ hq_ (wH_seq (wH_region (h_op (vS s_8) wz rfl (h_op (vS s_8) wz rfl (h_nil ?_)))))
  obtain rfl := some_inj hF
  exact wH_ret (fin0 (.inr rfl) [(vS s_8)] ⟨rfl, trivial⟩ rfl rfl rfl)
theorem strings_Trim_ok {s_1 : ByteArray} {cutset_2 : ByteArray} {r : ByteArray} (hF : strings_Trim s_1 cutset_2 = some r) :
  FnM Tryz.prog 238 [(vS s_1), (vS cutset_2)] [] (vS r) [] := by
 refine FnM.of_wH ⟨Tryz.prog, 43, [], []⟩ rfl Tryz.func238 rfl rfl (Nat.le_of_ble_eq_true rfl) (by kernel_rfl) ?_
 unfold strings_Trim at hF
 refine wH_seq (wH_region (h_op (vS (⟨#[]⟩ : ByteArray)) wz rfl (h_nil (wH_seq (wH_seq ?_)))))
 obtain ⟨v_3, h_4, hF⟩ := bind_some hF
 refine wH_join (β := Unit) (fun _ => ([(0, (vS s_1)), (1, (vS cutset_2)), (12, (vB v_3))] : List (Nat × V))) (fun _ => ([] : Hp)) (fun _ => True) ?_ ?_
 ·refine wH_region (h_op (vS s_1) wz rfl (h_op (vB (sEq s_1 (⟨#[]⟩ : ByteArray))) wz rfl ?_))
  rcases cond_some h_4 with ⟨hc_5, h_4⟩ | ⟨hc_5, h_4⟩
  ·refine h_movb rfl hc_5 wz (h_skip wa (h_skip wa (h_op (vB true) wz rfl (h_nil ?_))))
   obtain rfl := some_inj h_4
   exact cu
  ·refine h_movb rfl hc_5 wz (h_op (vS cutset_2) wa rfl (h_op (vB (sEq cutset_2 (⟨#[]⟩ : ByteArray))) wa rfl (h_op (vB (sEq cutset_2 (⟨#[]⟩ : ByteArray))) wz rfl (h_nil ?_))))
   obtain rfl := some_inj h_4
   exact cu
 ·rintro ⟨⟩ _ sl_ H_ hp_ hq_
  refine wH_at _ hp_ hq_ ?_
  rcases cond_some hF with ⟨hc_6, hF⟩ | ⟨hc_6, hF⟩
  ·refine wH_ift rfl hc_6 (wH_seq (wH_region (h_op (vS s_1) wz rfl (h_op (vS s_1) wz rfl (h_nil ?_)))))
   obtain rfl := some_inj hF
   exact wH_ret (fin0 (.inr rfl) [(vS s_1)] ⟨rfl, trivial⟩ rfl rfl rfl)
  ·refine wH_iff rfl hc_6 (wH_skip (wH_seq (wH_seq ?_)))
   obtain ⟨v_7, h_8, hF⟩ := bind_some hF
   refine wH_join (β := Unit) (fun _ => ([(0, (vS s_1)), (1, (vS cutset_2)), (21, (vB v_7))] : List (Nat × V))) (fun _ => ([] : Hp)) (fun _ => True) ?_ ?_
   ·refine wH_region (h_op (vS cutset_2) wz rfl (h_lens un9 rfl wz (h_op (vB ((cutset_2.size : Int) == 1)) wz rfl ?_)))
    rcases cond_some h_8 with ⟨hc_9, h_8⟩ | ⟨hc_9, h_8⟩
    ·refine h_movb rfl hc_9 wz (h_op (vS cutset_2) wa rfl ?_)
     obtain ⟨b_10, hy_11, h_8⟩ := bind_some h_8
     refine h_idxs un9 rfl rfl hy_11 wa (h_op (vB (decide ((b_10.toNat : Int) < 128))) wa rfl (h_op (vB (decide ((b_10.toNat : Int) < 128))) wz rfl (h_nil ?_)))
     obtain rfl := some_inj h_8
     exact cu
    ·refine h_movb rfl hc_9 wz (h_skip wa (h_skip wa (h_skip wa (h_op (vB false) wz rfl (h_nil ?_)))))
     obtain rfl := some_inj h_8
     exact cu
   ·rintro ⟨⟩ _ sl_ H_ hp_ hq_
    refine wH_at _ hp_ hq_ ?_
    rcases cond_some hF with ⟨hc_12, hF⟩ | ⟨hc_12, hF⟩
    ·refine wH_ift rfl hc_12 (wH_seq (wH_draws (h_op (vS s_1) wz rfl (h_op (vS cutset_2) wz rfl ?_))))
     obtain ⟨b_13, hy_14, hF⟩ := bind_some hF
     refine h_idxs un9 rfl rfl hy_14 wz ?_
     obtain ⟨r_15, hr_16, hF⟩ := bind_some hF
     refine h_call0 (strings_trimRightByte_ok hr_16) rfl hb285 rfl rfl rfl rfl wz (h_op (vS cutset_2) wz rfl ?_)
     obtain ⟨b_17, hy_18, hF⟩ := bind_some hF
     refine h_idxs un9 rfl rfl hy_18 wz ?_
     obtain ⟨r_19, hr_20, hF⟩ := bind_some hF
     refine h_call0 (strings_trimLeftByte_ok hr_20) rfl hb284 rfl rfl rfl rfl wz (h_op (vS r_19) wz rfl (h_nil ?_))
     obtain rfl := some_inj hF
     exact wH_ret (fin0 (.inr rfl) [(vS r_19)] ⟨rfl, trivial⟩ rfl rfl rfl)
    ·refine wH_iff rfl hc_12 (wH_skip (wH_seq (wH_seq (wH_region (h_op (vS cutset_2) wz rfl ?_)))))
     cases hF
theorem internal_stringslite_IndexByte_ok {s_1 : ByteArray} {c_2 : Int} {r : Int} (hF : internal_stringslite_IndexByte s_1 c_2 = some r) :
  FnM Tryz.prog 292 [(vS s_1), (.d (.int .u8 c_2))] [] (vI r) [] := by
 refine FnM.of_wH ⟨Tryz.prog, 8, [], []⟩ rfl Tryz.func292 rfl rfl (Nat.le_of_ble_eq_true rfl) (by kernel_rfl) ?_
 unfold internal_stringslite_IndexByte at hF
 refine wH_seq (wH_region (h_op (vI 0) wz rfl (h_nil (wH_seq (wH_region (h_op (vS s_1) wz rfl (h_op (.d (.int .u8 c_2)) wz rfl (h_ext (ext_ixB (f := 319) Tryz.func319 rfl rfl (by kernel_rfl) (by kernel_rfl) _ _) rfl nb319 rfl wz (h_op (vI (ixB s_1 c_2)) wz rfl (h_nil ?_))))))))))
 obtain rfl := some_inj hF
 exact wH_ret (fin0 (.inr rfl) [(vI (ixB s_1 c_2))] ⟨rfl, trivial⟩ rfl rfl rfl)
theorem internal_stringslite_Index_ok {s_1 : ByteArray} {substr_2 : ByteArray} {r : Int} (hF : internal_stringslite_Index s_1 substr_2 = some r) :
  FnM Tryz.prog 318 [(vS s_1), (vS substr_2)] [] (vI r) [] := by
 refine FnM.of_wH ⟨Tryz.prog, 143, [], []⟩ rfl Tryz.func318 rfl rfl (Nat.le_of_ble_eq_true rfl) (by kernel_rfl) ?_
 unfold internal_stringslite_Index at hF
 refine wH_seq (wH_region (h_op (vI 0) wz rfl (h_nil (wH_seq (wH_region (h_op (vS substr_2) wz rfl (h_lens un9 rfl wz (h_op (vI (substr_2.size : Int)) wz rfl (h_nil (wH_seq (wH_block (wH_seq ?_))))))))))))
 obtain ⟨v_3, h_4, hF⟩ := bind_some hF
 refine wH_join (β := Unit) (fun _ => ([(0, (vS s_1)), (1, (vS substr_2)), (5, (vI (substr_2.size : Int))), (16, (vB v_3))] : List (Nat × V))) (fun _ => ([] : Hp)) (fun _ => True) ?_ ?_
 ·refine wH_region (h_op (vI (substr_2.size : Int)) wz rfl (h_op (vB ((substr_2.size : Int) == 0)) wz rfl ?_))
  rcases cond_some h_4 with ⟨hc_5, h_4⟩ | ⟨hc_5, h_4⟩
  ·refine h_movb rfl hc_5 wz (h_skip wa (h_skip wa (h_skip wa (h_op (vB true) wz rfl (h_op (vB true) wz rfl (h_nil ?_))))))
   obtain rfl := some_inj h_4
   exact cu
  ·refine h_movb rfl hc_5 wz (h_op (vS substr_2) wa rfl (h_op (vS s_1) wa rfl (h_op (vB (sEq substr_2 s_1)) wa rfl (h_op (vB (sEq substr_2 s_1)) wz rfl (h_op (vB (sEq substr_2 s_1)) wz rfl (h_nil ?_))))))
   obtain rfl := some_inj h_4
   exact cu
 ·rintro ⟨⟩ _ sl_ H_ hp_ hq_
  refine wH_at _ hp_ hq_ ?_
  rcases cond_some hF with ⟨hc_6, hF⟩ | ⟨hc_6, hF⟩
  ·refine wH_ift rfl hc_6 (wH_seq (wH_region (h_op (vI 0) wz rfl (h_nil ?_))))
   obtain rfl := some_inj hF
   exact wH_ret (fin0 (.inr rfl) [(vI 0)] ⟨rfl, trivial⟩ rfl rfl rfl)
  ·refine wH_iff rfl hc_6 (wH_seq (wH_region (h_op (vI (substr_2.size : Int)) wz rfl (h_op (vB ((substr_2.size : Int) == 1)) wz rfl (h_op (vB ((substr_2.size : Int) == 1)) wz rfl (h_nil ?_))))))
   rcases cond_some hF with ⟨hc_7, hF⟩ | ⟨hc_7, hF⟩
   ·refine wH_ift rfl hc_7 (wH_seq (wH_region (h_op (vS s_1) wz rfl (h_op (vS substr_2) wz rfl ?_))))
    obtain ⟨b_8, hy_9, hF⟩ := bind_some hF
    refine h_idxs un9 rfl rfl hy_9 wz ?_
    obtain ⟨r_10, hr_11, hF⟩ := bind_some hF
    refine h_call0 (internal_stringslite_IndexByte_ok hr_11) rfl hb292 rfl rfl rfl rfl wz (h_op (vI r_10) wz rfl (h_nil ?_))
    obtain rfl := some_inj hF
    exact wH_ret (fin0 (.inr rfl) [(vI r_10)] ⟨rfl, trivial⟩ rfl rfl rfl)
   ·refine wH_iff rfl hc_7 (wH_seq (wH_region (h_op (vI (substr_2.size : Int)) wz rfl (h_op (vS s_1) wz rfl (h_lens un9 rfl wz (h_op (vB (decide ((substr_2.size : Int) ≥ (s_1.size : Int)))) wz rfl (h_op (vB (decide ((substr_2.size : Int) ≥ (s_1.size : Int)))) wz rfl (h_nil ?_))))))))
    rcases cond_some hF with ⟨hc_12, hF⟩ | ⟨hc_12, hF⟩
    ·refine wH_ift rfl hc_12 (wH_seq (wH_region (h_op (vI (-1)) wz rfl (h_nil ?_))))
     obtain rfl := some_inj hF
     exact wH_ret (fin0 (.inr rfl) [(vI (-1))] ⟨rfl, trivial⟩ rfl rfl rfl)
    ·refine wH_iff rfl hc_12 (wH_seq (wH_region (h_op (vI (substr_2.size : Int)) wz rfl ?_)))
     cases hF
theorem strings_Index_ok {s_1 : ByteArray} {substr_2 : ByteArray} {r : Int} (hF : strings_Index s_1 substr_2 = some r) :
  FnM Tryz.prog 291 [(vS s_1), (vS substr_2)] [] (vI r) [] := by
 refine FnM.of_wH ⟨Tryz.prog, 8, [], []⟩ rfl Tryz.func291 rfl rfl (Nat.le_of_ble_eq_true rfl) (by kernel_rfl) ?_
 unfold strings_Index at hF
 refine wH_seq (wH_region (h_op (vI 0) wz rfl (h_nil (wH_seq (wH_region (h_op (vS s_1) wz rfl (h_op (vS substr_2) wz rfl ?_)))))))
 obtain ⟨r_3, hr_4, hF⟩ := bind_some hF
 refine h_call0 (internal_stringslite_Index_ok hr_4) rfl hb318 rfl rfl rfl rfl wz (h_op (vI r_3) wz rfl (h_nil ?_))
 obtain rfl := some_inj hF
 exact wH_ret (fin0 (.inr rfl) [(vI r_3)] ⟨rfl, trivial⟩ rfl rfl rfl)
theorem strings_Contains_ok {s_1 : ByteArray} {substr_2 : ByteArray} {r : Bool} (hF : strings_Contains s_1 substr_2 = some r) :
  FnM Tryz.prog 239 [(vS s_1), (vS substr_2)] [] (vB r) [] := by
 refine FnM.of_wH ⟨Tryz.prog, 9, [], []⟩ rfl Tryz.func239 rfl rfl (Nat.le_of_ble_eq_true rfl) (by kernel_rfl) ?_
 unfold strings_Contains at hF
 refine wH_seq (wH_region (h_op (vB false) wz rfl (h_nil (wH_seq (wH_region (h_op (vS s_1) wz rfl (h_op (vS substr_2) wz rfl ?_)))))))
 obtain ⟨r_3, hr_4, hF⟩ := bind_some hF
 refine h_call0 (strings_Index_ok hr_4) rfl hb291 rfl rfl rfl rfl wz (h_op (vB (decide (r_3 ≥ 0))) wz rfl (h_op (vB (decide (r_3 ≥ 0))) wz rfl (h_nil ?_)))
 obtain rfl := some_inj hF
 exact wH_ret (fin0 (.inr rfl) [(vB (decide (r_3 ≥ 0)))] ⟨rfl, trivial⟩ rfl rfl rfl)
theorem kit_IsPlain_ok {s_1 : ByteArray} {r : Bool} (hF : kit_IsPlain s_1 = some r) :
  FnM Tryz.prog 243 [(vS s_1)] [] (vB r) [] := by
 refine FnM.of_wH ⟨Tryz.prog, 33, [], []⟩ rfl Tryz.func243 rfl rfl (Nat.le_of_ble_eq_true rfl) (by kernel_rfl) ?_
 unfold kit_IsPlain at hF
 refine wH_seq (wH_region (h_op (vB false) wz rfl (h_nil (wH_seq (wH_seq (wH_region (h_op (vI 0) wz rfl (h_nil ?_))))))))
 obtain ⟨o_10, hj_11, hF⟩ := bind_some hF
 obtain ⟨nq_31, hj_11⟩ := loopO_iter hj_11
 refine wH_join (β := (Int)) (fun (s_7 : Int) => ([(0, (vS s_1))] : List (Nat × V))) (fun (s_7 : Int) => ([] : Hp)) (fun p => o_10 = .go p) ?_ ?_
 ·refine wH_block (wH_loop (β := Nat × (Int)) (fun p => (fun (k_2 : Nat) (s_7 : Int) => ([(0, (vS s_1)), (3, (vI s_7))] : List (Nat × V))) p.1 p.2) (fun p => (fun (k_2 : Nat) (s_7 : Int) => ([] : Hp)) p.1 p.2) (fun p => iterN (fun s => kit_IsPlain_L1 s_1 s) p.1 p.2 = some o_10) (fun p => p.1) (nq_31, 0) hj_11 rfl (pre_r rfl) ?_)
  rintro ⟨k_2, s_7⟩ hL_9
  dsimp only at hL_9
  cases k_2 with
  | zero => cases hL_9
  | succ k_2 =>
   obtain ⟨c_, hc_8, hL_9⟩ := bind_some hL_9
   unfold kit_IsPlain_L1 at hc_8
   refine wH_seq (wH_seq (wH_region (h_op (vI s_7) wz rfl (h_op (vS s_1) wz rfl (h_lens un9 rfl wz (h_op (vB (decide (s_7 < (s_1.size : Int)))) wz rfl (h_nil ?_)))))))
   rcases cond_some hc_8 with ⟨hc_12, hc_8⟩ | ⟨hc_12, hc_8⟩
   ·refine wH_ift rfl hc_12 (wH_skip (wH_seq (wH_block (wH_seq ?_))))
    obtain ⟨v_13, h_14, hc_8⟩ := bind_some hc_8
    refine wH_join (β := Unit) (fun _ => ([(0, (vS s_1)), (3, (vI s_7)), (19, (vB v_13))] : List (Nat × V))) (fun _ => ([] : Hp)) (fun _ => True) ?_ ?_
    ·refine wH_region (h_op (vS s_1) wz rfl (h_op (vI s_7) wz rfl ?_))
     obtain ⟨b_15, hy_16, h_14⟩ := bind_some h_14
     refine h_idxs un9 rfl rfl hy_16 wz (h_op (vB (decide ((b_15.toNat : Int) < 32))) wz rfl ?_)
     rcases cond_some h_14 with ⟨hc_17, h_14⟩ | ⟨hc_17, h_14⟩
     ·refine h_movb rfl hc_17 wz (h_skip wa (h_skip wa (h_skip wa (h_skip wa (h_op (vB true) wz rfl (h_nil ?_))))))
      obtain rfl := some_inj h_14
      exact cu
     ·refine h_movb rfl hc_17 wz (h_op (vS s_1) wa rfl (h_op (vI s_7) wa rfl ?_))
      obtain ⟨b_18, hy_19, h_14⟩ := bind_some h_14
      refine h_idxs un9 rfl rfl hy_19 wa (h_op (vB ((b_18.toNat : Int) == 127)) wa rfl (h_op (vB ((b_18.toNat : Int) == 127)) wz rfl (h_nil ?_)))
      obtain rfl := some_inj h_14
      exact cu
    ·rintro ⟨⟩ _ sl_ H_ hp_ hq_
     refine wH_at _ hp_ hq_ ?_
     rcases cond_some hc_8 with ⟨hc_20, hc_8⟩ | ⟨hc_20, hc_8⟩
     ·refine wH_ift rfl hc_20 (wH_seq (wH_region (h_op (vB false) wz rfl (h_nil ?_))))
      obtain rfl := some_inj hc_8
      obtain rfl := some_inj hL_9
      obtain rfl := some_inj hF
      exact wH_ret (fin0 (.inr rfl) [(vB false)] ⟨rfl, trivial⟩ rfl rfl rfl)
     ·refine wH_iff rfl hc_20 (wH_skip (wH_region (h_op (vI s_7) wz rfl (h_op (vI (w64 (s_7 + 1))) wz rfl (h_op (vI (w64 (s_7 + 1))) wz rfl (h_nil ?_))))))
      obtain rfl := some_inj hc_8
      exact loop_mk (k_2, (w64 (s_7 + 1))) hL_9 (Nat.lt_succ_self _) rfl (pre_r rfl)
   ·refine wH_iff rfl hc_12 (wH_exit ?_)
    obtain rfl := some_inj hc_8
    obtain rfl := some_inj hL_9
    exact cut_mk (s_7) rfl rfl (pre_r rfl)
 ·rintro s_7 ho_ sl_ H_ hp_ hq_
  subst ho_
  refine wH_at _ hp_ hq_ (wH_seq ?_)
  obtain ⟨v_21, h_22, hF⟩ := bind_some hF
  refine wH_join (β := Unit) (fun _ => ([(2, (vB v_21))] : List (Nat × V))) (fun _ => ([] : Hp)) (fun _ => True) ?_ ?_
  ·refine wH_region (h_op (vS s_1) wz rfl ?_)
   obtain ⟨r_23, hr_24, h_22⟩ := bind_some h_22
   refine h_call0 (unicode_utf8_ValidString_ok hr_24) rfl hb235 rfl rfl rfl rfl wz ?_
   rcases cond_some h_22 with ⟨hc_25, h_22⟩ | ⟨hc_25, h_22⟩
   ·refine h_movb rfl hc_25 wz (h_op (vS s_1) wa rfl ?_)
    obtain ⟨r_26, hr_27, h_22⟩ := bind_some h_22
    refine h_call0 (strings_Trim_ok hr_27) rfl hb238 rfl rfl rfl rfl wa (h_op (vS s_1) wa rfl (h_op (vB (sEq r_26 s_1)) wa rfl (h_op (vB (sEq r_26 s_1)) wz rfl ?_)))
    rcases cond_some h_22 with ⟨hc_28, h_22⟩ | ⟨hc_28, h_22⟩
    ·refine h_movb rfl hc_28 wz (h_op (vS s_1) wa rfl ?_)
     obtain ⟨r_29, hr_30, h_22⟩ := bind_some h_22
     refine h_call0 (strings_Contains_ok hr_30) rfl hb239 rfl rfl rfl rfl wa (h_op (vB (!r_29)) wa rfl (h_op (vB (!r_29)) wz rfl (h_op (vB (!r_29)) wz rfl (h_nil ?_))))
     obtain rfl := some_inj h_22
     exact cu
    ·refine h_movb rfl hc_28 wz (h_skip wa (h_skip wa (h_skip wa (h_op (vB false) wz rfl (h_op (vB false) wz rfl (h_nil ?_))))))
     obtain rfl := some_inj h_22
     exact cu
   ·refine h_movb rfl hc_25 wz (h_skip wa (h_skip wa (h_skip wa (h_skip wa (h_op (vB false) wz rfl (h_op (vB false) wz rfl (h_skip wa (h_skip wa (h_skip wa (h_op (vB false) wz rfl (h_op (vB false) wz rfl (h_nil ?_))))))))))))
    obtain rfl := some_inj h_22
    exact cu
  ·rintro ⟨⟩ _ sl_ H_ hp_ hq_
   refine wH_at _ hp_ hq_ ?_
   obtain rfl := some_inj hF
   exact wH_ret (fin0 (.inr rfl) [(vB v_21)] ⟨rfl, trivial⟩ rfl rfl rfl)
theorem alert_alertFault_ok {a_1 : Alert} {r : Int} (hF : alert_alertFault a_1 = some r) :
  FnM Tryz.prog 200 [(.d (.agg (Alert.enc a_1)))] [] (vI r) [] := by
 refine FnM.of_wH ⟨Tryz.prog, 92, [], []⟩ rfl Tryz.func200 rfl rfl (Nat.le_of_ble_eq_true rfl) (by kernel_rfl) ?_
 unfold alert_alertFault at hF
 refine wH_seq (wH_region (h_box 0 (.inl rfl) [(vS a_1.Id), (vS a_1.Sender), (vI a_1.Kind), (vL eS a_1.Refs), (vI a_1.At), (vI a_1.Until), (vI a_1.Weight), (vL Rect.enc a_1.Areas), (vS a_1.Text)] rfl rfl wz (fun n_2 => h_op (vI 0) wz rfl (h_nil (wH_seq (wH_seq ?_))))))
 obtain ⟨v_3, h_4, hF⟩ := bind_some hF
 refine wH_join (β := Unit) (fun _ => ([(1, (.ref n_2 0 0)), (17, (vB v_3))] : List (Nat × V))) (fun _ => ([(n_2, some (.cells 9 [(vS a_1.Id), (vS a_1.Sender), (vI a_1.Kind), (vL eS a_1.Refs), (vI a_1.At), (vI a_1.Until), (vI a_1.Weight), (vL Rect.enc a_1.Areas), (vS a_1.Text)]))] : Hp)) (fun _ => True) ?_ ?_
 ·refine wH_region (h_far pl82_0 rfl 0 rfl wz (h_ldr 0 0 il ft sz9 ag9 rfl rfl (vS a_1.Id) rfl wz ?_))
  obtain ⟨r_5, hr_6, h_4⟩ := bind_some h_4
  refine h_call0 (kit_IsKey_ok hr_6) rfl hb124 rfl rfl rfl rfl wz (h_op (vB (!r_5)) wz rfl ?_)
  rcases cond_some h_4 with ⟨hc_7, h_4⟩ | ⟨hc_7, h_4⟩
  ·refine h_movb rfl hc_7 wz (h_skip wa (h_skip wa (h_skip wa (h_skip wa (h_op (vB true) wz rfl (h_nil ?_))))))
   obtain rfl := some_inj h_4
   exact cu
  ·refine h_movb rfl hc_7 wz (h_far pl82_1 rfl 1 rfl wa (h_ldr 0 0 il ft sz9 ag9 rfl rfl (vS a_1.Sender) rfl wa ?_))
   obtain ⟨r_8, hr_9, h_4⟩ := bind_some h_4
   refine h_call0 (kit_IsKey_ok hr_9) rfl hb124 rfl rfl rfl rfl wa (h_op (vB (!r_8)) wa rfl (h_op (vB (!r_8)) wz rfl (h_nil ?_)))
   obtain rfl := some_inj h_4
   exact cu
 ·rintro ⟨⟩ _ sl_ H_ hp_ hq_
  refine wH_at _ hp_ hq_ ?_
  rcases cond_some hF with ⟨hc_10, hF⟩ | ⟨hc_10, hF⟩
  ·refine wH_ift rfl hc_10 (wH_seq (wH_region (h_op (vI 5) wz rfl (h_nil ?_))))
   obtain rfl := some_inj hF
   exact wH_ret (fin0 (.inr rfl) [(vI 5)] ⟨rfl, trivial⟩ rfl rfl rfl)
  ·refine wH_iff rfl hc_10 (wH_skip (wH_seq (wH_seq (wH_region (h_far pl82_2 rfl 2 rfl wz (h_ldr 0 0 il ft sz3 ag3 rfl rfl (vI a_1.Kind) rfl wz ?_))))))
   obtain ⟨r_11, hr_12, hF⟩ := bind_some hF
   refine h_call0 (kit_Outside_ok hr_12) rfl hb86 rfl rfl rfl rfl wz (h_nil ?_)
   rcases cond_some hF with ⟨hc_13, hF⟩ | ⟨hc_13, hF⟩
   ·refine wH_ift rfl hc_13 (wH_seq (wH_region (h_op (vI 4) wz rfl (h_nil ?_))))
    obtain rfl := some_inj hF
    exact wH_ret (fin0 (.inr rfl) [(vI 4)] ⟨rfl, trivial⟩ rfl rfl rfl)
   ·refine wH_iff rfl hc_13 (wH_skip (wH_seq (wH_seq (wH_region (h_ldr 0 0 il ft sz82 ag82 rfl rfl (.d (.agg (Alert.enc a_1))) rfl wz ?_)))))
    obtain ⟨r_14, hr_15, hF⟩ := bind_some hF
    refine h_call0 (alert_refsFault_ok hr_15) rfl hb242 rfl rfl rfl rfl wz (h_op (vI r_14) wz rfl (h_nil (wH_seq (wH_region (h_op (vI r_14) wz rfl (h_op (vB (r_14 != 0)) wz rfl (h_nil ?_)))))))
    rcases cond_some hF with ⟨hc_16, hF⟩ | ⟨hc_16, hF⟩
    ·refine wH_ift rfl hc_16 (wH_seq (wH_region (h_op (vI r_14) wz rfl (h_op (vI r_14) wz rfl (h_nil ?_)))))
     obtain rfl := some_inj hF
     exact wH_ret (fin0 (.inr rfl) [(vI r_14)] ⟨rfl, trivial⟩ rfl rfl rfl)
    ·refine wH_iff rfl hc_16 (wH_skip (wH_seq (wH_seq ?_)))
     obtain ⟨v_17, h_18, hF⟩ := bind_some hF
     refine wH_join (β := Unit) (fun _ => ([(1, (.ref n_2 0 0)), (45, (vB v_17))] : List (Nat × V))) (fun _ => ([(n_2, some (.cells 9 [(vS a_1.Id), (vS a_1.Sender), (vI a_1.Kind), (vL eS a_1.Refs), (vI a_1.At), (vI a_1.Until), (vI a_1.Weight), (vL Rect.enc a_1.Areas), (vS a_1.Text)]))] : Hp)) (fun _ => True) ?_ ?_
     ·refine wH_region (h_far pl82_4 rfl 4 rfl wz (h_ldr 0 0 il ft sz3 ag3 rfl rfl (vI a_1.At) rfl wz ?_))
      obtain ⟨r_19, hr_20, h_18⟩ := bind_some h_18
      refine h_call0 (kit_IsMoment_ok hr_20) rfl hb136 rfl rfl rfl rfl wz (h_op (vB (!r_19)) wz rfl ?_)
      rcases cond_some h_18 with ⟨hc_21, h_18⟩ | ⟨hc_21, h_18⟩
      ·refine h_movb rfl hc_21 wz (h_skip wa (h_skip wa (h_skip wa (h_skip wa (h_skip wa (h_skip wa (h_skip wa (h_skip wa (h_skip wa (h_op (vB true) wz rfl (h_op (vB true) wz rfl (h_skip wa (h_skip wa (h_skip wa (h_op (vB true) wz rfl (h_nil ?_))))))))))))))))
       obtain rfl := some_inj h_18
       exact cu
      ·refine h_movb rfl hc_21 wz (h_far pl82_5 rfl 5 rfl wa (h_ldr 0 0 il ft sz3 ag3 rfl rfl (vI a_1.Until) rfl wa (h_far pl82_4 rfl 4 rfl wa (h_ldr 0 0 il ft sz3 ag3 rfl rfl (vI a_1.At) rfl wa (h_op (vI (w64 (a_1.At + 1))) wa rfl (h_far pl82_4 rfl 4 rfl wa (h_ldr 0 0 il ft sz3 ag3 rfl rfl (vI a_1.At) rfl wa (h_op (vI (w64 (a_1.At + 2592000000))) wa rfl ?_))))))))
       obtain ⟨r_22, hr_23, h_18⟩ := bind_some h_18
       refine h_call0 (kit_Outside_ok hr_23) rfl hb86 rfl rfl rfl rfl wa (h_op (vB r_22) wz rfl ?_)
       rcases cond_some h_18 with ⟨hc_24, h_18⟩ | ⟨hc_24, h_18⟩
       ·refine h_movb rfl hc_24 wz (h_skip wa (h_skip wa (h_skip wa (h_op (vB true) wz rfl (h_nil ?_)))))
        obtain rfl := some_inj h_18
        exact cu
       ·refine h_movb rfl hc_24 wz (h_far pl82_6 rfl 6 rfl wa (h_ldr 0 0 il ft sz3 ag3 rfl rfl (vI a_1.Weight) rfl wa ?_))
        obtain ⟨r_25, hr_26, h_18⟩ := bind_some h_18
        refine h_call0 (kit_Outside_ok hr_26) rfl hb86 rfl rfl rfl rfl wa (h_op (vB r_25) wz rfl (h_nil ?_))
        obtain rfl := some_inj h_18
        exact cu
     ·rintro ⟨⟩ _ sl_ H_ hp_ hq_
      refine wH_at _ hp_ hq_ ?_
      rcases cond_some hF with ⟨hc_27, hF⟩ | ⟨hc_27, hF⟩
      ·refine wH_ift rfl hc_27 (wH_seq (wH_region (h_op (vI 1) wz rfl (h_nil ?_))))
       obtain rfl := some_inj hF
       exact wH_ret (fin0 (.inr rfl) [(vI 1)] ⟨rfl, trivial⟩ rfl rfl rfl)
      ·refine wH_iff rfl hc_27 (wH_skip (wH_seq (wH_seq (wH_region (h_far pl82_7 rfl 7 rfl wz (h_ldr 0 0 il ft sz50 ag50 rfl rfl (vL Rect.enc a_1.Areas) rfl wz (h_len un50 rfl wz (h_op (vB (decide ((a_1.Areas.length : Int) > 20))) wz rfl (h_nil ?_)))))))))
       rcases cond_some hF with ⟨hc_28, hF⟩ | ⟨hc_28, hF⟩
       ·refine wH_ift rfl hc_28 (wH_seq (wH_region (h_op (vI 2) wz rfl (h_nil ?_))))
        obtain rfl := some_inj hF
        exact wH_ret (fin0 (.inr rfl) [(vI 2)] ⟨rfl, trivial⟩ rfl rfl rfl)
       ·refine wH_iff rfl hc_28 (wH_skip (wH_seq (wH_seq (wH_region (h_far pl82_7 rfl 7 rfl wz (h_ldr 0 0 il ft sz50 ag50 rfl rfl (vL Rect.enc a_1.Areas) rfl wz (h_len un50 rfl wz (h_op (vI 0) wz rfl (h_nil ?_)))))))))
        obtain ⟨o_37, hj_38, hF⟩ := bind_some hF
        obtain ⟨hn_33, hj_38⟩ := forL_some hj_38
        refine wH_join (β := (Unit)) (fun (s_34 : Unit) => ([(1, (.ref n_2 0 0))] : List (Nat × V))) (fun (s_34 : Unit) => ([(n_2, some (.cells 9 [(vS a_1.Id), (vS a_1.Sender), (vI a_1.Kind), (vL eS a_1.Refs), (vI a_1.At), (vI a_1.Until), (vI a_1.Weight), (vL Rect.enc a_1.Areas), (vS a_1.Text)]))] : Hp)) (fun p => o_37 = .go p) ?_ ?_
        ·refine wH_block (wH_loop (β := Nat × (List Rect) × (Unit)) (fun p => (fun (k_29 : Nat) (l_30 : List Rect) (s_34 : Unit) => ([(1, (.ref n_2 0 0)), (51, (vL Rect.enc a_1.Areas)), (52, (vI (a_1.Areas.length : Int))), (53, (vI (k_29 : Int)))] : List (Nat × V))) p.1 p.2.1 p.2.2) (fun p => (fun (k_29 : Nat) (l_30 : List Rect) (s_34 : Unit) => ([(n_2, some (.cells 9 [(vS a_1.Id), (vS a_1.Sender), (vI a_1.Kind), (vL eS a_1.Refs), (vI a_1.At), (vI a_1.Until), (vI a_1.Weight), (vL Rect.enc a_1.Areas), (vS a_1.Text)]))] : Hp)) p.1 p.2.1 p.2.2) (fun p => forR (fun k x s => alert_alertFault_L1 k x s) p.2.1 p.1 p.2.2 = some o_37 ∧ (a_1.Areas).drop p.1 = p.2.1) (fun p => p.2.1.length) (0, a_1.Areas, ()) ⟨hj_38, rfl⟩ rfl (pre_r rfl) ?_)
         rintro ⟨k_29, l_30, s_34⟩ ⟨hL_36, hD_32⟩
         dsimp only at hL_36 hD_32
         cases l_30 with
         | nil =>
          obtain rfl := some_inj hL_36
          refine wH_seq (wH_region (h_op (vB (decide ((k_29 : Int) < (a_1.Areas.length : Int)))) wz rfl (h_nil ?_)))
          refine wH_seq (wH_iff rfl (drop_nil hD_32) (wH_exit ?_))
          exact cut_mk (s_34) rfl rfl (pre_r rfl)
         | cons x_31 l_30 =>
          obtain ⟨c_, hc_35, hL_36⟩ := bind_some hL_36
          refine wH_seq (wH_region (h_op (vB (decide ((k_29 : Int) < (a_1.Areas.length : Int)))) wz rfl (h_nil ?_)))
          refine wH_seq (wH_ift rfl (drop_cons hD_32) (wH_skip ?_))
          unfold alert_alertFault_L1 at hc_35
          refine wH_seq (wH_block (wH_seq (wH_region (h_ia es50 rfl rfl (drop_idx hD_32) rfl wz (h_ldc sz45 ag45 rfl (.d (.agg (Rect.enc x_31))) rfl wz (h_alloc 0 (.inl rfl) z45 rfl wz (fun n_39 => h_str 0 il ft 1 sz45 rfl rfl [(vI x_31.X), (vI x_31.Y), (vI x_31.W), (vI x_31.H)] rfl wz (h_nil (wH_seq (wH_region (h_ldr 0 1 il ft sz45 ag45 rfl rfl (.d (.agg (Rect.enc x_31))) rfl wz ?_)))))))))))
          obtain ⟨r_40, hr_41, hc_35⟩ := bind_some hc_35
          refine h_call0 (screen_CheckRect_ok hr_41) rfl hb96 rfl rfl rfl rfl wz (h_op (vI r_40) wz rfl (h_nil (wH_seq (wH_region (h_op (vI r_40) wz rfl (h_op (vB (r_40 != 0)) wz rfl (h_nil ?_)))))))
          rcases cond_some hc_35 with ⟨hc_42, hc_35⟩ | ⟨hc_42, hc_35⟩
          ·refine wH_ift rfl hc_42 (wH_seq (wH_region (h_op (vI r_40) wz rfl (h_op (vI r_40) wz rfl (h_nil ?_)))))
           obtain rfl := some_inj hc_35
           obtain rfl := some_inj hL_36
           obtain rfl := some_inj hF
           exact wH_ret (fin0 (.inr rfl) [(vI r_40)] ⟨rfl, trivial⟩ rfl rfl rfl)
          ·refine wH_iff rfl hc_42 (wH_skip (wH_region (h_opw (w64_next hD_32 hn_33) wz rfl (h_op (vI ((k_29 + 1 : Nat) : Int)) wz rfl (h_nil ?_)))))
           obtain rfl := some_inj hc_35
           exact loop_mk (k_29 + 1, l_30, ()) ⟨hL_36, drop_next hD_32⟩ (Nat.lt_succ_self _) rfl (pre_r rfl)
        ·rintro s_34 ho_ sl_ H_ hp_ hq_
         subst ho_
         refine wH_at _ hp_ hq_ (wH_seq (wH_region (h_far pl82_2 rfl 2 rfl wz (h_ldr 0 0 il ft sz3 ag3 rfl rfl (vI a_1.Kind) rfl wz (h_op (vB (a_1.Kind == 3)) wz rfl (h_op (vB (a_1.Kind == 3)) wz rfl (h_nil (wH_seq (wH_block (wH_seq (wH_region (h_op (vB (a_1.Kind == 3)) wz rfl (h_far pl82_7 rfl 7 rfl wz (h_ldr 0 0 il ft sz50 ag50 rfl rfl (vL Rect.enc a_1.Areas) rfl wz (h_len un50 rfl wz (h_op (vB ((a_1.Areas.length : Int) == 0)) wz rfl (h_bneq un4 rfl rfl wz (h_op (vB (!((a_1.Kind == 3) == ((a_1.Areas.length : Int) == 0)))) wz rfl (h_nil ?_)))))))))))))))))))
         rcases cond_some hF with ⟨hc_43, hF⟩ | ⟨hc_43, hF⟩
         ·refine wH_ift rfl hc_43 (wH_seq (wH_region (h_op (vI 3) wz rfl (h_nil ?_))))
          obtain rfl := some_inj hF
          exact wH_ret (fin0 (.inr rfl) [(vI 3)] ⟨rfl, trivial⟩ rfl rfl rfl)
         ·refine wH_iff rfl hc_43 (wH_seq (wH_region (h_far pl82_8 rfl 8 rfl wz (h_ldr 0 0 il ft sz9 ag9 rfl rfl (vS a_1.Text) rfl wz (h_lens un9 rfl wz (h_op (vB (decide ((a_1.Text.size : Int) > 500))) wz rfl (h_op (vB (decide ((a_1.Text.size : Int) > 500))) wz rfl (h_nil ?_))))))))
          rcases cond_some hF with ⟨hc_44, hF⟩ | ⟨hc_44, hF⟩
          ·refine wH_ift rfl hc_44 (wH_seq (wH_region (h_op (vI 2) wz rfl (h_nil ?_))))
           obtain rfl := some_inj hF
           exact wH_ret (fin0 (.inr rfl) [(vI 2)] ⟨rfl, trivial⟩ rfl rfl rfl)
          ·refine wH_iff rfl hc_44 (wH_seq ?_)
           obtain ⟨v_45, h_46, hF⟩ := bind_some hF
           refine wH_join (β := Unit) (fun _ => ([(78, (vB v_45))] : List (Nat × V))) (fun _ => ([(n_2, some (.cells 9 [(vS a_1.Id), (vS a_1.Sender), (vI a_1.Kind), (vL eS a_1.Refs), (vI a_1.At), (vI a_1.Until), (vI a_1.Weight), (vL Rect.enc a_1.Areas), (vS a_1.Text)]))] : Hp)) (fun _ => True) ?_ ?_
           ·refine wH_region (h_far pl82_8 rfl 8 rfl wz (h_ldr 0 0 il ft sz9 ag9 rfl rfl (vS a_1.Text) rfl wz ?_))
            obtain ⟨r_47, hr_48, h_46⟩ := bind_some h_46
            refine h_call0 (kit_IsPlain_ok hr_48) rfl hb243 rfl rfl rfl rfl wz (h_op (vB (!r_47)) wz rfl ?_)
            rcases cond_some h_46 with ⟨hc_49, h_46⟩ | ⟨hc_49, h_46⟩
            ·refine h_movb rfl hc_49 wz (h_skip wa (h_skip wa (h_skip wa (h_skip wa (h_skip (wn rfl rfl) (h_skip (wn rfl rfl) (h_skip wa (h_op (vB true) wz rfl (h_op (vB true) wz rfl (h_nil ?_))))))))))
             obtain rfl := some_inj h_46
             exact cu
            ·refine h_movb rfl hc_49 wz (h_far pl82_8 rfl 8 rfl wa (h_ldr 0 0 il ft sz9 ag9 rfl rfl (vS a_1.Text) rfl wa (h_op (vB (sEq a_1.Text (⟨#[]⟩ : ByteArray))) wa rfl ?_)))
             rcases cond_some h_46 with ⟨hc_50, h_46⟩ | ⟨hc_50, h_46⟩
             ·refine h_movb rfl hc_50 wa (h_op (vB (a_1.Kind == 3)) wa rfl (h_op (vB (!(a_1.Kind == 3))) wa rfl (h_op (vB (!(a_1.Kind == 3))) wa rfl (h_op (vB (!(a_1.Kind == 3))) wz rfl (h_op (vB (!(a_1.Kind == 3))) wz rfl (h_nil ?_))))))
              obtain rfl := some_inj h_46
              exact cu
             ·refine h_movb rfl hc_50 wa (h_skip wa (h_skip wa (h_op (vB false) wa rfl (h_op (vB false) wz rfl (h_op (vB false) wz rfl (h_nil ?_))))))
              obtain rfl := some_inj h_46
              exact cu
           ·rintro ⟨⟩ _ sl_ H_ hp_ hq_
            refine wH_at _ hp_ hq_ ?_
            rcases cond_some hF with ⟨hc_51, hF⟩ | ⟨hc_51, hF⟩
            ·refine wH_ift rfl hc_51 (wH_seq (wH_region (h_op (vI 3) wz rfl (h_nil ?_))))
             obtain rfl := some_inj hF
             exact wH_ret (fin0 (.inr rfl) [(vI 3)] ⟨rfl, trivial⟩ rfl rfl rfl)
            ·refine wH_iff rfl hc_51 (wH_skip (wH_seq (wH_region (h_op (vI 0) wz rfl (h_nil ?_)))))
             obtain rfl := some_inj hF
             exact wH_ret (fin0 (.inr rfl) [(vI 0)] ⟨rfl, trivial⟩ rfl rfl rfl)
theorem alert_compare_ok {a_1 : Alert} {b_2 : Alert} {r : Int} (hF : alert_compare a_1 b_2 = some r) :
  FnM Tryz.prog 201 [(.d (.agg (Alert.enc a_1))), (.d (.agg (Alert.enc b_2)))] [] (vI r) [] := by
 refine FnM.of_wH ⟨Tryz.prog, 17, [], []⟩ rfl Tryz.func201 rfl rfl (Nat.le_of_ble_eq_true rfl) (by kernel_rfl) ?_
 unfold alert_compare at hF
 refine wH_seq (wH_region (h_box 0 (.inl rfl) [(vS a_1.Id), (vS a_1.Sender), (vI a_1.Kind), (vL eS a_1.Refs), (vI a_1.At), (vI a_1.Until), (vI a_1.Weight), (vL Rect.enc a_1.Areas), (vS a_1.Text)] rfl rfl wz (fun n_3 => h_box 0 (.inl rfl) [(vS b_2.Id), (vS b_2.Sender), (vI b_2.Kind), (vL eS b_2.Refs), (vI b_2.At), (vI b_2.Until), (vI b_2.Weight), (vL Rect.enc b_2.Areas), (vS b_2.Text)] rfl rfl wz (fun n_4 => h_op (vI 0) wz rfl (h_nil (wH_seq (wH_draws (h_far pl82_4 rfl 4 rfl wz (h_ldr 1 0 (.inr (by kernel_rfl)) (fun _ _ ag => trivial) sz3 ag3 rfl rfl (vI a_1.At) rfl wz (h_far pl82_4 rfl 4 rfl wz (h_ldr 3 1 (.inr (by kernel_rfl)) (fun _ _ ag => ⟨.inl ⟨rfl, rfl⟩, trivial⟩) sz3 ag3 rfl rfl (vI b_2.At) rfl wz ?_)))))))))))
 obtain ⟨r_5, hr_6, hF⟩ := bind_some hF
 refine h_call0 (cmp_Compare_int_ok hr_6) rfl hb147 rfl rfl rfl rfl wz (h_far pl82_0 rfl 0 rfl wz (h_ldr 6 0 (.inr (by kernel_rfl)) (fun _ _ ag => ⟨.inl ⟨rfl, rfl⟩, ⟨.inl ⟨rfl, rfl⟩, trivial⟩⟩) sz9 ag9 rfl rfl (vS a_1.Id) rfl wz (h_far pl82_0 rfl 0 rfl wz (h_ldr 8 1 (.inr (by kernel_rfl)) (fun _ _ ag => ⟨.inl ⟨rfl, rfl⟩, ⟨.inl ⟨rfl, rfl⟩, ⟨.inl ⟨rfl, rfl⟩, trivial⟩⟩⟩) sz9 ag9 rfl rfl (vS b_2.Id) rfl wz ?_))))
 obtain ⟨r_7, hr_8, hF⟩ := bind_some hF
 refine h_call0 (strings_Compare_ok hr_8) rfl hb129 rfl rfl rfl rfl wz (h_lit (([r_5, r_7] : List Int).map eI) es22 ez22 rfl rfl rfl rfl rfl wz ?_)
 obtain ⟨r_9, hr_10, hF⟩ := bind_some hF
 refine h_call0 (cmp_Or_int_ok hr_10) rfl hb141 rfl rfl rfl rfl wz (h_op (vI r_9) wz rfl (h_nil ?_))
 obtain rfl := some_inj hF
 exact wH_ret (fin0 (.inr rfl) [(vI r_9)] ⟨rfl, trivial⟩ rfl rfl rfl)
theorem alert_CheckAlerts_ok {l_1 : (List Alert)} {r : Int} (hF : alert_CheckAlerts l_1 = some r) :
  FnM Tryz.prog 132 [(vL Alert.enc l_1)] [] (vI r) [] := by
 refine FnM.of_wH ⟨Tryz.prog, 52, [], []⟩ rfl Tryz.func132 rfl rfl (Nat.le_of_ble_eq_true rfl) (by kernel_rfl) ?_
 unfold alert_CheckAlerts at hF
 refine wH_seq (wH_region (h_op (vI 0) wz rfl (h_nil (wH_seq (wH_seq (wH_region (h_op (vL Alert.enc l_1) wz rfl (h_len un78 rfl wz (h_op (vB (decide ((l_1.length : Int) > 300))) wz rfl (h_nil ?_))))))))))
 rcases cond_some hF with ⟨hc_2, hF⟩ | ⟨hc_2, hF⟩
 ·refine wH_ift rfl hc_2 (wH_seq (wH_region (h_op (vI 2) wz rfl (h_nil ?_))))
  obtain rfl := some_inj hF
  exact wH_ret (fin0 (.inr rfl) [(vI 2)] ⟨rfl, trivial⟩ rfl rfl rfl)
 ·refine wH_iff rfl hc_2 (wH_skip (wH_seq (wH_seq (wH_region (h_op (vL Alert.enc l_1) wz rfl (h_len un78 rfl wz (h_op (vI 0) wz rfl (h_nil ?_))))))))
  obtain ⟨o_11, hj_12, hF⟩ := bind_some hF
  obtain ⟨hn_7, hj_12⟩ := forL_some hj_12
  refine wH_join (β := (Unit)) (fun (s_8 : Unit) => ([(0, (vL Alert.enc l_1))] : List (Nat × V))) (fun (s_8 : Unit) => ([] : Hp)) (fun p => o_11 = .go p) ?_ ?_
  ·refine wH_block (wH_loop (β := Nat × (List Alert) × (Unit)) (fun p => (fun (k_3 : Nat) (l_4 : List Alert) (s_8 : Unit) => ([(0, (vL Alert.enc l_1)), (12, (vL Alert.enc l_1)), (13, (vI (l_1.length : Int))), (14, (vI (k_3 : Int)))] : List (Nat × V))) p.1 p.2.1 p.2.2) (fun p => (fun (k_3 : Nat) (l_4 : List Alert) (s_8 : Unit) => ([] : Hp)) p.1 p.2.1 p.2.2) (fun p => forR (fun k x s => alert_CheckAlerts_L1 l_1 k x s) p.2.1 p.1 p.2.2 = some o_11 ∧ (l_1).drop p.1 = p.2.1) (fun p => p.2.1.length) (0, l_1, ()) ⟨hj_12, rfl⟩ rfl (pre_r rfl) ?_)
   rintro ⟨k_3, l_4, s_8⟩ ⟨hL_10, hD_6⟩
   dsimp only at hL_10 hD_6
   cases l_4 with
   | nil =>
    obtain rfl := some_inj hL_10
    refine wH_seq (wH_region (h_op (vB (decide ((k_3 : Int) < (l_1.length : Int)))) wz rfl (h_nil ?_)))
    refine wH_seq (wH_iff rfl (drop_nil hD_6) (wH_exit ?_))
    exact cut_mk (s_8) rfl rfl (pre_r rfl)
   | cons x_5 l_4 =>
    obtain ⟨c_, hc_9, hL_10⟩ := bind_some hL_10
    refine wH_seq (wH_region (h_op (vB (decide ((k_3 : Int) < (l_1.length : Int)))) wz rfl (h_nil ?_)))
    refine wH_seq (wH_ift rfl (drop_cons hD_6) (wH_skip ?_))
    unfold alert_CheckAlerts_L1 at hc_9
    refine wH_seq (wH_block (wH_seq (wH_region (h_op (vI (k_3 : Int)) wz rfl (h_ia es78 rfl rfl (drop_idx hD_6) rfl wz (h_ldc sz82 ag82 rfl (.d (.agg (Alert.enc x_5))) rfl wz (h_alloc 0 (.inl rfl) z82 rfl wz (fun n_13 => h_op (vI (k_3 : Int)) wz rfl (h_str 0 il ft 0 sz82 rfl rfl [(vS x_5.Id), (vS x_5.Sender), (vI x_5.Kind), (vL eS x_5.Refs), (vI x_5.At), (vI x_5.Until), (vI x_5.Weight), (vL Rect.enc x_5.Areas), (vS x_5.Text)] rfl wz (h_nil (wH_seq (wH_seq (wH_region (h_ldr 0 0 il ft sz82 ag82 rfl rfl (.d (.agg (Alert.enc x_5))) rfl wz ?_))))))))))))))
    obtain ⟨r_14, hr_15, hc_9⟩ := bind_some hc_9
    refine h_call0 (alert_alertFault_ok hr_15) rfl hb200 rfl rfl rfl rfl wz (h_op (vI r_14) wz rfl (h_nil (wH_seq (wH_region (h_op (vI r_14) wz rfl (h_op (vB (r_14 != 0)) wz rfl (h_nil ?_)))))))
    rcases cond_some hc_9 with ⟨hc_16, hc_9⟩ | ⟨hc_16, hc_9⟩
    ·refine wH_ift rfl hc_16 (wH_seq (wH_region (h_op (vI r_14) wz rfl (h_op (vI r_14) wz rfl (h_nil ?_)))))
     obtain rfl := some_inj hc_9
     obtain rfl := some_inj hL_10
     obtain rfl := some_inj hF
     exact wH_ret (fin0 (.inr rfl) [(vI r_14)] ⟨rfl, trivial⟩ rfl rfl rfl)
    ·refine wH_iff rfl hc_16 (wH_skip (wH_seq ?_))
     obtain ⟨v_17, h_18, hc_9⟩ := bind_some hc_9
     refine wH_join (β := Unit) (fun _ => ([(0, (vL Alert.enc l_1)), (12, (vL Alert.enc l_1)), (13, (vI (l_1.length : Int))), (14, (vI (k_3 : Int))), (35, (vB v_17))] : List (Nat × V))) (fun _ => ([(n_13, some (.cells 9 [(vS x_5.Id), (vS x_5.Sender), (vI x_5.Kind), (vL eS x_5.Refs), (vI x_5.At), (vI x_5.Until), (vI x_5.Weight), (vL Rect.enc x_5.Areas), (vS x_5.Text)]))] : Hp)) (fun _ => True) ?_ ?_
     ·refine wH_draws (h_op (vI (k_3 : Int)) wz rfl (h_op (vB (decide ((k_3 : Int) > 0))) wz rfl ?_))
      rcases cond_some h_18 with ⟨hc_19, h_18⟩ | ⟨hc_19, h_18⟩
      ·refine h_movb rfl hc_19 wz (h_op (vL Alert.enc l_1) wa rfl (h_op (vI (k_3 : Int)) wa rfl (h_op (vI (w64 ((k_3 : Int) - 1))) wa rfl ?_)))
       obtain ⟨y_20, hy_21, h_18⟩ := bind_some h_18
       refine h_ia es78 rfl rfl hy_21 rfl wa (h_ldc sz82 ag82 rfl (.d (.agg (Alert.enc y_20))) rfl wa (h_ldr 8 0 (.inr (by kernel_rfl)) (fun _ _ ag => trivial) sz82 ag82 rfl rfl (.d (.agg (Alert.enc x_5))) rfl wa ?_))
       obtain ⟨r_22, hr_23, h_18⟩ := bind_some h_18
       refine h_call0 (alert_compare_ok hr_23) rfl hb201 rfl rfl rfl rfl wa (h_op (vB (decide (r_22 ≥ 0))) wa rfl (h_op (vB (decide (r_22 ≥ 0))) wz rfl (h_nil ?_)))
       obtain rfl := some_inj h_18
       exact cu
      ·refine h_movb rfl hc_19 wz (h_skip wa (h_skip wa (h_skip wa (h_skip wa (h_skip wa (h_skip wa (h_skip wa (h_skip wa (h_op (vB false) wz rfl (h_nil ?_))))))))))
       obtain rfl := some_inj h_18
       exact cu
     ·rintro ⟨⟩ _ sl_ H_ hp_ hq_
      refine wH_at _ hp_ hq_ ?_
      rcases cond_some hc_9 with ⟨hc_24, hc_9⟩ | ⟨hc_24, hc_9⟩
      ·refine wH_ift rfl hc_24 (wH_seq (wH_region (h_op (vI 7) wz rfl (h_nil ?_))))
       obtain rfl := some_inj hc_9
       obtain rfl := some_inj hL_10
       obtain rfl := some_inj hF
       exact wH_ret (fin0 (.inr rfl) [(vI 7)] ⟨rfl, trivial⟩ rfl rfl rfl)
      ·refine wH_iff rfl hc_24 (wH_skip (wH_region (h_opw (w64_next hD_6 hn_7) wz rfl (h_op (vI ((k_3 + 1 : Nat) : Int)) wz rfl (h_nil ?_)))))
       obtain rfl := some_inj hc_9
       exact loop_mk (k_3 + 1, l_4, ()) ⟨hL_10, drop_next hD_6⟩ (Nat.lt_succ_self _) rfl (pre_r rfl)
  ·rintro s_8 ho_ sl_ H_ hp_ hq_
   subst ho_
   refine wH_at _ hp_ hq_ (wH_seq (wH_region (h_mkmap 0 (.inl rfl) wz (fun n_25 => h_reH (b' := some (bM D.str D.bool ([] : List (ByteArray × Bool)))) 0 rfl rfl (h_op (.map n_25) wz rfl (h_nil (wH_seq (wH_seq (wH_region (h_op (vL Alert.enc l_1) wz rfl (h_len un78 rfl wz (h_op (vI 0) wz rfl (h_nil ?_)))))))))))))
   obtain ⟨o_34, hj_35, hF⟩ := bind_some hF
   obtain ⟨hn_30, hj_35⟩ := forL_some hj_35
   refine wH_join (β := ((List (ByteArray × Bool)))) (fun (s_31 : (List (ByteArray × Bool))) => ([] : List (Nat × V))) (fun (s_31 : (List (ByteArray × Bool))) => ([(n_25, some (bM D.str D.bool s_31))] : Hp)) (fun p => o_34 = .go p) ?_ ?_
   ·refine wH_block (wH_loop (β := Nat × (List Alert) × ((List (ByteArray × Bool)))) (fun p => (fun (k_26 : Nat) (l_27 : List Alert) (s_31 : (List (ByteArray × Bool))) => ([(6, (.map n_25)), (38, (vL Alert.enc l_1)), (39, (vI (l_1.length : Int))), (40, (vI (k_26 : Int)))] : List (Nat × V))) p.1 p.2.1 p.2.2) (fun p => (fun (k_26 : Nat) (l_27 : List Alert) (s_31 : (List (ByteArray × Bool))) => ([(n_25, some (bM D.str D.bool s_31))] : Hp)) p.1 p.2.1 p.2.2) (fun p => forR (fun k x s => alert_CheckAlerts_L2 k x s) p.2.1 p.1 p.2.2 = some o_34 ∧ (l_1).drop p.1 = p.2.1) (fun p => p.2.1.length) (0, l_1, ([] : List (ByteArray × Bool))) ⟨hj_35, rfl⟩ rfl (pre_r rfl) ?_)
    rintro ⟨k_26, l_27, s_31⟩ ⟨hL_33, hD_29⟩
    dsimp only at hL_33 hD_29
    cases l_27 with
    | nil =>
     obtain rfl := some_inj hL_33
     refine wH_seq (wH_region (h_op (vB (decide ((k_26 : Int) < (l_1.length : Int)))) wz rfl (h_nil ?_)))
     refine wH_seq (wH_iff rfl (drop_nil hD_29) (wH_exit ?_))
     exact cut_mk (s_31) rfl rfl (pre_r rfl)
    | cons x_28 l_27 =>
     obtain ⟨c_, hc_32, hL_33⟩ := bind_some hL_33
     refine wH_seq (wH_region (h_op (vB (decide ((k_26 : Int) < (l_1.length : Int)))) wz rfl (h_nil ?_)))
     refine wH_seq (wH_ift rfl (drop_cons hD_29) (wH_skip ?_))
     unfold alert_CheckAlerts_L2 at hc_32
     refine wH_seq (wH_block (wH_seq (wH_region (h_ia es78 rfl rfl (drop_idx hD_29) rfl wz (h_ldc sz82 ag82 rfl (.d (.agg (Alert.enc x_28))) rfl wz (h_alloc 0 (.inl rfl) z82 rfl wz (fun n_36 => h_str 0 il ft 1 sz82 rfl rfl [(vS x_28.Id), (vS x_28.Sender), (vI x_28.Kind), (vL eS x_28.Refs), (vI x_28.At), (vI x_28.Until), (vI x_28.Weight), (vL Rect.enc x_28.Areas), (vS x_28.Text)] rfl wz (h_nil (wH_seq (wH_seq (wH_region (h_op (.map n_25) wz rfl (h_far pl82_0 rfl 0 rfl wz (h_ldr 0 1 il ft sz9 ag9 rfl rfl (vS x_28.Id) rfl wz (h_lookup (eq := eqS) (kD := D.str) (vD := D.bool) (es := s_31) (k := x_28.Id) (z := false) 0 0 il ft (fun _ _ => rfl) mt207 (by kernel_rfl) (by kernel_rfl) rfl rfl rfl (vB ((mGet eqS s_31 x_28.Id).getD false)) rfl wz (h_nil ?_))))))))))))))))
     rcases cond_some hc_32 with ⟨hc_37, hc_32⟩ | ⟨hc_37, hc_32⟩
     ·refine wH_ift rfl hc_37 (wH_seq (wH_region (h_op (vI 6) wz rfl (h_nil ?_))))
      obtain rfl := some_inj hc_32
      obtain rfl := some_inj hL_33
      obtain rfl := some_inj hF
      exact wH_ret (fin0 (.inr rfl) [(vI 6)] ⟨rfl, trivial⟩ rfl rfl rfl)
     ·refine wH_iff rfl hc_37 (wH_skip (wH_region (h_op (.map n_25) wz rfl (h_far pl82_0 rfl 0 rfl wz (h_ldr 0 1 il ft sz9 ag9 rfl rfl (vS x_28.Id) rfl wz (h_mapset (eq := eqS) (kD := D.str) (vD := D.bool) (es := s_31) (k := x_28.Id) (v := true) 0 0 il ft (fun _ _ => rfl) mt207 (by kernel_rfl) rfl rfl rfl rfl wz (h_nil (wH_region (h_opw (w64_next hD_29 hn_30) wz rfl (h_op (vI ((k_26 + 1 : Nat) : Int)) wz rfl (h_nil ?_)))))))))))
      obtain rfl := some_inj hc_32
      exact loop_mk (k_26 + 1, l_27, (mSet eqS s_31 x_28.Id true)) ⟨hL_33, drop_next hD_29⟩ (Nat.lt_succ_self _) rfl (pre_r rfl)
   ·rintro s_31 ho_ sl_ H_ hp_ hq_
    subst ho_
    refine wH_at _ hp_ hq_ (wH_seq (wH_region (h_op (vI 0) wz rfl (h_nil ?_))))
    obtain rfl := some_inj hF
    exact wH_ret (fin0 (.inr rfl) [(vI 0)] ⟨rfl, trivial⟩ rfl rfl rfl)
end Go.Proofs.YtpojeclokolkaaaGreatDoor.Law

