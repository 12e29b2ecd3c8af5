/-
 The machine computes these plain functions (written by a program of ours).
-/
import Derived.Test.YtpojeclokolkaaaGreatDoorFacts
import Derived.Test.YtpojeclokolkaaaGreatDoorDefs
import Derived.Test.YtpojeclokolkaaaGreatDoorPf5
open Go Go.Eng Go.Proofs
namespace Go.Proofs.YtpojeclokolkaaaGreatDoor.Law
set_option maxRecDepth 100000
set_option linter.unusedVariables false
set_option maxHeartbeats 1000000
theorem keep_MatchesAreOnce_ok {l_1 : (List Int)} {r : Bool} (hF : keep_MatchesAreOnce l_1 = some r) :
  FnM Tryz.prog 3 [(vL eI l_1)] [] (vB r) [] := by
 refine FnM.of_wH ⟨Tryz.prog, 167, [], []⟩ rfl Tryz.func3 rfl rfl (Nat.le_of_ble_eq_true rfl) (by kernel_rfl) ?_
 unfold keep_MatchesAreOnce at hF
 refine wH_seq (wH_region (h_op (vB false) wz rfl (h_nil (wH_seq (wH_region (h_op (vL eI l_1) wz rfl (h_op (.d (.agg (Stream.enc (⟨l_1, 0⟩ : Stream)))) wz (by kernel_rfl) (h_box 0 (.inl rfl) [(vL eI l_1), (vI 0)] rfl rfl wz (fun n_2 => h_op (.ref n_2 0 0) wz rfl (h_nil (wH_seq (wH_region (h_op (.ref n_2 0 0) wz rfl ?_)))))))))))))
 obtain ⟨r_3, hr_4, hF⟩ := bind_some hF
 refine h_callq 0 [0] il ft (mk_Stream_RightPlays_ok hr_4) rfl hb12 rfl (by kernel_rfl) (by kernel_rfl) (by kernel_rfl) (by kernel_rfl) (by kernel_rfl) (by kernel_rfl) (by kernel_rfl) (by decide) (by kernel_rfl) wz (vL Play.enc r_3.1) (by kernel_rfl) ([(n_2, some (.cells 2 [(vL eI r_3.2.L), (vI r_3.2.f_at)]))] : Hp) (by kernel_rfl) (h_op (.ref n_2 0 0) wz rfl ?_)
 obtain ⟨r_6, hr_7, hF⟩ := bind_some hF
 refine h_callq 0 [0] il ft (mk_Stream_RightPlays_ok hr_7) rfl hb12 rfl (by kernel_rfl) (by kernel_rfl) (by kernel_rfl) (by kernel_rfl) (by kernel_rfl) (by kernel_rfl) (by kernel_rfl) (by decide) (by kernel_rfl) wz (vL Play.enc r_6.1) (by kernel_rfl) ([(n_2, some (.cells 2 [(vL eI r_6.2.L), (vI r_6.2.f_at)]))] : Hp) (by kernel_rfl) (h_op (.ref n_2 0 0) wz rfl ?_)
 obtain ⟨r_9, hr_10, hF⟩ := bind_some hF
 refine h_callq 0 [0] il ft (mk_Stream_Range_ok hr_10) rfl hb13 rfl (by kernel_rfl) (by kernel_rfl) (by kernel_rfl) (by kernel_rfl) (by kernel_rfl) (by kernel_rfl) (by kernel_rfl) (by decide) (by kernel_rfl) wz (vI r_9.1) (by kernel_rfl) ([(n_2, some (.cells 2 [(vL eI r_9.2.L), (vI r_9.2.f_at)]))] : Hp) (by kernel_rfl) (h_op (vL Play.enc r_3.1) wz rfl (h_op (vL Play.enc r_6.1) wz rfl (h_op (vI r_9.1) wz rfl (h_nil (wH_seq (wH_region (h_op (vL Play.enc r_3.1) wz rfl (h_op (vL Play.enc r_6.1) wz rfl (h_op (vI r_9.1) wz rfl ?_)))))))))
 obtain ⟨r_12, hr_13, hF⟩ := bind_some hF
 refine h_call0 (proof_Compare_ok hr_13) rfl hb14 rfl rfl rfl rfl wz (h_op (.tup [(vL Match.enc r_12.1), (vL eI r_12.2.1), (vI r_12.2.2)]) wz rfl (h_op (vL Match.enc r_12.1) wz rfl (h_op (vL eI r_12.2.1) wz rfl (h_op (vI r_12.2.2) wz rfl (h_op (vL Match.enc r_12.1) wz rfl (h_op (vL eI r_12.2.1) wz rfl (h_op (vI r_12.2.2) wz rfl (h_nil (wH_seq (wH_seq ?_))))))))))
 obtain ⟨v_14, h_15, hF⟩ := bind_some hF
 refine wH_join (β := Unit) (fun _ => ([(4, (vL Play.enc r_3.1)), (5, (vL Play.enc r_6.1)), (6, (vI r_9.1)), (7, (vL Match.enc r_12.1)), (8, (vL eI r_12.2.1)), (45, (vB v_14))] : List (Nat × V))) (fun _ => ([(n_2, some (.cells 2 [(vL eI r_9.2.L), (vI r_9.2.f_at)]))] : Hp)) (fun _ => True) ?_ ?_
 ·refine wH_region (h_op (vI r_12.2.2) wz rfl (h_op (vB (r_12.2.2 != 0)) wz rfl ?_))
  rcases cond_some h_15 with ⟨hc_16, h_15⟩ | ⟨hc_16, h_15⟩
  ·refine h_movb rfl hc_16 wz (h_skip wa (h_skip wa (h_skip wa (h_skip wa (h_skip wa (h_op (vB true) wz rfl (h_nil ?_)))))))
   obtain rfl := some_inj h_15
   exact cu
  ·refine h_movb rfl hc_16 wz (h_op (vL Match.enc r_12.1) wa rfl (h_len un29 rfl wa (h_op (vL Play.enc r_3.1) wa rfl (h_len un26 rfl wa (h_op (vB ((r_12.1.length : Int) != (r_3.1.length : Int))) wa rfl (h_op (vB ((r_12.1.length : Int) != (r_3.1.length : Int))) wz rfl (h_nil ?_)))))))
   obtain rfl := some_inj h_15
   exact cu
 ·rintro ⟨⟩ _ sl_ H_ hp_ hq_
  refine wH_at _ hp_ hq_ ?_
  rcases cond_some hF with ⟨hc_17, hF⟩ | ⟨hc_17, hF⟩
  ·refine wH_ift rfl hc_17 (wH_seq (wH_region (h_op (vB false) wz rfl (h_nil ?_))))
   obtain rfl := some_inj hF
   exact wH_ret (fin0 (.inr rfl) [(vB false)] ⟨rfl, trivial⟩ rfl rfl rfl)
  ·refine wH_iff rfl hc_17 (wH_skip (wH_seq (wH_region (h_op .nil wz rfl (h_nil (wH_seq (wH_seq (wH_region (h_op (vL Match.enc r_12.1) wz rfl (h_len un29 rfl wz (h_op (vI 0) wz rfl (h_nil (wH_new (fun n_24 => ?_))))))))))))))
   obtain ⟨o_29, hj_30, hF⟩ := bind_some hF
   obtain ⟨hn_22, hj_30⟩ := forL_some hj_30
   refine wH_join (β := ((List Int)) × Nm) (fun p => (fun (s_23 : (List Int)) (n_26 : Nm) => ([(4, (vL Play.enc r_3.1)), (5, (vL Play.enc r_6.1)), (8, (vL eI r_12.2.1)), (10, (gV n_26 1 s_23))] : List (Nat × V))) p.1 p.2) (fun p => (fun (s_23 : (List Int)) (n_26 : Nm) => ([(n_2, some (.cells 2 [(vL eI r_9.2.L), (vI r_9.2.f_at)])), (n_26, gB 1 eI s_23)] : Hp)) p.1 p.2) (fun p => o_29 = .go p.1) ?_ ?_
   ·refine wH_block (wH_loop (β := Nat × (List Match) × ((List Int)) × Nm) (fun p => (fun (k_18 : Nat) (l_19 : List Match) (s_23 : (List Int)) (n_26 : Nm) => ([(4, (vL Play.enc r_3.1)), (5, (vL Play.enc r_6.1)), (6, (vI r_9.1)), (8, (vL eI r_12.2.1)), (10, (gV n_26 1 s_23)), (46, (vL Match.enc r_12.1)), (47, (vI (r_12.1.length : Int))), (48, (vI (k_18 : Int)))] : List (Nat × V))) p.1 p.2.1 p.2.2.1 p.2.2.2) (fun p => (fun (k_18 : Nat) (l_19 : List Match) (s_23 : (List Int)) (n_26 : Nm) => ([(n_2, some (.cells 2 [(vL eI r_9.2.L), (vI r_9.2.f_at)])), (n_26, gB 1 eI s_23)] : Hp)) p.1 p.2.1 p.2.2.1 p.2.2.2) (fun p => forR (fun k x s => keep_MatchesAreOnce_L1 r_6 r_3 r_12 r_9 k x s) p.2.1 p.1 p.2.2.1 = some o_29 ∧ (r_12.1).drop p.1 = p.2.1) (fun p => p.2.1.length) (0, r_12.1, ([] : List Int), n_24) ⟨hj_30, rfl⟩ rfl (pre_r rfl) ?_)
    rintro ⟨k_18, l_19, s_23, n_26⟩ ⟨hL_28, hD_21⟩
    dsimp only at hL_28 hD_21
    cases l_19 with
    | nil =>
     obtain rfl := some_inj hL_28
     refine wH_seq (wH_region (h_op (vB (decide ((k_18 : Int) < (r_12.1.length : Int)))) wz rfl (h_nil ?_)))
     refine wH_seq (wH_iff rfl (drop_nil hD_21) (wH_exit ?_))
     exact cut_mk (s_23, n_26) rfl rfl (pre_r rfl)
    | cons x_20 l_19 =>
     obtain ⟨c_, hc_27, hL_28⟩ := bind_some hL_28
     refine wH_seq (wH_region (h_op (vB (decide ((k_18 : Int) < (r_12.1.length : Int)))) wz rfl (h_nil ?_)))
     refine wH_seq (wH_ift rfl (drop_cons hD_21) (wH_skip ?_))
     unfold keep_MatchesAreOnce_L1 at hc_27
     refine wH_seq (wH_block (wH_seq (wH_region (h_op (vI (k_18 : Int)) wz rfl (h_ia es29 rfl rfl (drop_idx hD_21) rfl wz (h_ldc sz34 ag34 rfl (.d (.agg (Match.enc x_20))) rfl wz (h_alloc 0 (.inl rfl) z34 rfl wz (fun n_31 => h_op (vI (k_18 : Int)) wz rfl (h_str 0 il ft 2 sz34 rfl rfl [(vI x_20.Want), (vI x_20.Have)] rfl wz (h_nil (wH_seq (wH_seq ?_))))))))))))
     obtain ⟨v_32, h_33, hc_27⟩ := bind_some hc_27
     refine wH_join (β := Unit) (fun _ => ([(4, (vL Play.enc r_3.1)), (5, (vL Play.enc r_6.1)), (6, (vI r_9.1)), (8, (vL eI r_12.2.1)), (10, (gV n_26 1 s_23)), (11, (vI (k_18 : Int))), (12, (.ref n_31 0 0)), (46, (vL Match.enc r_12.1)), (47, (vI (r_12.1.length : Int))), (48, (vI (k_18 : Int))), (63, (vB v_32))] : List (Nat × V))) (fun _ => ([(n_2, some (.cells 2 [(vL eI r_9.2.L), (vI r_9.2.f_at)])), (n_26, gB 1 eI s_23), (n_31, some (.cells 2 [(vI x_20.Want), (vI x_20.Have)]))] : Hp)) (fun _ => True) ?_ ?_
     ·refine wH_region (h_far pl34_0 rfl 0 rfl wz (h_ldr 0 2 il ft sz3 ag3 rfl rfl (vI x_20.Want) rfl wz (h_op (vI (k_18 : Int)) wz rfl (h_op (vB (x_20.Want != (k_18 : Int))) wz rfl ?_))))
      rcases cond_some h_33 with ⟨hc_34, h_33⟩ | ⟨hc_34, h_33⟩
      ·refine h_movb rfl hc_34 wz (h_skip wa (h_skip wa (h_skip wa (h_skip wa (h_skip wa (h_op (vB true) wz rfl (h_nil ?_)))))))
       obtain rfl := some_inj h_33
       exact cu
      ·refine h_movb rfl hc_34 wz (h_far pl34_1 rfl 1 rfl wa (h_ldr 0 2 il ft sz3 ag3 rfl rfl (vI x_20.Have) rfl wa (h_op (vL Play.enc r_6.1) wa rfl (h_len un26 rfl wa (h_op (vB (decide (x_20.Have ≥ (r_6.1.length : Int)))) wa rfl (h_op (vB (decide (x_20.Have ≥ (r_6.1.length : Int)))) wz rfl (h_nil ?_)))))))
       obtain rfl := some_inj h_33
       exact cu
     ·rintro ⟨⟩ _ sl_ H_ hp_ hq_
      refine wH_at _ hp_ hq_ ?_
      rcases cond_some hc_27 with ⟨hc_35, hc_27⟩ | ⟨hc_35, hc_27⟩
      ·refine wH_ift rfl hc_35 (wH_seq (wH_region (h_op (vB false) wz rfl (h_nil ?_))))
       obtain rfl := some_inj hc_27
       obtain rfl := some_inj hL_28
       obtain rfl := some_inj hF
       exact wH_ret (fin0 (.inr rfl) [(vB false)] ⟨rfl, trivial⟩ rfl rfl rfl)
      ·refine wH_iff rfl hc_35 (wH_skip (wH_seq (wH_seq (wH_region (h_far pl34_1 rfl 1 rfl wz (h_ldr 0 2 il ft sz3 ag3 rfl rfl (vI x_20.Have) rfl wz (h_op (vB (decide (x_20.Have < 0))) wz rfl (h_nil ?_))))))))
       rcases cond_some hc_27 with ⟨hc_36, hc_27⟩ | ⟨hc_36, hc_27⟩
       ·refine wH_ift rfl hc_36 (wH_exit (wH_region (h_opw (w64_next hD_21 hn_22) wz rfl (h_op (vI ((k_18 + 1 : Nat) : Int)) wz rfl (h_nil ?_)))))
        obtain rfl := some_inj hc_27
        exact loop_mk (k_18 + 1, l_19, s_23, n_26) ⟨hL_28, drop_next hD_21⟩ (Nat.lt_succ_self _) rfl (pre_r rfl)
       ·refine wH_iff rfl hc_36 (wH_skip (wH_seq (wH_draws (h_op (vL Play.enc r_3.1) wz rfl (h_op (vI (k_18 : Int)) wz rfl ?_)))))
        obtain ⟨y_37, hy_38, hc_27⟩ := bind_some hc_27
        refine h_ia es26 rfl rfl hy_38 rfl wz (h_ldc sz36 ag36 rfl (.d (.agg (Play.enc y_37))) rfl wz (h_op (vL Play.enc r_6.1) wz rfl (h_far pl34_1 rfl 1 rfl wz (h_ldr 6 2 (.inr (by kernel_rfl)) (fun _ _ ag => trivial) sz3 ag3 rfl rfl (vI x_20.Have) rfl wz ?_))))
        obtain ⟨y_39, hy_40, hc_27⟩ := bind_some hc_27
        refine h_ia es26 rfl rfl hy_40 rfl wz (h_ldc sz36 ag36 rfl (.d (.agg (Play.enc y_39))) rfl wz (h_alloc 9 (.inr (by kernel_rfl)) z36 rfl wz (fun n_41 => h_alloc 10 (.inr (by kernel_rfl)) z36 rfl wz (fun n_42 => h_str 11 (.inr (by kernel_rfl)) (fun _ _ ag => ⟨.inr (.inl (dis1 (ag_ne ag (i := 3) (j := 2) rfl rfl (by decide)))), ⟨.inr (.inr (by kernel_rfl)), ⟨.inr (.inr (by kernel_rfl)), trivial⟩⟩⟩) 3 sz36 rfl rfl [(vS y_37.Player), (vS y_37.Item), (vI y_37.At), (vI y_37.Long)] rfl wz (h_str 12 (.inr (by kernel_rfl)) (fun _ _ ag => ⟨.inr (.inr (by kernel_rfl)), ⟨.inr (.inr (by kernel_rfl)), ⟨.inr (.inr (by kernel_rfl)), ⟨.inr (.inr (by kernel_rfl)), trivial⟩⟩⟩⟩) 4 sz36 rfl rfl [(vS y_39.Player), (vS y_39.Item), (vI y_39.At), (vI y_39.Long)] rfl wz (h_nil (wH_seq (wH_seq ?_))))))))
        obtain ⟨v_43, h_44, hc_27⟩ := bind_some hc_27
        refine wH_join (β := Unit) (fun _ => ([(4, (vL Play.enc r_3.1)), (5, (vL Play.enc r_6.1)), (6, (vI r_9.1)), (8, (vL eI r_12.2.1)), (10, (gV n_26 1 s_23)), (12, (.ref n_31 0 0)), (46, (vL Match.enc r_12.1)), (47, (vI (r_12.1.length : Int))), (48, (vI (k_18 : Int))), (114, (vB v_43))] : List (Nat × V))) (fun _ => ([(n_2, some (.cells 2 [(vL eI r_9.2.L), (vI r_9.2.f_at)])), (n_26, gB 1 eI s_23), (n_31, some (.cells 2 [(vI x_20.Want), (vI x_20.Have)])), (n_41, some (.cells 4 [(vS y_37.Player), (vS y_37.Item), (vI y_37.At), (vI y_37.Long)])), (n_42, some (.cells 4 [(vS y_39.Player), (vS y_39.Item), (vI y_39.At), (vI y_39.Long)]))] : Hp)) (fun _ => True) ?_ ?_
        ·refine wH_region (h_op (gV n_26 1 s_23) wz rfl (h_far pl34_1 rfl 1 rfl wz (h_ldr 0 2 il ft sz3 ag3 rfl rfl (vI x_20.Have) rfl wz ?_)))
         obtain ⟨r_45, hr_46, h_44⟩ := bind_some h_44
         refine h_callv 0 [] 1 0 il ft (slices_Contains_int_int_v1_ok hr_46) rfl hb15 rfl rfl rfl (by kernel_rfl) rfl (.inl rfl) rfl (by kernel_rfl) (by kernel_rfl) (by kernel_rfl) (by kernel_rfl) rfl (by decide) (by kernel_rfl) gB_ok (gB_ho rfl) wz ([(n_2, some (.cells 2 [(vL eI r_9.2.L), (vI r_9.2.f_at)])), (n_26, gB 1 eI s_23), (n_31, some (.cells 2 [(vI x_20.Want), (vI x_20.Have)])), (n_41, some (.cells 4 [(vS y_37.Player), (vS y_37.Item), (vI y_37.At), (vI y_37.Long)])), (n_42, some (.cells 4 [(vS y_39.Player), (vS y_39.Item), (vI y_39.At), (vI y_39.Long)]))] : Hp) (by kernel_rfl) ?_
         rcases cond_some h_44 with ⟨hc_47, h_44⟩ | ⟨hc_47, h_44⟩
         ·refine h_movb rfl hc_47 wz (h_skip wa (h_skip wa (h_skip wa (h_skip wa (h_op (vB true) wz rfl (h_op (vB true) wz rfl (h_skip wa (h_skip wa (h_skip wa (h_skip wa (h_skip wa (h_op (vB true) wz rfl (h_op (vB true) wz rfl (h_skip wa (h_skip wa (h_skip wa (h_skip wa (h_skip wa (h_op (vB true) wz rfl (h_op (vB true) wz rfl (h_skip wa (h_skip wa (h_skip wa ?_)))))))))))))))))))))))
          refine h_skip wa (h_skip wa (h_skip wa (h_skip wa (h_skip wa (h_skip wa (h_skip wa (h_skip wa (h_skip wa (h_skip wa (h_op (vB true) wz rfl (h_nil ?_)))))))))))
          obtain rfl := some_inj h_44
          exact cu
         ·refine h_movb rfl hc_47 wz (h_op (vL eI r_12.2.1) wa rfl (h_far pl34_1 rfl 1 rfl wa (h_ldr 0 2 il ft sz3 ag3 rfl rfl (vI x_20.Have) rfl wa ?_)))
          obtain ⟨r_48, hr_49, h_44⟩ := bind_some h_44
          refine h_call0 (slices_Contains_int_int_ok hr_49) rfl hb15 rfl rfl rfl rfl wa (h_op (vB r_48) wz rfl ?_)
          rcases cond_some h_44 with ⟨hc_50, h_44⟩ | ⟨hc_50, h_44⟩
          ·refine h_movb rfl hc_50 wz (h_skip wa (h_skip wa (h_skip wa (h_skip wa (h_skip wa (h_op (vB true) wz rfl (h_op (vB true) wz rfl (h_skip wa (h_skip wa (h_skip wa (h_skip wa (h_skip wa (h_op (vB true) wz rfl (h_op (vB true) wz rfl (h_skip wa (h_skip wa (h_skip wa (h_skip wa (h_skip wa (h_skip wa (h_skip wa (h_skip wa (h_skip wa ?_)))))))))))))))))))))))
           refine h_skip wa (h_skip wa (h_skip wa (h_skip wa (h_op (vB true) wz rfl (h_nil ?_)))))
           obtain rfl := some_inj h_44
           exact cu
          ·refine h_movb rfl hc_50 wz (h_far pl36_0 rfl 0 rfl wa (h_ldr 0 3 il ft sz9 ag9 rfl rfl (vS y_37.Player) rfl wa (h_far pl36_0 rfl 0 rfl wa (h_ldr 0 4 il ft sz9 ag9 rfl rfl (vS y_39.Player) rfl wa (h_op (vB (sNe y_37.Player y_39.Player)) wa rfl (h_op (vB (sNe y_37.Player y_39.Player)) wz rfl ?_))))))
           rcases cond_some h_44 with ⟨hc_51, h_44⟩ | ⟨hc_51, h_44⟩
           ·refine h_movb rfl hc_51 wz (h_skip wa (h_skip wa (h_skip wa (h_skip wa (h_skip wa (h_op (vB true) wz rfl (h_op (vB true) wz rfl (h_skip wa (h_skip wa (h_skip wa (h_skip wa (h_skip wa (h_skip wa (h_skip wa (h_skip wa (h_skip wa (h_skip wa (h_skip wa (h_skip wa (h_skip wa (h_op (vB true) wz rfl (h_nil ?_))))))))))))))))))))))
            obtain rfl := some_inj h_44
            exact cu
           ·refine h_movb rfl hc_51 wz (h_far pl36_1 rfl 1 rfl wa (h_ldr 0 3 il ft sz9 ag9 rfl rfl (vS y_37.Item) rfl wa (h_far pl36_1 rfl 1 rfl wa (h_ldr 0 4 il ft sz9 ag9 rfl rfl (vS y_39.Item) rfl wa (h_op (vB (sNe y_37.Item y_39.Item)) wa rfl (h_op (vB (sNe y_37.Item y_39.Item)) wz rfl ?_))))))
            rcases cond_some h_44 with ⟨hc_52, h_44⟩ | ⟨hc_52, h_44⟩
            ·refine h_movb rfl hc_52 wz (h_skip wa (h_skip wa (h_skip wa (h_skip wa (h_skip wa (h_skip wa (h_skip wa (h_skip wa (h_skip wa (h_skip wa (h_skip wa (h_skip wa (h_skip wa (h_op (vB true) wz rfl (h_nil ?_)))))))))))))))
             obtain rfl := some_inj h_44
             exact cu
            ·refine h_movb rfl hc_52 wz (h_far pl36_2 rfl 2 rfl wa (h_ldr 0 3 il ft sz3 ag3 rfl rfl (vI y_37.At) rfl wa (h_far pl36_2 rfl 2 rfl wa (h_ldr 0 4 il ft sz3 ag3 rfl rfl (vI y_39.At) rfl wa (h_op (vI (w64 (y_37.At - y_39.At))) wa rfl (h_far pl36_2 rfl 2 rfl wa (h_ldr 0 4 il ft sz3 ag3 rfl rfl (vI y_39.At) rfl wa (h_far pl36_2 rfl 2 rfl wa (h_ldr 0 3 il ft sz3 ag3 rfl rfl (vI y_37.At) rfl wa (h_op (vI (w64 (y_39.At - y_37.At))) wa rfl (h_minmax (vI (maxI (w64 (y_37.At - y_39.At)) (w64 (y_39.At - y_37.At)))) rfl (.inr rfl) wa (h_op (vI r_9.1) wa rfl (h_op (vB (decide ((maxI (w64 (y_37.At - y_39.At)) (w64 (y_39.At - y_37.At))) > r_9.1))) wa rfl (h_op (vB (decide ((maxI (w64 (y_37.At - y_39.At)) (w64 (y_39.At - y_37.At))) > r_9.1))) wz rfl (h_nil ?_)))))))))))))))
             obtain rfl := some_inj h_44
             exact cu
        ·rintro ⟨⟩ _ sl_ H_ hp_ hq_
         refine wH_at _ hp_ hq_ ?_
         rcases cond_some hc_27 with ⟨hc_53, hc_27⟩ | ⟨hc_53, hc_27⟩
         ·refine wH_ift rfl hc_53 (wH_seq (wH_region (h_op (vB false) wz rfl (h_nil ?_))))
          obtain rfl := some_inj hc_27
          obtain rfl := some_inj hL_28
          obtain rfl := some_inj hF
          exact wH_ret (fin0 (.inr rfl) [(vB false)] ⟨rfl, trivial⟩ rfl rfl rfl)
         ·refine wH_iff rfl hc_53 (wH_skip (wH_region (h_op (gV n_26 1 s_23) wz rfl (h_far pl34_1 rfl 1 rfl wz (h_ldr 0 2 il ft sz3 ag3 rfl rfl (vI x_20.Have) rfl wz (h_lit (([x_20.Have] : List Int).map eI) es22 ez22 rfl rfl rfl rfl rfl wz ?_))))))
          obtain ⟨a_54, hz_55, hc_27⟩ := bind_some hc_27
          refine h_appg 0 il ft (i := 1) el22 el22 sz3 z3 rfl (by decide) by3 (by decide) (fun _ => rfl) rfl rfl rfl hz_55 wz (fun n_56 => h_op (gV n_56 1 a_54) wz rfl (h_nil (wH_region (h_opw (w64_next hD_21 hn_22) wz rfl (h_op (vI ((k_18 + 1 : Nat) : Int)) wz rfl (h_nil ?_))))))
          obtain rfl := some_inj hc_27
          exact loop_mk (k_18 + 1, l_19, a_54, n_56) ⟨hL_28, drop_next hD_21⟩ (Nat.lt_succ_self _) rfl (pre_r rfl)
   ·rintro ⟨s_23, n_26⟩ ho_ sl_ H_ hp_ hq_
    subst ho_
    refine wH_at _ hp_ hq_ (wH_seq (wH_region (h_op (vL Play.enc r_3.1) wz rfl (h_op (vL Play.enc r_3.1) wz rfl ?_))))
    obtain ⟨r_57, hr_58, hF⟩ := bind_some hF
    refine h_call0 (proof_Compare_ok hr_58) rfl hb14 rfl rfl rfl rfl wz (h_op (.tup [(vL Match.enc r_57.1), (vL eI r_57.2.1), (vI r_57.2.2)]) wz rfl (h_op (vL Match.enc r_57.1) wz rfl (h_op (vL eI r_57.2.1) wz rfl (h_op (vI r_57.2.2) wz rfl (h_op (vL Match.enc r_57.1) wz rfl (h_op (vL eI r_57.2.1) wz rfl (h_op (vI r_57.2.2) wz rfl (h_nil (wH_seq (wH_seq (wH_region (h_op (vL Match.enc r_57.1) wz rfl (h_len un29 rfl wz (h_op (vI 0) wz rfl (h_nil ?_)))))))))))))))
    obtain ⟨o_67, hj_68, hF⟩ := bind_some hF
    obtain ⟨hn_63, hj_68⟩ := forL_some hj_68
    refine wH_join (β := (Unit)) (fun (s_64 : Unit) => ([(4, (vL Play.enc r_3.1)), (5, (vL Play.enc r_6.1)), (8, (vL eI r_12.2.1)), (10, (gV n_26 1 s_23)), (15, (vL Match.enc r_57.1)), (16, (vL eI r_57.2.1)), (17, (vI r_57.2.2))] : List (Nat × V))) (fun (s_64 : Unit) => ([(n_2, some (.cells 2 [(vL eI r_9.2.L), (vI r_9.2.f_at)])), (n_26, gB 1 eI s_23)] : Hp)) (fun p => o_67 = .go p) ?_ ?_
    ·refine wH_block (wH_loop (β := Nat × (List Match) × (Unit)) (fun p => (fun (k_59 : Nat) (l_60 : List Match) (s_64 : Unit) => ([(4, (vL Play.enc r_3.1)), (5, (vL Play.enc r_6.1)), (8, (vL eI r_12.2.1)), (10, (gV n_26 1 s_23)), (15, (vL Match.enc r_57.1)), (16, (vL eI r_57.2.1)), (17, (vI r_57.2.2)), (128, (vL Match.enc r_57.1)), (129, (vI (r_57.1.length : Int))), (130, (vI (k_59 : Int)))] : List (Nat × V))) p.1 p.2.1 p.2.2) (fun p => (fun (k_59 : Nat) (l_60 : List Match) (s_64 : Unit) => ([(n_2, some (.cells 2 [(vL eI r_9.2.L), (vI r_9.2.f_at)])), (n_26, gB 1 eI s_23)] : Hp)) p.1 p.2.1 p.2.2) (fun p => forR (fun k x s => keep_MatchesAreOnce_L2 k x s) p.2.1 p.1 p.2.2 = some o_67 ∧ (r_57.1).drop p.1 = p.2.1) (fun p => p.2.1.length) (0, r_57.1, ()) ⟨hj_68, rfl⟩ rfl (pre_r rfl) ?_)
     rintro ⟨k_59, l_60, s_64⟩ ⟨hL_66, hD_62⟩
     dsimp only at hL_66 hD_62
     cases l_60 with
     | nil =>
      obtain rfl := some_inj hL_66
      refine wH_seq (wH_region (h_op (vB (decide ((k_59 : Int) < (r_57.1.length : Int)))) wz rfl (h_nil ?_)))
      refine wH_seq (wH_iff rfl (drop_nil hD_62) (wH_exit ?_))
      exact cut_mk (s_64) rfl rfl (pre_r rfl)
     | cons x_61 l_60 =>
      obtain ⟨c_, hc_65, hL_66⟩ := bind_some hL_66
      refine wH_seq (wH_region (h_op (vB (decide ((k_59 : Int) < (r_57.1.length : Int)))) wz rfl (h_nil ?_)))
      refine wH_seq (wH_ift rfl (drop_cons hD_62) (wH_skip ?_))
      unfold keep_MatchesAreOnce_L2 at hc_65
      refine wH_seq (wH_block (wH_seq (wH_region (h_op (vI (k_59 : Int)) wz rfl (h_ia es29 rfl rfl (drop_idx hD_62) rfl wz (h_ldc sz34 ag34 rfl (.d (.agg (Match.enc x_61))) rfl wz (h_alloc 0 (.inl rfl) z34 rfl wz (fun n_69 => h_op (vI (k_59 : Int)) wz rfl (h_str 0 il ft 2 sz34 rfl rfl [(vI x_61.Want), (vI x_61.Have)] rfl wz (h_nil (wH_seq (wH_region (h_far pl34_1 rfl 1 rfl wz (h_ldr 0 2 il ft sz3 ag3 rfl rfl (vI x_61.Have) rfl wz (h_op (vI (k_59 : Int)) wz rfl (h_op (vB (x_61.Have != (k_59 : Int))) wz rfl (h_nil ?_)))))))))))))))))
      rcases cond_some hc_65 with ⟨hc_70, hc_65⟩ | ⟨hc_70, hc_65⟩
      ·refine wH_ift rfl hc_70 (wH_seq (wH_region (h_op (vB false) wz rfl (h_nil ?_))))
       obtain rfl := some_inj hc_65
       obtain rfl := some_inj hL_66
       obtain rfl := some_inj hF
       exact wH_ret (fin0 (.inr rfl) [(vB false)] ⟨rfl, trivial⟩ rfl rfl rfl)
      ·refine wH_iff rfl hc_70 (wH_skip (wH_region (h_opw (w64_next hD_62 hn_63) wz rfl (h_op (vI ((k_59 + 1 : Nat) : Int)) wz rfl (h_nil ?_)))))
       obtain rfl := some_inj hc_65
       exact loop_mk (k_59 + 1, l_60, ()) ⟨hL_66, drop_next hD_62⟩ (Nat.lt_succ_self _) rfl (pre_r rfl)
    ·rintro s_64 ho_ sl_ H_ hp_ hq_
     subst ho_
     refine wH_at _ hp_ hq_ (wH_seq ?_)
     obtain ⟨v_71, h_72, hF⟩ := bind_some hF
     refine wH_join (β := Unit) (fun _ => ([(2, (vB v_71))] : List (Nat × V))) (fun _ => ([(n_2, some (.cells 2 [(vL eI r_9.2.L), (vI r_9.2.f_at)])), (n_26, gB 1 eI s_23)] : Hp)) (fun _ => True) ?_ ?_
     ·refine wH_region (h_op (vI r_57.2.2) wz rfl (h_op (vB (r_57.2.2 == 0)) wz rfl ?_))
      rcases cond_some h_72 with ⟨hc_73, h_72⟩ | ⟨hc_73, h_72⟩
      ·refine h_movb rfl hc_73 wz (h_op (vL Match.enc r_57.1) wa rfl (h_len un29 rfl wa (h_op (vL Play.enc r_3.1) wa rfl (h_len un26 rfl wa (h_op (vB ((r_57.1.length : Int) == (r_3.1.length : Int))) wa rfl (h_op (vB ((r_57.1.length : Int) == (r_3.1.length : Int))) wz rfl ?_))))))
       rcases cond_some h_72 with ⟨hc_74, h_72⟩ | ⟨hc_74, h_72⟩
       ·refine h_movb rfl hc_74 wz (h_op (vL eI r_57.2.1) wa rfl (h_len un22 rfl wa (h_op (vB ((r_57.2.1.length : Int) == 0)) wa rfl (h_op (vB ((r_57.2.1.length : Int) == 0)) wz rfl ?_))))
        rcases cond_some h_72 with ⟨hc_75, h_72⟩ | ⟨hc_75, h_72⟩
        ·refine h_movb rfl hc_75 wz (h_op (gV n_26 1 s_23) wa rfl (h_leng un22 rfl wa (h_op (vL eI r_12.2.1) wa rfl (h_len un22 rfl wa (h_op (vI (w64 ((s_23.length : Int) + (r_12.2.1.length : Int)))) wa rfl (h_op (vL Play.enc r_6.1) wa rfl (h_len un26 rfl wa (h_op (vB ((w64 ((s_23.length : Int) + (r_12.2.1.length : Int))) == (r_6.1.length : Int))) wa rfl (h_op (vB ((w64 ((s_23.length : Int) + (r_12.2.1.length : Int))) == (r_6.1.length : Int))) wz rfl ?_)))))))))
         rcases cond_some h_72 with ⟨hc_76, h_72⟩ | ⟨hc_76, h_72⟩
         ·refine h_movb rfl hc_76 wz ?_
          obtain ⟨r_77, hr_78, h_72⟩ := bind_some h_72
          refine h_call0 (keep_ready_ok hr_78) rfl hb16 rfl rfl rfl rfl wa (h_op (vB r_77) wz rfl (h_op (vB r_77) wz rfl (h_nil ?_)))
          obtain rfl := some_inj h_72
          exact cu
         ·refine h_movb rfl hc_76 wz (h_skip wa (h_op (vB false) wz rfl (h_op (vB false) wz rfl (h_nil ?_))))
          obtain rfl := some_inj h_72
          exact cu
        ·refine h_movb rfl hc_75 wz (h_skip wa (h_skip wa (h_skip wa (h_skip wa (h_skip wa (h_skip wa (h_skip wa (h_skip wa (h_op (vB false) wz rfl (h_op (vB false) wz rfl (h_skip wa (h_op (vB false) wz rfl (h_op (vB false) wz rfl (h_nil ?_))))))))))))))
         obtain rfl := some_inj h_72
         exact cu
       ·refine h_movb rfl hc_74 wz (h_skip wa (h_skip wa (h_skip wa (h_op (vB false) wz rfl (h_op (vB false) wz rfl (h_skip wa (h_skip wa (h_skip wa (h_skip wa (h_skip wa (h_skip wa (h_skip wa (h_skip wa (h_op (vB false) wz rfl (h_op (vB false) wz rfl (h_skip wa (h_op (vB false) wz rfl (h_op (vB false) wz rfl (h_nil ?_)))))))))))))))))))
        obtain rfl := some_inj h_72
        exact cu
      ·refine h_movb rfl hc_73 wz (h_skip wa (h_skip wa (h_skip wa (h_skip wa (h_skip wa (h_op (vB false) wz rfl (h_op (vB false) wz rfl (h_skip wa (h_skip wa (h_skip wa (h_op (vB false) wz rfl (h_op (vB false) wz rfl (h_skip wa (h_skip wa (h_skip wa (h_skip wa (h_skip wa (h_skip wa (h_skip wa (h_skip wa (h_op (vB false) wz rfl (h_op (vB false) wz rfl (h_skip wa ?_)))))))))))))))))))))))
       refine h_op (vB false) wz rfl (h_op (vB false) wz rfl (h_nil ?_))
       obtain rfl := some_inj h_72
       exact cu
     ·rintro ⟨⟩ _ sl_ H_ hp_ hq_
      refine wH_at _ hp_ hq_ ?_
      obtain rfl := some_inj hF
      exact wH_ret (fin0 (.inr rfl) [(vB v_71)] ⟨rfl, trivial⟩ rfl rfl rfl)
end Go.Proofs.YtpojeclokolkaaaGreatDoor.Law

