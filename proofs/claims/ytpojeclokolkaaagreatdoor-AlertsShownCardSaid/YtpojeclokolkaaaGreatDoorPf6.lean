/-
 The machine computes these plain functions (written by a program of ours).
-/
import Derived.Test.YtpojeclokolkaaaGreatDoorFacts
import Derived.Test.YtpojeclokolkaaaGreatDoorDefs
import Derived.Test.YtpojeclokolkaaaGreatDoorPf5
open Go Go.Eng Go.Proofs
namespace Go.Proofs.YtpojeclokolkaaaGreatDoor.Law
set_option maxRecDepth 100000
set_option linter.unusedVariables false
set_option maxHeartbeats 1000000
theorem law_AlertsShown_ok {l_1 : (List Int)} {r : Bool} (hF : law_AlertsShown l_1 = some r) :
  FnM Tryz.prog 7 [(vL eI l_1)] [] (vB r) [] := by
 refine FnM.of_wH ⟨Tryz.prog, 178, [], []⟩ rfl Tryz.func7 rfl rfl (Nat.le_of_ble_eq_true rfl) (by kernel_rfl) ?_
 unfold law_AlertsShown at hF
 refine wH_seq (wH_region (h_op (vB false) wz rfl (h_nil (wH_seq (wH_region (h_op (vL eI l_1) wz rfl (h_op (.d (.agg (Stream.enc (⟨l_1, 0⟩ : Stream)))) wz (by kernel_rfl) (h_box 0 (.inl rfl) [(vL eI l_1), (vI 0)] rfl rfl wz (fun n_2 => h_op (.ref n_2 0 0) wz rfl (h_nil (wH_seq (wH_region (h_op (.ref n_2 0 0) wz rfl ?_)))))))))))))
 obtain ⟨r_3, hr_4, hF⟩ := bind_some hF
 refine h_callq 0 [0] il ft (mk_Stream_Alerts_ok hr_4) rfl hb32 rfl (by kernel_rfl) (by kernel_rfl) (by kernel_rfl) (by kernel_rfl) (by kernel_rfl) (by kernel_rfl) (by kernel_rfl) (by decide) (by kernel_rfl) wz (vL Alert.enc r_3.1) (by kernel_rfl) ([(n_2, some (.cells 2 [(vL eI r_3.2.L), (vI r_3.2.f_at)]))] : Hp) (by kernel_rfl) (h_op (.ref n_2 0 0) wz rfl ?_)
 obtain ⟨r_6, hr_7, hF⟩ := bind_some hF
 refine h_callq 0 [0] il ft (mk_Stream_Posts_ok hr_7) rfl hb33 rfl (by kernel_rfl) (by kernel_rfl) (by kernel_rfl) (by kernel_rfl) (by kernel_rfl) (by kernel_rfl) (by kernel_rfl) (by decide) (by kernel_rfl) wz (vL Post.enc r_6.1) (by kernel_rfl) ([(n_2, some (.cells 2 [(vL eI r_6.2.L), (vI r_6.2.f_at)]))] : Hp) (by kernel_rfl) (h_op (.ref n_2 0 0) wz rfl (h_lit (([0, 5, 10, 15, 20, 25, 30, 60, (-1)] : List Int).map eI) es22 ez22 rfl rfl rfl rfl rfl wz ?_))
 obtain ⟨r_9, hr_10, hF⟩ := bind_some hF
 refine h_callq 0 [0] il ft (mk_Stream_Pick_ok hr_10) rfl hb34 rfl (by kernel_rfl) (by kernel_rfl) (by kernel_rfl) (by kernel_rfl) (by kernel_rfl) (by kernel_rfl) (by kernel_rfl) (by decide) (by kernel_rfl) wz (vI r_9.1) (by kernel_rfl) ([(n_2, some (.cells 2 [(vL eI r_9.2.L), (vI r_9.2.f_at)]))] : Hp) (by kernel_rfl) (h_op (vL Alert.enc r_3.1) wz rfl (h_op (vL Post.enc r_6.1) wz rfl (h_op (vI r_9.1) wz rfl (h_nil (wH_seq (wH_region (h_op (vL Alert.enc r_3.1) wz rfl (h_op (vL Post.enc r_6.1) wz rfl (h_op (vI r_9.1) wz rfl ?_)))))))))
 obtain ⟨r_12, hr_13, hF⟩ := bind_some hF
 refine h_call0 (alert_Covered_ok hr_13) rfl hb35 rfl rfl rfl rfl wz (h_op (.tup [(vL Pair.enc r_12.1), (vI r_12.2)]) wz rfl (h_op (vL Pair.enc r_12.1) wz rfl (h_op (vI r_12.2) wz rfl (h_op (vL Pair.enc r_12.1) wz rfl (h_op (vI r_12.2) wz rfl (h_nil (wH_seq (wH_region (h_op (vL Alert.enc r_3.1) wz rfl ?_)))))))))
 obtain ⟨r_14, hr_15, hF⟩ := bind_some hF
 refine h_call0 (ref_AlertsFault_ok hr_15) rfl hb37 rfl rfl rfl rfl wz (h_op (vL Post.enc r_6.1) wz rfl ?_)
 obtain ⟨r_16, hr_17, hF⟩ := bind_some hF
 refine h_call0 (ref_PostsFault_ok hr_17) rfl hb38 rfl rfl rfl rfl wz (h_op (vI r_9.1) wz rfl ?_)
 obtain ⟨r_18, hr_19, hF⟩ := bind_some hF
 refine h_call0 (law_momentFault_ok hr_19) rfl hb39 rfl rfl rfl rfl wz (h_lit (([r_14, r_16, r_18] : List Int).map eI) es192 ez192 rfl rfl rfl rfl rfl wz ?_)
 obtain ⟨r_20, hr_21, hF⟩ := bind_some hF
 refine h_call0 (law_errs_ok hr_21) rfl hb36 rfl rfl rfl rfl wz (h_op (vI r_20) wz rfl (h_nil (wH_at (H0 := ([(n_2, some (.cells 2 [(vL eI r_9.2.L), (vI r_9.2.f_at)]))] : Hp)) ([(4, (vL Alert.enc r_3.1)), (5, (vL Post.enc r_6.1)), (6, (vI r_9.1)), (7, (vL Pair.enc r_12.1)), (8, (vI r_12.2)), (9, (vI r_20))] : List (Nat × V)) (by kernel_rfl) (pre_mk (by kernel_rfl)) (wH_seq (wH_region (h_op .nil wz rfl (h_nil (wH_seq (wH_seq (wH_region (h_op (vI r_20) wz rfl (h_op (vB (r_20 == 0)) wz rfl (h_nil (wH_nilL Pair.enc 10 rfl ?_))))))))))))))
 obtain ⟨v_24, h_25, hF⟩ := bind_some hF
 refine wH_join (β := Unit) (fun _ => ([(4, (vL Alert.enc r_3.1)), (5, (vL Post.enc r_6.1)), (6, (vI r_9.1)), (7, (vL Pair.enc r_12.1)), (8, (vI r_12.2)), (9, (vI r_20)), (10, (vL Pair.enc v_24))] : List (Nat × V))) (fun _ => ([(n_2, some (.cells 2 [(vL eI r_9.2.L), (vI r_9.2.f_at)]))] : Hp)) (fun _ => True) ?_ ?_
 ·rcases cond_some h_25 with ⟨hc_26, h_25⟩ | ⟨hc_26, h_25⟩
  ·refine wH_ift rfl hc_26 (wH_region (h_op (vL Alert.enc r_3.1) wz rfl (h_op (vL Post.enc r_6.1) wz rfl (h_op (vI r_9.1) wz rfl ?_))))
   obtain ⟨r_27, hr_28, h_25⟩ := bind_some h_25
   refine h_call0 (ref_CoveredPosts_ok hr_28) rfl hb40 rfl rfl rfl rfl wz (h_op (vL Pair.enc r_27) wz rfl (h_nil ?_))
   obtain rfl := some_inj h_25
   exact cu
  ·refine wH_iff rfl hc_26 (wH_skip ?_)
   obtain rfl := some_inj h_25
   exact cu
 ·rintro ⟨⟩ _ sl_ H_ hp_ hq_
  refine wH_at _ hp_ hq_ (wH_seq (wH_seq ?_))
  obtain ⟨v_29, h_30, hF⟩ := bind_some hF
  refine wH_join (β := Unit) (fun _ => ([(4, (vL Alert.enc r_3.1)), (5, (vL Post.enc r_6.1)), (6, (vI r_9.1)), (73, (vB v_29))] : List (Nat × V))) (fun _ => ([(n_2, some (.cells 2 [(vL eI r_9.2.L), (vI r_9.2.f_at)]))] : Hp)) (fun _ => True) ?_ ?_
  ·refine wH_region (h_op (vL Post.enc r_6.1) wz rfl ?_)
   obtain ⟨r_31, hr_32, h_30⟩ := bind_some h_30
   refine h_call0 (alert_CheckPosts_ok hr_32) rfl hb41 rfl rfl rfl rfl wz (h_op (vL Post.enc r_6.1) wz rfl ?_)
   obtain ⟨r_33, hr_34, h_30⟩ := bind_some h_30
   refine h_call0 (ref_PostsFault_ok hr_34) rfl hb38 rfl rfl rfl rfl wz (h_op (vB (r_31 != r_33)) wz rfl ?_)
   rcases cond_some h_30 with ⟨hc_35, h_30⟩ | ⟨hc_35, h_30⟩
   ·refine h_movb rfl hc_35 wz (h_skip wa (h_skip wa (h_skip wa (h_op (vB true) wz rfl (h_op (vB true) wz rfl (h_skip wa (h_skip wa (h_skip wa (h_skip wa (h_op (vB true) wz rfl (h_nil ?_)))))))))))
    obtain rfl := some_inj h_30
    exact cu
   ·refine h_movb rfl hc_35 wz (h_op (vI r_12.2) wa rfl (h_op (vI r_20) wa rfl (h_op (vB (r_12.2 != r_20)) wa rfl (h_op (vB (r_12.2 != r_20)) wz rfl ?_))))
    rcases cond_some h_30 with ⟨hc_36, h_30⟩ | ⟨hc_36, h_30⟩
    ·refine h_movb rfl hc_36 wz (h_skip wa (h_skip wa (h_skip wa (h_skip wa (h_op (vB true) wz rfl (h_nil ?_))))))
     obtain rfl := some_inj h_30
     exact cu
    ·refine h_movb rfl hc_36 wz (h_op (vL Pair.enc r_12.1) wa rfl (h_op (vL Pair.enc v_24) wa rfl ?_))
     obtain ⟨r_37, hr_38, h_30⟩ := bind_some h_30
     refine h_call0 (slices_Equal_api_Pair_api_Pair_ok hr_38) rfl hb42 rfl rfl rfl rfl wa (h_op (vB (!r_37)) wa rfl (h_op (vB (!r_37)) wz rfl (h_nil ?_)))
     obtain rfl := some_inj h_30
     exact cu
  ·rintro ⟨⟩ _ sl_ H_ hp_ hq_
   refine wH_at _ hp_ hq_ ?_
   rcases cond_some hF with ⟨hc_39, hF⟩ | ⟨hc_39, hF⟩
   ·refine wH_ift rfl hc_39 (wH_seq (wH_region (h_op (vB false) wz rfl (h_nil ?_))))
    obtain rfl := some_inj hF
    exact wH_ret (fin0 (.inr rfl) [(vB false)] ⟨rfl, trivial⟩ rfl rfl rfl)
   ·refine wH_iff rfl hc_39 (wH_skip (wH_seq (wH_seq (wH_region (h_op (vL Post.enc r_6.1) wz rfl (h_len un86 rfl wz (h_op (vI 0) wz rfl (h_nil ?_))))))))
    obtain ⟨o_48, hj_49, hF⟩ := bind_some hF
    obtain ⟨hn_44, hj_49⟩ := forL_some hj_49
    refine wH_join (β := (Unit)) (fun (s_45 : Unit) => ([] : List (Nat × V))) (fun (s_45 : Unit) => ([(n_2, some (.cells 2 [(vL eI r_9.2.L), (vI r_9.2.f_at)]))] : Hp)) (fun p => o_48 = .go p) ?_ ?_
    ·refine wH_block (wH_loop (β := Nat × (List Post) × (Unit)) (fun p => (fun (k_40 : Nat) (l_41 : List Post) (s_45 : Unit) => ([(4, (vL Alert.enc r_3.1)), (6, (vI r_9.1)), (74, (vL Post.enc r_6.1)), (75, (vI (r_6.1.length : Int))), (76, (vI (k_40 : Int)))] : List (Nat × V))) p.1 p.2.1 p.2.2) (fun p => (fun (k_40 : Nat) (l_41 : List Post) (s_45 : Unit) => ([(n_2, some (.cells 2 [(vL eI r_9.2.L), (vI r_9.2.f_at)]))] : Hp)) p.1 p.2.1 p.2.2) (fun p => forR (fun k x s => law_AlertsShown_L2 r_3 r_9 k x s) p.2.1 p.1 p.2.2 = some o_48 ∧ (r_6.1).drop p.1 = p.2.1) (fun p => p.2.1.length) (0, r_6.1, ()) ⟨hj_49, rfl⟩ rfl (pre_r rfl) ?_)
     rintro ⟨k_40, l_41, s_45⟩ ⟨hL_47, hD_43⟩
     dsimp only at hL_47 hD_43
     cases l_41 with
     | nil =>
      obtain rfl := some_inj hL_47
      refine wH_seq (wH_region (h_op (vB (decide ((k_40 : Int) < (r_6.1.length : Int)))) wz rfl (h_nil ?_)))
      refine wH_seq (wH_iff rfl (drop_nil hD_43) (wH_exit ?_))
      exact cut_mk (s_45) rfl rfl (pre_r rfl)
     | cons x_42 l_41 =>
      obtain ⟨c_, hc_46, hL_47⟩ := bind_some hL_47
      refine wH_seq (wH_region (h_op (vB (decide ((k_40 : Int) < (r_6.1.length : Int)))) wz rfl (h_nil ?_)))
      refine wH_seq (wH_ift rfl (drop_cons hD_43) (wH_skip ?_))
      unfold law_AlertsShown_L2 at hc_46
      refine wH_seq (wH_block (wH_seq (wH_region (h_ia es86 rfl rfl (drop_idx hD_43) rfl wz (h_ldc sz77 ag77 rfl (.d (.agg (Post.enc x_42))) rfl wz (h_alloc 0 (.inl rfl) z77 rfl wz (fun n_50 => h_str 0 il ft 1 sz77 rfl rfl [(vS x_42.Player), (vI x_42.X), (vI x_42.Y)] rfl wz (h_nil (wH_seq (wH_region (h_op (vL Alert.enc r_3.1) wz rfl (h_ldr 0 1 il ft sz77 ag77 rfl rfl (.d (.agg (Post.enc x_42))) rfl wz (h_op (vI r_9.1) wz rfl ?_)))))))))))))
      obtain ⟨r_51, hr_52, hc_46⟩ := bind_some hc_46
      refine h_call0 (alert_Ranked_ok hr_52) rfl hb43 rfl rfl rfl rfl wz (h_op (.tup [(vL eS r_51.1), (vI r_51.2)]) wz rfl (h_op (vL eS r_51.1) wz rfl (h_op (vI r_51.2) wz rfl (h_op (vL eS r_51.1) wz rfl (h_op (vI r_51.2) wz rfl (h_nil (wH_seq (wH_region (h_op (vL Alert.enc r_3.1) wz rfl (h_ldr 0 1 il ft sz77 ag77 rfl rfl (.d (.agg (Post.enc x_42))) rfl wz (h_op (vI r_9.1) wz rfl ?_)))))))))))
      obtain ⟨r_53, hr_54, hc_46⟩ := bind_some hc_46
      refine h_call0 (alert_Shown_ok hr_54) rfl hb44 rfl rfl rfl rfl wz (h_op (.tup [(vS r_53.1), (vB r_53.2.1), (vI r_53.2.2)]) wz rfl (h_op (vS r_53.1) wz rfl (h_op (vB r_53.2.1) wz rfl (h_op (vI r_53.2.2) wz rfl (h_op (vS r_53.1) wz rfl (h_op (vB r_53.2.1) wz rfl (h_op (vI r_53.2.2) wz rfl (h_nil (wH_seq (wH_draws (h_op (vL Alert.enc r_3.1) wz rfl ?_)))))))))))
      obtain ⟨r_55, hr_56, hc_46⟩ := bind_some hc_46
      refine h_call0 (ref_AlertsFault_ok hr_56) rfl hb37 rfl rfl rfl rfl wz (h_ldr 2 1 (.inr (by kernel_rfl)) (fun _ _ ag => trivial) sz77 ag77 rfl rfl (.d (.agg (Post.enc x_42))) rfl wz (h_lit (([x_42] : List Post).map Post.enc) es86 ez86 rfl rfl rfl rfl rfl wz ?_))
      obtain ⟨r_57, hr_58, hc_46⟩ := bind_some hc_46
      refine h_call0 (ref_PostsFault_ok hr_58) rfl hb38 rfl rfl rfl rfl wz (h_op (vI r_9.1) wz rfl ?_)
      obtain ⟨r_59, hr_60, hc_46⟩ := bind_some hc_46
      refine h_call0 (law_momentFault_ok hr_60) rfl hb39 rfl rfl rfl rfl wz (h_lit (([r_55, r_57, r_59] : List Int).map eI) es192 ez192 rfl rfl rfl rfl rfl wz ?_)
      obtain ⟨r_61, hr_62, hc_46⟩ := bind_some hc_46
      refine h_call0 (law_errs_ok hr_62) rfl hb36 rfl rfl rfl rfl wz (h_op (vI r_61) wz rfl (h_nil (wH_at (H0 := ([(n_2, some (.cells 2 [(vL eI r_9.2.L), (vI r_9.2.f_at)])), (n_50, some (.cells 3 [(vS x_42.Player), (vI x_42.X), (vI x_42.Y)]))] : Hp)) ([(4, (vL Alert.enc r_3.1)), (6, (vI r_9.1)), (12, (.ref n_50 0 0)), (13, (vL eS r_51.1)), (14, (vI r_51.2)), (15, (vS r_53.1)), (16, (vB r_53.2.1)), (17, (vI r_53.2.2)), (18, (vI r_61)), (74, (vL Post.enc r_6.1)), (75, (vI (r_6.1.length : Int))), (76, (vI (k_40 : Int)))] : List (Nat × V)) (by kernel_rfl) (pre_mk (by kernel_rfl)) (wH_seq (wH_region (h_op .nil wz rfl (h_nil (wH_seq (wH_region (h_op (vS (⟨#[]⟩ : ByteArray)) wz rfl (h_op (vB false) wz rfl (h_nil (wH_seq (wH_seq (wH_region (h_op (vI r_61) wz rfl (h_op (vB (r_61 == 0)) wz rfl (h_nil (wH_nilL eS 19 rfl ?_)))))))))))))))))))
      obtain ⟨v_65, h_66, hc_46⟩ := bind_some hc_46
      refine wH_join (β := Unit) (fun _ => ([(4, (vL Alert.enc r_3.1)), (6, (vI r_9.1)), (12, (.ref n_50 0 0)), (13, (vL eS r_51.1)), (14, (vI r_51.2)), (15, (vS r_53.1)), (16, (vB r_53.2.1)), (17, (vI r_53.2.2)), (18, (vI r_61)), (19, (vL eS v_65.1)), (20, (vS v_65.2.1)), (21, (vB v_65.2.2)), (74, (vL Post.enc r_6.1)), (75, (vI (r_6.1.length : Int))), (76, (vI (k_40 : Int)))] : List (Nat × V))) (fun _ => ([(n_2, some (.cells 2 [(vL eI r_9.2.L), (vI r_9.2.f_at)])), (n_50, some (.cells 3 [(vS x_42.Player), (vI x_42.X), (vI x_42.Y)]))] : Hp)) (fun _ => True) ?_ ?_
      ·rcases cond_some h_66 with ⟨hc_67, h_66⟩ | ⟨hc_67, h_66⟩
       ·refine wH_ift rfl hc_67 (wH_seq (wH_region (h_op (vL Alert.enc r_3.1) wz rfl (h_ldr 0 1 il ft sz77 ag77 rfl rfl (.d (.agg (Post.enc x_42))) rfl wz (h_op (vI r_9.1) wz rfl ?_)))))
        obtain ⟨r_68, hr_69, h_66⟩ := bind_some h_66
        refine h_call0 (ref_RankedOf_ok hr_69) rfl hb45 rfl rfl rfl rfl wz (h_op (vL eS r_68) wz rfl (h_nil (wH_region (h_op (vL Alert.enc r_3.1) wz rfl (h_ldr 0 1 il ft sz77 ag77 rfl rfl (.d (.agg (Post.enc x_42))) rfl wz (h_op (vI r_9.1) wz rfl ?_))))))
        obtain ⟨r_70, hr_71, h_66⟩ := bind_some h_66
        refine h_call0 (ref_ShownAlert_ok hr_71) rfl hb46 rfl rfl rfl rfl wz (h_op (.tup [(vS r_70.1), (vB r_70.2)]) wz rfl (h_op (vS r_70.1) wz rfl (h_op (vB r_70.2) wz rfl (h_op (vS r_70.1) wz rfl (h_op (vB r_70.2) wz rfl (h_nil ?_))))))
        obtain rfl := some_inj h_66
        exact cu
       ·refine wH_iff rfl hc_67 (wH_skip ?_)
        obtain rfl := some_inj h_66
        exact cu
      ·rintro ⟨⟩ _ sl_ H_ hp_ hq_
       refine wH_at _ hp_ hq_ (wH_seq (wH_seq ?_))
       obtain ⟨v_72, h_73, hc_46⟩ := bind_some hc_46
       refine wH_join (β := Unit) (fun _ => ([(4, (vL Alert.enc r_3.1)), (6, (vI r_9.1)), (12, (.ref n_50 0 0)), (74, (vL Post.enc r_6.1)), (75, (vI (r_6.1.length : Int))), (76, (vI (k_40 : Int))), (140, (vB v_72))] : List (Nat × V))) (fun _ => ([(n_2, some (.cells 2 [(vL eI r_9.2.L), (vI r_9.2.f_at)])), (n_50, some (.cells 3 [(vS x_42.Player), (vI x_42.X), (vI x_42.Y)]))] : Hp)) (fun _ => True) ?_ ?_
       ·refine wH_region (h_op (vI r_51.2) wz rfl (h_op (vI r_61) wz rfl (h_op (vB (r_51.2 != r_61)) wz rfl ?_)))
        rcases cond_some h_73 with ⟨hc_74, h_73⟩ | ⟨hc_74, h_73⟩
        ·refine h_movb rfl hc_74 wz (h_skip wa (h_skip wa (h_skip wa (h_skip wa (h_op (vB true) wz rfl (h_op (vB true) wz rfl (h_skip wa (h_skip wa (h_skip wa (h_op (vB true) wz rfl (h_op (vB true) wz rfl (h_skip wa (h_skip wa (h_skip wa (h_op (vB true) wz rfl (h_op (vB true) wz rfl (h_skip wa (h_skip wa (h_skip wa (h_op (vB true) wz rfl (h_nil ?_)))))))))))))))))))))
         obtain rfl := some_inj h_73
         exact cu
        ·refine h_movb rfl hc_74 wz (h_op (vL eS r_51.1) wa rfl (h_op (vL eS v_65.1) wa rfl ?_))
         obtain ⟨r_75, hr_76, h_73⟩ := bind_some h_73
         refine h_call0 (slices_Equal_string_string_ok hr_76) rfl hb47 rfl rfl rfl rfl wa (h_op (vB (!r_75)) wa rfl (h_op (vB (!r_75)) wz rfl ?_))
         rcases cond_some h_73 with ⟨hc_77, h_73⟩ | ⟨hc_77, h_73⟩
         ·refine h_movb rfl hc_77 wz (h_skip wa (h_skip wa (h_skip wa (h_op (vB true) wz rfl (h_op (vB true) wz rfl (h_skip wa (h_skip wa (h_skip wa (h_op (vB true) wz rfl (h_op (vB true) wz rfl (h_skip wa (h_skip wa (h_skip wa (h_op (vB true) wz rfl (h_nil ?_)))))))))))))))
          obtain rfl := some_inj h_73
          exact cu
         ·refine h_movb rfl hc_77 wz (h_op (vI r_53.2.2) wa rfl (h_op (vI r_61) wa rfl (h_op (vB (r_53.2.2 != r_61)) wa rfl (h_op (vB (r_53.2.2 != r_61)) wz rfl ?_))))
          rcases cond_some h_73 with ⟨hc_78, h_73⟩ | ⟨hc_78, h_73⟩
          ·refine h_movb rfl hc_78 wz (h_skip wa (h_skip wa (h_skip wa (h_op (vB true) wz rfl (h_op (vB true) wz rfl (h_skip wa (h_skip wa (h_skip wa (h_op (vB true) wz rfl (h_nil ?_))))))))))
           obtain rfl := some_inj h_73
           exact cu
          ·refine h_movb rfl hc_78 wz (h_op (vS r_53.1) wa rfl (h_op (vS v_65.2.1) wa rfl (h_op (vB (sNe r_53.1 v_65.2.1)) wa rfl (h_op (vB (sNe r_53.1 v_65.2.1)) wz rfl ?_))))
           rcases cond_some h_73 with ⟨hc_79, h_73⟩ | ⟨hc_79, h_73⟩
           ·refine h_movb rfl hc_79 wz (h_skip wa (h_skip wa (h_skip wa (h_op (vB true) wz rfl (h_nil ?_)))))
            obtain rfl := some_inj h_73
            exact cu
           ·refine h_movb rfl hc_79 wz (h_op (vB r_53.2.1) wa rfl (h_op (vB v_65.2.2) wa rfl (h_bneq un4 rfl rfl wa (h_op (vB (!(r_53.2.1 == v_65.2.2))) wz rfl (h_nil ?_)))))
            obtain rfl := some_inj h_73
            exact cu
       ·rintro ⟨⟩ _ sl_ H_ hp_ hq_
        refine wH_at _ hp_ hq_ ?_
        rcases cond_some hc_46 with ⟨hc_80, hc_46⟩ | ⟨hc_80, hc_46⟩
        ·refine wH_ift rfl hc_80 (wH_seq (wH_region (h_op (vB false) wz rfl (h_nil ?_))))
         obtain rfl := some_inj hc_46
         obtain rfl := some_inj hL_47
         obtain rfl := some_inj hF
         exact wH_ret (fin0 (.inr rfl) [(vB false)] ⟨rfl, trivial⟩ rfl rfl rfl)
        ·refine wH_iff rfl hc_80 (wH_skip (wH_seq (wH_region (h_op (vL Alert.enc r_3.1) wz rfl (h_len un78 rfl wz (h_op (vI 0) wz rfl (h_nil ?_)))))))
         obtain ⟨o_89, hj_90, hc_46⟩ := bind_some hc_46
         obtain ⟨hn_85, hj_90⟩ := forL_some hj_90
         refine wH_join (β := (Unit)) (fun (s_86 : Unit) => ([(4, (vL Alert.enc r_3.1)), (6, (vI r_9.1)), (74, (vL Post.enc r_6.1)), (75, (vI (r_6.1.length : Int))), (76, (vI (k_40 : Int)))] : List (Nat × V))) (fun (s_86 : Unit) => ([(n_2, some (.cells 2 [(vL eI r_9.2.L), (vI r_9.2.f_at)])), (n_50, some (.cells 3 [(vS x_42.Player), (vI x_42.X), (vI x_42.Y)]))] : Hp)) (fun p => o_89 = .go p) ?_ ?_
         ·refine wH_block (wH_loop (β := Nat × (List Alert) × (Unit)) (fun p => (fun (k_81 : Nat) (l_82 : List Alert) (s_86 : Unit) => ([(4, (vL Alert.enc r_3.1)), (6, (vI r_9.1)), (12, (.ref n_50 0 0)), (74, (vL Post.enc r_6.1)), (75, (vI (r_6.1.length : Int))), (76, (vI (k_40 : Int))), (141, (vL Alert.enc r_3.1)), (142, (vI (r_3.1.length : Int))), (143, (vI (k_81 : Int)))] : List (Nat × V))) p.1 p.2.1 p.2.2) (fun p => (fun (k_81 : Nat) (l_82 : List Alert) (s_86 : Unit) => ([(n_2, some (.cells 2 [(vL eI r_9.2.L), (vI r_9.2.f_at)])), (n_50, some (.cells 3 [(vS x_42.Player), (vI x_42.X), (vI x_42.Y)]))] : Hp)) p.1 p.2.1 p.2.2) (fun p => forR (fun k x s => law_AlertsShown_L1 x_42 k x s) p.2.1 p.1 p.2.2 = some o_89 ∧ (r_3.1).drop p.1 = p.2.1) (fun p => p.2.1.length) (0, r_3.1, ()) ⟨hj_90, rfl⟩ rfl (pre_r rfl) ?_)
          rintro ⟨k_81, l_82, s_86⟩ ⟨hL_88, hD_84⟩
          dsimp only at hL_88 hD_84
          cases l_82 with
          | nil =>
           obtain rfl := some_inj hL_88
           refine wH_seq (wH_region (h_op (vB (decide ((k_81 : Int) < (r_3.1.length : Int)))) wz rfl (h_nil ?_)))
           refine wH_seq (wH_iff rfl (drop_nil hD_84) (wH_exit ?_))
           exact cut_mk (s_86) rfl rfl (pre_r rfl)
          | cons x_83 l_82 =>
           obtain ⟨c_, hc_87, hL_88⟩ := bind_some hL_88
           refine wH_seq (wH_region (h_op (vB (decide ((k_81 : Int) < (r_3.1.length : Int)))) wz rfl (h_nil ?_)))
           refine wH_seq (wH_ift rfl (drop_cons hD_84) (wH_skip ?_))
           unfold law_AlertsShown_L1 at hc_87
           refine wH_seq (wH_block (wH_seq (wH_region (h_ia es78 rfl rfl (drop_idx hD_84) rfl wz (h_ldc sz82 ag82 rfl (.d (.agg (Alert.enc x_83))) rfl wz (h_alloc 0 (.inl rfl) z82 rfl wz (fun n_91 => h_str 0 il ft 2 sz82 rfl rfl [(vS x_83.Id), (vS x_83.Sender), (vI x_83.Kind), (vL eS x_83.Refs), (vI x_83.At), (vI x_83.Until), (vI x_83.Weight), (vL Rect.enc x_83.Areas), (vS x_83.Text)] rfl wz (h_nil (wH_seq (wH_region (h_ldr 0 2 il ft sz82 ag82 rfl rfl (.d (.agg (Alert.enc x_83))) rfl wz (h_ldr 0 1 il ft sz77 ag77 rfl rfl (.d (.agg (Post.enc x_42))) rfl wz ?_))))))))))))
           obtain ⟨r_92, hr_93, hc_87⟩ := bind_some hc_87
           refine h_call0 (alert_Reaches_ok hr_93) rfl hb30 rfl rfl rfl rfl wz (h_op (.tup [(vB r_92.1), (vI r_92.2)]) wz rfl (h_op (vB r_92.1) wz rfl (h_op (vI r_92.2) wz rfl (h_op (vB r_92.1) wz rfl (h_op (vI r_92.2) wz rfl (h_nil (wH_seq (wH_draws (h_ldr 0 2 (.inr (by kernel_rfl)) (fun _ _ ag => trivial) sz82 ag82 rfl rfl (.d (.agg (Alert.enc x_83))) rfl wz (h_lit (([x_83] : List Alert).map Alert.enc) es78 ez78 rfl rfl rfl rfl rfl wz ?_))))))))))
           obtain ⟨r_94, hr_95, hc_87⟩ := bind_some hc_87
           refine h_call0 (ref_AlertsFault_ok hr_95) rfl hb37 rfl rfl rfl rfl wz (h_ldr 3 1 (.inr (by kernel_rfl)) (fun _ _ ag => ⟨.inl ⟨rfl, rfl⟩, trivial⟩) sz77 ag77 rfl rfl (.d (.agg (Post.enc x_42))) rfl wz (h_lit (([x_42] : List Post).map Post.enc) es86 ez86 rfl rfl rfl rfl rfl wz ?_))
           obtain ⟨r_96, hr_97, hc_87⟩ := bind_some hc_87
           refine h_call0 (ref_PostsFault_ok hr_97) rfl hb38 rfl rfl rfl rfl wz (h_lit (([r_94, r_96] : List Int).map eI) es192 ez192 rfl rfl rfl rfl rfl wz ?_)
           obtain ⟨r_98, hr_99, hc_87⟩ := bind_some hc_87
           refine h_call0 (law_errs_ok hr_99) rfl hb36 rfl rfl rfl rfl wz (h_op (vI r_98) wz rfl (h_nil (wH_seq ?_)))
           obtain ⟨v_100, h_101, hc_87⟩ := bind_some hc_87
           refine wH_join (β := Unit) (fun _ => ([(4, (vL Alert.enc r_3.1)), (6, (vI r_9.1)), (12, (.ref n_50 0 0)), (74, (vL Post.enc r_6.1)), (75, (vI (r_6.1.length : Int))), (76, (vI (k_40 : Int))), (141, (vL Alert.enc r_3.1)), (142, (vI (r_3.1.length : Int))), (143, (vI (k_81 : Int))), (174, (vB v_100))] : List (Nat × V))) (fun _ => ([(n_2, some (.cells 2 [(vL eI r_9.2.L), (vI r_9.2.f_at)])), (n_50, some (.cells 3 [(vS x_42.Player), (vI x_42.X), (vI x_42.Y)])), (n_91, some (.cells 9 [(vS x_83.Id), (vS x_83.Sender), (vI x_83.Kind), (vL eS x_83.Refs), (vI x_83.At), (vI x_83.Until), (vI x_83.Weight), (vL Rect.enc x_83.Areas), (vS x_83.Text)]))] : Hp)) (fun _ => True) ?_ ?_
           ·refine wH_region (h_op (vI r_92.2) wz rfl (h_op (vI r_98) wz rfl (h_op (vB (r_92.2 != r_98)) wz rfl ?_)))
            rcases cond_some h_101 with ⟨hc_102, h_101⟩ | ⟨hc_102, h_101⟩
            ·refine h_movb rfl hc_102 wz (h_skip wa (h_skip wa (h_skip wa (h_skip wa (h_skip (wn rfl rfl) (h_skip (wn rfl rfl) (h_skip (wn rfl rfl) (h_skip wa (h_skip wa (h_op (vB true) wz rfl (h_nil ?_)))))))))))
             obtain rfl := some_inj h_101
             exact cu
            ·refine h_movb rfl hc_102 wz (h_op (vB r_92.1) wa rfl (h_op (vI r_98) wa rfl (h_op (vB (r_98 == 0)) wa rfl ?_)))
             rcases cond_some h_101 with ⟨hc_103, h_101⟩ | ⟨hc_103, h_101⟩
             ·refine h_movb rfl hc_103 wa (h_ldr 0 2 il ft sz82 ag82 rfl rfl (.d (.agg (Alert.enc x_83))) rfl wa (h_ldr 0 1 il ft sz77 ag77 rfl rfl (.d (.agg (Post.enc x_42))) rfl wa ?_))
              obtain ⟨r_104, hr_105, h_101⟩ := bind_some h_101
              refine h_call0 (ref_ReachesOf_ok hr_105) rfl hb48 rfl rfl rfl rfl wa (h_op (vB r_104) wa rfl (h_bneq un4 rfl rfl wa (h_op (vB (!(r_92.1 == r_104))) wz rfl (h_nil ?_))))
              obtain rfl := some_inj h_101
              exact cu
             ·refine h_movb rfl hc_103 wa (h_skip wa (h_skip wa (h_skip wa (h_op (vB false) wa rfl (h_bneq un4 rfl rfl wa (h_op (vB (!(r_92.1 == false))) wz rfl (h_nil ?_)))))))
              obtain rfl := some_inj h_101
              exact cu
           ·rintro ⟨⟩ _ sl_ H_ hp_ hq_
            refine wH_at _ hp_ hq_ ?_
            rcases cond_some hc_87 with ⟨hc_106, hc_87⟩ | ⟨hc_106, hc_87⟩
            ·refine wH_ift rfl hc_106 (wH_seq (wH_region (h_op (vB false) wz rfl (h_nil ?_))))
             obtain rfl := some_inj hc_87
             obtain rfl := some_inj hL_88
             obtain rfl := some_inj hc_46
             obtain rfl := some_inj hL_47
             obtain rfl := some_inj hF
             exact wH_ret (fin0 (.inr rfl) [(vB false)] ⟨rfl, trivial⟩ rfl rfl rfl)
            ·refine wH_iff rfl hc_106 (wH_skip (wH_region (h_opw (w64_next hD_84 hn_85) wz rfl (h_op (vI ((k_81 + 1 : Nat) : Int)) wz rfl (h_nil ?_)))))
             obtain rfl := some_inj hc_87
             exact loop_mk (k_81 + 1, l_82, ()) ⟨hL_88, drop_next hD_84⟩ (Nat.lt_succ_self _) rfl (pre_r rfl)
         ·rintro s_86 ho_ sl_ H_ hp_ hq_
          subst ho_
          refine wH_at _ hp_ hq_ (wH_region (h_opw (w64_next hD_43 hn_44) wz rfl (h_op (vI ((k_40 + 1 : Nat) : Int)) wz rfl (h_nil ?_))))
          obtain rfl := some_inj hc_46
          exact loop_mk (k_40 + 1, l_41, ()) ⟨hL_47, drop_next hD_43⟩ (Nat.lt_succ_self _) rfl (pre_r rfl)
    ·rintro s_45 ho_ sl_ H_ hp_ hq_
     subst ho_
     refine wH_at _ hp_ hq_ (wH_seq (wH_region ?_))
     obtain ⟨r_107, hr_108, hF⟩ := bind_some hF
     refine h_call0 (law_warned_ok hr_108) rfl hb49 rfl rfl rfl rfl wz (h_op (vB r_107) wz rfl (h_nil ?_))
     obtain rfl := some_inj hF
     exact wH_ret (fin0 (.inr rfl) [(vB r_107)] ⟨rfl, trivial⟩ rfl rfl rfl)
end Go.Proofs.YtpojeclokolkaaaGreatDoor.Law

