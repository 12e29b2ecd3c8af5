/-
 The machine computes these plain functions (written by a program of ours).
-/
import Derived.Test.YtpojeclokolkaaaGreatDoorFacts
import Derived.Test.YtpojeclokolkaaaGreatDoorDefs
import Derived.Test.YtpojeclokolkaaaGreatDoorPf5
open Go Go.Eng Go.Proofs
namespace Go.Proofs.YtpojeclokolkaaaGreatDoor.Law
set_option maxRecDepth 100000
set_option linter.unusedVariables false
set_option maxHeartbeats 1000000
theorem alert_through_ok {l_1 : (List Alert)} {p_2 : Post} {wv_3 : Window} {r : (List Slot_)} (hF : alert_through l_1 p_2 wv_3 = some r) :
  FnM Tryz.prog 131 [(vL Alert.enc l_1), (.d (.agg (Post.enc p_2))), (.d (.agg (Window.enc wv_3)))] [] (vL Slot_.enc r) [] := by
 refine FnM.of_wH ⟨Tryz.prog, 124, [24], []⟩ rfl Tryz.func131 rfl rfl (Nat.le_of_ble_eq_true rfl) (by kernel_rfl) ?_
 unfold alert_through at hF
 refine wH_seq (wH_region (h_box 0 (.inl rfl) [(vS p_2.Player), (vI p_2.X), (vI p_2.Y)] rfl rfl wz (fun n_4 => h_box 0 (.inl rfl) [(vI wv_3.From), (vI wv_3.To)] rfl rfl wz (fun n_5 => h_op .nil wz rfl (h_nil (wH_seq (wH_region (h_op (vL Alert.enc l_1) wz rfl ?_))))))))
 obtain ⟨r_6, hr_7, hF⟩ := bind_some hF
 refine h_call0 (alert_ends_ok hr_7) rfl hb117 rfl rfl rfl rfl wz (h_op (vL eI r_6) wz rfl (h_nil (wH_seq (wH_region (h_far pl109_0 rfl 0 rfl wz (h_ldr 0 1 il ft sz3 ag3 rfl rfl (vI wv_3.From) rfl wz (h_far pl109_1 rfl 1 rfl wz (h_ldr 0 1 il ft sz3 ag3 rfl rfl (vI wv_3.To) rfl wz (h_litv 0 (.inl rfl) (([wv_3.From, wv_3.To] : List Int).map eI) es22 ez22 rfl rfl rfl rfl rfl wz (fun n_8 => h_op (vV n_8 1 ([wv_3.From, wv_3.To] : List Int)) wz rfl (h_nil (wH_seq (wH_seq (wH_region (h_op (vL Alert.enc l_1) wz rfl (h_len un78 rfl wz (h_op (vI 0) wz rfl (h_nil ?_))))))))))))))))))
 obtain ⟨o_19, hj_20, hF⟩ := bind_some hF
 obtain ⟨hn_13, hj_20⟩ := forL_some hj_20
 refine wH_join (β := ((List Int)) × Nm) (fun p => (fun (s_14 : (List Int)) (n_16 : Nm) => ([(0, (vL Alert.enc l_1)), (4, (.ref n_4 0 0)), (7, (vL eI r_6)), (8, (vV n_16 1 s_14))] : List (Nat × V))) p.1 p.2) (fun p => (fun (s_14 : (List Int)) (n_16 : Nm) => ([(n_4, some (.cells 3 [(vS p_2.Player), (vI p_2.X), (vI p_2.Y)])), (n_5, some (.cells 2 [(vI wv_3.From), (vI wv_3.To)])), (n_16, some (bV 1 eI s_14))] : Hp)) p.1 p.2) (fun p => o_19 = .go p.1) ?_ ?_
 ·refine wH_block (wH_loop (β := Nat × (List Alert) × ((List Int)) × Nm) (fun p => (fun (k_9 : Nat) (l_10 : List Alert) (s_14 : (List Int)) (n_16 : Nm) => ([(0, (vL Alert.enc l_1)), (4, (.ref n_4 0 0)), (5, (.ref n_5 0 0)), (7, (vL eI r_6)), (8, (vV n_16 1 s_14)), (25, (vL Alert.enc l_1)), (26, (vI (l_1.length : Int))), (27, (vI (k_9 : Int)))] : List (Nat × V))) p.1 p.2.1 p.2.2.1 p.2.2.2) (fun p => (fun (k_9 : Nat) (l_10 : List Alert) (s_14 : (List Int)) (n_16 : Nm) => ([(n_4, some (.cells 3 [(vS p_2.Player), (vI p_2.X), (vI p_2.Y)])), (n_5, some (.cells 2 [(vI wv_3.From), (vI wv_3.To)])), (n_16, some (bV 1 eI s_14))] : Hp)) p.1 p.2.1 p.2.2.1 p.2.2.2) (fun p => forR (fun k x s => alert_through_L2 r_6 wv_3 k x s) p.2.1 p.1 p.2.2.1 = some o_19 ∧ (l_1).drop p.1 = p.2.1) (fun p => p.2.1.length) (0, l_1, ([wv_3.From, wv_3.To] : List Int), n_8) ⟨hj_20, rfl⟩ rfl (pre_r rfl) ?_)
  rintro ⟨k_9, l_10, s_14, n_16⟩ ⟨hL_18, hD_12⟩
  dsimp only at hL_18 hD_12
  cases l_10 with
  | nil =>
   obtain rfl := some_inj hL_18
   refine wH_seq (wH_region (h_op (vB (decide ((k_9 : Int) < (l_1.length : Int)))) wz rfl (h_nil ?_)))
   refine wH_seq (wH_iff rfl (drop_nil hD_12) (wH_exit ?_))
   exact cut_mk (s_14, n_16) rfl rfl (pre_r rfl)
  | cons x_11 l_10 =>
   obtain ⟨c_, hc_17, hL_18⟩ := bind_some hL_18
   refine wH_seq (wH_region (h_op (vB (decide ((k_9 : Int) < (l_1.length : Int)))) wz rfl (h_nil ?_)))
   refine wH_seq (wH_ift rfl (drop_cons hD_12) (wH_skip ?_))
   unfold alert_through_L2 at hc_17
   refine wH_seq (wH_block (wH_seq (wH_region (h_op (vI (k_9 : Int)) wz rfl (h_ia es78 rfl rfl (drop_idx hD_12) rfl wz (h_ldc sz82 ag82 rfl (.d (.agg (Alert.enc x_11))) rfl wz (h_alloc 0 (.inl rfl) z82 rfl wz (fun n_21 => h_op (vI (k_9 : Int)) wz rfl (h_str 0 il ft 3 sz82 rfl rfl [(vS x_11.Id), (vS x_11.Sender), (vI x_11.Kind), (vL eS x_11.Refs), (vI x_11.At), (vI x_11.Until), (vI x_11.Weight), (vL Rect.enc x_11.Areas), (vS x_11.Text)] rfl wz (h_nil (wH_seq (wH_draws (h_far pl82_4 rfl 4 rfl wz (h_ldr 1 3 (.inr (by kernel_rfl)) (fun _ _ ag => trivial) sz3 ag3 rfl rfl (vI x_11.At) rfl wz (h_op (vL eI r_6) wz rfl (h_op (vI (k_9 : Int)) wz rfl ?_))))))))))))))))
   obtain ⟨y_22, hy_23, hc_17⟩ := bind_some hc_17
   refine h_ia es22 rfl rfl hy_23 rfl wz (h_ldc sz3 ag3 rfl (vI y_22) rfl wz (h_op (.d (.agg [.int .i64 x_11.At, .int .i64 y_22])) wz (by kernel_rfl) (h_op (vI 0) wz rfl (h_nil ?_))))
   obtain ⟨o_34, hj_35, hc_17⟩ := bind_some hc_17
   obtain ⟨hn_28, hj_35⟩ := forL_some hj_35
   refine wH_join (β := ((List Int)) × Nm) (fun p => (fun (s_29 : (List Int)) (n_31 : Nm) => ([(0, (vL Alert.enc l_1)), (4, (.ref n_4 0 0)), (5, (.ref n_5 0 0)), (7, (vL eI r_6)), (8, (vV n_31 1 s_29)), (25, (vL Alert.enc l_1)), (26, (vI (l_1.length : Int))), (27, (vI (k_9 : Int)))] : List (Nat × V))) p.1 p.2) (fun p => (fun (s_29 : (List Int)) (n_31 : Nm) => ([(n_4, some (.cells 3 [(vS p_2.Player), (vI p_2.X), (vI p_2.Y)])), (n_5, some (.cells 2 [(vI wv_3.From), (vI wv_3.To)])), (n_31, some (bV 1 eI s_29)), (n_21, some (.cells 9 [(vS x_11.Id), (vS x_11.Sender), (vI x_11.Kind), (vL eS x_11.Refs), (vI x_11.At), (vI x_11.Until), (vI x_11.Weight), (vL Rect.enc x_11.Areas), (vS x_11.Text)]))] : Hp)) p.1 p.2) (fun p => o_34 = .go p.1) ?_ ?_
   ·refine wH_block (wH_loop (β := Nat × (List Nat) × ((List Int)) × Nm) (fun p => (fun (k_24 : Nat) (l_25 : List Nat) (s_29 : (List Int)) (n_31 : Nm) => ([(0, (vL Alert.enc l_1)), (4, (.ref n_4 0 0)), (5, (.ref n_5 0 0)), (7, (vL eI r_6)), (8, (vV n_31 1 s_29)), (25, (vL Alert.enc l_1)), (26, (vI (l_1.length : Int))), (27, (vI (k_9 : Int))), (38, (.d (.agg [.int .i64 x_11.At, .int .i64 y_22]))), (39, (vI (k_24 : Int)))] : List (Nat × V))) p.1 p.2.1 p.2.2.1 p.2.2.2) (fun p => (fun (k_24 : Nat) (l_25 : List Nat) (s_29 : (List Int)) (n_31 : Nm) => ([(n_4, some (.cells 3 [(vS p_2.Player), (vI p_2.X), (vI p_2.Y)])), (n_5, some (.cells 2 [(vI wv_3.From), (vI wv_3.To)])), (n_31, some (bV 1 eI s_29)), (n_21, some (.cells 9 [(vS x_11.Id), (vS x_11.Sender), (vI x_11.Kind), (vL eS x_11.Refs), (vI x_11.At), (vI x_11.Until), (vI x_11.Weight), (vL Rect.enc x_11.Areas), (vS x_11.Text)]))] : Hp)) p.1 p.2.1 p.2.2.1 p.2.2.2) (fun p => forR (fun k x s => alert_through_L1 x_11 y_22 wv_3 k x s) p.2.1 p.1 p.2.2.1 = some o_34 ∧ ((List.range (2 : Int).toNat)).drop p.1 = p.2.1) (fun p => p.2.1.length) (0, (List.range (2 : Int).toNat), s_14, n_16) ⟨hj_35, rfl⟩ rfl (pre_r rfl) ?_)
    rintro ⟨k_24, l_25, s_29, n_31⟩ ⟨hL_33, hD_27⟩
    dsimp only at hL_33 hD_27
    cases l_25 with
    | nil =>
     obtain rfl := some_inj hL_33
     refine wH_seq (wH_region (h_op (vB (decide ((k_24 : Int) < 2))) wz rfl (h_nil ?_)))
     refine wH_seq (wH_iff rfl (range_nil hD_27) (wH_exit ?_))
     exact cut_mk (s_29, n_31) rfl rfl (pre_r rfl)
    | cons x_26 l_25 =>
     obtain ⟨c_, hc_32, hL_33⟩ := bind_some hL_33
     refine wH_seq (wH_region (h_op (vB (decide ((k_24 : Int) < 2))) wz rfl (h_nil ?_)))
     refine wH_seq (wH_ift rfl (range_cons hD_27) (wH_skip ?_))
     unfold alert_through_L1 at hc_32
     refine wH_seq (wH_block (wH_seq (wH_region ?_)))
     obtain ⟨y_36, hy_37, hc_32⟩ := bind_some hc_32
     refine h_idxa (enc := eI) (xs := ([x_11.At, y_22] : List Int)) un273 sz3 ag3 rfl rfl rfl rfl hy_37 (fun _ => rfl) (.inr rfl) (vI y_36) rfl wz (h_op (vI y_36) wz rfl (h_nil (wH_seq ?_)))
     obtain ⟨v_38, h_39, hc_32⟩ := bind_some hc_32
     refine wH_join (β := Unit) (fun _ => ([(0, (vL Alert.enc l_1)), (4, (.ref n_4 0 0)), (5, (.ref n_5 0 0)), (7, (vL eI r_6)), (8, (vV n_31 1 s_29)), (12, (vI y_36)), (25, (vL Alert.enc l_1)), (26, (vI (l_1.length : Int))), (27, (vI (k_9 : Int))), (38, (.d (.agg [.int .i64 x_11.At, .int .i64 y_22]))), (39, (vI (k_24 : Int))), (51, (vB v_38))] : List (Nat × V))) (fun _ => ([(n_4, some (.cells 3 [(vS p_2.Player), (vI p_2.X), (vI p_2.Y)])), (n_5, some (.cells 2 [(vI wv_3.From), (vI wv_3.To)])), (n_31, some (bV 1 eI s_29)), (n_21, some (.cells 9 [(vS x_11.Id), (vS x_11.Sender), (vI x_11.Kind), (vL eS x_11.Refs), (vI x_11.At), (vI x_11.Until), (vI x_11.Weight), (vL Rect.enc x_11.Areas), (vS x_11.Text)]))] : Hp)) (fun _ => True) ?_ ?_
     ·refine wH_region (h_far pl109_0 rfl 0 rfl wz (h_ldr 0 1 il ft sz3 ag3 rfl rfl (vI wv_3.From) rfl wz (h_op (vI y_36) wz rfl (h_op (vB (decide (wv_3.From < y_36))) wz rfl ?_))))
      rcases cond_some h_39 with ⟨hc_40, h_39⟩ | ⟨hc_40, h_39⟩
      ·refine h_movb rfl hc_40 wz (h_op (vI y_36) wa rfl (h_far pl109_1 rfl 1 rfl wa (h_ldr 0 1 il ft sz3 ag3 rfl rfl (vI wv_3.To) rfl wa (h_op (vB (decide (y_36 < wv_3.To))) wa rfl (h_op (vB (decide (y_36 < wv_3.To))) wz rfl (h_nil ?_))))))
       obtain rfl := some_inj h_39
       exact cu
      ·refine h_movb rfl hc_40 wz (h_skip wa (h_skip wa (h_skip wa (h_skip wa (h_op (vB false) wz rfl (h_nil ?_))))))
       obtain rfl := some_inj h_39
       exact cu
     ·rintro ⟨⟩ _ sl_ H_ hp_ hq_
      refine wH_at _ hp_ hq_ ?_
      obtain ⟨v_41, h_42, hc_32⟩ := bind_some hc_32
      refine wH_join (β := Nm) (fun (n_43 : Nm) => ([(0, (vL Alert.enc l_1)), (4, (.ref n_4 0 0)), (5, (.ref n_5 0 0)), (7, (vL eI r_6)), (8, (vV n_43 1 v_41)), (25, (vL Alert.enc l_1)), (26, (vI (l_1.length : Int))), (27, (vI (k_9 : Int))), (38, (.d (.agg [.int .i64 x_11.At, .int .i64 y_22]))), (39, (vI (k_24 : Int)))] : List (Nat × V))) (fun (n_43 : Nm) => ([(n_4, some (.cells 3 [(vS p_2.Player), (vI p_2.X), (vI p_2.Y)])), (n_5, some (.cells 2 [(vI wv_3.From), (vI wv_3.To)])), (n_43, some (bV 1 eI v_41)), (n_21, some (.cells 9 [(vS x_11.Id), (vS x_11.Sender), (vI x_11.Kind), (vL eS x_11.Refs), (vI x_11.At), (vI x_11.Until), (vI x_11.Weight), (vL Rect.enc x_11.Areas), (vS x_11.Text)]))] : Hp)) (fun _ => True) ?_ ?_
      ·rcases cond_some h_42 with ⟨hc_44, h_42⟩ | ⟨hc_44, h_42⟩
       ·refine wH_ift rfl hc_44 (wH_region (h_op (vV n_31 1 s_29) wz rfl (h_op (vI y_36) wz rfl (h_lit (([y_36] : List Int).map eI) es22 ez22 rfl rfl rfl rfl rfl wz ?_))))
        obtain ⟨a_45, hz_46, h_42⟩ := bind_some h_42
        refine h_appv 0 il ft (i := 2) el22 el22 sz3 z3 rfl (by decide) by3 (by decide) (fun _ => rfl) rfl rfl rfl hz_46 wz (fun n_47 => h_op (vV n_47 1 a_45) wz rfl (h_nil ?_))
        obtain rfl := some_inj h_42
        exact cut_mk n_47 trivial rfl (pre_r rfl)
       ·refine wH_iff rfl hc_44 (wH_skip ?_)
        obtain rfl := some_inj h_42
        exact cut_mk n_31 trivial rfl (pre_r rfl)
      ·rintro n_43 _ sl_ H_ hp_ hq_
       refine wH_at _ hp_ hq_ (wH_region (h_opw (w64_nextr hD_27 hn_28) wz rfl (h_op (vI ((k_24 + 1 : Nat) : Int)) wz rfl (h_nil ?_))))
       obtain rfl := some_inj hc_32
       exact loop_mk (k_24 + 1, l_25, v_41, n_43) ⟨hL_33, drop_next hD_27⟩ (Nat.lt_succ_self _) rfl (pre_r rfl)
   ·rintro ⟨s_29, n_31⟩ ho_ sl_ H_ hp_ hq_
    subst ho_
    refine wH_at _ hp_ hq_ (wH_region (h_opw (w64_next hD_12 hn_13) wz rfl (h_op (vI ((k_9 + 1 : Nat) : Int)) wz rfl (h_nil ?_))))
    obtain rfl := some_inj hc_17
    exact loop_mk (k_9 + 1, l_10, s_29, n_31) ⟨hL_18, drop_next hD_12⟩ (Nat.lt_succ_self _) rfl (pre_r rfl)
 ·rintro ⟨s_14, n_16⟩ ho_ sl_ H_ hp_ hq_
  subst ho_
  refine wH_at _ hp_ hq_ (wH_seq (wH_region (h_op (vV n_16 1 s_14) wz rfl ?_)))
  obtain ⟨_, hn_48, hF⟩ := bind_some hF
  replace hn_48 := neL_ne hn_48
  refine h_reH 2 rfl (gB_cons hn_48).symm (h_re (v' := (gV n_16 1 s_14)) 58 rfl (vV_gV hn_48) (h_re (v' := (gV n_16 1 s_14)) 8 rfl (vV_gV hn_48) ?_))
  obtain ⟨r_49, hr_50, hF⟩ := bind_some hF
  obtain ⟨_, hs_51, hF⟩ := bind_some hF
  replace hs_51 := sameL_eq hs_51
  refine h_callv 0 [] 2 0 il ft (slices_Sort_int_int_v1_ok hr_50) rfl hb181 rfl rfl rfl (by kernel_rfl) rfl (.inl rfl) rfl (by kernel_rfl) (by kernel_rfl) (by kernel_rfl) (by kernel_rfl) rfl (by decide) (by kernel_rfl) gB_ok (gB_ho hs_51) wz ([(n_4, some (.cells 3 [(vS p_2.Player), (vI p_2.X), (vI p_2.Y)])), (n_5, some (.cells 2 [(vI wv_3.From), (vI wv_3.To)])), (n_16, gB 1 eI r_49)] : Hp) (by kernel_rfl) (h_re (v' := (gV n_16 1 r_49)) 58 rfl (gV_len hs_51.symm) (h_re (v' := (gV n_16 1 r_49)) 8 rfl (gV_len hs_51.symm) (h_nil (wH_seq (wH_region (h_op (gV n_16 1 r_49) wz rfl ?_))))))
  obtain ⟨r_52, hr_53, hF⟩ := bind_some hF
  refine h_callv 0 [] 2 0 il ft (slices_Compact_int_int_v1_ok hr_53) rfl hb182 rfl rfl rfl (by kernel_rfl) rfl (.inl rfl) rfl (by kernel_rfl) (by kernel_rfl) (by kernel_rfl) (by kernel_rfl) rfl (by decide) (by kernel_rfl) none_ok (fun _ => rfl) wz ([(n_4, some (.cells 3 [(vS p_2.Player), (vI p_2.X), (vI p_2.Y)])), (n_5, some (.cells 2 [(vI wv_3.From), (vI wv_3.To)])), (n_16, none)] : Hp) (by kernel_rfl) (h_op (vL eI r_52) wz rfl (h_nil (wH_seq (wH_region (h_op .nil wz rfl (h_nil (wH_seq (wH_seq (wH_region (h_op (vI 0) wz rfl (h_nil (wH_new (fun n_60 => ?_)))))))))))))
  obtain ⟨o_65, hj_66, hF⟩ := bind_some hF
  obtain ⟨nq_99, hj_66⟩ := loopO_iter hj_66
  refine wH_join (β := ((List Slot_) × Int) × Nm) (fun p => (fun (s_59 : (List Slot_) × Int) (n_62 : Nm) => ([(13, (gV n_62 3 s_59.1))] : List (Nat × V))) p.1 p.2) (fun p => (fun (s_59 : (List Slot_) × Int) (n_62 : Nm) => ([(n_4, some (.cells 3 [(vS p_2.Player), (vI p_2.X), (vI p_2.Y)])), (n_5, some (.cells 2 [(vI wv_3.From), (vI wv_3.To)])), (n_16, none), (n_62, gB 3 Slot_.enc s_59.1)] : Hp)) p.1 p.2) (fun p => o_65 = .go p.1) ?_ ?_
  ·refine wH_block (wH_loop (β := Nat × ((List Slot_) × Int) × Nm) (fun p => (fun (k_54 : Nat) (s_59 : (List Slot_) × Int) (n_62 : Nm) => ([(0, (vL Alert.enc l_1)), (4, (.ref n_4 0 0)), (7, (vL eI r_6)), (8, (vL eI r_52)), (13, (gV n_62 3 s_59.1)), (14, (vI s_59.2))] : List (Nat × V))) p.1 p.2.1 p.2.2) (fun p => (fun (k_54 : Nat) (s_59 : (List Slot_) × Int) (n_62 : Nm) => ([(n_4, some (.cells 3 [(vS p_2.Player), (vI p_2.X), (vI p_2.Y)])), (n_5, some (.cells 2 [(vI wv_3.From), (vI wv_3.To)])), (n_16, none), (n_62, gB 3 Slot_.enc s_59.1)] : Hp)) p.1 p.2.1 p.2.2) (fun p => iterN (fun s => alert_through_L3 r_52 l_1 r_6 p_2 s) p.1 p.2.1 = some o_65) (fun p => p.1) (nq_99, (([] : List Slot_), 0), n_60) hj_66 rfl (pre_r rfl) ?_)
   rintro ⟨k_54, s_59, n_62⟩ hL_64
   dsimp only at hL_64
   cases k_54 with
   | zero => cases hL_64
   | succ k_54 =>
    obtain ⟨c_, hc_63, hL_64⟩ := bind_some hL_64
    unfold alert_through_L3 at hc_63
    refine wH_seq (wH_seq (wH_region (h_op (vI s_59.2) wz rfl (h_op (vI (w64 (s_59.2 + 1))) wz rfl (h_op (vL eI r_52) wz rfl (h_len un22 rfl wz (h_op (vB (decide ((w64 (s_59.2 + 1)) < (r_52.length : Int)))) wz rfl (h_nil ?_))))))))
    rcases cond_some hc_63 with ⟨hc_67, hc_63⟩ | ⟨hc_67, hc_63⟩
    ·refine wH_ift rfl hc_67 (wH_skip (wH_seq (wH_block (wH_seq (wH_region (h_op (vS (⟨#[]⟩ : ByteArray)) wz rfl (h_nil (wH_seq (wH_seq (wH_draws (h_op (vL Alert.enc l_1) wz rfl (h_op (vL eI r_6) wz rfl (h_ldr 2 0 (.inr (by kernel_rfl)) (fun _ _ ag => trivial) sz77 ag77 rfl rfl (.d (.agg (Post.enc p_2))) rfl wz (h_op (vL eI r_52) wz rfl (h_op (vI s_59.2) wz rfl ?_)))))))))))))))
     obtain ⟨y_68, hy_69, hc_63⟩ := bind_some hc_63
     refine h_ia es22 rfl rfl hy_69 rfl wz (h_ldc sz3 ag3 rfl (vI y_68) rfl wz ?_)
     obtain ⟨r_70, hr_71, hc_63⟩ := bind_some hc_63
     refine h_call0 (alert_ranked_ok hr_71) rfl hb118 rfl rfl rfl rfl wz (h_op (vL Alert.enc r_70) wz rfl (h_nil (wH_seq (wH_region (h_op (vL Alert.enc r_70) wz rfl (h_len un78 rfl wz (h_op (vB (decide ((r_70.length : Int) > 0))) wz rfl (h_nil ?_))))))))
     obtain ⟨v_72, h_73, hc_63⟩ := bind_some hc_63
     refine wH_join (β := Unit) (fun _ => ([(0, (vL Alert.enc l_1)), (4, (.ref n_4 0 0)), (7, (vL eI r_6)), (8, (vL eI r_52)), (13, (gV n_62 3 s_59.1)), (14, (vI s_59.2)), (15, (vS v_72))] : List (Nat × V))) (fun _ => ([(n_4, some (.cells 3 [(vS p_2.Player), (vI p_2.X), (vI p_2.Y)])), (n_5, some (.cells 2 [(vI wv_3.From), (vI wv_3.To)])), (n_16, none), (n_62, gB 3 Slot_.enc s_59.1)] : Hp)) (fun _ => True) ?_ ?_
     ·rcases cond_some h_73 with ⟨hc_74, h_73⟩ | ⟨hc_74, h_73⟩
      ·refine wH_ift rfl hc_74 (wH_region (h_op (vL Alert.enc r_70) wz rfl ?_))
       obtain ⟨y_75, hy_76, h_73⟩ := bind_some h_73
       refine h_ia es78 rfl rfl hy_76 rfl wz (h_fac pl82_0 rfl [.str y_75.Id, .str y_75.Sender, .int .i64 y_75.Kind, dl eS y_75.Refs, .int .i64 y_75.At, .int .i64 y_75.Until, .int .i64 y_75.Weight, dl Rect.enc y_75.Areas, .str y_75.Text] rfl rfl wz (h_ldc sz9 ag9 rfl (vS y_75.Id) rfl wz (h_op (vS y_75.Id) wz rfl (h_nil ?_))))
       obtain rfl := some_inj h_73
       exact cu
      ·refine wH_iff rfl hc_74 (wH_skip ?_)
       obtain rfl := some_inj h_73
       exact cu
     ·rintro ⟨⟩ _ sl_ H_ hp_ hq_
      refine wH_at _ hp_ hq_ (wH_seq (wH_region (h_op (gV n_62 3 s_59.1) wz rfl (h_leng un110 rfl wz (h_op (vI (w64 ((s_59.1.length : Int) - 1))) wz rfl (h_op (vI (w64 ((s_59.1.length : Int) - 1))) wz rfl (h_nil (wH_seq ?_))))))))
      obtain ⟨v_77, h_78, hc_63⟩ := bind_some hc_63
      refine wH_join (β := Unit) (fun _ => ([(0, (vL Alert.enc l_1)), (4, (.ref n_4 0 0)), (7, (vL eI r_6)), (8, (vL eI r_52)), (13, (gV n_62 3 s_59.1)), (14, (vI s_59.2)), (15, (vS v_72)), (17, (vI (w64 ((s_59.1.length : Int) - 1)))), (97, (vB v_77))] : List (Nat × V))) (fun _ => ([(n_4, some (.cells 3 [(vS p_2.Player), (vI p_2.X), (vI p_2.Y)])), (n_5, some (.cells 2 [(vI wv_3.From), (vI wv_3.To)])), (n_16, none), (n_62, gB 3 Slot_.enc s_59.1)] : Hp)) (fun _ => True) ?_ ?_
      ·refine wH_region (h_op (vI (w64 ((s_59.1.length : Int) - 1))) wz rfl (h_op (vB (decide ((w64 ((s_59.1.length : Int) - 1)) ≥ 0))) wz rfl ?_))
       rcases cond_some h_78 with ⟨hc_79, h_78⟩ | ⟨hc_79, h_78⟩
       ·refine h_movb rfl hc_79 wz (h_op (gV n_62 3 s_59.1) wa rfl (h_op (vI (w64 ((s_59.1.length : Int) - 1))) wa rfl ?_))
        obtain ⟨_, hi_80, h_78⟩ := bind_some h_78
        refine h_iavg es110 rfl rfl (inR_0 hi_80) (inR_lt hi_80) wa (h_far pl117_1 rfl 2 rfl wa ?_)
        obtain ⟨e_81, hy_82, h_78⟩ := bind_some h_78
        refine h_ldvg 0 3 il ft sz9 ag9 rfl rfl hy_82 (vS e_81.Entry) rfl wa (h_op (vS v_72) wa rfl (h_op (vB (sEq e_81.Entry v_72)) wa rfl (h_op (vB (sEq e_81.Entry v_72)) wz rfl (h_nil ?_))))
        obtain rfl := some_inj h_78
        exact cu
       ·refine h_movb rfl hc_79 wz (h_skip wa (h_skip wa (h_skip wa (h_skip wa (h_skip wa (h_skip wa (h_skip wa (h_op (vB false) wz rfl (h_nil ?_)))))))))
        obtain rfl := some_inj h_78
        exact cu
      ·rintro ⟨⟩ _ sl_ H_ hp_ hq_
       refine wH_at _ hp_ hq_ ?_
       obtain ⟨v_83, h_84, hc_63⟩ := bind_some hc_63
       refine wH_join (β := Nm) (fun (n_85 : Nm) => ([(0, (vL Alert.enc l_1)), (4, (.ref n_4 0 0)), (7, (vL eI r_6)), (8, (vL eI r_52)), (13, (gV n_85 3 v_83)), (14, (vI s_59.2))] : List (Nat × V))) (fun (n_85 : Nm) => ([(n_4, some (.cells 3 [(vS p_2.Player), (vI p_2.X), (vI p_2.Y)])), (n_5, some (.cells 2 [(vI wv_3.From), (vI wv_3.To)])), (n_16, none), (n_85, gB 3 Slot_.enc v_83)] : Hp)) (fun _ => True) ?_ ?_
       ·rcases cond_some h_84 with ⟨hc_86, h_84⟩ | ⟨hc_86, h_84⟩
        ·refine wH_ift rfl hc_86 (wH_region (h_op (gV n_62 3 s_59.1) wz rfl (h_op (vI (w64 ((s_59.1.length : Int) - 1))) wz rfl (h_op (vL eI r_52) wz rfl (h_op (vI s_59.2) wz rfl (h_op (vI (w64 (s_59.2 + 1))) wz rfl ?_))))))
         obtain ⟨y_87, hy_88, h_84⟩ := bind_some h_84
         refine h_ia es22 rfl rfl hy_88 rfl wz (h_ldc sz3 ag3 rfl (vI y_87) rfl wz ?_)
         obtain ⟨_, hi_89, h_84⟩ := bind_some h_84
         refine h_iavg es110 rfl rfl (inR_0 hi_89) (inR_lt hi_89) wz (h_far pl117_0 rfl 0 rfl wz (h_far pl109_1 rfl 1 rfl wz ?_))
         obtain ⟨e_90, hy_91, h_84⟩ := bind_some h_84
         refine h_stvg 0 il ft 3 sz3 rfl rfl hy_91 (⟨(⟨e_90.Time.From, y_87⟩ : Window), e_90.Entry⟩ : Slot_) rfl wz (h_re (v' := (gV n_62 3 (s_59.1.set (0 + ((w64 ((s_59.1.length : Int) - 1))).toNat) (⟨(⟨e_90.Time.From, y_87⟩ : Window), e_90.Entry⟩ : Slot_)))) 13 rfl (gV_len (by simp)) (h_re (v' := (gV n_62 3 (s_59.1.set (0 + ((w64 ((s_59.1.length : Int) - 1))).toNat) (⟨(⟨e_90.Time.From, y_87⟩ : Window), e_90.Entry⟩ : Slot_)))) 98 rfl (gV_len (by simp)) (h_nil ?_)))
         obtain rfl := some_inj h_84
         exact cut_mk n_62 trivial rfl (pre_r rfl)
        ·refine wH_iff rfl hc_86 (wH_draws (h_op (gV n_62 3 s_59.1) wz rfl (h_op (vL eI r_52) wz rfl (h_op (vI s_59.2) wz rfl ?_))))
         obtain ⟨y_92, hy_93, h_84⟩ := bind_some h_84
         refine h_ia es22 rfl rfl hy_93 rfl wz (h_ldc sz3 ag3 rfl (vI y_92) rfl wz (h_op (vL eI r_52) wz rfl (h_op (vI s_59.2) wz rfl (h_op (vI (w64 (s_59.2 + 1))) wz rfl ?_))))
         obtain ⟨y_94, hy_95, h_84⟩ := bind_some h_84
         refine h_ia es22 rfl rfl hy_95 rfl wz (h_ldc sz3 ag3 rfl (vI y_94) rfl wz (h_op (.d (.agg (Window.enc (⟨y_92, y_94⟩ : Window)))) wz (by kernel_rfl) (h_op (vS v_72) wz rfl (h_op (.d (.agg (Slot_.enc (⟨(⟨y_92, y_94⟩ : Window), v_72⟩ : Slot_)))) wz (by kernel_rfl) (h_lit (([(⟨(⟨y_92, y_94⟩ : Window), v_72⟩ : Slot_)] : List Slot_).map Slot_.enc) es110 ez110 rfl rfl rfl rfl rfl wz ?_)))))
         obtain ⟨a_96, hz_97, h_84⟩ := bind_some h_84
         refine h_appg 14 (.inr (by kernel_rfl)) (fun _ _ ag => trivial) (i := 3) el110 el110 sz117 z117 rfl (by decide) by117 (by decide) (fun _ => rfl) rfl rfl rfl hz_97 wz (fun n_98 => h_op (gV n_98 3 a_96) wz rfl (h_nil ?_))
         obtain rfl := some_inj h_84
         exact cut_mk n_98 trivial rfl (pre_r rfl)
       ·rintro n_85 _ sl_ H_ hp_ hq_
        refine wH_at _ hp_ hq_ (wH_region (h_op (vI s_59.2) wz rfl (h_op (vI (w64 (s_59.2 + 1))) wz rfl (h_op (vI (w64 (s_59.2 + 1))) wz rfl (h_nil ?_)))))
        obtain rfl := some_inj hc_63
        exact loop_mk (k_54, (v_83, (w64 (s_59.2 + 1))), n_85) hL_64 (Nat.lt_succ_self _) rfl (pre_r rfl)
    ·refine wH_iff rfl hc_67 (wH_exit ?_)
     obtain rfl := some_inj hc_63
     obtain rfl := some_inj hL_64
     exact cut_mk ((s_59.1, s_59.2), n_62) rfl rfl (pre_r rfl)
  ·rintro ⟨s_59, n_62⟩ ho_ sl_ H_ hp_ hq_
   subst ho_
   refine wH_at _ hp_ hq_ (wH_seq (wH_region (h_op (gV n_62 3 s_59.1) wz rfl (h_op (gV n_62 3 s_59.1) wz rfl (h_nil (wH_frozg 3 rfl (wH_cog 6 3 rfl rfl (wH_cog 13 3 rfl rfl (wH_cog 123 3 rfl rfl ?_)))))))))
   obtain rfl := some_inj hF
   exact wH_ret (fin0 (.inr rfl) [(vL Slot_.enc s_59.1)] ⟨rfl, trivial⟩ rfl rfl rfl)
theorem alert_Through_ok {l_1 : (List Alert)} {p_2 : Post} {wv_3 : Window} {r : (List Slot_) × Int} (hF : alert_Through l_1 p_2 wv_3 = some r) :
  FnM Tryz.prog 50 [(vL Alert.enc l_1), (.d (.agg (Post.enc p_2))), (.d (.agg (Window.enc wv_3)))] [] (.tup [(vL Slot_.enc r.1), (vI r.2)]) [] := by
 refine FnM.of_wH ⟨Tryz.prog, 30, [], []⟩ rfl Tryz.func50 rfl rfl (Nat.le_of_ble_eq_true rfl) (by kernel_rfl) ?_
 unfold alert_Through at hF
 refine wH_seq (wH_region (h_box 0 (.inl rfl) [(vS p_2.Player), (vI p_2.X), (vI p_2.Y)] rfl rfl wz (fun n_4 => h_box 0 (.inl rfl) [(vI wv_3.From), (vI wv_3.To)] rfl rfl wz (fun n_5 => h_op .nil wz rfl (h_op (vI 0) wz rfl (h_nil (wH_seq (wH_seq (wH_region (h_op (vL Alert.enc l_1) wz rfl (h_ldr 0 0 il ft sz77 ag77 rfl rfl (.d (.agg (Post.enc p_2))) rfl wz (h_lit (([p_2] : List Post).map Post.enc) es86 ez86 rfl rfl rfl rfl rfl wz ?_))))))))))))
 obtain ⟨r_6, hr_7, hF⟩ := bind_some hF
 refine h_call0 (alert_checkBoth_ok hr_7) rfl hb112 rfl rfl rfl rfl wz (h_op (vI r_6) wz rfl (h_nil (wH_seq (wH_region (h_op (vI r_6) wz rfl (h_op (vB (r_6 != 0)) wz rfl (h_nil ?_)))))))
 rcases cond_some hF with ⟨hc_8, hF⟩ | ⟨hc_8, hF⟩
 ·refine wH_ift rfl hc_8 (wH_seq (wH_region (h_op (vI r_6) wz rfl (h_op .nil wz rfl (h_op (vI r_6) wz rfl (h_nil ?_))))))
  obtain rfl := some_inj hF
  exact wH_ret (fin0 (.inr rfl) [.nil, (vI r_6)] ⟨rfl, ⟨rfl, trivial⟩⟩ rfl rfl rfl)
 ·refine wH_iff rfl hc_8 (wH_skip (wH_seq (wH_seq ?_)))
  obtain ⟨v_9, h_10, hF⟩ := bind_some hF
  refine wH_join (β := Unit) (fun _ => ([(0, (vL Alert.enc l_1)), (4, (.ref n_4 0 0)), (5, (.ref n_5 0 0)), (25, (vB v_9))] : List (Nat × V))) (fun _ => ([(n_4, some (.cells 3 [(vS p_2.Player), (vI p_2.X), (vI p_2.Y)])), (n_5, some (.cells 2 [(vI wv_3.From), (vI wv_3.To)]))] : Hp)) (fun _ => True) ?_ ?_
  ·refine wH_region (h_far pl109_0 rfl 0 rfl wz (h_ldr 0 1 il ft sz3 ag3 rfl rfl (vI wv_3.From) rfl wz (h_far pl109_1 rfl 1 rfl wz (h_ldr 0 1 il ft sz3 ag3 rfl rfl (vI wv_3.To) rfl wz ?_))))
   obtain ⟨r_11, hr_12, h_10⟩ := bind_some h_10
   refine h_call0 (kit_Outside_ok hr_12) rfl hb86 rfl rfl rfl rfl wz ?_
   rcases cond_some h_10 with ⟨hc_13, h_10⟩ | ⟨hc_13, h_10⟩
   ·refine h_movb rfl hc_13 wz (h_skip wa (h_skip wa (h_skip wa (h_op (vB true) wz rfl (h_nil ?_)))))
    obtain rfl := some_inj h_10
    exact cu
   ·refine h_movb rfl hc_13 wz (h_far pl109_1 rfl 1 rfl wa (h_ldr 0 1 il ft sz3 ag3 rfl rfl (vI wv_3.To) rfl wa (h_op (vB (decide (wv_3.To > 345686400000))) wa rfl (h_op (vB (decide (wv_3.To > 345686400000))) wz rfl (h_nil ?_)))))
    obtain rfl := some_inj h_10
    exact cu
  ·rintro ⟨⟩ _ sl_ H_ hp_ hq_
   refine wH_at _ hp_ hq_ ?_
   rcases cond_some hF with ⟨hc_14, hF⟩ | ⟨hc_14, hF⟩
   ·refine wH_ift rfl hc_14 (wH_seq (wH_region (h_op .nil wz rfl (h_op (vI 1) wz rfl (h_nil ?_)))))
    obtain rfl := some_inj hF
    exact wH_ret (fin0 (.inr rfl) [.nil, (vI 1)] ⟨rfl, ⟨rfl, trivial⟩⟩ rfl rfl rfl)
   ·refine wH_iff rfl hc_14 (wH_skip (wH_seq (wH_region (h_op (vL Alert.enc l_1) wz rfl (h_ldr 0 0 il ft sz77 ag77 rfl rfl (.d (.agg (Post.enc p_2))) rfl wz (h_ldr 0 1 il ft sz109 ag109 rfl rfl (.d (.agg (Window.enc wv_3))) rfl wz ?_))))))
    obtain ⟨r_15, hr_16, hF⟩ := bind_some hF
    refine h_call0 (alert_through_ok hr_16) rfl hb131 rfl rfl rfl rfl wz (h_op (vL Slot_.enc r_15) wz rfl (h_op (vI 0) wz rfl (h_nil ?_)))
    obtain rfl := some_inj hF
    exact wH_ret (fin0 (.inr rfl) [(vL Slot_.enc r_15), (vI 0)] ⟨rfl, ⟨rfl, trivial⟩⟩ rfl rfl rfl)
theorem alert_momentFault_ok {atv_1 : Int} {r : Int} (hF : alert_momentFault atv_1 = some r) :
  FnM Tryz.prog 116 [(vI atv_1)] [] (vI r) [] := by
 refine FnM.of_wH ⟨Tryz.prog, 6, [], []⟩ rfl Tryz.func116 rfl rfl (Nat.le_of_ble_eq_true rfl) (by kernel_rfl) ?_
 unfold alert_momentFault at hF
 refine wH_seq (wH_region (h_op (vI 0) wz rfl (h_nil (wH_seq (wH_seq (wH_region (h_op (vI atv_1) wz rfl ?_)))))))
 obtain ⟨r_2, hr_3, hF⟩ := bind_some hF
 refine h_call0 (kit_IsMoment_ok hr_3) rfl hb136 rfl rfl rfl rfl wz (h_op (vB (!r_2)) wz rfl (h_nil ?_))
 rcases cond_some hF with ⟨hc_4, hF⟩ | ⟨hc_4, hF⟩
 ·refine wH_ift rfl hc_4 (wH_seq (wH_region (h_op (vI 1) wz rfl (h_nil ?_))))
  obtain rfl := some_inj hF
  exact wH_ret (fin0 (.inr rfl) [(vI 1)] ⟨rfl, trivial⟩ rfl rfl rfl)
 ·refine wH_iff rfl hc_4 (wH_skip (wH_seq (wH_region (h_op (vI 0) wz rfl (h_nil ?_)))))
  obtain rfl := some_inj hF
  exact wH_ret (fin0 (.inr rfl) [(vI 0)] ⟨rfl, trivial⟩ rfl rfl rfl)
theorem alert_spotFault_ok {l_1 : (List Alert)} {p_2 : Post} {atv_3 : Int} {r : Int} (hF : alert_spotFault l_1 p_2 atv_3 = some r) :
  FnM Tryz.prog 125 [(vL Alert.enc l_1), (.d (.agg (Post.enc p_2))), (vI atv_3)] [] (vI r) [] := by
 refine FnM.of_wH ⟨Tryz.prog, 17, [], []⟩ rfl Tryz.func125 rfl rfl (Nat.le_of_ble_eq_true rfl) (by kernel_rfl) ?_
 unfold alert_spotFault at hF
 refine wH_seq (wH_region (h_box 0 (.inl rfl) [(vS p_2.Player), (vI p_2.X), (vI p_2.Y)] rfl rfl wz (fun n_4 => h_op (vI 0) wz rfl (h_nil (wH_seq (wH_seq (wH_region (h_op (vL Alert.enc l_1) wz rfl (h_ldr 0 0 il ft sz77 ag77 rfl rfl (.d (.agg (Post.enc p_2))) rfl wz (h_lit (([p_2] : List Post).map Post.enc) es86 ez86 rfl rfl rfl rfl rfl wz ?_))))))))))
 obtain ⟨r_5, hr_6, hF⟩ := bind_some hF
 refine h_call0 (alert_checkBoth_ok hr_6) rfl hb112 rfl rfl rfl rfl wz (h_op (vI r_5) wz rfl (h_nil (wH_seq (wH_region (h_op (vI r_5) wz rfl (h_op (vB (r_5 != 0)) wz rfl (h_nil ?_)))))))
 rcases cond_some hF with ⟨hc_7, hF⟩ | ⟨hc_7, hF⟩
 ·refine wH_ift rfl hc_7 (wH_seq (wH_region (h_op (vI r_5) wz rfl (h_op (vI r_5) wz rfl (h_nil ?_)))))
  obtain rfl := some_inj hF
  exact wH_ret (fin0 (.inr rfl) [(vI r_5)] ⟨rfl, trivial⟩ rfl rfl rfl)
 ·refine wH_iff rfl hc_7 (wH_skip (wH_seq (wH_region (h_op (vI atv_3) wz rfl ?_))))
  obtain ⟨r_8, hr_9, hF⟩ := bind_some hF
  refine h_call0 (alert_momentFault_ok hr_9) rfl hb116 rfl rfl rfl rfl wz (h_op (vI r_8) wz rfl (h_nil ?_))
  obtain rfl := some_inj hF
  exact wH_ret (fin0 (.inr rfl) [(vI r_8)] ⟨rfl, trivial⟩ rfl rfl rfl)
theorem alert_Shown_ok {l_1 : (List Alert)} {p_2 : Post} {atv_3 : Int} {r : ByteArray × Bool × Int} (hF : alert_Shown l_1 p_2 atv_3 = some r) :
  FnM Tryz.prog 44 [(vL Alert.enc l_1), (.d (.agg (Post.enc p_2))), (vI atv_3)] [] (.tup [(vS r.1), (vB r.2.1), (vI r.2.2)]) [] := by
 refine FnM.of_wH ⟨Tryz.prog, 31, [], []⟩ rfl Tryz.func44 rfl rfl (Nat.le_of_ble_eq_true rfl) (by kernel_rfl) ?_
 unfold alert_Shown at hF
 refine wH_seq (wH_region (h_box 0 (.inl rfl) [(vS p_2.Player), (vI p_2.X), (vI p_2.Y)] rfl rfl wz (fun n_4 => h_op (vS (⟨#[]⟩ : ByteArray)) wz rfl (h_op (vB false) wz rfl (h_op (vI 0) wz rfl (h_nil (wH_seq (wH_seq (wH_region (h_op (vL Alert.enc l_1) wz rfl (h_ldr 0 0 il ft sz77 ag77 rfl rfl (.d (.agg (Post.enc p_2))) rfl wz (h_op (vI atv_3) wz rfl ?_))))))))))))
 obtain ⟨r_5, hr_6, hF⟩ := bind_some hF
 refine h_call0 (alert_spotFault_ok hr_6) rfl hb125 rfl rfl rfl rfl wz (h_op (vI r_5) wz rfl (h_nil (wH_seq (wH_region (h_op (vI r_5) wz rfl (h_op (vB (r_5 != 0)) wz rfl (h_nil ?_)))))))
 rcases cond_some hF with ⟨hc_7, hF⟩ | ⟨hc_7, hF⟩
 ·refine wH_ift rfl hc_7 (wH_seq (wH_region (h_op (vI r_5) wz rfl (h_op (vS (⟨#[]⟩ : ByteArray)) wz rfl (h_op (vB false) wz rfl (h_op (vI r_5) wz rfl (h_nil ?_)))))))
  obtain rfl := some_inj hF
  exact wH_ret (fin0 (.inr rfl) [(vS (⟨#[]⟩ : ByteArray)), (vB false), (vI r_5)] ⟨rfl, ⟨rfl, ⟨rfl, trivial⟩⟩⟩ rfl rfl rfl)
 ·refine wH_iff rfl hc_7 (wH_skip (wH_seq (wH_draws (h_op (vL Alert.enc l_1) wz rfl (h_op (vL Alert.enc l_1) wz rfl ?_)))))
  obtain ⟨r_8, hr_9, hF⟩ := bind_some hF
  refine h_call0 (alert_ends_ok hr_9) rfl hb117 rfl rfl rfl rfl wz (h_ldr 3 0 (.inr (by kernel_rfl)) (fun _ _ ag => trivial) sz77 ag77 rfl rfl (.d (.agg (Post.enc p_2))) rfl wz (h_op (vI atv_3) wz rfl ?_))
  obtain ⟨r_10, hr_11, hF⟩ := bind_some hF
  refine h_call0 (alert_ranked_ok hr_11) rfl hb118 rfl rfl rfl rfl wz (h_op (vL Alert.enc r_10) wz rfl (h_nil (wH_seq (wH_seq (wH_region (h_op (vL Alert.enc r_10) wz rfl (h_len un78 rfl wz (h_op (vB ((r_10.length : Int) == 0)) wz rfl (h_nil ?_)))))))))
  rcases cond_some hF with ⟨hc_12, hF⟩ | ⟨hc_12, hF⟩
  ·refine wH_ift rfl hc_12 (wH_seq (wH_region (h_op (vS (⟨#[]⟩ : ByteArray)) wz rfl (h_op (vB false) wz rfl (h_op (vI 0) wz rfl (h_nil ?_))))))
   obtain rfl := some_inj hF
   exact wH_ret (fin0 (.inr rfl) [(vS (⟨#[]⟩ : ByteArray)), (vB false), (vI 0)] ⟨rfl, ⟨rfl, ⟨rfl, trivial⟩⟩⟩ rfl rfl rfl)
  ·refine wH_iff rfl hc_12 (wH_skip (wH_seq (wH_region (h_op (vL Alert.enc r_10) wz rfl ?_))))
   obtain ⟨y_13, hy_14, hF⟩ := bind_some hF
   refine h_ia es78 rfl rfl hy_14 rfl wz (h_fac pl82_0 rfl [.str y_13.Id, .str y_13.Sender, .int .i64 y_13.Kind, dl eS y_13.Refs, .int .i64 y_13.At, .int .i64 y_13.Until, .int .i64 y_13.Weight, dl Rect.enc y_13.Areas, .str y_13.Text] rfl rfl wz (h_ldc sz9 ag9 rfl (vS y_13.Id) rfl wz (h_op (vS y_13.Id) wz rfl (h_op (vB true) wz rfl (h_op (vI 0) wz rfl (h_nil ?_))))))
   obtain rfl := some_inj hF
   exact wH_ret (fin0 (.inr rfl) [(vS y_13.Id), (vB true), (vI 0)] ⟨rfl, ⟨rfl, ⟨rfl, trivial⟩⟩⟩ rfl rfl rfl)
theorem alert_Ranked_ok {l_1 : (List Alert)} {p_2 : Post} {atv_3 : Int} {r : (List ByteArray) × Int} (hF : alert_Ranked l_1 p_2 atv_3 = some r) :
  FnM Tryz.prog 43 [(vL Alert.enc l_1), (.d (.agg (Post.enc p_2))), (vI atv_3)] [] (.tup [(vL eS r.1), (vI r.2)]) [] := by
 refine FnM.of_wH ⟨Tryz.prog, 37, [], []⟩ rfl Tryz.func43 rfl rfl (Nat.le_of_ble_eq_true rfl) (by kernel_rfl) ?_
 unfold alert_Ranked at hF
 refine wH_seq (wH_region (h_box 0 (.inl rfl) [(vS p_2.Player), (vI p_2.X), (vI p_2.Y)] rfl rfl wz (fun n_4 => h_op .nil wz rfl (h_op (vI 0) wz rfl (h_nil (wH_seq (wH_seq (wH_region (h_op (vL Alert.enc l_1) wz rfl (h_ldr 0 0 il ft sz77 ag77 rfl rfl (.d (.agg (Post.enc p_2))) rfl wz (h_op (vI atv_3) wz rfl ?_)))))))))))
 obtain ⟨r_5, hr_6, hF⟩ := bind_some hF
 refine h_call0 (alert_spotFault_ok hr_6) rfl hb125 rfl rfl rfl rfl wz (h_op (vI r_5) wz rfl (h_nil (wH_seq (wH_region (h_op (vI r_5) wz rfl (h_op (vB (r_5 != 0)) wz rfl (h_nil ?_)))))))
 rcases cond_some hF with ⟨hc_7, hF⟩ | ⟨hc_7, hF⟩
 ·refine wH_ift rfl hc_7 (wH_seq (wH_region (h_op (vI r_5) wz rfl (h_op .nil wz rfl (h_op (vI r_5) wz rfl (h_nil ?_))))))
  obtain rfl := some_inj hF
  exact wH_ret (fin0 (.inr rfl) [.nil, (vI r_5)] ⟨rfl, ⟨rfl, trivial⟩⟩ rfl rfl rfl)
 ·refine wH_iff rfl hc_7 (wH_skip (wH_seq (wH_region (h_op .nil wz rfl (h_nil (wH_seq (wH_seq (wH_draws (h_op (vL Alert.enc l_1) wz rfl (h_op (vL Alert.enc l_1) wz rfl ?_))))))))))
  obtain ⟨r_8, hr_9, hF⟩ := bind_some hF
  refine h_call0 (alert_ends_ok hr_9) rfl hb117 rfl rfl rfl rfl wz (h_ldr 3 0 (.inr (by kernel_rfl)) (fun _ _ ag => trivial) sz77 ag77 rfl rfl (.d (.agg (Post.enc p_2))) rfl wz (h_op (vI atv_3) wz rfl ?_))
  obtain ⟨r_10, hr_11, hF⟩ := bind_some hF
  refine h_call0 (alert_ranked_ok hr_11) rfl hb118 rfl rfl rfl rfl wz (h_len un78 rfl wz (h_op (vI 0) wz rfl (h_nil (wH_new (fun n_18 => ?_)))))
  obtain ⟨o_23, hj_24, hF⟩ := bind_some hF
  obtain ⟨hn_16, hj_24⟩ := forL_some hj_24
  refine wH_join (β := ((List ByteArray)) × Nm) (fun p => (fun (s_17 : (List ByteArray)) (n_20 : Nm) => ([(9, (gV n_20 1 s_17))] : List (Nat × V))) p.1 p.2) (fun p => (fun (s_17 : (List ByteArray)) (n_20 : Nm) => ([(n_4, some (.cells 3 [(vS p_2.Player), (vI p_2.X), (vI p_2.Y)])), (n_20, gB 1 eS s_17)] : Hp)) p.1 p.2) (fun p => o_23 = .go p.1) ?_ ?_
  ·refine wH_block (wH_loop (β := Nat × (List Alert) × ((List ByteArray)) × Nm) (fun p => (fun (k_12 : Nat) (l_13 : List Alert) (s_17 : (List ByteArray)) (n_20 : Nm) => ([(9, (gV n_20 1 s_17)), (24, (vL Alert.enc r_10)), (25, (vI (r_10.length : Int))), (26, (vI (k_12 : Int)))] : List (Nat × V))) p.1 p.2.1 p.2.2.1 p.2.2.2) (fun p => (fun (k_12 : Nat) (l_13 : List Alert) (s_17 : (List ByteArray)) (n_20 : Nm) => ([(n_4, some (.cells 3 [(vS p_2.Player), (vI p_2.X), (vI p_2.Y)])), (n_20, gB 1 eS s_17)] : Hp)) p.1 p.2.1 p.2.2.1 p.2.2.2) (fun p => forR (fun k x s => alert_Ranked_L1 k x s) p.2.1 p.1 p.2.2.1 = some o_23 ∧ (r_10).drop p.1 = p.2.1) (fun p => p.2.1.length) (0, r_10, ([] : List ByteArray), n_18) ⟨hj_24, rfl⟩ rfl (pre_r rfl) ?_)
   rintro ⟨k_12, l_13, s_17, n_20⟩ ⟨hL_22, hD_15⟩
   dsimp only at hL_22 hD_15
   cases l_13 with
   | nil =>
    obtain rfl := some_inj hL_22
    refine wH_seq (wH_region (h_op (vB (decide ((k_12 : Int) < (r_10.length : Int)))) wz rfl (h_nil ?_)))
    refine wH_seq (wH_iff rfl (drop_nil hD_15) (wH_exit ?_))
    exact cut_mk (s_17, n_20) rfl rfl (pre_r rfl)
   | cons x_14 l_13 =>
    obtain ⟨c_, hc_21, hL_22⟩ := bind_some hL_22
    refine wH_seq (wH_region (h_op (vB (decide ((k_12 : Int) < (r_10.length : Int)))) wz rfl (h_nil ?_)))
    refine wH_seq (wH_ift rfl (drop_cons hD_15) (wH_skip ?_))
    unfold alert_Ranked_L1 at hc_21
    refine wH_seq (wH_block (wH_seq (wH_region (h_ia es78 rfl rfl (drop_idx hD_15) rfl wz (h_ldc sz82 ag82 rfl (.d (.agg (Alert.enc x_14))) rfl wz (h_alloc 0 (.inl rfl) z82 rfl wz (fun n_25 => h_str 0 il ft 2 sz82 rfl rfl [(vS x_14.Id), (vS x_14.Sender), (vI x_14.Kind), (vL eS x_14.Refs), (vI x_14.At), (vI x_14.Until), (vI x_14.Weight), (vL Rect.enc x_14.Areas), (vS x_14.Text)] rfl wz (h_nil (wH_region (h_op (gV n_20 1 s_17) wz rfl (h_far pl82_0 rfl 0 rfl wz (h_ldr 0 2 il ft sz9 ag9 rfl rfl (vS x_14.Id) rfl wz (h_lit (([x_14.Id] : List ByteArray).map eS) es80 ez80 rfl rfl rfl rfl rfl wz ?_)))))))))))))
    obtain ⟨a_26, hz_27, hc_21⟩ := bind_some hc_21
    refine h_appg 0 il ft (i := 1) el80 el80 sz9 z9 rfl (by decide) by9 (by decide) (fun _ => rfl) rfl rfl rfl hz_27 wz (fun n_28 => h_op (gV n_28 1 a_26) wz rfl (h_nil (wH_region (h_opw (w64_next hD_15 hn_16) wz rfl (h_op (vI ((k_12 + 1 : Nat) : Int)) wz rfl (h_nil ?_))))))
    obtain rfl := some_inj hc_21
    exact loop_mk (k_12 + 1, l_13, a_26, n_28) ⟨hL_22, drop_next hD_15⟩ (Nat.lt_succ_self _) rfl (pre_r rfl)
  ·rintro ⟨s_17, n_20⟩ ho_ sl_ H_ hp_ hq_
   subst ho_
   refine wH_at _ hp_ hq_ (wH_seq (wH_region (h_op (gV n_20 1 s_17) wz rfl (h_op (gV n_20 1 s_17) wz rfl (h_op (vI 0) wz rfl (h_nil (wH_frozg 1 rfl (wH_cog 6 1 rfl rfl (wH_cog 9 1 rfl rfl (wH_cog 36 1 rfl rfl ?_))))))))))
   obtain rfl := some_inj hF
   exact wH_ret (fin0 (.inr rfl) [(vL eS s_17), (vI 0)] ⟨rfl, ⟨rfl, trivial⟩⟩ rfl rfl rfl)
theorem alert_InForce_ok {l_1 : (List Alert)} {atv_2 : Int} {r : (List ByteArray) × Int} (hF : alert_InForce l_1 atv_2 = some r) :
  FnM Tryz.prog 51 [(vL Alert.enc l_1), (vI atv_2)] [] (.tup [(vL eS r.1), (vI r.2)]) [] := by
 refine FnM.of_wH ⟨Tryz.prog, 45, [], []⟩ rfl Tryz.func51 rfl rfl (Nat.le_of_ble_eq_true rfl) (by kernel_rfl) ?_
 unfold alert_InForce at hF
 refine wH_seq (wH_region (h_op .nil wz rfl (h_op (vI 0) wz rfl (h_nil (wH_seq (wH_seq (wH_region (h_op (vL Alert.enc l_1) wz rfl ?_))))))))
 obtain ⟨r_3, hr_4, hF⟩ := bind_some hF
 refine h_call0 (alert_CheckAlerts_ok hr_4) rfl hb132 rfl rfl rfl rfl wz (h_op (vI r_3) wz rfl (h_nil (wH_seq (wH_region (h_op (vI r_3) wz rfl (h_op (vB (r_3 != 0)) wz rfl (h_nil ?_)))))))
 rcases cond_some hF with ⟨hc_5, hF⟩ | ⟨hc_5, hF⟩
 ·refine wH_ift rfl hc_5 (wH_seq (wH_region (h_op (vI r_3) wz rfl (h_op .nil wz rfl (h_op (vI r_3) wz rfl (h_nil ?_))))))
  obtain rfl := some_inj hF
  exact wH_ret (fin0 (.inr rfl) [.nil, (vI r_3)] ⟨rfl, ⟨rfl, trivial⟩⟩ rfl rfl rfl)
 ·refine wH_iff rfl hc_5 (wH_skip (wH_seq (wH_seq (wH_region (h_op (vI atv_2) wz rfl ?_)))))
  obtain ⟨r_6, hr_7, hF⟩ := bind_some hF
  refine h_call0 (alert_momentFault_ok hr_7) rfl hb116 rfl rfl rfl rfl wz (h_op (vI r_6) wz rfl (h_nil (wH_seq (wH_region (h_op (vI r_6) wz rfl (h_op (vB (r_6 != 0)) wz rfl (h_nil ?_)))))))
  rcases cond_some hF with ⟨hc_8, hF⟩ | ⟨hc_8, hF⟩
  ·refine wH_ift rfl hc_8 (wH_seq (wH_region (h_op (vI r_6) wz rfl (h_op .nil wz rfl (h_op (vI r_6) wz rfl (h_nil ?_))))))
   obtain rfl := some_inj hF
   exact wH_ret (fin0 (.inr rfl) [.nil, (vI r_6)] ⟨rfl, ⟨rfl, trivial⟩⟩ rfl rfl rfl)
  ·refine wH_iff rfl hc_8 (wH_skip (wH_seq (wH_region (h_op (vL Alert.enc l_1) wz rfl ?_))))
   obtain ⟨r_9, hr_10, hF⟩ := bind_some hF
   refine h_call0 (alert_ends_ok hr_10) rfl hb117 rfl rfl rfl rfl wz (h_op (vL eI r_9) wz rfl (h_nil (wH_seq (wH_region (h_op .nil wz rfl (h_nil (wH_seq (wH_seq (wH_region (h_op (vL Alert.enc l_1) wz rfl (h_len un78 rfl wz (h_op (vI 0) wz rfl (h_nil (wH_new (fun n_17 => ?_)))))))))))))))
   obtain ⟨o_22, hj_23, hF⟩ := bind_some hF
   obtain ⟨hn_15, hj_23⟩ := forL_some hj_23
   refine wH_join (β := ((List ByteArray)) × Nm) (fun p => (fun (s_16 : (List ByteArray)) (n_19 : Nm) => ([(9, (gV n_19 1 s_16))] : List (Nat × V))) p.1 p.2) (fun p => (fun (s_16 : (List ByteArray)) (n_19 : Nm) => ([(n_19, gB 1 eS s_16)] : Hp)) p.1 p.2) (fun p => o_22 = .go p.1) ?_ ?_
   ·refine wH_block (wH_loop (β := Nat × (List Alert) × ((List ByteArray)) × Nm) (fun p => (fun (k_11 : Nat) (l_12 : List Alert) (s_16 : (List ByteArray)) (n_19 : Nm) => ([(1, (vI atv_2)), (8, (vL eI r_9)), (9, (gV n_19 1 s_16)), (24, (vL Alert.enc l_1)), (25, (vI (l_1.length : Int))), (26, (vI (k_11 : Int)))] : List (Nat × V))) p.1 p.2.1 p.2.2.1 p.2.2.2) (fun p => (fun (k_11 : Nat) (l_12 : List Alert) (s_16 : (List ByteArray)) (n_19 : Nm) => ([(n_19, gB 1 eS s_16)] : Hp)) p.1 p.2.1 p.2.2.1 p.2.2.2) (fun p => forR (fun k x s => alert_InForce_L1 r_9 atv_2 k x s) p.2.1 p.1 p.2.2.1 = some o_22 ∧ (l_1).drop p.1 = p.2.1) (fun p => p.2.1.length) (0, l_1, ([] : List ByteArray), n_17) ⟨hj_23, rfl⟩ rfl (pre_r rfl) ?_)
    rintro ⟨k_11, l_12, s_16, n_19⟩ ⟨hL_21, hD_14⟩
    dsimp only at hL_21 hD_14
    cases l_12 with
    | nil =>
     obtain rfl := some_inj hL_21
     refine wH_seq (wH_region (h_op (vB (decide ((k_11 : Int) < (l_1.length : Int)))) wz rfl (h_nil ?_)))
     refine wH_seq (wH_iff rfl (drop_nil hD_14) (wH_exit ?_))
     exact cut_mk (s_16, n_19) rfl rfl (pre_r rfl)
    | cons x_13 l_12 =>
     obtain ⟨c_, hc_20, hL_21⟩ := bind_some hL_21
     refine wH_seq (wH_region (h_op (vB (decide ((k_11 : Int) < (l_1.length : Int)))) wz rfl (h_nil ?_)))
     refine wH_seq (wH_ift rfl (drop_cons hD_14) (wH_skip ?_))
     unfold alert_InForce_L1 at hc_20
     refine wH_seq (wH_block (wH_seq (wH_region (h_op (vI (k_11 : Int)) wz rfl (h_ia es78 rfl rfl (drop_idx hD_14) rfl wz (h_ldc sz82 ag82 rfl (.d (.agg (Alert.enc x_13))) rfl wz (h_alloc 0 (.inl rfl) z82 rfl wz (fun n_24 => h_op (vI (k_11 : Int)) wz rfl (h_str 0 il ft 1 sz82 rfl rfl [(vS x_13.Id), (vS x_13.Sender), (vI x_13.Kind), (vL eS x_13.Refs), (vI x_13.At), (vI x_13.Until), (vI x_13.Weight), (vL Rect.enc x_13.Areas), (vS x_13.Text)] rfl wz (h_nil (wH_seq (wH_draws (h_ldr 0 1 (.inr (by kernel_rfl)) (fun _ _ ag => trivial) sz82 ag82 rfl rfl (.d (.agg (Alert.enc x_13))) rfl wz (h_op (vL eI r_9) wz rfl (h_op (vI (k_11 : Int)) wz rfl ?_)))))))))))))))
     obtain ⟨y_25, hy_26, hc_20⟩ := bind_some hc_20
     refine h_ia es22 rfl rfl hy_26 rfl wz (h_ldc sz3 ag3 rfl (vI y_25) rfl wz (h_op (vI atv_2) wz rfl ?_))
     obtain ⟨r_27, hr_28, hc_20⟩ := bind_some hc_20
     refine h_call0 (alert_isOn_ok hr_28) rfl hb133 rfl rfl rfl rfl wz (h_nil ?_)
     obtain ⟨v_29, h_30, hc_20⟩ := bind_some hc_20
     refine wH_join (β := Nm) (fun (n_31 : Nm) => ([(1, (vI atv_2)), (8, (vL eI r_9)), (9, (gV n_31 1 v_29)), (24, (vL Alert.enc l_1)), (25, (vI (l_1.length : Int))), (26, (vI (k_11 : Int)))] : List (Nat × V))) (fun (n_31 : Nm) => ([(n_31, gB 1 eS v_29), (n_24, some (.cells 9 [(vS x_13.Id), (vS x_13.Sender), (vI x_13.Kind), (vL eS x_13.Refs), (vI x_13.At), (vI x_13.Until), (vI x_13.Weight), (vL Rect.enc x_13.Areas), (vS x_13.Text)]))] : Hp)) (fun _ => True) ?_ ?_
     ·rcases cond_some h_30 with ⟨hc_32, h_30⟩ | ⟨hc_32, h_30⟩
      ·refine wH_ift rfl hc_32 (wH_region (h_op (gV n_19 1 s_16) wz rfl (h_far pl82_0 rfl 0 rfl wz (h_ldr 0 1 il ft sz9 ag9 rfl rfl (vS x_13.Id) rfl wz (h_lit (([x_13.Id] : List ByteArray).map eS) es80 ez80 rfl rfl rfl rfl rfl wz ?_)))))
       obtain ⟨a_33, hz_34, h_30⟩ := bind_some h_30
       refine h_appg 0 il ft (i := 0) el80 el80 sz9 z9 rfl (by decide) by9 (by decide) (fun _ => rfl) rfl rfl rfl hz_34 wz (fun n_35 => h_op (gV n_35 1 a_33) wz rfl (h_nil ?_))
       obtain rfl := some_inj h_30
       exact cut_mk n_35 trivial rfl (pre_r rfl)
      ·refine wH_iff rfl hc_32 (wH_skip ?_)
       obtain rfl := some_inj h_30
       exact cut_mk n_19 trivial rfl (pre_r rfl)
     ·rintro n_31 _ sl_ H_ hp_ hq_
      refine wH_at _ hp_ hq_ (wH_region (h_opw (w64_next hD_14 hn_15) wz rfl (h_op (vI ((k_11 + 1 : Nat) : Int)) wz rfl (h_nil ?_))))
      obtain rfl := some_inj hc_20
      exact loop_mk (k_11 + 1, l_12, v_29, n_31) ⟨hL_21, drop_next hD_14⟩ (Nat.lt_succ_self _) rfl (pre_r rfl)
   ·rintro ⟨s_16, n_19⟩ ho_ sl_ H_ hp_ hq_
    subst ho_
    refine wH_at _ hp_ hq_ (wH_seq (wH_region (h_op (gV n_19 1 s_16) wz rfl (h_op (gV n_19 1 s_16) wz rfl (h_op (vI 0) wz rfl (h_nil (wH_frozg 0 rfl (wH_cog 4 0 rfl rfl (wH_cog 9 0 rfl rfl (wH_cog 44 0 rfl rfl ?_))))))))))
    obtain rfl := some_inj hF
    exact wH_ret (fin0 (.inr rfl) [(vL eS s_16), (vI 0)] ⟨rfl, ⟨rfl, trivial⟩⟩ rfl rfl rfl)
theorem keep_errs_ok {l_1 : (List Int)} {r : Int} (hF : keep_errs l_1 = some r) :
  FnM Tryz.prog 26 [(vL eI l_1)] [] (vI r) [] := by
 refine FnM.of_wH ⟨Tryz.prog, 15, [], []⟩ rfl Tryz.func26 rfl rfl (Nat.le_of_ble_eq_true rfl) (by kernel_rfl) ?_
 unfold keep_errs at hF
 refine wH_seq (wH_region (h_op (vI 0) wz rfl (h_nil (wH_seq (wH_seq (wH_region (h_op (vL eI l_1) wz rfl (h_len un192 rfl wz (h_op (vI 0) wz rfl (h_nil ?_))))))))))
 obtain ⟨o_10, hj_11, hF⟩ := bind_some hF
 obtain ⟨hn_6, hj_11⟩ := forL_some hj_11
 refine wH_join (β := (Unit)) (fun (s_7 : Unit) => ([] : List (Nat × V))) (fun (s_7 : Unit) => ([] : Hp)) (fun p => o_10 = .go p) ?_ ?_
 ·refine wH_block (wH_loop (β := Nat × (List Int) × (Unit)) (fun p => (fun (k_2 : Nat) (l_3 : List Int) (s_7 : Unit) => ([(5, (vL eI l_1)), (6, (vI (l_1.length : Int))), (7, (vI (k_2 : Int)))] : List (Nat × V))) p.1 p.2.1 p.2.2) (fun p => (fun (k_2 : Nat) (l_3 : List Int) (s_7 : Unit) => ([] : Hp)) p.1 p.2.1 p.2.2) (fun p => forR (fun k x s => keep_errs_L1 k x s) p.2.1 p.1 p.2.2 = some o_10 ∧ (l_1).drop p.1 = p.2.1) (fun p => p.2.1.length) (0, l_1, ()) ⟨hj_11, rfl⟩ rfl (pre_r rfl) ?_)
  rintro ⟨k_2, l_3, s_7⟩ ⟨hL_9, hD_5⟩
  dsimp only at hL_9 hD_5
  cases l_3 with
  | nil =>
   obtain rfl := some_inj hL_9
   refine wH_seq (wH_region (h_op (vB (decide ((k_2 : Int) < (l_1.length : Int)))) wz rfl (h_nil ?_)))
   refine wH_seq (wH_iff rfl (drop_nil hD_5) (wH_exit ?_))
   exact cut_mk (s_7) rfl rfl (pre_r rfl)
  | cons x_4 l_3 =>
   obtain ⟨c_, hc_8, hL_9⟩ := bind_some hL_9
   refine wH_seq (wH_region (h_op (vB (decide ((k_2 : Int) < (l_1.length : Int)))) wz rfl (h_nil ?_)))
   refine wH_seq (wH_ift rfl (drop_cons hD_5) (wH_skip ?_))
   unfold keep_errs_L1 at hc_8
   refine wH_seq (wH_block (wH_seq (wH_region (h_ia es192 rfl rfl (drop_idx hD_5) rfl wz (h_ldc sz30 ag30 rfl (vI x_4) rfl wz (h_op (vI x_4) wz rfl (h_nil (wH_seq (wH_region (h_op (vI x_4) wz rfl (h_op (vB (x_4 != 0)) wz rfl (h_nil ?_))))))))))))
   rcases cond_some hc_8 with ⟨hc_12, hc_8⟩ | ⟨hc_12, hc_8⟩
   ·refine wH_ift rfl hc_12 (wH_seq (wH_region (h_op (vI x_4) wz rfl (h_op (vI x_4) wz rfl (h_nil ?_)))))
    obtain rfl := some_inj hc_8
    obtain rfl := some_inj hL_9
    obtain rfl := some_inj hF
    exact wH_ret (fin0 (.inr rfl) [(vI x_4)] ⟨rfl, trivial⟩ rfl rfl rfl)
   ·refine wH_iff rfl hc_12 (wH_skip (wH_region (h_opw (w64_next hD_5 hn_6) wz rfl (h_op (vI ((k_2 + 1 : Nat) : Int)) wz rfl (h_nil ?_)))))
    obtain rfl := some_inj hc_8
    exact loop_mk (k_2 + 1, l_3, ()) ⟨hL_9, drop_next hD_5⟩ (Nat.lt_succ_self _) rfl (pre_r rfl)
 ·rintro s_7 ho_ sl_ H_ hp_ hq_
  subst ho_
  refine wH_at _ hp_ hq_ (wH_seq (wH_region (h_op (vI 0) wz rfl (h_nil ?_))))
  obtain rfl := some_inj hF
  exact wH_ret (fin0 (.inr rfl) [(vI 0)] ⟨rfl, trivial⟩ rfl rfl rfl)
theorem slices_Index_string_string_ok {s_1 : (List ByteArray)} {v_2 : ByteArray} {r : Int} (hF : slices_Index_string_string s_1 v_2 = some r) :
  FnM Tryz.prog 134 [(vL eS s_1), (vS v_2)] [] (vI r) [] := by
 refine FnM.of_wH ⟨Tryz.prog, 19, [], []⟩ rfl Tryz.func134 rfl rfl (Nat.le_of_ble_eq_true rfl) (by kernel_rfl) ?_
 unfold slices_Index_string_string at hF
 refine wH_seq (wH_region (h_op (vI 0) wz rfl (h_nil (wH_seq (wH_seq (wH_region (h_op (vL eS s_1) wz rfl (h_len un80 rfl wz (h_op (vI 0) wz rfl (h_nil ?_))))))))))
 obtain ⟨o_11, hj_12, hF⟩ := bind_some hF
 obtain ⟨hn_7, hj_12⟩ := forL_some hj_12
 refine wH_join (β := (Unit)) (fun (s_8 : Unit) => ([] : List (Nat × V))) (fun (s_8 : Unit) => ([] : Hp)) (fun p => o_11 = .go p) ?_ ?_
 ·refine wH_block (wH_loop (β := Nat × (List ByteArray) × (Unit)) (fun p => (fun (k_3 : Nat) (l_4 : List ByteArray) (s_8 : Unit) => ([(0, (vL eS s_1)), (1, (vS v_2)), (7, (vI (s_1.length : Int))), (8, (vI (k_3 : Int)))] : List (Nat × V))) p.1 p.2.1 p.2.2) (fun p => (fun (k_3 : Nat) (l_4 : List ByteArray) (s_8 : Unit) => ([] : Hp)) p.1 p.2.1 p.2.2) (fun p => forR (fun k x s => slices_Index_string_string_L1 v_2 k x s) p.2.1 p.1 p.2.2 = some o_11 ∧ (s_1).drop p.1 = p.2.1) (fun p => p.2.1.length) (0, s_1, ()) ⟨hj_12, rfl⟩ rfl (pre_r rfl) ?_)
  rintro ⟨k_3, l_4, s_8⟩ ⟨hL_10, hD_6⟩
  dsimp only at hL_10 hD_6
  cases l_4 with
  | nil =>
   obtain rfl := some_inj hL_10
   refine wH_seq (wH_region (h_op (vB (decide ((k_3 : Int) < (s_1.length : Int)))) wz rfl (h_nil ?_)))
   refine wH_seq (wH_iff rfl (drop_nil hD_6) (wH_exit ?_))
   exact cut_mk (s_8) rfl rfl (pre_r rfl)
  | cons x_5 l_4 =>
   obtain ⟨c_, hc_9, hL_10⟩ := bind_some hL_10
   refine wH_seq (wH_region (h_op (vB (decide ((k_3 : Int) < (s_1.length : Int)))) wz rfl (h_nil ?_)))
   refine wH_seq (wH_ift rfl (drop_cons hD_6) (wH_skip ?_))
   unfold slices_Index_string_string_L1 at hc_9
   refine wH_seq (wH_block (wH_seq (wH_region (h_op (vI (k_3 : Int)) wz rfl (h_op (vI (k_3 : Int)) wz rfl (h_nil (wH_seq (wH_region (h_op (vS v_2) wz rfl (h_op (vL eS s_1) wz rfl (h_op (vI (k_3 : Int)) wz rfl (h_ia es80 rfl rfl (drop_idx hD_6) rfl wz (h_ldc sz9 ag9 rfl (vS x_5) rfl wz (h_op (vB (sEq v_2 x_5)) wz rfl (h_nil ?_)))))))))))))))
   rcases cond_some hc_9 with ⟨hc_13, hc_9⟩ | ⟨hc_13, hc_9⟩
   ·refine wH_ift rfl hc_13 (wH_seq (wH_region (h_op (vI (k_3 : Int)) wz rfl (h_op (vI (k_3 : Int)) wz rfl (h_nil ?_)))))
    obtain rfl := some_inj hc_9
    obtain rfl := some_inj hL_10
    obtain rfl := some_inj hF
    exact wH_ret (fin0 (.inr rfl) [(vI (k_3 : Int))] ⟨rfl, trivial⟩ rfl rfl rfl)
   ·refine wH_iff rfl hc_13 (wH_skip (wH_region (h_opw (w64_next hD_6 hn_7) wz rfl (h_op (vI ((k_3 + 1 : Nat) : Int)) wz rfl (h_nil ?_)))))
    obtain rfl := some_inj hc_9
    exact loop_mk (k_3 + 1, l_4, ()) ⟨hL_10, drop_next hD_6⟩ (Nat.lt_succ_self _) rfl (pre_r rfl)
 ·rintro s_8 ho_ sl_ H_ hp_ hq_
  subst ho_
  refine wH_at _ hp_ hq_ (wH_seq (wH_region (h_op (vI (-1)) wz rfl (h_nil ?_))))
  obtain rfl := some_inj hF
  exact wH_ret (fin0 (.inr rfl) [(vI (-1))] ⟨rfl, trivial⟩ rfl rfl rfl)
theorem slices_Contains_string_string_ok {s_1 : (List ByteArray)} {v_2 : ByteArray} {r : Bool} (hF : slices_Contains_string_string s_1 v_2 = some r) :
  FnM Tryz.prog 52 [(vL eS s_1), (vS v_2)] [] (vB r) [] := by
 refine FnM.of_wH ⟨Tryz.prog, 9, [], []⟩ rfl Tryz.func52 rfl rfl (Nat.le_of_ble_eq_true rfl) (by kernel_rfl) ?_
 unfold slices_Contains_string_string at hF
 refine wH_seq (wH_region (h_op (vB false) wz rfl (h_nil (wH_seq (wH_region (h_op (vL eS s_1) wz rfl (h_op (vS v_2) wz rfl ?_)))))))
 obtain ⟨r_3, hr_4, hF⟩ := bind_some hF
 refine h_call0 (slices_Index_string_string_ok hr_4) rfl hb134 rfl rfl rfl rfl wz (h_op (vB (decide (r_3 ≥ 0))) wz rfl (h_op (vB (decide (r_3 ≥ 0))) wz rfl (h_nil ?_)))
 obtain rfl := some_inj hF
 exact wH_ret (fin0 (.inr rfl) [(vB (decide (r_3 ≥ 0)))] ⟨rfl, trivial⟩ rfl rfl rfl)
theorem keep_AlertsWhereTheyShould_1_ok {x_1 : Slot_} {p_2 : Int} {r : Bool} (hF : keep_AlertsWhereTheyShould_1 x_1 p_2 = some r) :
  FnM Tryz.prog 54 [(.d (.agg (Slot_.enc x_1))), (.ref (extN 0) 0 0)] [(.cells 1 [(vI p_2)])] (vB r) [some (.cells 1 [(vI p_2)])] := by
 refine FnM.of_wH ⟨Tryz.prog, 16, [], []⟩ rfl Tryz.func54 rfl rfl (Nat.le_of_ble_eq_true rfl) (by kernel_rfl) ?_
 unfold keep_AlertsWhereTheyShould_1 at hF
 refine wH_seq (wH_region (h_box 0 (.inl rfl) [(vI x_1.Time.From), (vI x_1.Time.To), (vS x_1.Entry)] rfl rfl wz (fun n_3 => h_op (vB false) wz rfl (h_nil (wH_seq ?_)))))
 obtain ⟨v_4, h_5, hF⟩ := bind_some hF
 refine wH_join (β := Unit) (fun _ => ([(3, (vB v_4))] : List (Nat × V))) (fun _ => ([((extN 0), some (.cells 1 [(vI p_2)])), (n_3, some (.cells 3 [(vI x_1.Time.From), (vI x_1.Time.To), (vS x_1.Entry)]))] : Hp)) (fun _ => True) ?_ ?_
 ·refine wH_region (h_far pl117_0 rfl 0 rfl wz (h_far pl109_0 rfl 0 rfl wz (h_ldr 0 1 il ft sz3 ag3 rfl rfl (vI x_1.Time.From) rfl wz (h_ldr 0 0 il ft sz3 ag3 rfl rfl (vI p_2) rfl wz (h_op (vB (decide (x_1.Time.From ≤ p_2))) wz rfl ?_)))))
  rcases cond_some h_5 with ⟨hc_6, h_5⟩ | ⟨hc_6, h_5⟩
  ·refine h_movb rfl hc_6 wz (h_ldr 0 0 il ft sz3 ag3 rfl rfl (vI p_2) rfl wa (h_far pl117_0 rfl 0 rfl wa (h_far pl109_1 rfl 1 rfl wa (h_ldr 0 1 il ft sz3 ag3 rfl rfl (vI x_1.Time.To) rfl wa (h_op (vB (decide (p_2 < x_1.Time.To))) wa rfl (h_op (vB (decide (p_2 < x_1.Time.To))) wz rfl (h_op (vB (decide (p_2 < x_1.Time.To))) wz rfl (h_nil ?_))))))))
   obtain rfl := some_inj h_5
   exact cu
  ·refine h_movb rfl hc_6 wz (h_skip wa (h_skip wa (h_skip wa (h_skip wa (h_skip wa (h_op (vB false) wz rfl (h_op (vB false) wz rfl (h_nil ?_))))))))
   obtain rfl := some_inj h_5
   exact cu
 ·rintro ⟨⟩ _ sl_ H_ hp_ hq_
  refine wH_at _ hp_ hq_ ?_
  obtain rfl := some_inj hF
  exact wH_ret (finB (.inr rfl) [(vB v_4)] _ [0] [extN 0] ⟨rfl, trivial⟩ (.cons (co_data rfl rfl) (.nil)) (by kernel_rfl) ⟨(by kernel_rfl), trivial⟩ (by decide) (by kernel_rfl))
theorem slices_IndexFunc_api_Slot_api_Slot_ok {s_1 : (List Slot_)} {f_2 : Slot_ → Option Bool} {r : Int} {gid : FuncId} {caps : List V} {Sin : List Box} (hfn : ∀ x0 r, f_2 x0 = some r → FnM Tryz.prog gid ([(.d (.agg (Slot_.enc x0)))] ++ caps) Sin (vB r) (Sin.map some)) (hbF : hasBody Tryz.prog gid = true) (hcapF : caps.flatMap frz = [] ∧ caps.map co0 = caps) (hokF : okL Sin.length caps = true) (hsF : ∀ b ∈ Sin, b.ok Sin.length = true) (hmF : ∀ b ∈ Sin, b.mut = true) (hF : slices_IndexFunc_api_Slot_api_Slot s_1 f_2 = some r) :
  FnM Tryz.prog 53 [(vL Slot_.enc s_1), (.fn gid caps)] Sin (vI r) (Sin.map some) := by
 refine FnM.of_wH ⟨Tryz.prog, 19, [], []⟩ rfl Tryz.func53 rfl rfl (Nat.le_of_ble_eq_true rfl) (by kernel_rfl) ?_
 unfold slices_IndexFunc_api_Slot_api_Slot at hF
 refine wH_seq (wH_region (h_op (vI 0) wz rfl (h_nil (wH_seq (wH_seq (wH_region (h_op (vL Slot_.enc s_1) wz rfl (h_len un110 rfl wz (h_op (vI 0) wz rfl (h_nil ?_))))))))))
 obtain ⟨o_11, hj_12, hF⟩ := bind_some hF
 obtain ⟨hn_7, hj_12⟩ := forL_some hj_12
 refine wH_join (β := (Unit)) (fun (s_8 : Unit) => ([] : List (Nat × V))) (fun (s_8 : Unit) => (initH 0 Sin)) (fun p => o_11 = .go p) ?_ ?_
 ·refine wH_block (wH_loop (β := Nat × (List Slot_) × (Unit)) (fun p => (fun (k_3 : Nat) (l_4 : List Slot_) (s_8 : Unit) => ([(0, (vL Slot_.enc s_1)), (1, (.fn gid caps)), (7, (vI (s_1.length : Int))), (8, (vI (k_3 : Int)))] : List (Nat × V))) p.1 p.2.1 p.2.2) (fun p => (fun (k_3 : Nat) (l_4 : List Slot_) (s_8 : Unit) => (initH 0 Sin)) p.1 p.2.1 p.2.2) (fun p => forR (fun k x s => slices_IndexFunc_api_Slot_api_Slot_L1 f_2 k x s) p.2.1 p.1 p.2.2 = some o_11 ∧ (s_1).drop p.1 = p.2.1) (fun p => p.2.1.length) (0, s_1, ()) ⟨hj_12, rfl⟩ rfl (pre_self _) ?_)
  rintro ⟨k_3, l_4, s_8⟩ ⟨hL_10, hD_6⟩
  dsimp only at hL_10 hD_6
  cases l_4 with
  | nil =>
   obtain rfl := some_inj hL_10
   refine wH_seq (wH_region (h_op (vB (decide ((k_3 : Int) < (s_1.length : Int)))) wz rfl (h_nil ?_)))
   refine wH_seq (wH_iff rfl (drop_nil hD_6) (wH_exit ?_))
   exact cut_mk (s_8) rfl rfl (pre_self _)
  | cons x_5 l_4 =>
   obtain ⟨c_, hc_9, hL_10⟩ := bind_some hL_10
   refine wH_seq (wH_region (h_op (vB (decide ((k_3 : Int) < (s_1.length : Int)))) wz rfl (h_nil ?_)))
   refine wH_seq (wH_ift rfl (drop_cons hD_6) (wH_skip ?_))
   unfold slices_IndexFunc_api_Slot_api_Slot_L1 at hc_9
   refine wH_seq (wH_block (wH_seq (wH_region (h_op (vI (k_3 : Int)) wz rfl (h_op (vI (k_3 : Int)) wz rfl (h_nil (wH_seq (wH_region (h_op (.fn gid caps) wz rfl (h_op (vL Slot_.enc s_1) wz rfl (h_op (vI (k_3 : Int)) wz rfl (h_ia es110 rfl rfl (drop_idx hD_6) rfl wz (h_ldc sz117 ag117 rfl (.d (.agg (Slot_.enc x_5))) rfl wz ?_)))))))))))))
   obtain ⟨r_13, hr_14, hc_9⟩ := bind_some hc_9
   refine h_callS (hfn _ _ hr_14) rfl hbF rfl rfl hcapF hokF hsF hmF rfl wz rfl (h_nil ?_)
   rcases cond_some hc_9 with ⟨hc_15, hc_9⟩ | ⟨hc_15, hc_9⟩
   ·refine wH_ift rfl hc_15 (wH_seq (wH_region (h_op (vI (k_3 : Int)) wz rfl (h_op (vI (k_3 : Int)) wz rfl (h_nil ?_)))))
    obtain rfl := some_inj hc_9
    obtain rfl := some_inj hL_10
    obtain rfl := some_inj hF
    exact wH_ret (finS hsF (.inr rfl) [(vI (k_3 : Int))] ⟨rfl, trivial⟩ rfl rfl rfl)
   ·refine wH_iff rfl hc_15 (wH_skip (wH_region (h_opw (w64_next hD_6 hn_7) wz rfl (h_op (vI ((k_3 + 1 : Nat) : Int)) wz rfl (h_nil ?_)))))
    obtain rfl := some_inj hc_9
    exact loop_mk (k_3 + 1, l_4, ()) ⟨hL_10, drop_next hD_6⟩ (Nat.lt_succ_self _) rfl (pre_self _)
 ·rintro s_8 ho_ sl_ H_ hp_ hq_
  subst ho_
  refine wH_at _ hp_ hq_ (wH_seq (wH_region (h_op (vI (-1)) wz rfl (h_nil ?_))))
  obtain rfl := some_inj hF
  exact wH_ret (finS hsF (.inr rfl) [(vI (-1))] ⟨rfl, trivial⟩ rfl rfl rfl)
theorem keep_ready_ok {r : Bool} (hF : keep_ready  = some r) :
  FnM Tryz.prog 16 [] [] (vB r) [] := by
 refine FnM.of_wH ⟨Tryz.prog, 75, [], []⟩ rfl Tryz.func16 rfl rfl (Nat.le_of_ble_eq_true rfl) (by kernel_rfl) ?_
 unfold keep_ready at hF
 refine wH_seq (wH_region (h_op (vB false) wz rfl (h_nil (wH_seq (wH_region (h_op (.d (.agg (Rect.enc (⟨0, 0, 2, 2⟩ : Rect)))) wz (by kernel_rfl) (h_op (.d (.agg (Rect.enc (⟨1, 1, 2, 2⟩ : Rect)))) wz (by kernel_rfl) (h_lit (([(⟨0, 0, 2, 2⟩ : Rect), (⟨1, 1, 2, 2⟩ : Rect)] : List Rect).map Rect.enc) es50 ez50 rfl rfl rfl rfl rfl wz ?_))))))))
 obtain ⟨r_1, hr_2, hF⟩ := bind_some hF
 refine h_call0 (screen_Area_ok hr_2) rfl hb89 rfl rfl rfl rfl wz (h_op (.tup [(vI r_1.1), (vI r_1.2)]) wz rfl (h_op (vI r_1.1) wz rfl (h_op (vI r_1.2) wz rfl (h_op (vI r_1.1) wz rfl (h_op (vI r_1.2) wz rfl (h_nil (wH_seq (wH_region (h_op (.agg [(vS (⟨#[97]⟩ : ByteArray)), (vS (⟨#[98]⟩ : ByteArray)), (vI 0), (vI 0), (vI 0), (vI 1), (vI 127), .nil, (vI 1), (vI 2), (vI 0), .nil, (vB false)]) wz (by kernel_rfl) (h_op (.d (.agg (Window.enc (⟨0, 86400000⟩ : Window)))) wz (by kernel_rfl) ?_))))))))))
 obtain ⟨r_3, hr_4, hF⟩ := bind_some hF
 refine h_call0 (schedule_Times_ok hr_4) rfl hb90 rfl rfl rfl rfl wz (h_op (.tup [(vL Window.enc r_3.1), (vI r_3.2)]) wz rfl (h_op (vL Window.enc r_3.1) wz rfl (h_op (vI r_3.2) wz rfl (h_op (vL Window.enc r_3.1) wz rfl (h_op (vI r_3.2) wz rfl (h_nil (wH_seq (wH_region (h_op (.d (.agg (Window.enc (⟨0, 100⟩ : Window)))) wz (by kernel_rfl) (h_op (.agg [(vS (⟨#[97]⟩ : ByteArray)), (vS (⟨#[]⟩ : ByteArray)), (vI 0), (vI 100), .nil, (vI 10), (vI 0), (vI 0)]) wz (by kernel_rfl) ?_))))))))))
 obtain ⟨r_5, hr_6, hF⟩ := bind_some hF
 refine h_call0 (booking_Due_ok hr_6) rfl hb91 rfl rfl rfl rfl wz (h_op (.tup [(vI r_5.1), (vI r_5.2)]) wz rfl (h_op (vI r_5.1) wz rfl (h_op (vI r_5.2) wz rfl (h_op (vI r_5.1) wz rfl (h_op (vI r_5.2) wz rfl (h_nil (wH_seq (wH_region (h_op (.d (.agg (Beat.enc (⟨(⟨#[112]⟩ : ByteArray), 0, 100⟩ : Beat)))) wz (by kernel_rfl) (h_op (.d (.agg (Beat.enc (⟨(⟨#[112]⟩ : ByteArray), 1000, 1300⟩ : Beat)))) wz (by kernel_rfl) (h_lit (([(⟨(⟨#[112]⟩ : ByteArray), 0, 100⟩ : Beat), (⟨(⟨#[112]⟩ : ByteArray), 1000, 1300⟩ : Beat)] : List Beat).map Beat.enc) es177 ez177 rfl rfl rfl rfl rfl wz ?_)))))))))))
 obtain ⟨r_7, hr_8, hF⟩ := bind_some hF
 refine h_call0 (proof_Right_ok hr_8) rfl hb92 rfl rfl rfl rfl wz (h_op (.tup [(vI r_7.1), (vI r_7.2)]) wz rfl (h_op (vI r_7.1) wz rfl (h_op (vI r_7.2) wz rfl (h_op (vI r_7.1) wz rfl (h_op (vI r_7.2) wz rfl (h_nil (wH_at (H0 := ([] : Hp)) ([(1, (vI r_1.1)), (2, (vI r_1.2)), (3, (vL Window.enc r_3.1)), (4, (vI r_3.2)), (5, (vI r_5.1)), (6, (vI r_5.2)), (7, (vI r_7.1)), (8, (vI r_7.2))] : List (Nat × V)) (by kernel_rfl) (pre_mk (by kernel_rfl)) (wH_seq (wH_region (h_op (.d (.agg (Rect.enc (⟨0, 0, 2, 2⟩ : Rect)))) wz (by kernel_rfl) (h_lit (([(⟨0, 0, 2, 2⟩ : Rect)] : List Rect).map Rect.enc) es50 ez50 rfl rfl rfl rfl rfl wz (h_op (.agg [(vS (⟨#[97]⟩ : ByteArray)), (vS (⟨#[115]⟩ : ByteArray)), (vI 1), .nil, (vI 0), (vI 5), (vI 1), (vL Rect.enc ([(⟨0, 0, 2, 2⟩ : Rect)] : List Rect)), (vS (⟨#[120]⟩ : ByteArray))]) wz (by kernel_rfl) (h_alloc 0 (.inl rfl) z82 rfl wz (fun n_9 => h_str 0 il ft 0 sz82 rfl rfl [(vS (⟨#[97]⟩ : ByteArray)), (vS (⟨#[115]⟩ : ByteArray)), (vI 1), .nil, (vI 0), (vI 5), (vI 1), (vL Rect.enc ([(⟨0, 0, 2, 2⟩ : Rect)] : List Rect)), (vS (⟨#[120]⟩ : ByteArray))] rfl wz (h_nil (wH_seq (wH_region (h_ldr 0 0 il ft sz82 ag82 rfl rfl (.agg [(vS (⟨#[97]⟩ : ByteArray)), (vS (⟨#[115]⟩ : ByteArray)), (vI 1), .nil, (vI 0), (vI 5), (vI 1), (vL Rect.enc ([(⟨0, 0, 2, 2⟩ : Rect)] : List Rect)), (vS (⟨#[120]⟩ : ByteArray))]) rfl wz (h_op (.d (.agg (Post.enc (⟨(⟨#[112]⟩ : ByteArray), 1, 1⟩ : Post)))) wz (by kernel_rfl) ?_)))))))))))))))))))
 obtain ⟨r_10, hr_11, hF⟩ := bind_some hF
 refine h_call0 (alert_Reaches_ok hr_11) rfl hb30 rfl rfl rfl rfl wz (h_op (.tup [(vB r_10.1), (vI r_10.2)]) wz rfl (h_op (vB r_10.1) wz rfl (h_op (vI r_10.2) wz rfl (h_op (vB r_10.1) wz rfl (h_op (vI r_10.2) wz rfl (h_nil (wH_seq ?_)))))))
 obtain ⟨v_12, h_13, hF⟩ := bind_some hF
 refine wH_join (β := Unit) (fun _ => ([(0, (vB v_12))] : List (Nat × V))) (fun _ => ([(n_9, some (.cells 9 [(vS (⟨#[97]⟩ : ByteArray)), (vS (⟨#[115]⟩ : ByteArray)), (vI 1), .nil, (vI 0), (vI 5), (vI 1), (vL Rect.enc ([(⟨0, 0, 2, 2⟩ : Rect)] : List Rect)), (vS (⟨#[120]⟩ : ByteArray))]))] : Hp)) (fun _ => True) ?_ ?_
 ·refine wH_region (h_op (vI r_1.2) wz rfl (h_op (vI r_3.2) wz rfl (h_op (vI r_5.2) wz rfl (h_op (vI r_7.2) wz rfl (h_op (vI r_10.2) wz rfl (h_lit (([r_1.2, r_3.2, r_5.2, r_7.2, r_10.2] : List Int).map eI) es192 ez192 rfl rfl rfl rfl rfl wz ?_))))))
  obtain ⟨r_14, hr_15, h_13⟩ := bind_some h_13
  refine h_call0 (keep_errs_ok hr_15) rfl hb26 rfl rfl rfl rfl wz (h_op (vB (r_14 == 0)) wz rfl ?_)
  rcases cond_some h_13 with ⟨hc_16, h_13⟩ | ⟨hc_16, h_13⟩
  ·refine h_movb rfl hc_16 wz (h_op (vI r_1.1) wa rfl (h_op (vB (r_1.1 == 7)) wa rfl (h_op (vB (r_1.1 == 7)) wz rfl ?_)))
   rcases cond_some h_13 with ⟨hc_17, h_13⟩ | ⟨hc_17, h_13⟩
   ·refine h_movb rfl hc_17 wz (h_op (vL Window.enc r_3.1) wa rfl (h_len un166 rfl wa (h_op (vB ((r_3.1.length : Int) == 1)) wa rfl (h_op (vB ((r_3.1.length : Int) == 1)) wz rfl ?_))))
    rcases cond_some h_13 with ⟨hc_18, h_13⟩ | ⟨hc_18, h_13⟩
    ·refine h_movb rfl hc_18 wz (h_op (vI r_5.1) wa rfl (h_op (vB (r_5.1 == 5)) wa rfl (h_op (vB (r_5.1 == 5)) wz rfl ?_)))
     rcases cond_some h_13 with ⟨hc_19, h_13⟩ | ⟨hc_19, h_13⟩
     ·refine h_movb rfl hc_19 wz (h_op (vI r_7.1) wa rfl (h_op (vB (r_7.1 == 500)) wa rfl (h_op (vB (r_7.1 == 500)) wz rfl ?_)))
      rcases cond_some h_13 with ⟨hc_20, h_13⟩ | ⟨hc_20, h_13⟩
      ·refine h_movb rfl hc_20 wz (h_op (vB r_10.1) wa rfl (h_op (vB r_10.1) wz rfl (h_op (vB r_10.1) wz rfl (h_nil ?_))))
       obtain rfl := some_inj h_13
       exact cu
      ·refine h_movb rfl hc_20 wz (h_skip wa (h_op (vB false) wz rfl (h_op (vB false) wz rfl (h_nil ?_))))
       obtain rfl := some_inj h_13
       exact cu
     ·refine h_movb rfl hc_19 wz (h_skip wa (h_skip wa (h_op (vB false) wz rfl (h_op (vB false) wz rfl (h_skip wa (h_op (vB false) wz rfl (h_op (vB false) wz rfl (h_nil ?_))))))))
      obtain rfl := some_inj h_13
      exact cu
    ·refine h_movb rfl hc_18 wz (h_skip wa (h_skip wa (h_op (vB false) wz rfl (h_op (vB false) wz rfl (h_skip wa (h_skip wa (h_op (vB false) wz rfl (h_op (vB false) wz rfl (h_skip wa (h_op (vB false) wz rfl (h_op (vB false) wz rfl (h_nil ?_))))))))))))
     obtain rfl := some_inj h_13
     exact cu
   ·refine h_movb rfl hc_17 wz (h_skip wa (h_skip wa (h_skip wa (h_op (vB false) wz rfl (h_op (vB false) wz rfl (h_skip wa (h_skip wa (h_op (vB false) wz rfl (h_op (vB false) wz rfl (h_skip wa (h_skip wa (h_op (vB false) wz rfl (h_op (vB false) wz rfl (h_skip wa (h_op (vB false) wz rfl (h_op (vB false) wz rfl (h_nil ?_)))))))))))))))))
    obtain rfl := some_inj h_13
    exact cu
  ·refine h_movb rfl hc_16 wz (h_skip wa (h_skip wa (h_op (vB false) wz rfl (h_op (vB false) wz rfl (h_skip wa (h_skip wa (h_skip wa (h_op (vB false) wz rfl (h_op (vB false) wz rfl (h_skip wa (h_skip wa (h_op (vB false) wz rfl (h_op (vB false) wz rfl (h_skip wa (h_skip wa (h_op (vB false) wz rfl (h_op (vB false) wz rfl (h_skip wa (h_op (vB false) wz rfl (h_op (vB false) wz rfl (h_nil ?_)))))))))))))))))))))
   obtain rfl := some_inj h_13
   exact cu
 ·rintro ⟨⟩ _ sl_ H_ hp_ hq_
  refine wH_at _ hp_ hq_ ?_
  obtain rfl := some_inj hF
  exact wH_ret (fin0 (.inr rfl) [(vB v_12)] ⟨rfl, trivial⟩ rfl rfl rfl)
theorem keep_AlertsWhereTheyShould_ok {l_1 : (List Int)} {r : Bool} (hF : keep_AlertsWhereTheyShould l_1 = some r) :
  FnM Tryz.prog 8 [(vL eI l_1)] [] (vB r) [] := by
 refine FnM.of_wH ⟨Tryz.prog, 154, [], []⟩ rfl Tryz.func8 rfl rfl (Nat.le_of_ble_eq_true rfl) (by kernel_rfl) ?_
 unfold keep_AlertsWhereTheyShould at hF
 refine wH_seq (wH_region (h_op (vB false) wz rfl (h_nil (wH_seq (wH_region (h_op (vL eI l_1) wz rfl (h_op (.d (.agg (Stream.enc (⟨l_1, 0⟩ : Stream)))) wz (by kernel_rfl) (h_box 0 (.inl rfl) [(vL eI l_1), (vI 0)] rfl rfl wz (fun n_2 => h_op (.ref n_2 0 0) wz rfl (h_nil (wH_seq (wH_region (h_op (.ref n_2 0 0) wz rfl ?_)))))))))))))
 obtain ⟨r_3, hr_4, hF⟩ := bind_some hF
 refine h_callq 0 [0] il ft (mk_Stream_RightAlerts_ok hr_4) rfl hb28 rfl (by kernel_rfl) (by kernel_rfl) (by kernel_rfl) (by kernel_rfl) (by kernel_rfl) (by kernel_rfl) (by kernel_rfl) (by decide) (by kernel_rfl) wz (vL Alert.enc r_3.1) (by kernel_rfl) ([(n_2, some (.cells 2 [(vL eI r_3.2.L), (vI r_3.2.f_at)]))] : Hp) (by kernel_rfl) (h_op (.ref n_2 0 0) wz rfl ?_)
 obtain ⟨r_6, hr_7, hF⟩ := bind_some hF
 refine h_callq 0 [0] il ft (mk_Stream_Range_ok hr_7) rfl hb13 rfl (by kernel_rfl) (by kernel_rfl) (by kernel_rfl) (by kernel_rfl) (by kernel_rfl) (by kernel_rfl) (by kernel_rfl) (by decide) (by kernel_rfl) wz (vI r_6.1) (by kernel_rfl) ([(n_2, some (.cells 2 [(vL eI r_6.2.L), (vI r_6.2.f_at)]))] : Hp) (by kernel_rfl) (h_op (.ref n_2 0 0) wz rfl ?_)
 obtain ⟨r_9, hr_10, hF⟩ := bind_some hF
 refine h_callq 0 [0] il ft (mk_Stream_Range_ok hr_10) rfl hb13 rfl (by kernel_rfl) (by kernel_rfl) (by kernel_rfl) (by kernel_rfl) (by kernel_rfl) (by kernel_rfl) (by kernel_rfl) (by decide) (by kernel_rfl) wz (vI r_9.1) (by kernel_rfl) ([(n_2, some (.cells 2 [(vL eI r_9.2.L), (vI r_9.2.f_at)]))] : Hp) (by kernel_rfl) (h_op (.d (.agg (Post.enc (⟨(⟨#[112, 97]⟩ : ByteArray), r_6.1, r_9.1⟩ : Post)))) wz (by kernel_rfl) (h_op (.ref n_2 0 0) wz rfl ?_))
 obtain ⟨r_12, hr_13, hF⟩ := bind_some hF
 refine h_callq 0 [0] il ft (mk_Stream_Range_ok hr_13) rfl hb13 rfl (by kernel_rfl) (by kernel_rfl) (by kernel_rfl) (by kernel_rfl) (by kernel_rfl) (by kernel_rfl) (by kernel_rfl) (by decide) (by kernel_rfl) wz (vI r_12.1) (by kernel_rfl) ([(n_2, some (.cells 2 [(vL eI r_12.2.L), (vI r_12.2.f_at)]))] : Hp) (by kernel_rfl) (h_op (.ref n_2 0 0) wz rfl ?_)
 obtain ⟨r_15, hr_16, hF⟩ := bind_some hF
 refine h_callq 0 [0] il ft (mk_Stream_Range_ok hr_16) rfl hb13 rfl (by kernel_rfl) (by kernel_rfl) (by kernel_rfl) (by kernel_rfl) (by kernel_rfl) (by kernel_rfl) (by kernel_rfl) (by decide) (by kernel_rfl) wz (vI r_15.1) (by kernel_rfl) ([(n_2, some (.cells 2 [(vL eI r_15.2.L), (vI r_15.2.f_at)]))] : Hp) (by kernel_rfl) (h_op (.d (.agg (Window.enc (⟨r_12.1, r_15.1⟩ : Window)))) wz (by kernel_rfl) (h_alloc 0 (.inl rfl) z77 rfl wz (fun n_18 => h_alloc 0 (.inl rfl) z109 rfl wz (fun n_19 => h_op (vL Alert.enc r_3.1) wz rfl (h_str 0 il ft 1 sz77 rfl rfl [(vS (⟨#[112, 97]⟩ : ByteArray)), (vI r_6.1), (vI r_9.1)] rfl wz (h_str 0 il ft 2 sz109 rfl rfl [(vI r_12.1), (vI r_15.1)] rfl wz (h_nil (wH_seq (wH_region (h_op (vL Alert.enc r_3.1) wz rfl (h_ldr 0 1 il ft sz77 ag77 rfl rfl (.d (.agg (Post.enc (⟨(⟨#[112, 97]⟩ : ByteArray), r_6.1, r_9.1⟩ : Post)))) rfl wz (h_ldr 0 2 il ft sz109 ag109 rfl rfl (.d (.agg (Window.enc (⟨r_12.1, r_15.1⟩ : Window)))) rfl wz ?_))))))))))))
 obtain ⟨r_20, hr_21, hF⟩ := bind_some hF
 refine h_call0 (alert_Through_ok hr_21) rfl hb50 rfl rfl rfl rfl wz (h_op (.tup [(vL Slot_.enc r_20.1), (vI r_20.2)]) wz rfl (h_op (vL Slot_.enc r_20.1) wz rfl (h_op (vI r_20.2) wz rfl (h_op (vL Slot_.enc r_20.1) wz rfl (h_op (vI r_20.2) wz rfl (h_nil (wH_at (H0 := ([(n_2, some (.cells 2 [(vL eI r_15.2.L), (vI r_15.2.f_at)])), (n_18, some (.cells 3 [(vS (⟨#[112, 97]⟩ : ByteArray)), (vI r_6.1), (vI r_9.1)])), (n_19, some (.cells 2 [(vI r_12.1), (vI r_15.1)]))] : Hp)) ([(3, (.ref n_2 0 0)), (4, (vL Alert.enc r_3.1)), (5, (.ref n_18 0 0)), (6, (.ref n_19 0 0)), (7, (vL Slot_.enc r_20.1)), (8, (vI r_20.2))] : List (Nat × V)) (by kernel_rfl) (pre_mk (by kernel_rfl)) (wH_seq (wH_seq (wH_region (h_op (vI r_20.2) wz rfl (h_op (vB (r_20.2 != 0)) wz rfl (h_nil ?_)))))))))))))
 rcases cond_some hF with ⟨hc_22, hF⟩ | ⟨hc_22, hF⟩
 ·refine wH_ift rfl hc_22 (wH_seq (wH_region (h_op (vB false) wz rfl (h_nil ?_))))
  obtain rfl := some_inj hF
  exact wH_ret (fin0 (.inr rfl) [(vB false)] ⟨rfl, trivial⟩ rfl rfl rfl)
 ·refine wH_iff rfl hc_22 (wH_skip (wH_seq (wH_seq (wH_region (h_op (vI 0) wz rfl (h_nil ?_))))))
  obtain ⟨o_31, hj_32, hF⟩ := bind_some hF
  obtain ⟨hn_27, hj_32⟩ := forL_some hj_32
  refine wH_join (β := ((List Int) × Int)) (fun (s_28 : (List Int) × Int) => ([] : List (Nat × V))) (fun (s_28 : (List Int) × Int) => ([(n_2, some (.cells 2 [(vL eI s_28.1), (vI s_28.2)])), (n_18, some (.cells 3 [(vS (⟨#[112, 97]⟩ : ByteArray)), (vI r_6.1), (vI r_9.1)])), (n_19, some (.cells 2 [(vI r_12.1), (vI r_15.1)]))] : Hp)) (fun p => o_31 = .go p) ?_ ?_
  ·refine wH_block (wH_loop (β := Nat × (List Nat) × ((List Int) × Int)) (fun p => (fun (k_23 : Nat) (l_24 : List Nat) (s_28 : (List Int) × Int) => ([(3, (.ref n_2 0 0)), (4, (vL Alert.enc r_3.1)), (5, (.ref n_18 0 0)), (6, (.ref n_19 0 0)), (7, (vL Slot_.enc r_20.1)), (46, (vI (k_23 : Int)))] : List (Nat × V))) p.1 p.2.1 p.2.2) (fun p => (fun (k_23 : Nat) (l_24 : List Nat) (s_28 : (List Int) × Int) => ([(n_2, some (.cells 2 [(vL eI s_28.1), (vI s_28.2)])), (n_18, some (.cells 3 [(vS (⟨#[112, 97]⟩ : ByteArray)), (vI r_6.1), (vI r_9.1)])), (n_19, some (.cells 2 [(vI r_12.1), (vI r_15.1)]))] : Hp)) p.1 p.2.1 p.2.2) (fun p => forR (fun k x s => keep_AlertsWhereTheyShould_L2 r_3 r_6 r_9 r_20 r_12 r_15 k x s) p.2.1 p.1 p.2.2 = some o_31 ∧ ((List.range (5 : Int).toNat)).drop p.1 = p.2.1) (fun p => p.2.1.length) (0, (List.range (5 : Int).toNat), (r_15.2.L, r_15.2.f_at)) ⟨hj_32, rfl⟩ rfl (pre_r rfl) ?_)
   rintro ⟨k_23, l_24, s_28⟩ ⟨hL_30, hD_26⟩
   dsimp only at hL_30 hD_26
   cases l_24 with
   | nil =>
    obtain rfl := some_inj hL_30
    refine wH_seq (wH_region (h_op (vB (decide ((k_23 : Int) < 5))) wz rfl (h_nil ?_)))
    refine wH_seq (wH_iff rfl (range_nil hD_26) (wH_exit ?_))
    exact cut_mk (s_28) rfl rfl (pre_r rfl)
   | cons x_25 l_24 =>
    obtain ⟨c_, hc_29, hL_30⟩ := bind_some hL_30
    refine wH_seq (wH_region (h_op (vB (decide ((k_23 : Int) < 5))) wz rfl (h_nil ?_)))
    refine wH_seq (wH_ift rfl (range_cons hD_26) (wH_skip ?_))
    unfold keep_AlertsWhereTheyShould_L2 at hc_29
    refine wH_seq (wH_block (wH_seq (wH_region (h_op (.ref n_2 0 0) wz rfl ?_))))
    obtain ⟨r_33, hr_34, hc_29⟩ := bind_some hc_29
    refine h_callq 0 [0] il ft (mk_Stream_Range_ok hr_34) rfl hb13 rfl (by kernel_rfl) (by kernel_rfl) (by kernel_rfl) (by kernel_rfl) (by kernel_rfl) (by kernel_rfl) (by kernel_rfl) (by decide) (by kernel_rfl) wz (vI r_33.1) (by kernel_rfl) ([(n_2, some (.cells 2 [(vL eI r_33.2.L), (vI r_33.2.f_at)])), (n_18, some (.cells 3 [(vS (⟨#[112, 97]⟩ : ByteArray)), (vI r_6.1), (vI r_9.1)])), (n_19, some (.cells 2 [(vI r_12.1), (vI r_15.1)]))] : Hp) (by kernel_rfl) (h_alloc 0 (.inl rfl) z3 rfl wz (fun n_36 => h_str 0 il ft 3 sz3 rfl rfl [(vI r_33.1)] rfl wz (h_nil (wH_seq (wH_region (h_op (vL Alert.enc r_3.1) wz rfl (h_ldr 0 1 il ft sz77 ag77 rfl rfl (.d (.agg (Post.enc (⟨(⟨#[112, 97]⟩ : ByteArray), r_6.1, r_9.1⟩ : Post)))) rfl wz (h_ldr 0 3 il ft sz3 ag3 rfl rfl (vI r_33.1) rfl wz ?_))))))))
    obtain ⟨r_37, hr_38, hc_29⟩ := bind_some hc_29
    refine h_call0 (alert_Shown_ok hr_38) rfl hb44 rfl rfl rfl rfl wz (h_op (.tup [(vS r_37.1), (vB r_37.2.1), (vI r_37.2.2)]) wz rfl (h_op (vS r_37.1) wz rfl (h_op (vB r_37.2.1) wz rfl (h_op (vI r_37.2.2) wz rfl (h_op (vS r_37.1) wz rfl (h_op (vB r_37.2.1) wz rfl (h_op (vI r_37.2.2) wz rfl (h_nil (wH_seq (wH_region (h_op (vL Alert.enc r_3.1) wz rfl (h_ldr 0 1 il ft sz77 ag77 rfl rfl (.d (.agg (Post.enc (⟨(⟨#[112, 97]⟩ : ByteArray), r_6.1, r_9.1⟩ : Post)))) rfl wz (h_ldr 0 3 il ft sz3 ag3 rfl rfl (vI r_33.1) rfl wz ?_)))))))))))))
    obtain ⟨r_39, hr_40, hc_29⟩ := bind_some hc_29
    refine h_call0 (alert_Ranked_ok hr_40) rfl hb43 rfl rfl rfl rfl wz (h_op (.tup [(vL eS r_39.1), (vI r_39.2)]) wz rfl (h_op (vL eS r_39.1) wz rfl (h_op (vI r_39.2) wz rfl (h_op (vL eS r_39.1) wz rfl (h_op (vI r_39.2) wz rfl (h_nil (wH_seq (wH_region (h_op (vL Alert.enc r_3.1) wz rfl (h_ldr 0 3 il ft sz3 ag3 rfl rfl (vI r_33.1) rfl wz ?_))))))))))
    obtain ⟨r_41, hr_42, hc_29⟩ := bind_some hc_29
    refine h_call0 (alert_InForce_ok hr_42) rfl hb51 rfl rfl rfl rfl wz (h_op (.tup [(vL eS r_41.1), (vI r_41.2)]) wz rfl (h_op (vL eS r_41.1) wz rfl (h_op (vI r_41.2) wz rfl (h_op (vL eS r_41.1) wz rfl (h_op (vI r_41.2) wz rfl (h_nil (wH_at (H0 := ([(n_2, some (.cells 2 [(vL eI r_33.2.L), (vI r_33.2.f_at)])), (n_18, some (.cells 3 [(vS (⟨#[112, 97]⟩ : ByteArray)), (vI r_6.1), (vI r_9.1)])), (n_19, some (.cells 2 [(vI r_12.1), (vI r_15.1)])), (n_36, some (.cells 1 [(vI r_33.1)]))] : Hp)) ([(3, (.ref n_2 0 0)), (4, (vL Alert.enc r_3.1)), (5, (.ref n_18 0 0)), (6, (.ref n_19 0 0)), (7, (vL Slot_.enc r_20.1)), (9, (.ref n_36 0 0)), (10, (vS r_37.1)), (11, (vB r_37.2.1)), (12, (vI r_37.2.2)), (13, (vL eS r_39.1)), (14, (vI r_39.2)), (15, (vL eS r_41.1)), (16, (vI r_41.2)), (46, (vI (k_23 : Int)))] : List (Nat × V)) (by kernel_rfl) (pre_mk (by kernel_rfl)) (wH_seq (wH_seq ?_)))))))))
    obtain ⟨v_43, h_44, hc_29⟩ := bind_some hc_29
    refine wH_join (β := Unit) (fun _ => ([(3, (.ref n_2 0 0)), (4, (vL Alert.enc r_3.1)), (5, (.ref n_18 0 0)), (6, (.ref n_19 0 0)), (7, (vL Slot_.enc r_20.1)), (9, (.ref n_36 0 0)), (10, (vS r_37.1)), (13, (vL eS r_39.1)), (15, (vL eS r_41.1)), (46, (vI (k_23 : Int))), (93, (vB v_43))] : List (Nat × V))) (fun _ => ([(n_2, some (.cells 2 [(vL eI r_33.2.L), (vI r_33.2.f_at)])), (n_18, some (.cells 3 [(vS (⟨#[112, 97]⟩ : ByteArray)), (vI r_6.1), (vI r_9.1)])), (n_19, some (.cells 2 [(vI r_12.1), (vI r_15.1)])), (n_36, some (.cells 1 [(vI r_33.1)]))] : Hp)) (fun _ => True) ?_ ?_
    ·refine wH_region (h_op (vI r_37.2.2) wz rfl (h_op (vI r_39.2) wz rfl (h_op (vI r_41.2) wz rfl (h_lit (([r_37.2.2, r_39.2, r_41.2] : List Int).map eI) es192 ez192 rfl rfl rfl rfl rfl wz ?_))))
     obtain ⟨r_45, hr_46, h_44⟩ := bind_some h_44
     refine h_call0 (keep_errs_ok hr_46) rfl hb26 rfl rfl rfl rfl wz (h_op (vB (r_45 != 0)) wz rfl ?_)
     rcases cond_some h_44 with ⟨hc_47, h_44⟩ | ⟨hc_47, h_44⟩
     ·refine h_movb rfl hc_47 wz (h_skip wa (h_skip wa (h_skip wa (h_skip wa (h_skip wa (h_op (vB true) wz rfl (h_op (vB true) wz rfl (h_skip wa (h_skip wa (h_skip (wn rfl rfl) (h_skip (wn rfl rfl) (h_skip (wn rfl rfl) (h_skip (wn rfl rfl) (h_skip (wn rfl rfl) (h_skip wa (h_op (vB true) wz rfl (h_nil ?_)))))))))))))))))
      obtain rfl := some_inj h_44
      exact cu
     ·refine h_movb rfl hc_47 wz (h_op (vB r_37.2.1) wa rfl (h_op (vL eS r_39.1) wa rfl (h_len un80 rfl wa (h_op (vB (decide ((r_39.1.length : Int) > 0))) wa rfl (h_bneq un4 rfl rfl wa (h_op (vB (!(r_37.2.1 == (decide ((r_39.1.length : Int) > 0))))) wz rfl ?_))))))
      rcases cond_some h_44 with ⟨hc_48, h_44⟩ | ⟨hc_48, h_44⟩
      ·refine h_movb rfl hc_48 wz (h_skip wa (h_skip wa (h_skip (wn rfl rfl) (h_skip (wn rfl rfl) (h_skip (wn rfl rfl) (h_skip (wn rfl rfl) (h_skip (wn rfl rfl) (h_skip wa (h_op (vB true) wz rfl (h_nil ?_))))))))))
       obtain rfl := some_inj h_44
       exact cu
      ·refine h_movb rfl hc_48 wz (h_op (vB r_37.2.1) wa rfl ?_)
       rcases cond_some h_44 with ⟨hc_49, h_44⟩ | ⟨hc_49, h_44⟩
       ·refine h_movb rfl hc_49 wa (h_op (vL eS r_39.1) wa rfl ?_)
        obtain ⟨y_50, hy_51, h_44⟩ := bind_some h_44
        refine h_ia es80 rfl rfl hy_51 rfl wa (h_ldc sz9 ag9 rfl (vS y_50) rfl wa (h_op (vS r_37.1) wa rfl (h_op (vB (sNe y_50 r_37.1)) wa rfl (h_op (vB (sNe y_50 r_37.1)) wa rfl (h_op (vB (sNe y_50 r_37.1)) wz rfl (h_nil ?_))))))
        obtain rfl := some_inj h_44
        exact cu
       ·refine h_movb rfl hc_49 wa (h_skip wa (h_skip wa (h_skip wa (h_skip wa (h_skip wa (h_op (vB false) wa rfl (h_op (vB false) wz rfl (h_nil ?_))))))))
        obtain rfl := some_inj h_44
        exact cu
    ·rintro ⟨⟩ _ sl_ H_ hp_ hq_
     refine wH_at _ hp_ hq_ ?_
     rcases cond_some hc_29 with ⟨hc_52, hc_29⟩ | ⟨hc_52, hc_29⟩
     ·refine wH_ift rfl hc_52 (wH_seq (wH_region (h_op (vB false) wz rfl (h_nil ?_))))
      obtain rfl := some_inj hc_29
      obtain rfl := some_inj hL_30
      obtain rfl := some_inj hF
      exact wH_ret (fin0 (.inr rfl) [(vB false)] ⟨rfl, trivial⟩ rfl rfl rfl)
     ·refine wH_iff rfl hc_52 (wH_skip (wH_seq (wH_seq (wH_region (h_op (vL Alert.enc r_3.1) wz rfl (h_len un78 rfl wz (h_op (vI 0) wz rfl (h_nil ?_))))))))
      obtain ⟨o_61, hj_62, hc_29⟩ := bind_some hc_29
      obtain ⟨hn_57, hj_62⟩ := forL_some hj_62
      refine wH_join (β := (Unit)) (fun (s_58 : Unit) => ([(3, (.ref n_2 0 0)), (4, (vL Alert.enc r_3.1)), (5, (.ref n_18 0 0)), (6, (.ref n_19 0 0)), (7, (vL Slot_.enc r_20.1)), (9, (.ref n_36 0 0)), (10, (vS r_37.1)), (46, (vI (k_23 : Int)))] : List (Nat × V))) (fun (s_58 : Unit) => ([(n_2, some (.cells 2 [(vL eI r_33.2.L), (vI r_33.2.f_at)])), (n_18, some (.cells 3 [(vS (⟨#[112, 97]⟩ : ByteArray)), (vI r_6.1), (vI r_9.1)])), (n_19, some (.cells 2 [(vI r_12.1), (vI r_15.1)])), (n_36, some (.cells 1 [(vI r_33.1)]))] : Hp)) (fun p => o_61 = .go p) ?_ ?_
      ·refine wH_block (wH_loop (β := Nat × (List Alert) × (Unit)) (fun p => (fun (k_53 : Nat) (l_54 : List Alert) (s_58 : Unit) => ([(3, (.ref n_2 0 0)), (4, (vL Alert.enc r_3.1)), (5, (.ref n_18 0 0)), (6, (.ref n_19 0 0)), (7, (vL Slot_.enc r_20.1)), (9, (.ref n_36 0 0)), (10, (vS r_37.1)), (13, (vL eS r_39.1)), (15, (vL eS r_41.1)), (46, (vI (k_23 : Int))), (94, (vL Alert.enc r_3.1)), (95, (vI (r_3.1.length : Int))), (96, (vI (k_53 : Int)))] : List (Nat × V))) p.1 p.2.1 p.2.2) (fun p => (fun (k_53 : Nat) (l_54 : List Alert) (s_58 : Unit) => ([(n_2, some (.cells 2 [(vL eI r_33.2.L), (vI r_33.2.f_at)])), (n_18, some (.cells 3 [(vS (⟨#[112, 97]⟩ : ByteArray)), (vI r_6.1), (vI r_9.1)])), (n_19, some (.cells 2 [(vI r_12.1), (vI r_15.1)])), (n_36, some (.cells 1 [(vI r_33.1)]))] : Hp)) p.1 p.2.1 p.2.2) (fun p => forR (fun k x s => keep_AlertsWhereTheyShould_L1 r_6 r_9 r_39 r_41 k x s) p.2.1 p.1 p.2.2 = some o_61 ∧ (r_3.1).drop p.1 = p.2.1) (fun p => p.2.1.length) (0, r_3.1, ()) ⟨hj_62, rfl⟩ rfl (pre_r rfl) ?_)
       rintro ⟨k_53, l_54, s_58⟩ ⟨hL_60, hD_56⟩
       dsimp only at hL_60 hD_56
       cases l_54 with
       | nil =>
        obtain rfl := some_inj hL_60
        refine wH_seq (wH_region (h_op (vB (decide ((k_53 : Int) < (r_3.1.length : Int)))) wz rfl (h_nil ?_)))
        refine wH_seq (wH_iff rfl (drop_nil hD_56) (wH_exit ?_))
        exact cut_mk (s_58) rfl rfl (pre_r rfl)
       | cons x_55 l_54 =>
        obtain ⟨c_, hc_59, hL_60⟩ := bind_some hL_60
        refine wH_seq (wH_region (h_op (vB (decide ((k_53 : Int) < (r_3.1.length : Int)))) wz rfl (h_nil ?_)))
        refine wH_seq (wH_ift rfl (drop_cons hD_56) (wH_skip ?_))
        unfold keep_AlertsWhereTheyShould_L1 at hc_59
        refine wH_seq (wH_block (wH_seq (wH_region (h_ia es78 rfl rfl (drop_idx hD_56) rfl wz (h_ldc sz82 ag82 rfl (.d (.agg (Alert.enc x_55))) rfl wz (h_alloc 0 (.inl rfl) z82 rfl wz (fun n_63 => h_str 0 il ft 4 sz82 rfl rfl [(vS x_55.Id), (vS x_55.Sender), (vI x_55.Kind), (vL eS x_55.Refs), (vI x_55.At), (vI x_55.Until), (vI x_55.Weight), (vL Rect.enc x_55.Areas), (vS x_55.Text)] rfl wz (h_nil (wH_seq (wH_region (h_ldr 0 4 il ft sz82 ag82 rfl rfl (.d (.agg (Alert.enc x_55))) rfl wz (h_ldr 0 1 il ft sz77 ag77 rfl rfl (.d (.agg (Post.enc (⟨(⟨#[112, 97]⟩ : ByteArray), r_6.1, r_9.1⟩ : Post)))) rfl wz ?_))))))))))))
        obtain ⟨r_64, hr_65, hc_59⟩ := bind_some hc_59
        refine h_call0 (alert_Reaches_ok hr_65) rfl hb30 rfl rfl rfl rfl wz (h_op (.tup [(vB r_64.1), (vI r_64.2)]) wz rfl (h_op (vB r_64.1) wz rfl (h_op (vI r_64.2) wz rfl (h_op (vB r_64.1) wz rfl (h_op (vI r_64.2) wz rfl (h_nil (wH_seq ?_)))))))
        obtain ⟨v_66, h_67, hc_59⟩ := bind_some hc_59
        refine wH_join (β := Unit) (fun _ => ([(3, (.ref n_2 0 0)), (4, (vL Alert.enc r_3.1)), (5, (.ref n_18 0 0)), (6, (.ref n_19 0 0)), (7, (vL Slot_.enc r_20.1)), (9, (.ref n_36 0 0)), (10, (vS r_37.1)), (13, (vL eS r_39.1)), (15, (vL eS r_41.1)), (46, (vI (k_23 : Int))), (94, (vL Alert.enc r_3.1)), (95, (vI (r_3.1.length : Int))), (96, (vI (k_53 : Int))), (121, (vB v_66))] : List (Nat × V))) (fun _ => ([(n_2, some (.cells 2 [(vL eI r_33.2.L), (vI r_33.2.f_at)])), (n_18, some (.cells 3 [(vS (⟨#[112, 97]⟩ : ByteArray)), (vI r_6.1), (vI r_9.1)])), (n_19, some (.cells 2 [(vI r_12.1), (vI r_15.1)])), (n_36, some (.cells 1 [(vI r_33.1)])), (n_63, some (.cells 9 [(vS x_55.Id), (vS x_55.Sender), (vI x_55.Kind), (vL eS x_55.Refs), (vI x_55.At), (vI x_55.Until), (vI x_55.Weight), (vL Rect.enc x_55.Areas), (vS x_55.Text)]))] : Hp)) (fun _ => True) ?_ ?_
        ·refine wH_region (h_op (vI r_64.2) wz rfl (h_op (vB (r_64.2 != 0)) wz rfl ?_))
         rcases cond_some h_67 with ⟨hc_68, h_67⟩ | ⟨hc_68, h_67⟩
         ·refine h_movb rfl hc_68 wz (h_skip wa (h_skip wa (h_skip wa (h_skip wa (h_skip wa (h_skip wa (h_skip (wn rfl rfl) (h_skip (wn rfl rfl) (h_skip (wn rfl rfl) (h_skip (wn rfl rfl) (h_skip wa (h_skip wa (h_op (vB true) wz rfl (h_nil ?_))))))))))))))
          obtain rfl := some_inj h_67
          exact cu
         ·refine h_movb rfl hc_68 wz (h_op (vL eS r_39.1) wa rfl (h_far pl82_0 rfl 0 rfl wa (h_ldr 0 4 il ft sz9 ag9 rfl rfl (vS x_55.Id) rfl wa ?_)))
          obtain ⟨r_69, hr_70, h_67⟩ := bind_some h_67
          refine h_call0 (slices_Contains_string_string_ok hr_70) rfl hb52 rfl rfl rfl rfl wa (h_op (vB r_64.1) wa rfl ?_)
          rcases cond_some h_67 with ⟨hc_71, h_67⟩ | ⟨hc_71, h_67⟩
          ·refine h_movb rfl hc_71 wa (h_op (vL eS r_41.1) wa rfl (h_far pl82_0 rfl 0 rfl wa (h_ldr 0 4 il ft sz9 ag9 rfl rfl (vS x_55.Id) rfl wa ?_)))
           obtain ⟨r_72, hr_73, h_67⟩ := bind_some h_67
           refine h_call0 (slices_Contains_string_string_ok hr_73) rfl hb52 rfl rfl rfl rfl wa (h_op (vB r_72) wa rfl (h_bneq un4 rfl rfl wa (h_op (vB (!(r_69 == r_72))) wz rfl (h_nil ?_))))
           obtain rfl := some_inj h_67
           exact cu
          ·refine h_movb rfl hc_71 wa (h_skip wa (h_skip wa (h_skip wa (h_skip wa (h_op (vB false) wa rfl (h_bneq un4 rfl rfl wa (h_op (vB (!(r_69 == false))) wz rfl (h_nil ?_))))))))
           obtain rfl := some_inj h_67
           exact cu
        ·rintro ⟨⟩ _ sl_ H_ hp_ hq_
         refine wH_at _ hp_ hq_ ?_
         rcases cond_some hc_59 with ⟨hc_74, hc_59⟩ | ⟨hc_74, hc_59⟩
         ·refine wH_ift rfl hc_74 (wH_seq (wH_region (h_op (vB false) wz rfl (h_nil ?_))))
          obtain rfl := some_inj hc_59
          obtain rfl := some_inj hL_60
          obtain rfl := some_inj hc_29
          obtain rfl := some_inj hL_30
          obtain rfl := some_inj hF
          exact wH_ret (fin0 (.inr rfl) [(vB false)] ⟨rfl, trivial⟩ rfl rfl rfl)
         ·refine wH_iff rfl hc_74 (wH_skip (wH_region (h_opw (w64_next hD_56 hn_57) wz rfl (h_op (vI ((k_53 + 1 : Nat) : Int)) wz rfl (h_nil ?_)))))
          obtain rfl := some_inj hc_59
          exact loop_mk (k_53 + 1, l_54, ()) ⟨hL_60, drop_next hD_56⟩ (Nat.lt_succ_self _) rfl (pre_r rfl)
      ·rintro s_58 ho_ sl_ H_ hp_ hq_
       subst ho_
       refine wH_at _ hp_ hq_ (wH_seq (wH_region (h_op (vL Slot_.enc r_20.1) wz rfl (h_op (.fn 54 [(.ref n_36 0 0)]) wz rfl ?_))))
       obtain ⟨r_75, hr_76, hc_29⟩ := bind_some hc_29
       refine h_callq 0 [3] il ft (slices_IndexFunc_api_Slot_api_Slot_ok (gid := 54) (caps := [.ref (extN 0) 0 0]) (Sin := [(.cells 1 [(vI r_33.1)])]) (fun _ _ h_ => keep_AlertsWhereTheyShould_1_ok h_) hb54 ⟨rfl, rfl⟩ (by kernel_rfl) (all_ok (by kernel_rfl)) (all_mut (by kernel_rfl)) hr_76) rfl hb53 rfl (by kernel_rfl) (by kernel_rfl) (by kernel_rfl) (by kernel_rfl) (by kernel_rfl) (by kernel_rfl) (by kernel_rfl) (by decide) (by kernel_rfl) wz (vI r_75) (by kernel_rfl) ([(n_2, some (.cells 2 [(vL eI r_33.2.L), (vI r_33.2.f_at)])), (n_18, some (.cells 3 [(vS (⟨#[112, 97]⟩ : ByteArray)), (vI r_6.1), (vI r_9.1)])), (n_19, some (.cells 2 [(vI r_12.1), (vI r_15.1)])), (n_36, some (.cells 1 [(vI r_33.1)]))] : Hp) (by kernel_rfl) (h_op (vI r_75) wz rfl (h_nil (wH_seq ?_)))
       obtain ⟨v_78, h_79, hc_29⟩ := bind_some hc_29
       refine wH_join (β := Unit) (fun _ => ([(3, (.ref n_2 0 0)), (4, (vL Alert.enc r_3.1)), (5, (.ref n_18 0 0)), (6, (.ref n_19 0 0)), (7, (vL Slot_.enc r_20.1)), (46, (vI (k_23 : Int))), (151, (vB v_78))] : List (Nat × V))) (fun _ => ([(n_2, some (.cells 2 [(vL eI r_33.2.L), (vI r_33.2.f_at)])), (n_18, some (.cells 3 [(vS (⟨#[112, 97]⟩ : ByteArray)), (vI r_6.1), (vI r_9.1)])), (n_19, some (.cells 2 [(vI r_12.1), (vI r_15.1)])), (n_36, some (.cells 1 [(vI r_33.1)]))] : Hp)) (fun _ => True) ?_ ?_
       ·refine wH_region (h_op (vI r_75) wz rfl (h_op (vB (decide (r_75 ≥ 0))) wz rfl (h_far pl109_0 rfl 0 rfl wz (h_ldr 0 2 il ft sz3 ag3 rfl rfl (vI r_12.1) rfl wz (h_ldr 0 3 il ft sz3 ag3 rfl rfl (vI r_33.1) rfl wz (h_op (vB (decide (r_12.1 ≤ r_33.1))) wz rfl ?_))))))
        rcases cond_some h_79 with ⟨hc_80, h_79⟩ | ⟨hc_80, h_79⟩
        ·refine h_movb rfl hc_80 wz (h_ldr 0 3 il ft sz3 ag3 rfl rfl (vI r_33.1) rfl wa (h_far pl109_1 rfl 1 rfl wa (h_ldr 0 2 il ft sz3 ag3 rfl rfl (vI r_15.1) rfl wa (h_op (vB (decide (r_33.1 < r_15.1))) wa rfl (h_op (vB (decide (r_33.1 < r_15.1))) wz rfl (h_bneq un4 rfl rfl wz ?_))))))
         rcases cond_some h_79 with ⟨hc_81, h_79⟩ | ⟨hc_81, h_79⟩
         ·refine h_movb rfl hc_81 wz (h_skip wa (h_skip wa (h_skip wa (h_skip (wn rfl rfl) (h_skip (wn rfl rfl) (h_skip (wn rfl rfl) (h_skip (wn rfl rfl) (h_skip (wn rfl rfl) (h_skip (wn rfl rfl) (h_skip (wn rfl rfl) (h_skip wa (h_op (vB true) wz rfl (h_nil ?_)))))))))))))
          obtain rfl := some_inj h_79
          exact cu
         ·refine h_movb rfl hc_81 wz (h_op (vI r_75) wa rfl (h_op (vB (decide (r_75 ≥ 0))) wa rfl ?_))
          rcases cond_some h_79 with ⟨hc_82, h_79⟩ | ⟨hc_82, h_79⟩
          ·refine h_movb rfl hc_82 wa (h_op (vL Slot_.enc r_20.1) wa rfl (h_op (vI r_75) wa rfl ?_))
           obtain ⟨y_83, hy_84, h_79⟩ := bind_some h_79
           refine h_ia es110 rfl rfl hy_84 rfl wa (h_fac pl117_1 rfl [.str y_83.Entry] rfl rfl wa (h_ldc sz9 ag9 rfl (vS y_83.Entry) rfl wa (h_op (vS r_37.1) wa rfl (h_op (vB (sNe y_83.Entry r_37.1)) wa rfl (h_op (vB (sNe y_83.Entry r_37.1)) wa rfl (h_op (vB (sNe y_83.Entry r_37.1)) wz rfl (h_nil ?_)))))))
           obtain rfl := some_inj h_79
           exact cu
          ·refine h_movb rfl hc_82 wa (h_skip wa (h_skip wa (h_skip wa (h_skip wa (h_skip wa (h_skip wa (h_skip wa (h_op (vB false) wa rfl (h_op (vB false) wz rfl (h_nil ?_))))))))))
           obtain rfl := some_inj h_79
           exact cu
        ·refine h_movb rfl hc_80 wz (h_skip wa (h_skip wa (h_skip wa (h_skip wa (h_op (vB false) wz rfl (h_bneq un4 rfl rfl wz ?_))))))
         rcases cond_some h_79 with ⟨hc_85, h_79⟩ | ⟨hc_85, h_79⟩
         ·refine h_movb rfl hc_85 wz (h_skip wa (h_skip wa (h_skip wa (h_skip (wn rfl rfl) (h_skip (wn rfl rfl) (h_skip (wn rfl rfl) (h_skip (wn rfl rfl) (h_skip (wn rfl rfl) (h_skip (wn rfl rfl) (h_skip (wn rfl rfl) (h_skip wa (h_op (vB true) wz rfl (h_nil ?_)))))))))))))
          obtain rfl := some_inj h_79
          exact cu
         ·refine h_movb rfl hc_85 wz (h_op (vI r_75) wa rfl (h_op (vB (decide (r_75 ≥ 0))) wa rfl ?_))
          rcases cond_some h_79 with ⟨hc_86, h_79⟩ | ⟨hc_86, h_79⟩
          ·refine h_movb rfl hc_86 wa (h_op (vL Slot_.enc r_20.1) wa rfl (h_op (vI r_75) wa rfl ?_))
           obtain ⟨y_87, hy_88, h_79⟩ := bind_some h_79
           refine h_ia es110 rfl rfl hy_88 rfl wa (h_fac pl117_1 rfl [.str y_87.Entry] rfl rfl wa (h_ldc sz9 ag9 rfl (vS y_87.Entry) rfl wa (h_op (vS r_37.1) wa rfl (h_op (vB (sNe y_87.Entry r_37.1)) wa rfl (h_op (vB (sNe y_87.Entry r_37.1)) wa rfl (h_op (vB (sNe y_87.Entry r_37.1)) wz rfl (h_nil ?_)))))))
           obtain rfl := some_inj h_79
           exact cu
          ·refine h_movb rfl hc_86 wa (h_skip wa (h_skip wa (h_skip wa (h_skip wa (h_skip wa (h_skip wa (h_skip wa (h_op (vB false) wa rfl (h_op (vB false) wz rfl (h_nil ?_))))))))))
           obtain rfl := some_inj h_79
           exact cu
       ·rintro ⟨⟩ _ sl_ H_ hp_ hq_
        refine wH_at _ hp_ hq_ ?_
        rcases cond_some hc_29 with ⟨hc_89, hc_29⟩ | ⟨hc_89, hc_29⟩
        ·refine wH_ift rfl hc_89 (wH_seq (wH_region (h_op (vB false) wz rfl (h_nil ?_))))
         obtain rfl := some_inj hc_29
         obtain rfl := some_inj hL_30
         obtain rfl := some_inj hF
         exact wH_ret (fin0 (.inr rfl) [(vB false)] ⟨rfl, trivial⟩ rfl rfl rfl)
        ·refine wH_iff rfl hc_89 (wH_skip (wH_region (h_opw (w64_nextr hD_26 hn_27) wz rfl (h_op (vI ((k_23 + 1 : Nat) : Int)) wz rfl (h_nil ?_)))))
         obtain rfl := some_inj hc_29
         exact loop_mk (k_23 + 1, l_24, (r_33.2.L, r_33.2.f_at)) ⟨hL_30, drop_next hD_26⟩ (Nat.lt_succ_self _) rfl (pre_r rfl)
  ·rintro s_28 ho_ sl_ H_ hp_ hq_
   subst ho_
   refine wH_at _ hp_ hq_ (wH_seq (wH_region ?_))
   obtain ⟨r_90, hr_91, hF⟩ := bind_some hF
   refine h_call0 (keep_ready_ok hr_91) rfl hb16 rfl rfl rfl rfl wz (h_op (vB r_90) wz rfl (h_nil ?_))
   obtain rfl := some_inj hF
   exact wH_ret (fin0 (.inr rfl) [(vB r_90)] ⟨rfl, trivial⟩ rfl rfl rfl)
end Go.Proofs.YtpojeclokolkaaaGreatDoor.Law

