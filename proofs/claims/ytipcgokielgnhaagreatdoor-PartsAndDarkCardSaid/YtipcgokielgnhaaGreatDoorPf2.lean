/-
 The machine computes these plain functions (written by a program of ours).
-/
import Derived.Test.YtipcgokielgnhaaGreatDoorFacts
import Derived.Test.YtipcgokielgnhaaGreatDoorDefs
import Derived.Test.YtipcgokielgnhaaGreatDoorPf1
open Go Go.Eng Go.Proofs
namespace Go.Proofs.YtipcgokielgnhaaGreatDoor.Law
set_option maxRecDepth 100000
set_option linter.unusedVariables false
set_option maxHeartbeats 1000000
theorem slices_Equal_screen_run_screen_run_ok {s1_1 : (List Run)} {s2_2 : (List Run)} {r : Bool} (hF : slices_Equal_screen_run_screen_run s1_1 s2_2 = some r) :
  FnM Tryz.prog 85 [(vL Run.enc s1_1), (vL Run.enc s2_2)] [] (vB r) [] := by
 refine FnM.of_wH ⟨Tryz.prog, 26, [], []⟩ rfl Tryz.func85 rfl rfl (Nat.le_of_ble_eq_true rfl) (by kernel_rfl) ?_
 unfold slices_Equal_screen_run_screen_run at hF
 refine wH_seq (wH_region (h_op (vB false) wz rfl (h_nil (wH_seq (wH_seq (wH_region (h_op (vL Run.enc s1_1) wz rfl (h_len un153 rfl wz (h_op (vL Run.enc s2_2) wz rfl (h_len un153 rfl wz (h_op (vB ((s1_1.length : Int) != (s2_2.length : Int))) wz rfl (h_nil ?_))))))))))))
 rcases cond_some hF with ⟨hc_3, hF⟩ | ⟨hc_3, hF⟩
 ·refine wH_ift rfl hc_3 (wH_seq (wH_region (h_op (vB false) wz rfl (h_nil ?_))))
  obtain rfl := some_inj hF
  exact wH_ret (fin0 (.inr rfl) [(vB false)] ⟨rfl, trivial⟩ rfl rfl rfl)
 ·refine wH_iff rfl hc_3 (wH_skip (wH_seq (wH_seq (wH_region (h_op (vL Run.enc s1_1) wz rfl (h_len un153 rfl wz (h_op (vI 0) wz rfl (h_nil ?_))))))))
  obtain ⟨o_12, hj_13, hF⟩ := bind_some hF
  obtain ⟨hn_8, hj_13⟩ := forL_some hj_13
  refine wH_join (β := (Unit)) (fun (s_9 : Unit) => ([] : List (Nat × V))) (fun (s_9 : Unit) => ([] : Hp)) (fun p => o_12 = .go p) ?_ ?_
  ·refine wH_block (wH_loop (β := Nat × (List Run) × (Unit)) (fun p => (fun (k_4 : Nat) (l_5 : List Run) (s_9 : Unit) => ([(0, (vL Run.enc s1_1)), (1, (vL Run.enc s2_2)), (12, (vI (s1_1.length : Int))), (13, (vI (k_4 : Int)))] : List (Nat × V))) p.1 p.2.1 p.2.2) (fun p => (fun (k_4 : Nat) (l_5 : List Run) (s_9 : Unit) => ([] : Hp)) p.1 p.2.1 p.2.2) (fun p => forR (fun k x s => slices_Equal_screen_run_screen_run_L1 s2_2 k x s) p.2.1 p.1 p.2.2 = some o_12 ∧ (s1_1).drop p.1 = p.2.1) (fun p => p.2.1.length) (0, s1_1, ()) ⟨hj_13, rfl⟩ rfl (pre_r rfl) ?_)
   rintro ⟨k_4, l_5, s_9⟩ ⟨hL_11, hD_7⟩
   dsimp only at hL_11 hD_7
   cases l_5 with
   | nil =>
    obtain rfl := some_inj hL_11
    refine wH_seq (wH_region (h_op (vB (decide ((k_4 : Int) < (s1_1.length : Int)))) wz rfl (h_nil ?_)))
    refine wH_seq (wH_iff rfl (drop_nil hD_7) (wH_exit ?_))
    exact cut_mk (s_9) rfl rfl (pre_r rfl)
   | cons x_6 l_5 =>
    obtain ⟨c_, hc_10, hL_11⟩ := bind_some hL_11
    refine wH_seq (wH_region (h_op (vB (decide ((k_4 : Int) < (s1_1.length : Int)))) wz rfl (h_nil ?_)))
    refine wH_seq (wH_ift rfl (drop_cons hD_7) (wH_skip ?_))
    unfold slices_Equal_screen_run_screen_run_L1 at hc_10
    refine wH_seq (wH_block (wH_seq (wH_region (h_op (vI (k_4 : Int)) wz rfl (h_op (vI (k_4 : Int)) wz rfl (h_nil (wH_seq (wH_draws (h_op (vL Run.enc s1_1) wz rfl (h_op (vI (k_4 : Int)) wz rfl (h_ia es153 rfl rfl (drop_idx hD_7) rfl wz (h_ldc sz158 ag158 rfl (.d (.agg (Run.enc x_6))) rfl wz (h_op (vL Run.enc s2_2) wz rfl (h_op (vI (k_4 : Int)) wz rfl ?_))))))))))))))
    obtain ⟨y_14, hy_15, hc_10⟩ := bind_some hc_10
    refine h_ia es153 rfl rfl hy_15 rfl wz (h_ldc sz158 ag158 rfl (.d (.agg (Run.enc y_14))) rfl wz (h_op (vB (!((x_6.f_from == y_14.f_from) && ((x_6.f_to == y_14.f_to) && true)))) wz (by kernel_rfl) (h_nil ?_)))
    rcases cond_some hc_10 with ⟨hc_16, hc_10⟩ | ⟨hc_16, hc_10⟩
    ·refine wH_ift rfl hc_16 (wH_seq (wH_region (h_op (vB false) wz rfl (h_nil ?_))))
     obtain rfl := some_inj hc_10
     obtain rfl := some_inj hL_11
     obtain rfl := some_inj hF
     exact wH_ret (fin0 (.inr rfl) [(vB false)] ⟨rfl, trivial⟩ rfl rfl rfl)
    ·refine wH_iff rfl hc_16 (wH_skip (wH_region (h_opw (w64_next hD_7 hn_8) wz rfl (h_op (vI ((k_4 + 1 : Nat) : Int)) wz rfl (h_nil ?_)))))
     obtain rfl := some_inj hc_10
     exact loop_mk (k_4 + 1, l_5, ()) ⟨hL_11, drop_next hD_7⟩ (Nat.lt_succ_self _) rfl (pre_r rfl)
  ·rintro s_9 ho_ sl_ H_ hp_ hq_
   subst ho_
   refine wH_at _ hp_ hq_ (wH_seq (wH_region (h_op (vB true) wz rfl (h_nil ?_))))
   obtain rfl := some_inj hF
   exact wH_ret (fin0 (.inr rfl) [(vB true)] ⟨rfl, trivial⟩ rfl rfl rfl)
theorem screen_region_ok {l_1 : (List Rect)} {m_2 : (List Rect)} {r : (List Rect)} (hF : screen_region l_1 m_2 = some r) :
  FnM Tryz.prog 49 [(vL Rect.enc l_1), (vL Rect.enc m_2)] [] (vL Rect.enc r) [] := by
 refine FnM.of_wH ⟨Tryz.prog, 88, [], []⟩ rfl Tryz.func49 rfl rfl (Nat.le_of_ble_eq_true rfl) (by kernel_rfl) ?_
 unfold screen_region at hF
 refine wH_seq (wH_region (h_op .nil wz rfl (h_nil (wH_seq (wH_region (h_op .nil wz rfl (h_nil (wH_seq (wH_seq (wH_region (h_op (vL Rect.enc l_1) wz rfl (h_op (vL Rect.enc m_2) wz rfl (h_lit (([l_1, m_2] : List (List Rect)).map (eL Rect.enc)) es121 ez121 rfl rfl rfl rfl rfl wz ?_)))))))))))))
 obtain ⟨r_3, hr_4, hF⟩ := bind_some hF
 refine h_call0 (slices_Concat_api_Rect_api_Rect_ok hr_4) rfl hb20 rfl rfl rfl rfl wz (h_len un27 rfl wz (h_op (vI 0) wz rfl (h_nil (wH_new (fun n_11 => ?_)))))
 obtain ⟨o_16, hj_17, hF⟩ := bind_some hF
 obtain ⟨hn_9, hj_17⟩ := forL_some hj_17
 refine wH_join (β := ((List Int)) × Nm) (fun p => (fun (s_10 : (List Int)) (n_13 : Nm) => ([(0, (vL Rect.enc l_1)), (1, (vL Rect.enc m_2)), (5, (gV n_13 1 s_10))] : List (Nat × V))) p.1 p.2) (fun p => (fun (s_10 : (List Int)) (n_13 : Nm) => ([(n_13, gB 1 eI s_10)] : Hp)) p.1 p.2) (fun p => o_16 = .go p.1) ?_ ?_
 ·refine wH_block (wH_loop (β := Nat × (List Rect) × ((List Int)) × Nm) (fun p => (fun (k_5 : Nat) (l_6 : List Rect) (s_10 : (List Int)) (n_13 : Nm) => ([(0, (vL Rect.enc l_1)), (1, (vL Rect.enc m_2)), (5, (gV n_13 1 s_10)), (19, (vL Rect.enc r_3)), (20, (vI (r_3.length : Int))), (21, (vI (k_5 : Int)))] : List (Nat × V))) p.1 p.2.1 p.2.2.1 p.2.2.2) (fun p => (fun (k_5 : Nat) (l_6 : List Rect) (s_10 : (List Int)) (n_13 : Nm) => ([(n_13, gB 1 eI s_10)] : Hp)) p.1 p.2.1 p.2.2.1 p.2.2.2) (fun p => forR (fun k x s => screen_region_L1 k x s) p.2.1 p.1 p.2.2.1 = some o_16 ∧ (r_3).drop p.1 = p.2.1) (fun p => p.2.1.length) (0, r_3, ([] : List Int), n_11) ⟨hj_17, rfl⟩ rfl (pre_r rfl) ?_)
  rintro ⟨k_5, l_6, s_10, n_13⟩ ⟨hL_15, hD_8⟩
  dsimp only at hL_15 hD_8
  cases l_6 with
  | nil =>
   obtain rfl := some_inj hL_15
   refine wH_seq (wH_region (h_op (vB (decide ((k_5 : Int) < (r_3.length : Int)))) wz rfl (h_nil ?_)))
   refine wH_seq (wH_iff rfl (drop_nil hD_8) (wH_exit ?_))
   exact cut_mk (s_10, n_13) rfl rfl (pre_r rfl)
  | cons x_7 l_6 =>
   obtain ⟨c_, hc_14, hL_15⟩ := bind_some hL_15
   refine wH_seq (wH_region (h_op (vB (decide ((k_5 : Int) < (r_3.length : Int)))) wz rfl (h_nil ?_)))
   refine wH_seq (wH_ift rfl (drop_cons hD_8) (wH_skip ?_))
   unfold screen_region_L1 at hc_14
   refine wH_seq (wH_block (wH_seq (wH_region (h_ia es27 rfl rfl (drop_idx hD_8) rfl wz (h_ldc sz29 ag29 rfl (.d (.agg (Rect.enc x_7))) rfl wz (h_alloc 0 (.inl rfl) z29 rfl wz (fun n_18 => h_str 0 il ft 1 sz29 rfl rfl [(vI x_7.X), (vI x_7.Y), (vI x_7.W), (vI x_7.H)] rfl wz (h_nil (wH_region (h_op (gV n_13 1 s_10) wz rfl (h_far pl29_1 rfl 1 rfl wz (h_ldr 0 1 il ft sz3 ag3 rfl rfl (vI x_7.Y) rfl wz (h_far pl29_1 rfl 1 rfl wz (h_ldr 0 1 il ft sz3 ag3 rfl rfl (vI x_7.Y) rfl wz (h_far pl29_3 rfl 3 rfl wz (h_ldr 0 1 il ft sz3 ag3 rfl rfl (vI x_7.H) rfl wz (h_op (vI (w64 (x_7.Y + x_7.H))) wz rfl (h_lit (([x_7.Y, (w64 (x_7.Y + x_7.H))] : List Int).map eI) es22 ez22 rfl rfl rfl rfl rfl wz ?_))))))))))))))))))
   obtain ⟨a_19, hz_20, hc_14⟩ := bind_some hc_14
   refine h_appg 0 il ft (i := 0) el22 el22 sz3 z3 rfl (by decide) by3 (by decide) (fun _ => rfl) rfl rfl rfl hz_20 wz (fun n_21 => h_op (gV n_21 1 a_19) wz rfl (h_nil (wH_region (h_opw (w64_next hD_8 hn_9) wz rfl (h_op (vI ((k_5 + 1 : Nat) : Int)) wz rfl (h_nil ?_))))))
   obtain rfl := some_inj hc_14
   exact loop_mk (k_5 + 1, l_6, a_19, n_21) ⟨hL_15, drop_next hD_8⟩ (Nat.lt_succ_self _) rfl (pre_r rfl)
 ·rintro ⟨s_10, n_13⟩ ho_ sl_ H_ hp_ hq_
  subst ho_
  refine wH_at _ hp_ hq_ (wH_seq (wH_region (h_op (gV n_13 1 s_10) wz rfl ?_)))
  obtain ⟨r_22, hr_23, hF⟩ := bind_some hF
  obtain ⟨_, hs_24, hF⟩ := bind_some hF
  replace hs_24 := sameL_eq hs_24
  refine h_callv 0 [] 0 0 il ft (slices_Sort_int_int_v1_ok hr_23) rfl hb81 rfl rfl rfl (by kernel_rfl) rfl (.inl rfl) rfl (by kernel_rfl) (by kernel_rfl) (by kernel_rfl) (by kernel_rfl) rfl (by decide) (by kernel_rfl) gB_ok (gB_ho hs_24) wz ([(n_13, gB 1 eI r_22)] : Hp) (by kernel_rfl) (h_re (v' := (gV n_13 1 r_22)) 36 rfl (gV_len hs_24.symm) (h_re (v' := (gV n_13 1 r_22)) 5 rfl (gV_len hs_24.symm) (h_nil (wH_seq (wH_region (h_op (gV n_13 1 r_22) wz rfl ?_))))))
  obtain ⟨r_25, hr_26, hF⟩ := bind_some hF
  refine h_callv 0 [] 0 0 il ft (slices_Compact_int_int_v1_ok hr_26) rfl hb82 rfl rfl rfl (by kernel_rfl) rfl (.inl rfl) rfl (by kernel_rfl) (by kernel_rfl) (by kernel_rfl) (by kernel_rfl) rfl (by decide) (by kernel_rfl) none_ok (fun _ => rfl) wz ([(n_13, none)] : Hp) (by kernel_rfl) (h_op (vL eI r_25) wz rfl (h_nil (wH_seq (wH_region (h_op .nil wz rfl (h_nil (wH_seq (wH_region (h_op .nil wz rfl (h_nil (wH_seq (wH_region (h_op (vI 0) wz rfl (h_nil (wH_seq (wH_seq (wH_region (h_op (vL eI r_25) wz rfl (h_len un22 rfl wz (h_op (vI 0) wz rfl (h_nil (wH_nilL Run.enc 9 rfl (wH_new (fun n_33 => ?_))))))))))))))))))))))))
  obtain ⟨o_38, hj_39, hF⟩ := bind_some hF
  obtain ⟨hn_31, hj_39⟩ := forL_some hj_39
  refine wH_join (β := ((List Rect) × (List Run) × Int) × Nm) (fun p => (fun (s_32 : (List Rect) × (List Run) × Int) (n_35 : Nm) => ([(8, (gV n_35 4 s_32.1))] : List (Nat × V))) p.1 p.2) (fun p => (fun (s_32 : (List Rect) × (List Run) × Int) (n_35 : Nm) => ([(n_13, none), (n_35, gB 4 Rect.enc s_32.1)] : Hp)) p.1 p.2) (fun p => o_38 = .go p.1) ?_ ?_
  ·refine wH_block (wH_loop (β := Nat × (List Int) × ((List Rect) × (List Run) × Int) × Nm) (fun p => (fun (k_27 : Nat) (l_28 : List Int) (s_32 : (List Rect) × (List Run) × Int) (n_35 : Nm) => ([(0, (vL Rect.enc l_1)), (1, (vL Rect.enc m_2)), (5, (vL eI r_25)), (8, (gV n_35 4 s_32.1)), (9, (vL Run.enc s_32.2.1)), (10, (vI s_32.2.2)), (40, (vL eI r_25)), (41, (vI (r_25.length : Int))), (42, (vI (k_27 : Int)))] : List (Nat × V))) p.1 p.2.1 p.2.2.1 p.2.2.2) (fun p => (fun (k_27 : Nat) (l_28 : List Int) (s_32 : (List Rect) × (List Run) × Int) (n_35 : Nm) => ([(n_13, none), (n_35, gB 4 Rect.enc s_32.1)] : Hp)) p.1 p.2.1 p.2.2.1 p.2.2.2) (fun p => forR (fun k x s => screen_region_L3 r_25 l_1 m_2 k x s) p.2.1 p.1 p.2.2.1 = some o_38 ∧ (r_25).drop p.1 = p.2.1) (fun p => p.2.1.length) (0, r_25, (([] : List Rect), ([] : List Run), 0), n_33) ⟨hj_39, rfl⟩ rfl (pre_r rfl) ?_)
   rintro ⟨k_27, l_28, s_32, n_35⟩ ⟨hL_37, hD_30⟩
   dsimp only at hL_37 hD_30
   cases l_28 with
   | nil =>
    obtain rfl := some_inj hL_37
    refine wH_seq (wH_region (h_op (vB (decide ((k_27 : Int) < (r_25.length : Int)))) wz rfl (h_nil ?_)))
    refine wH_seq (wH_iff rfl (drop_nil hD_30) (wH_exit ?_))
    exact cut_mk (s_32, n_35) rfl rfl (pre_r rfl)
   | cons x_29 l_28 =>
    obtain ⟨c_, hc_36, hL_37⟩ := bind_some hL_37
    refine wH_seq (wH_region (h_op (vB (decide ((k_27 : Int) < (r_25.length : Int)))) wz rfl (h_nil ?_)))
    refine wH_seq (wH_ift rfl (drop_cons hD_30) (wH_skip ?_))
    unfold screen_region_L3 at hc_36
    refine wH_seq (wH_block (wH_seq (wH_region (h_op (vI (k_27 : Int)) wz rfl (h_ia es22 rfl rfl (drop_idx hD_30) rfl wz (h_ldc sz3 ag3 rfl (vI x_29) rfl wz (h_op (vI (k_27 : Int)) wz rfl (h_op (vI x_29) wz rfl (h_nil (wH_seq (wH_region (h_op .nil wz rfl (h_nil (wH_seq (wH_seq (wH_region (h_op (vI (k_27 : Int)) wz rfl (h_op (vI (w64 ((k_27 : Int) + 1))) wz rfl (h_op (vL eI r_25) wz rfl (h_len un22 rfl wz (h_op (vB (decide ((w64 ((k_27 : Int) + 1)) < (r_25.length : Int)))) wz rfl (h_nil (wH_nilL Run.enc 13 rfl ?_)))))))))))))))))))))))
    obtain ⟨v_42, h_43, hc_36⟩ := bind_some hc_36
    refine wH_join (β := Unit) (fun _ => ([(0, (vL Rect.enc l_1)), (1, (vL Rect.enc m_2)), (5, (vL eI r_25)), (8, (gV n_35 4 s_32.1)), (9, (vL Run.enc s_32.2.1)), (10, (vI s_32.2.2)), (12, (vI x_29)), (13, (vL Run.enc v_42)), (40, (vL eI r_25)), (41, (vI (r_25.length : Int))), (42, (vI (k_27 : Int)))] : List (Nat × V))) (fun _ => ([(n_13, none), (n_35, gB 4 Rect.enc s_32.1)] : Hp)) (fun _ => True) ?_ ?_
    ·rcases cond_some h_43 with ⟨hc_44, h_43⟩ | ⟨hc_44, h_43⟩
     ·refine wH_ift rfl hc_44 (wH_region (h_op (vL Rect.enc l_1) wz rfl (h_op (vI x_29) wz rfl ?_)))
      obtain ⟨r_45, hr_46, h_43⟩ := bind_some h_43
      refine h_call0 (screen_runs_ok hr_46) rfl hb84 rfl rfl rfl rfl wz (h_op (vL Rect.enc m_2) wz rfl (h_op (vI x_29) wz rfl ?_))
      obtain ⟨r_47, hr_48, h_43⟩ := bind_some h_43
      refine h_call0 (screen_runs_ok hr_48) rfl hb84 rfl rfl rfl rfl wz ?_
      obtain ⟨r_49, hr_50, h_43⟩ := bind_some h_43
      refine h_call0 (screen_less_ok hr_50) rfl hb83 rfl rfl rfl rfl wz (h_op (vL Run.enc r_49) wz rfl (h_nil ?_))
      obtain rfl := some_inj h_43
      exact cut_mk () trivial rfl (pre_r rfl)
     ·refine wH_iff rfl hc_44 (wH_skip ?_)
      obtain rfl := some_inj h_43
      exact cut_mk () trivial rfl (pre_r rfl)
    ·rintro ⟨⟩ _ sl_ H_ hp_ hq_
     refine wH_at _ hp_ hq_ (wH_seq (wH_seq (wH_region (h_op (vL Run.enc s_32.2.1) wz rfl (h_op (vL Run.enc v_42) wz rfl ?_)))))
     obtain ⟨r_51, hr_52, hc_36⟩ := bind_some hc_36
     refine h_call0 (slices_Equal_screen_run_screen_run_ok hr_52) rfl hb85 rfl rfl rfl rfl wz (h_nil ?_)
     rcases cond_some hc_36 with ⟨hc_53, hc_36⟩ | ⟨hc_53, hc_36⟩
     ·refine wH_ift rfl hc_53 (wH_exit (wH_region (h_opw (w64_next hD_30 hn_31) wz rfl (h_op (vI ((k_27 + 1 : Nat) : Int)) wz rfl (h_nil ?_)))))
      obtain rfl := some_inj hc_36
      exact loop_mk (k_27 + 1, l_28, (s_32.1, s_32.2.1, s_32.2.2), n_35) ⟨hL_37, drop_next hD_30⟩ (Nat.lt_succ_self _) rfl (pre_r rfl)
     ·refine wH_iff rfl hc_53 (wH_skip (wH_seq (wH_seq (wH_region (h_op (vL Run.enc s_32.2.1) wz rfl (h_len un153 rfl wz (h_op (vI 0) wz rfl (h_nil ?_))))))))
      obtain ⟨o_64, hj_65, hc_36⟩ := bind_some hc_36
      obtain ⟨hn_58, hj_65⟩ := forL_some hj_65
      refine wH_join (β := ((List Rect)) × Nm) (fun p => (fun (s_59 : (List Rect)) (n_61 : Nm) => ([(0, (vL Rect.enc l_1)), (1, (vL Rect.enc m_2)), (5, (vL eI r_25)), (8, (gV n_61 4 s_59)), (12, (vI x_29)), (13, (vL Run.enc v_42)), (40, (vL eI r_25)), (41, (vI (r_25.length : Int))), (42, (vI (k_27 : Int)))] : List (Nat × V))) p.1 p.2) (fun p => (fun (s_59 : (List Rect)) (n_61 : Nm) => ([(n_13, none), (n_61, gB 4 Rect.enc s_59)] : Hp)) p.1 p.2) (fun p => o_64 = .go p.1) ?_ ?_
      ·refine wH_block (wH_loop (β := Nat × (List Run) × ((List Rect)) × Nm) (fun p => (fun (k_54 : Nat) (l_55 : List Run) (s_59 : (List Rect)) (n_61 : Nm) => ([(0, (vL Rect.enc l_1)), (1, (vL Rect.enc m_2)), (5, (vL eI r_25)), (8, (gV n_61 4 s_59)), (10, (vI s_32.2.2)), (12, (vI x_29)), (13, (vL Run.enc v_42)), (40, (vL eI r_25)), (41, (vI (r_25.length : Int))), (42, (vI (k_27 : Int))), (62, (vL Run.enc s_32.2.1)), (63, (vI (s_32.2.1.length : Int))), (64, (vI (k_54 : Int)))] : List (Nat × V))) p.1 p.2.1 p.2.2.1 p.2.2.2) (fun p => (fun (k_54 : Nat) (l_55 : List Run) (s_59 : (List Rect)) (n_61 : Nm) => ([(n_13, none), (n_61, gB 4 Rect.enc s_59)] : Hp)) p.1 p.2.1 p.2.2.1 p.2.2.2) (fun p => forR (fun k x s => screen_region_L2 s_32 x_29 k x s) p.2.1 p.1 p.2.2.1 = some o_64 ∧ (s_32.2.1).drop p.1 = p.2.1) (fun p => p.2.1.length) (0, s_32.2.1, s_32.1, n_35) ⟨hj_65, rfl⟩ rfl (pre_r rfl) ?_)
       rintro ⟨k_54, l_55, s_59, n_61⟩ ⟨hL_63, hD_57⟩
       dsimp only at hL_63 hD_57
       cases l_55 with
       | nil =>
        obtain rfl := some_inj hL_63
        refine wH_seq (wH_region (h_op (vB (decide ((k_54 : Int) < (s_32.2.1.length : Int)))) wz rfl (h_nil ?_)))
        refine wH_seq (wH_iff rfl (drop_nil hD_57) (wH_exit ?_))
        exact cut_mk (s_59, n_61) rfl rfl (pre_r rfl)
       | cons x_56 l_55 =>
        obtain ⟨c_, hc_62, hL_63⟩ := bind_some hL_63
        refine wH_seq (wH_region (h_op (vB (decide ((k_54 : Int) < (s_32.2.1.length : Int)))) wz rfl (h_nil ?_)))
        refine wH_seq (wH_ift rfl (drop_cons hD_57) (wH_skip ?_))
        unfold screen_region_L2 at hc_62
        refine wH_seq (wH_block (wH_seq (wH_region (h_ia es153 rfl rfl (drop_idx hD_57) rfl wz (h_ldc sz158 ag158 rfl (.d (.agg (Run.enc x_56))) rfl wz (h_alloc 0 (.inl rfl) z158 rfl wz (fun n_66 => h_str 0 il ft 2 sz158 rfl rfl [(vI x_56.f_from), (vI x_56.f_to)] rfl wz (h_nil (wH_region (h_op (gV n_61 4 s_59) wz rfl (h_far pl158_0 rfl 0 rfl wz (h_ldr 0 2 il ft sz3 ag3 rfl rfl (vI x_56.f_from) rfl wz (h_op (vI s_32.2.2) wz rfl (h_far pl158_1 rfl 1 rfl wz (h_ldr 0 2 il ft sz3 ag3 rfl rfl (vI x_56.f_to) rfl wz (h_far pl158_0 rfl 0 rfl wz (h_ldr 0 2 il ft sz3 ag3 rfl rfl (vI x_56.f_from) rfl wz (h_op (vI (w64 (x_56.f_to - x_56.f_from))) wz rfl (h_op (vI x_29) wz rfl (h_op (vI s_32.2.2) wz rfl (h_op (vI (w64 (x_29 - s_32.2.2))) wz rfl (h_op (.d (.agg (Rect.enc (⟨x_56.f_from, s_32.2.2, (w64 (x_56.f_to - x_56.f_from)), (w64 (x_29 - s_32.2.2))⟩ : Rect)))) wz (by kernel_rfl) (h_lit (([(⟨x_56.f_from, s_32.2.2, (w64 (x_56.f_to - x_56.f_from)), (w64 (x_29 - s_32.2.2))⟩ : Rect)] : List Rect).map Rect.enc) es27 ez27 rfl rfl rfl rfl rfl wz ?_)))))))))))))))))))))))
        obtain ⟨a_67, hz_68, hc_62⟩ := bind_some hc_62
        refine h_appg 0 il ft (i := 1) el27 el27 sz29 z29 rfl (by decide) by29 (by decide) (fun _ => rfl) rfl rfl rfl hz_68 wz (fun n_69 => h_op (gV n_69 4 a_67) wz rfl (h_nil (wH_region (h_opw (w64_next hD_57 hn_58) wz rfl (h_op (vI ((k_54 + 1 : Nat) : Int)) wz rfl (h_nil ?_))))))
        obtain rfl := some_inj hc_62
        exact loop_mk (k_54 + 1, l_55, a_67, n_69) ⟨hL_63, drop_next hD_57⟩ (Nat.lt_succ_self _) rfl (pre_r rfl)
      ·rintro ⟨s_59, n_61⟩ ho_ sl_ H_ hp_ hq_
       subst ho_
       refine wH_at _ hp_ hq_ (wH_region (h_op (vL Run.enc v_42) wz rfl (h_op (vI x_29) wz rfl (h_op (vL Run.enc v_42) wz rfl (h_op (vI x_29) wz rfl (h_nil (wH_region (h_opw (w64_next hD_30 hn_31) wz rfl (h_op (vI ((k_27 + 1 : Nat) : Int)) wz rfl (h_nil ?_))))))))))
       obtain rfl := some_inj hc_36
       exact loop_mk (k_27 + 1, l_28, (s_59, v_42, x_29), n_61) ⟨hL_37, drop_next hD_30⟩ (Nat.lt_succ_self _) rfl (pre_r rfl)
  ·rintro ⟨s_32, n_35⟩ ho_ sl_ H_ hp_ hq_
   subst ho_
   refine wH_at _ hp_ hq_ (wH_seq (wH_region (h_op (gV n_35 4 s_32.1) wz rfl (h_op (gV n_35 4 s_32.1) wz rfl (h_nil (wH_frozg 1 rfl (wH_cog 4 1 rfl rfl (wH_cog 8 1 rfl rfl (wH_cog 87 1 rfl rfl ?_)))))))))
   obtain rfl := some_inj hF
   exact wH_ret (fin0 (.inr rfl) [(vL Rect.enc s_32.1)] ⟨rfl, trivial⟩ rfl rfl rfl)
theorem screen_bounded_ok {l_1 : (List Rect)} {r : (List Rect) × Int} (hF : screen_bounded l_1 = some r) :
  FnM Tryz.prog 48 [(vL Rect.enc l_1)] [] (.tup [(vL Rect.enc r.1), (vI r.2)]) [] := by
 refine FnM.of_wH ⟨Tryz.prog, 8, [], []⟩ rfl Tryz.func48 rfl rfl (Nat.le_of_ble_eq_true rfl) (by kernel_rfl) ?_
 unfold screen_bounded at hF
 refine wH_seq (wH_region (h_op .nil wz rfl (h_op (vI 0) wz rfl (h_nil (wH_seq (wH_seq (wH_region (h_op (vL Rect.enc l_1) wz rfl (h_len un27 rfl wz (h_op (vB (decide ((l_1.length : Int) > 2000))) wz rfl (h_nil ?_)))))))))))
 rcases cond_some hF with ⟨hc_2, hF⟩ | ⟨hc_2, hF⟩
 ·refine wH_ift rfl hc_2 (wH_seq (wH_region (h_op .nil wz rfl (h_op (vI 2) wz rfl (h_nil ?_)))))
  obtain rfl := some_inj hF
  exact wH_ret (fin0 (.inr rfl) [.nil, (vI 2)] ⟨rfl, ⟨rfl, trivial⟩⟩ rfl rfl rfl)
 ·refine wH_iff rfl hc_2 (wH_skip (wH_seq (wH_region (h_op (vL Rect.enc l_1) wz rfl (h_op (vL Rect.enc l_1) wz rfl (h_op (vI 0) wz rfl (h_nil ?_)))))))
  obtain rfl := some_inj hF
  exact wH_ret (fin0 (.inr rfl) [(vL Rect.enc l_1), (vI 0)] ⟨rfl, ⟨rfl, trivial⟩⟩ rfl rfl rfl)
theorem screen_area_ok {l_1 : (List Rect)} {r : Int} (hF : screen_area l_1 = some r) :
  FnM Tryz.prog 52 [(vL Rect.enc l_1)] [] (vI r) [] := by
 refine FnM.of_wH ⟨Tryz.prog, 21, [], []⟩ rfl Tryz.func52 rfl rfl (Nat.le_of_ble_eq_true rfl) (by kernel_rfl) ?_
 unfold screen_area at hF
 refine wH_seq (wH_region (h_op (vI 0) wz rfl (h_nil (wH_seq (wH_region (h_op (vI 0) wz rfl (h_nil (wH_seq (wH_seq (wH_region (h_op (vL Rect.enc l_1) wz rfl (h_len un27 rfl wz (h_op (vI 0) wz rfl (h_nil ?_))))))))))))))
 obtain ⟨o_10, hj_11, hF⟩ := bind_some hF
 obtain ⟨hn_6, hj_11⟩ := forL_some hj_11
 refine wH_join (β := (Int)) (fun (s_7 : Int) => ([(3, (vI s_7))] : List (Nat × V))) (fun (s_7 : Int) => ([] : Hp)) (fun p => o_10 = .go p) ?_ ?_
 ·refine wH_block (wH_loop (β := Nat × (List Rect) × (Int)) (fun p => (fun (k_2 : Nat) (l_3 : List Rect) (s_7 : Int) => ([(3, (vI s_7)), (6, (vL Rect.enc l_1)), (7, (vI (l_1.length : Int))), (8, (vI (k_2 : Int)))] : List (Nat × V))) p.1 p.2.1 p.2.2) (fun p => (fun (k_2 : Nat) (l_3 : List Rect) (s_7 : Int) => ([] : Hp)) p.1 p.2.1 p.2.2) (fun p => forR (fun k x s => screen_area_L1 k x s) p.2.1 p.1 p.2.2 = some o_10 ∧ (l_1).drop p.1 = p.2.1) (fun p => p.2.1.length) (0, l_1, 0) ⟨hj_11, rfl⟩ rfl (pre_r rfl) ?_)
  rintro ⟨k_2, l_3, s_7⟩ ⟨hL_9, hD_5⟩
  dsimp only at hL_9 hD_5
  cases l_3 with
  | nil =>
   obtain rfl := some_inj hL_9
   refine wH_seq (wH_region (h_op (vB (decide ((k_2 : Int) < (l_1.length : Int)))) wz rfl (h_nil ?_)))
   refine wH_seq (wH_iff rfl (drop_nil hD_5) (wH_exit ?_))
   exact cut_mk (s_7) rfl rfl (pre_r rfl)
  | cons x_4 l_3 =>
   obtain ⟨c_, hc_8, hL_9⟩ := bind_some hL_9
   refine wH_seq (wH_region (h_op (vB (decide ((k_2 : Int) < (l_1.length : Int)))) wz rfl (h_nil ?_)))
   refine wH_seq (wH_ift rfl (drop_cons hD_5) (wH_skip ?_))
   unfold screen_area_L1 at hc_8
   refine wH_seq (wH_block (wH_seq (wH_region (h_ia es27 rfl rfl (drop_idx hD_5) rfl wz (h_ldc sz29 ag29 rfl (.d (.agg (Rect.enc x_4))) rfl wz (h_alloc 0 (.inl rfl) z29 rfl wz (fun n_12 => h_str 0 il ft 0 sz29 rfl rfl [(vI x_4.X), (vI x_4.Y), (vI x_4.W), (vI x_4.H)] rfl wz (h_nil (wH_region (h_op (vI s_7) wz rfl (h_far pl29_2 rfl 2 rfl wz (h_ldr 0 0 il ft sz3 ag3 rfl rfl (vI x_4.W) rfl wz (h_far pl29_3 rfl 3 rfl wz (h_ldr 0 0 il ft sz3 ag3 rfl rfl (vI x_4.H) rfl wz (h_op (vI (w64 (x_4.W * x_4.H))) wz rfl (h_op (vI (w64 (s_7 + (w64 (x_4.W * x_4.H))))) wz rfl (h_op (vI (w64 (s_7 + (w64 (x_4.W * x_4.H))))) wz rfl (h_nil (wH_region (h_opw (w64_next hD_5 hn_6) wz rfl (h_op (vI ((k_2 + 1 : Nat) : Int)) wz rfl (h_nil ?_))))))))))))))))))))))
   obtain rfl := some_inj hc_8
   exact loop_mk (k_2 + 1, l_3, (w64 (s_7 + (w64 (x_4.W * x_4.H))))) ⟨hL_9, drop_next hD_5⟩ (Nat.lt_succ_self _) rfl (pre_r rfl)
 ·rintro s_7 ho_ sl_ H_ hp_ hq_
  subst ho_
  refine wH_at _ hp_ hq_ (wH_seq (wH_region (h_op (vI s_7) wz rfl (h_op (vI s_7) wz rfl (h_nil ?_)))))
  obtain rfl := some_inj hF
  exact wH_ret (fin0 (.inr rfl) [(vI s_7)] ⟨rfl, trivial⟩ rfl rfl rfl)
theorem screen_Area_ok {l_1 : (List Rect)} {r : Int × Int} (hF : screen_Area l_1 = some r) :
  FnM Tryz.prog 19 [(vL Rect.enc l_1)] [] (.tup [(vI r.1), (vI r.2)]) [] := by
 refine FnM.of_wH ⟨Tryz.prog, 13, [], []⟩ rfl Tryz.func19 rfl rfl (Nat.le_of_ble_eq_true rfl) (by kernel_rfl) ?_
 unfold screen_Area at hF
 refine wH_seq (wH_region (h_op (vI 0) wz rfl (h_op (vI 0) wz rfl (h_nil (wH_seq (wH_seq (wH_region (h_op (vL Rect.enc l_1) wz rfl ?_))))))))
 obtain ⟨r_2, hr_3, hF⟩ := bind_some hF
 refine h_call0 (screen_rectsFault_ok hr_3) rfl hb47 rfl rfl rfl rfl wz (h_op (vI r_2) wz rfl (h_nil (wH_seq (wH_region (h_op (vI r_2) wz rfl (h_op (vB (r_2 != 0)) wz rfl (h_nil ?_)))))))
 rcases cond_some hF with ⟨hc_4, hF⟩ | ⟨hc_4, hF⟩
 ·refine wH_ift rfl hc_4 (wH_seq (wH_region (h_op (vI r_2) wz rfl (h_op (vI 0) wz rfl (h_op (vI r_2) wz rfl (h_nil ?_))))))
  obtain rfl := some_inj hF
  exact wH_ret (fin0 (.inr rfl) [(vI 0), (vI r_2)] ⟨rfl, ⟨rfl, trivial⟩⟩ rfl rfl rfl)
 ·refine wH_iff rfl hc_4 (wH_skip (wH_seq (wH_region (h_op (vL Rect.enc l_1) wz rfl ?_))))
  obtain ⟨r_5, hr_6, hF⟩ := bind_some hF
  refine h_call0 (screen_region_ok hr_6) rfl hb49 rfl rfl rfl rfl wz ?_
  obtain ⟨r_7, hr_8, hF⟩ := bind_some hF
  refine h_call0 (screen_area_ok hr_8) rfl hb52 rfl rfl rfl rfl wz (h_op (vI r_7) wz rfl (h_op (vI 0) wz rfl (h_nil ?_)))
  obtain rfl := some_inj hF
  exact wH_ret (fin0 (.inr rfl) [(vI r_7), (vI 0)] ⟨rfl, ⟨rfl, trivial⟩⟩ rfl rfl rfl)
theorem kit_IsKey_ok {s_1 : ByteArray} {r : Bool} (hF : kit_IsKey s_1 = some r) :
  FnM Tryz.prog 98 [(vS s_1)] [] (vB r) [] := by
 refine FnM.of_wH ⟨Tryz.prog, 48, [], []⟩ rfl Tryz.func98 rfl rfl (Nat.le_of_ble_eq_true rfl) (by kernel_rfl) ?_
 unfold kit_IsKey at hF
 refine wH_seq (wH_region (h_op (vB false) wz rfl (h_nil (wH_seq (wH_seq (wH_region (h_op (vI 0) wz rfl (h_nil ?_))))))))
 obtain ⟨o_10, hj_11, hF⟩ := bind_some hF
 obtain ⟨nq_33, hj_11⟩ := loopO_iter hj_11
 refine wH_join (β := (Int)) (fun (s_7 : Int) => ([(0, (vS s_1))] : List (Nat × V))) (fun (s_7 : Int) => ([] : Hp)) (fun p => o_10 = .go p) ?_ ?_
 ·refine wH_block (wH_loop (β := Nat × (Int)) (fun p => (fun (k_2 : Nat) (s_7 : Int) => ([(0, (vS s_1)), (3, (vI s_7))] : List (Nat × V))) p.1 p.2) (fun p => (fun (k_2 : Nat) (s_7 : Int) => ([] : Hp)) p.1 p.2) (fun p => iterN (fun s => kit_IsKey_L1 s_1 s) p.1 p.2 = some o_10) (fun p => p.1) (nq_33, 0) hj_11 rfl (pre_r rfl) ?_)
  rintro ⟨k_2, s_7⟩ hL_9
  dsimp only at hL_9
  cases k_2 with
  | zero => cases hL_9
  | succ k_2 =>
   obtain ⟨c_, hc_8, hL_9⟩ := bind_some hL_9
   unfold kit_IsKey_L1 at hc_8
   refine wH_seq (wH_seq (wH_region (h_op (vI s_7) wz rfl (h_op (vS s_1) wz rfl (h_lens un9 rfl wz (h_op (vB (decide (s_7 < (s_1.size : Int)))) wz rfl (h_nil ?_)))))))
   rcases cond_some hc_8 with ⟨hc_12, hc_8⟩ | ⟨hc_12, hc_8⟩
   ·refine wH_ift rfl hc_12 (wH_skip (wH_seq (wH_block (wH_seq (wH_region (h_op (vS s_1) wz rfl (h_op (vI s_7) wz rfl ?_)))))))
    obtain ⟨b_13, hy_14, hc_8⟩ := bind_some hc_8
    refine h_idxs un9 rfl rfl hy_14 wz (h_op (.d (.int .u8 (b_13.toNat : Int))) wz rfl (h_nil (wH_seq ?_)))
    obtain ⟨v_15, h_16, hc_8⟩ := bind_some hc_8
    refine wH_join (β := Unit) (fun _ => ([(0, (vS s_1)), (3, (vI s_7)), (40, (vB v_15))] : List (Nat × V))) (fun _ => ([] : Hp)) (fun _ => True) ?_ ?_
    ·refine wH_region (h_op (.d (.int .u8 (b_13.toNat : Int))) wz rfl (h_op (vB (decide ((b_13.toNat : Int) ≥ 97))) wz rfl ?_))
     rcases cond_some h_16 with ⟨hc_17, h_16⟩ | ⟨hc_17, h_16⟩
     ·refine h_movb rfl hc_17 wz (h_op (.d (.int .u8 (b_13.toNat : Int))) (wg rfl rfl rfl) rfl (h_op (vB (decide ((b_13.toNat : Int) ≤ 122))) (wg rfl rfl rfl) rfl (h_op (vB (decide ((b_13.toNat : Int) ≤ 122))) wz rfl ?_)))
      rcases cond_some h_16 with ⟨hc_18, h_16⟩ | ⟨hc_18, h_16⟩
      ·refine h_movb rfl hc_18 wz (h_skip (wg rfl rfl rfl) (h_skip (wg rfl rfl rfl) (h_skip (wg rfl rfl rfl) (h_skip (wn rfl rfl) (h_skip (wn rfl rfl) (h_skip (wn rfl rfl) (h_skip (wn rfl rfl) (h_skip (wn rfl rfl) (h_skip (wn rfl rfl) (h_skip (wn rfl rfl) (h_skip (wn rfl rfl) (h_skip (wn rfl rfl) (h_skip (wn rfl rfl) (h_skip (wn rfl rfl) (h_skip (wn rfl rfl) (h_skip (wn rfl rfl) (h_skip (wn rfl rfl) (h_skip (wg rfl rfl rfl) (h_op (vB true) wz rfl (h_op (vB false) wz rfl (h_nil ?_)))))))))))))))))))))
       obtain rfl := some_inj h_16
       exact cut_mk () trivial rfl (pre_r rfl)
      ·refine h_movb rfl hc_18 wz (h_op (vI s_7) (wg rfl rfl rfl) rfl (h_op (vB (decide (s_7 > 0))) (wg rfl rfl rfl) rfl ?_))
       rcases cond_some h_16 with ⟨hc_19, h_16⟩ | ⟨hc_19, h_16⟩
       ·refine h_movb rfl hc_19 (wg rfl rfl rfl) (h_op (.d (.int .u8 (b_13.toNat : Int))) (wg rfl rfl rfl) rfl (h_op (vB (decide ((b_13.toNat : Int) ≥ 48))) (wg rfl rfl rfl) rfl ?_))
        rcases cond_some h_16 with ⟨hc_20, h_16⟩ | ⟨hc_20, h_16⟩
        ·refine h_movb rfl hc_20 (wg rfl rfl rfl) (h_op (.d (.int .u8 (b_13.toNat : Int))) (wg rfl rfl rfl) rfl (h_op (vB (decide ((b_13.toNat : Int) ≤ 57))) (wg rfl rfl rfl) rfl (h_op (vB (decide ((b_13.toNat : Int) ≤ 57))) (wg rfl rfl rfl) rfl ?_)))
         rcases cond_some h_16 with ⟨hc_21, h_16⟩ | ⟨hc_21, h_16⟩
         ·refine h_movb rfl hc_21 (wg rfl rfl rfl) (h_skip (wg rfl rfl rfl) (h_skip (wg rfl rfl rfl) (h_op (vB true) (wg rfl rfl rfl) rfl (h_op (vB true) (wg rfl rfl rfl) rfl (h_skip (wg rfl rfl rfl) (h_skip (wg rfl rfl rfl) (h_op (vB true) (wg rfl rfl rfl) rfl (h_op (vB true) (wg rfl rfl rfl) rfl (h_op (vB true) wz rfl (h_op (vB false) wz rfl (h_nil ?_)))))))))))
          obtain rfl := some_inj h_16
          exact cut_mk () trivial rfl (pre_r rfl)
         ·refine h_movb rfl hc_21 (wg rfl rfl rfl) (h_op (.d (.int .u8 (b_13.toNat : Int))) (wg rfl rfl rfl) rfl (h_op (vB ((b_13.toNat : Int) == 45)) (wg rfl rfl rfl) rfl (h_op (vB ((b_13.toNat : Int) == 45)) (wg rfl rfl rfl) rfl ?_)))
          rcases cond_some h_16 with ⟨hc_22, h_16⟩ | ⟨hc_22, h_16⟩
          ·refine h_movb rfl hc_22 (wg rfl rfl rfl) (h_skip (wg rfl rfl rfl) (h_skip (wg rfl rfl rfl) (h_op (vB true) (wg rfl rfl rfl) rfl (h_op (vB true) (wg rfl rfl rfl) rfl (h_op (vB true) wz rfl (h_op (vB false) wz rfl (h_nil ?_)))))))
           obtain rfl := some_inj h_16
           exact cut_mk () trivial rfl (pre_r rfl)
          ·refine h_movb rfl hc_22 (wg rfl rfl rfl) (h_op (.d (.int .u8 (b_13.toNat : Int))) (wg rfl rfl rfl) rfl (h_op (vB ((b_13.toNat : Int) == 95)) (wg rfl rfl rfl) rfl (h_op (vB ((b_13.toNat : Int) == 95)) (wg rfl rfl rfl) rfl (h_op (vB ((b_13.toNat : Int) == 95)) (wg rfl rfl rfl) rfl (h_op (vB ((b_13.toNat : Int) == 95)) wz rfl (h_op (vB (!((b_13.toNat : Int) == 95))) wz rfl (h_nil ?_)))))))
           obtain rfl := some_inj h_16
           exact cut_mk () trivial rfl (pre_r rfl)
        ·refine h_movb rfl hc_20 (wg rfl rfl rfl) (h_skip (wg rfl rfl rfl) (h_skip (wg rfl rfl rfl) (h_op (vB false) (wg rfl rfl rfl) rfl (h_op (vB false) (wg rfl rfl rfl) rfl (h_op (.d (.int .u8 (b_13.toNat : Int))) (wg rfl rfl rfl) rfl (h_op (vB ((b_13.toNat : Int) == 45)) (wg rfl rfl rfl) rfl (h_op (vB ((b_13.toNat : Int) == 45)) (wg rfl rfl rfl) rfl ?_)))))))
         rcases cond_some h_16 with ⟨hc_23, h_16⟩ | ⟨hc_23, h_16⟩
         ·refine h_movb rfl hc_23 (wg rfl rfl rfl) (h_skip (wg rfl rfl rfl) (h_skip (wg rfl rfl rfl) (h_op (vB true) (wg rfl rfl rfl) rfl (h_op (vB true) (wg rfl rfl rfl) rfl (h_op (vB true) wz rfl (h_op (vB false) wz rfl (h_nil ?_)))))))
          obtain rfl := some_inj h_16
          exact cut_mk () trivial rfl (pre_r rfl)
         ·refine h_movb rfl hc_23 (wg rfl rfl rfl) (h_op (.d (.int .u8 (b_13.toNat : Int))) (wg rfl rfl rfl) rfl (h_op (vB ((b_13.toNat : Int) == 95)) (wg rfl rfl rfl) rfl (h_op (vB ((b_13.toNat : Int) == 95)) (wg rfl rfl rfl) rfl (h_op (vB ((b_13.toNat : Int) == 95)) (wg rfl rfl rfl) rfl (h_op (vB ((b_13.toNat : Int) == 95)) wz rfl (h_op (vB (!((b_13.toNat : Int) == 95))) wz rfl (h_nil ?_)))))))
          obtain rfl := some_inj h_16
          exact cut_mk () trivial rfl (pre_r rfl)
       ·refine h_movb rfl hc_19 (wg rfl rfl rfl) (h_skip (wg rfl rfl rfl) (h_skip (wg rfl rfl rfl) (h_skip (wg rfl rfl rfl) (h_skip (wn rfl rfl) (h_skip (wn rfl rfl) (h_skip (wg rfl rfl rfl) (h_skip (wg rfl rfl rfl) (h_skip (wn rfl rfl) (h_skip (wn rfl rfl) (h_skip (wg rfl rfl rfl) (h_skip (wg rfl rfl rfl) (h_skip (wn rfl rfl) (h_skip (wn rfl rfl) (h_skip (wg rfl rfl rfl) (h_op (vB false) (wg rfl rfl rfl) rfl (h_op (vB false) wz rfl (h_op (vB true) wz rfl (h_nil ?_))))))))))))))))))
        obtain rfl := some_inj h_16
        exact cut_mk () trivial rfl (pre_r rfl)
     ·refine h_movb rfl hc_17 wz (h_skip (wg rfl rfl rfl) (h_skip (wg rfl rfl rfl) (h_op (vB false) wz rfl (h_op (vB false) wz rfl (h_op (vI s_7) (wg rfl rfl rfl) rfl (h_op (vB (decide (s_7 > 0))) (wg rfl rfl rfl) rfl ?_))))))
      rcases cond_some h_16 with ⟨hc_24, h_16⟩ | ⟨hc_24, h_16⟩
      ·refine h_movb rfl hc_24 (wg rfl rfl rfl) (h_op (.d (.int .u8 (b_13.toNat : Int))) (wg rfl rfl rfl) rfl (h_op (vB (decide ((b_13.toNat : Int) ≥ 48))) (wg rfl rfl rfl) rfl ?_))
       rcases cond_some h_16 with ⟨hc_25, h_16⟩ | ⟨hc_25, h_16⟩
       ·refine h_movb rfl hc_25 (wg rfl rfl rfl) (h_op (.d (.int .u8 (b_13.toNat : Int))) (wg rfl rfl rfl) rfl (h_op (vB (decide ((b_13.toNat : Int) ≤ 57))) (wg rfl rfl rfl) rfl (h_op (vB (decide ((b_13.toNat : Int) ≤ 57))) (wg rfl rfl rfl) rfl ?_)))
        rcases cond_some h_16 with ⟨hc_26, h_16⟩ | ⟨hc_26, h_16⟩
        ·refine h_movb rfl hc_26 (wg rfl rfl rfl) (h_skip (wg rfl rfl rfl) (h_skip (wg rfl rfl rfl) (h_op (vB true) (wg rfl rfl rfl) rfl (h_op (vB true) (wg rfl rfl rfl) rfl (h_skip (wg rfl rfl rfl) (h_skip (wg rfl rfl rfl) (h_op (vB true) (wg rfl rfl rfl) rfl (h_op (vB true) (wg rfl rfl rfl) rfl (h_op (vB true) wz rfl (h_op (vB false) wz rfl (h_nil ?_)))))))))))
         obtain rfl := some_inj h_16
         exact cut_mk () trivial rfl (pre_r rfl)
        ·refine h_movb rfl hc_26 (wg rfl rfl rfl) (h_op (.d (.int .u8 (b_13.toNat : Int))) (wg rfl rfl rfl) rfl (h_op (vB ((b_13.toNat : Int) == 45)) (wg rfl rfl rfl) rfl (h_op (vB ((b_13.toNat : Int) == 45)) (wg rfl rfl rfl) rfl ?_)))
         rcases cond_some h_16 with ⟨hc_27, h_16⟩ | ⟨hc_27, h_16⟩
         ·refine h_movb rfl hc_27 (wg rfl rfl rfl) (h_skip (wg rfl rfl rfl) (h_skip (wg rfl rfl rfl) (h_op (vB true) (wg rfl rfl rfl) rfl (h_op (vB true) (wg rfl rfl rfl) rfl (h_op (vB true) wz rfl (h_op (vB false) wz rfl (h_nil ?_)))))))
          obtain rfl := some_inj h_16
          exact cut_mk () trivial rfl (pre_r rfl)
         ·refine h_movb rfl hc_27 (wg rfl rfl rfl) (h_op (.d (.int .u8 (b_13.toNat : Int))) (wg rfl rfl rfl) rfl (h_op (vB ((b_13.toNat : Int) == 95)) (wg rfl rfl rfl) rfl (h_op (vB ((b_13.toNat : Int) == 95)) (wg rfl rfl rfl) rfl (h_op (vB ((b_13.toNat : Int) == 95)) (wg rfl rfl rfl) rfl (h_op (vB ((b_13.toNat : Int) == 95)) wz rfl (h_op (vB (!((b_13.toNat : Int) == 95))) wz rfl (h_nil ?_)))))))
          obtain rfl := some_inj h_16
          exact cut_mk () trivial rfl (pre_r rfl)
       ·refine h_movb rfl hc_25 (wg rfl rfl rfl) (h_skip (wg rfl rfl rfl) (h_skip (wg rfl rfl rfl) (h_op (vB false) (wg rfl rfl rfl) rfl (h_op (vB false) (wg rfl rfl rfl) rfl (h_op (.d (.int .u8 (b_13.toNat : Int))) (wg rfl rfl rfl) rfl (h_op (vB ((b_13.toNat : Int) == 45)) (wg rfl rfl rfl) rfl (h_op (vB ((b_13.toNat : Int) == 45)) (wg rfl rfl rfl) rfl ?_)))))))
        rcases cond_some h_16 with ⟨hc_28, h_16⟩ | ⟨hc_28, h_16⟩
        ·refine h_movb rfl hc_28 (wg rfl rfl rfl) (h_skip (wg rfl rfl rfl) (h_skip (wg rfl rfl rfl) (h_op (vB true) (wg rfl rfl rfl) rfl (h_op (vB true) (wg rfl rfl rfl) rfl (h_op (vB true) wz rfl (h_op (vB false) wz rfl (h_nil ?_)))))))
         obtain rfl := some_inj h_16
         exact cut_mk () trivial rfl (pre_r rfl)
        ·refine h_movb rfl hc_28 (wg rfl rfl rfl) (h_op (.d (.int .u8 (b_13.toNat : Int))) (wg rfl rfl rfl) rfl (h_op (vB ((b_13.toNat : Int) == 95)) (wg rfl rfl rfl) rfl (h_op (vB ((b_13.toNat : Int) == 95)) (wg rfl rfl rfl) rfl (h_op (vB ((b_13.toNat : Int) == 95)) (wg rfl rfl rfl) rfl (h_op (vB ((b_13.toNat : Int) == 95)) wz rfl (h_op (vB (!((b_13.toNat : Int) == 95))) wz rfl (h_nil ?_)))))))
         obtain rfl := some_inj h_16
         exact cut_mk () trivial rfl (pre_r rfl)
      ·refine h_movb rfl hc_24 (wg rfl rfl rfl) (h_skip (wg rfl rfl rfl) (h_skip (wg rfl rfl rfl) (h_skip (wg rfl rfl rfl) (h_skip (wn rfl rfl) (h_skip (wn rfl rfl) (h_skip (wg rfl rfl rfl) (h_skip (wg rfl rfl rfl) (h_skip (wn rfl rfl) (h_skip (wn rfl rfl) (h_skip (wg rfl rfl rfl) (h_skip (wg rfl rfl rfl) (h_skip (wn rfl rfl) (h_skip (wn rfl rfl) (h_skip (wg rfl rfl rfl) (h_op (vB false) (wg rfl rfl rfl) rfl (h_op (vB false) wz rfl (h_op (vB true) wz rfl (h_nil ?_))))))))))))))))))
       obtain rfl := some_inj h_16
       exact cut_mk () trivial rfl (pre_r rfl)
    ·rintro ⟨⟩ _ sl_ H_ hp_ hq_
     refine wH_at _ hp_ hq_ ?_
     rcases cond_some hc_8 with ⟨hc_29, hc_8⟩ | ⟨hc_29, hc_8⟩
     ·refine wH_ift rfl hc_29 (wH_seq (wH_region (h_op (vB false) wz rfl (h_nil ?_))))
      obtain rfl := some_inj hc_8
      obtain rfl := some_inj hL_9
      obtain rfl := some_inj hF
      exact wH_ret (fin0 (.inr rfl) [(vB false)] ⟨rfl, trivial⟩ rfl rfl rfl)
     ·refine wH_iff rfl hc_29 (wH_skip (wH_region (h_op (vI s_7) wz rfl (h_op (vI (w64 (s_7 + 1))) wz rfl (h_op (vI (w64 (s_7 + 1))) wz rfl (h_nil ?_))))))
      obtain rfl := some_inj hc_8
      exact loop_mk (k_2, (w64 (s_7 + 1))) hL_9 (Nat.lt_succ_self _) rfl (pre_r rfl)
   ·refine wH_iff rfl hc_12 (wH_exit ?_)
    obtain rfl := some_inj hc_8
    obtain rfl := some_inj hL_9
    exact cut_mk (s_7) rfl rfl (pre_r rfl)
 ·rintro s_7 ho_ sl_ H_ hp_ hq_
  subst ho_
  refine wH_at _ hp_ hq_ (wH_seq ?_)
  obtain ⟨v_30, h_31, hF⟩ := bind_some hF
  refine wH_join (β := Unit) (fun _ => ([(2, (vB v_30))] : List (Nat × V))) (fun _ => ([] : Hp)) (fun _ => True) ?_ ?_
  ·refine wH_region (h_op (vS s_1) wz rfl (h_op (vB (sNe s_1 (⟨#[]⟩ : ByteArray))) wz rfl ?_))
   rcases cond_some h_31 with ⟨hc_32, h_31⟩ | ⟨hc_32, h_31⟩
   ·refine h_movb rfl hc_32 wz (h_op (vS s_1) (wg rfl rfl rfl) rfl (h_lens un9 rfl (wg rfl rfl rfl) (h_op (vB (decide ((s_1.size : Int) ≤ 40))) (wg rfl rfl rfl) rfl (h_op (vB (decide ((s_1.size : Int) ≤ 40))) wz rfl (h_op (vB (decide ((s_1.size : Int) ≤ 40))) wz rfl (h_nil ?_))))))
    obtain rfl := some_inj h_31
    exact cut_mk () trivial rfl (pre_r rfl)
   ·refine h_movb rfl hc_32 wz (h_skip (wg rfl rfl rfl) (h_skip (wg rfl rfl rfl) (h_skip (wg rfl rfl rfl) (h_op (vB false) wz rfl (h_op (vB false) wz rfl (h_nil ?_))))))
    obtain rfl := some_inj h_31
    exact cut_mk () trivial rfl (pre_r rfl)
  ·rintro ⟨⟩ _ sl_ H_ hp_ hq_
   refine wH_at _ hp_ hq_ ?_
   obtain rfl := some_inj hF
   exact wH_ret (fin0 (.inr rfl) [(vB v_30)] ⟨rfl, trivial⟩ rfl rfl rfl)
theorem kit_IsDay_ok {n_1 : Int} {r : Bool} (hF : kit_IsDay n_1 = some r) :
  FnM Tryz.prog 153 [(vI n_1)] [] (vB r) [] := by
 refine FnM.of_wH ⟨Tryz.prog, 9, [], []⟩ rfl Tryz.func153 rfl rfl (Nat.le_of_ble_eq_true rfl) (by kernel_rfl) ?_
 unfold kit_IsDay at hF
 refine wH_seq (wH_region (h_op (vB false) wz rfl (h_nil (wH_seq ?_))))
 obtain ⟨v_2, h_3, hF⟩ := bind_some hF
 refine wH_join (β := Unit) (fun _ => ([(2, (vB v_2))] : List (Nat × V))) (fun _ => ([] : Hp)) (fun _ => True) ?_ ?_
 ·refine wH_region (h_op (vI n_1) wz rfl (h_op (vB (decide (n_1 ≥ 0))) wz rfl ?_))
  rcases cond_some h_3 with ⟨hc_4, h_3⟩ | ⟨hc_4, h_3⟩
  ·refine h_movb rfl hc_4 wz (h_op (vI n_1) (wg rfl rfl rfl) rfl (h_op (vB (decide (n_1 ≤ 4000))) (wg rfl rfl rfl) rfl (h_op (vB (decide (n_1 ≤ 4000))) wz rfl (h_op (vB (decide (n_1 ≤ 4000))) wz rfl (h_nil ?_)))))
   obtain rfl := some_inj h_3
   exact cut_mk () trivial rfl (pre_r rfl)
  ·refine h_movb rfl hc_4 wz (h_skip (wg rfl rfl rfl) (h_skip (wg rfl rfl rfl) (h_op (vB false) wz rfl (h_op (vB false) wz rfl (h_nil ?_)))))
   obtain rfl := some_inj h_3
   exact cut_mk () trivial rfl (pre_r rfl)
 ·rintro ⟨⟩ _ sl_ H_ hp_ hq_
  refine wH_at _ hp_ hq_ ?_
  obtain rfl := some_inj hF
  exact wH_ret (fin0 (.inr rfl) [(vB v_2)] ⟨rfl, trivial⟩ rfl rfl rfl)
theorem schedule_exceptFault_ok {l_1 : (List Int)} {r : Int} (hF : schedule_exceptFault l_1 = some r) :
  FnM Tryz.prog 130 [(vL eI l_1)] [] (vI r) [] := by
 refine FnM.of_wH ⟨Tryz.prog, 30, [], []⟩ rfl Tryz.func130 rfl rfl (Nat.le_of_ble_eq_true rfl) (by kernel_rfl) ?_
 unfold schedule_exceptFault at hF
 refine wH_seq (wH_region (h_op (vI 0) wz rfl (h_nil (wH_seq (wH_seq (wH_region (h_op (vL eI l_1) wz rfl (h_len un22 rfl wz (h_op (vB (decide ((l_1.length : Int) > 100))) wz rfl (h_nil ?_))))))))))
 rcases cond_some hF with ⟨hc_2, hF⟩ | ⟨hc_2, hF⟩
 ·refine wH_ift rfl hc_2 (wH_seq (wH_region (h_op (vI 2) wz rfl (h_nil ?_))))
  obtain rfl := some_inj hF
  exact wH_ret (fin0 (.inr rfl) [(vI 2)] ⟨rfl, trivial⟩ rfl rfl rfl)
 ·refine wH_iff rfl hc_2 (wH_skip (wH_seq (wH_seq (wH_region (h_op (vL eI l_1) wz rfl (h_len un22 rfl wz (h_op (vI 0) wz rfl (h_nil ?_))))))))
  obtain ⟨o_11, hj_12, hF⟩ := bind_some hF
  obtain ⟨hn_7, hj_12⟩ := forL_some hj_12
  refine wH_join (β := (Unit)) (fun (s_8 : Unit) => ([] : List (Nat × V))) (fun (s_8 : Unit) => ([] : Hp)) (fun p => o_11 = .go p) ?_ ?_
  ·refine wH_block (wH_loop (β := Nat × (List Int) × (Unit)) (fun p => (fun (k_3 : Nat) (l_4 : List Int) (s_8 : Unit) => ([(0, (vL eI l_1)), (8, (vL eI l_1)), (9, (vI (l_1.length : Int))), (10, (vI (k_3 : Int)))] : List (Nat × V))) p.1 p.2.1 p.2.2) (fun p => (fun (k_3 : Nat) (l_4 : List Int) (s_8 : Unit) => ([] : Hp)) p.1 p.2.1 p.2.2) (fun p => forR (fun k x s => schedule_exceptFault_L1 l_1 k x s) p.2.1 p.1 p.2.2 = some o_11 ∧ (l_1).drop p.1 = p.2.1) (fun p => p.2.1.length) (0, l_1, ()) ⟨hj_12, rfl⟩ rfl (pre_r rfl) ?_)
   rintro ⟨k_3, l_4, s_8⟩ ⟨hL_10, hD_6⟩
   dsimp only at hL_10 hD_6
   cases l_4 with
   | nil =>
    obtain rfl := some_inj hL_10
    refine wH_seq (wH_region (h_op (vB (decide ((k_3 : Int) < (l_1.length : Int)))) wz rfl (h_nil ?_)))
    refine wH_seq (wH_iff rfl (drop_nil hD_6) (wH_exit ?_))
    exact cut_mk (s_8) rfl rfl (pre_r rfl)
   | cons x_5 l_4 =>
    obtain ⟨c_, hc_9, hL_10⟩ := bind_some hL_10
    refine wH_seq (wH_region (h_op (vB (decide ((k_3 : Int) < (l_1.length : Int)))) wz rfl (h_nil ?_)))
    refine wH_seq (wH_ift rfl (drop_cons hD_6) (wH_skip ?_))
    unfold schedule_exceptFault_L1 at hc_9
    refine wH_seq (wH_block (wH_seq (wH_region (h_op (vI (k_3 : Int)) wz rfl (h_ia es22 rfl rfl (drop_idx hD_6) rfl wz (h_ldc sz3 ag3 rfl (vI x_5) rfl wz (h_op (vI (k_3 : Int)) wz rfl (h_op (vI x_5) wz rfl (h_nil (wH_seq (wH_seq (wH_region (h_op (vI x_5) wz rfl ?_)))))))))))))
    obtain ⟨r_13, hr_14, hc_9⟩ := bind_some hc_9
    refine h_call0 (kit_IsDay_ok hr_14) rfl hb153 rfl rfl rfl rfl wz (h_op (vB (!r_13)) wz rfl (h_nil ?_))
    rcases cond_some hc_9 with ⟨hc_15, hc_9⟩ | ⟨hc_15, hc_9⟩
    ·refine wH_ift rfl hc_15 (wH_seq (wH_region (h_op (vI 1) wz rfl (h_nil ?_))))
     obtain rfl := some_inj hc_9
     obtain rfl := some_inj hL_10
     obtain rfl := some_inj hF
     exact wH_ret (fin0 (.inr rfl) [(vI 1)] ⟨rfl, trivial⟩ rfl rfl rfl)
    ·refine wH_iff rfl hc_15 (wH_skip (wH_seq ?_))
     obtain ⟨v_16, h_17, hc_9⟩ := bind_some hc_9
     refine wH_join (β := Unit) (fun _ => ([(0, (vL eI l_1)), (8, (vL eI l_1)), (9, (vI (l_1.length : Int))), (10, (vI (k_3 : Int))), (28, (vB v_16))] : List (Nat × V))) (fun _ => ([] : Hp)) (fun _ => True) ?_ ?_
     ·refine wH_region (h_op (vI (k_3 : Int)) wz rfl (h_op (vB (decide ((k_3 : Int) > 0))) wz rfl ?_))
      rcases cond_some h_17 with ⟨hc_18, h_17⟩ | ⟨hc_18, h_17⟩
      ·refine h_movb rfl hc_18 wz (h_op (vI x_5) (wg rfl rfl rfl) rfl (h_op (vL eI l_1) (wg rfl rfl rfl) rfl (h_op (vI (k_3 : Int)) (wg rfl rfl rfl) rfl (h_op (vI (w64 ((k_3 : Int) - 1))) (wg rfl rfl rfl) rfl ?_))))
       obtain ⟨y_19, hy_20, h_17⟩ := bind_some h_17
       refine h_ia es22 rfl rfl hy_20 rfl (wg rfl rfl rfl) (h_ldc sz3 ag3 rfl (vI y_19) rfl (wg rfl rfl rfl) (h_op (vB (decide (x_5 ≤ y_19))) (wg rfl rfl rfl) rfl (h_op (vB (decide (x_5 ≤ y_19))) wz rfl (h_nil ?_))))
       obtain rfl := some_inj h_17
       exact cut_mk () trivial rfl (pre_r rfl)
      ·refine h_movb rfl hc_18 wz (h_skip (wg rfl rfl rfl) (h_skip (wg rfl rfl rfl) (h_skip (wg rfl rfl rfl) (h_skip (wg rfl rfl rfl) (h_skip (wg rfl rfl rfl) (h_skip (wg rfl rfl rfl) (h_skip (wg rfl rfl rfl) (h_op (vB false) wz rfl (h_nil ?_)))))))))
       obtain rfl := some_inj h_17
       exact cut_mk () trivial rfl (pre_r rfl)
     ·rintro ⟨⟩ _ sl_ H_ hp_ hq_
      refine wH_at _ hp_ hq_ ?_
      rcases cond_some hc_9 with ⟨hc_21, hc_9⟩ | ⟨hc_21, hc_9⟩
      ·refine wH_ift rfl hc_21 (wH_seq (wH_region (h_op (vI 7) wz rfl (h_nil ?_))))
       obtain rfl := some_inj hc_9
       obtain rfl := some_inj hL_10
       obtain rfl := some_inj hF
       exact wH_ret (fin0 (.inr rfl) [(vI 7)] ⟨rfl, trivial⟩ rfl rfl rfl)
      ·refine wH_iff rfl hc_21 (wH_skip (wH_region (h_opw (w64_next hD_6 hn_7) wz rfl (h_op (vI ((k_3 + 1 : Nat) : Int)) wz rfl (h_nil ?_)))))
       obtain rfl := some_inj hc_9
       exact loop_mk (k_3 + 1, l_4, ()) ⟨hL_10, drop_next hD_6⟩ (Nat.lt_succ_self _) rfl (pre_r rfl)
  ·rintro s_8 ho_ sl_ H_ hp_ hq_
   subst ho_
   refine wH_at _ hp_ hq_ (wH_seq (wH_region (h_op (vI 0) wz rfl (h_nil ?_))))
   obtain rfl := some_inj hF
   exact wH_ret (fin0 (.inr rfl) [(vI 0)] ⟨rfl, trivial⟩ rfl rfl rfl)
theorem kit_RisingFault_ok {l_1 : (List ByteArray)} {r : Int} (hF : kit_RisingFault l_1 = some r) :
  FnM Tryz.prog 117 [(vL eS l_1)] [] (vI r) [] := by
 refine FnM.of_wH ⟨Tryz.prog, 27, [], []⟩ rfl Tryz.func117 rfl rfl (Nat.le_of_ble_eq_true rfl) (by kernel_rfl) ?_
 unfold kit_RisingFault at hF
 refine wH_seq (wH_region (h_op (vI 0) wz rfl (h_nil (wH_seq (wH_seq (wH_region (h_op (vL eS l_1) wz rfl (h_len un66 rfl wz (h_op (vI 0) wz rfl (h_nil ?_))))))))))
 obtain ⟨o_10, hj_11, hF⟩ := bind_some hF
 obtain ⟨hn_6, hj_11⟩ := forL_some hj_11
 refine wH_join (β := (Unit)) (fun (s_7 : Unit) => ([] : List (Nat × V))) (fun (s_7 : Unit) => ([] : Hp)) (fun p => o_10 = .go p) ?_ ?_
 ·refine wH_block (wH_loop (β := Nat × (List ByteArray) × (Unit)) (fun p => (fun (k_2 : Nat) (l_3 : List ByteArray) (s_7 : Unit) => ([(0, (vL eS l_1)), (5, (vL eS l_1)), (6, (vI (l_1.length : Int))), (7, (vI (k_2 : Int)))] : List (Nat × V))) p.1 p.2.1 p.2.2) (fun p => (fun (k_2 : Nat) (l_3 : List ByteArray) (s_7 : Unit) => ([] : Hp)) p.1 p.2.1 p.2.2) (fun p => forR (fun k x s => kit_RisingFault_L1 l_1 k x s) p.2.1 p.1 p.2.2 = some o_10 ∧ (l_1).drop p.1 = p.2.1) (fun p => p.2.1.length) (0, l_1, ()) ⟨hj_11, rfl⟩ rfl (pre_r rfl) ?_)
  rintro ⟨k_2, l_3, s_7⟩ ⟨hL_9, hD_5⟩
  dsimp only at hL_9 hD_5
  cases l_3 with
  | nil =>
   obtain rfl := some_inj hL_9
   refine wH_seq (wH_region (h_op (vB (decide ((k_2 : Int) < (l_1.length : Int)))) wz rfl (h_nil ?_)))
   refine wH_seq (wH_iff rfl (drop_nil hD_5) (wH_exit ?_))
   exact cut_mk (s_7) rfl rfl (pre_r rfl)
  | cons x_4 l_3 =>
   obtain ⟨c_, hc_8, hL_9⟩ := bind_some hL_9
   refine wH_seq (wH_region (h_op (vB (decide ((k_2 : Int) < (l_1.length : Int)))) wz rfl (h_nil ?_)))
   refine wH_seq (wH_ift rfl (drop_cons hD_5) (wH_skip ?_))
   unfold kit_RisingFault_L1 at hc_8
   refine wH_seq (wH_block (wH_seq (wH_region (h_op (vI (k_2 : Int)) wz rfl (h_ia es66 rfl rfl (drop_idx hD_5) rfl wz (h_ldc sz9 ag9 rfl (vS x_4) rfl wz (h_op (vI (k_2 : Int)) wz rfl (h_op (vS x_4) wz rfl (h_nil (wH_seq (wH_seq (wH_region (h_op (vS x_4) wz rfl ?_)))))))))))))
   obtain ⟨r_12, hr_13, hc_8⟩ := bind_some hc_8
   refine h_call0 (kit_IsKey_ok hr_13) rfl hb98 rfl rfl rfl rfl wz (h_op (vB (!r_12)) wz rfl (h_nil ?_))
   rcases cond_some hc_8 with ⟨hc_14, hc_8⟩ | ⟨hc_14, hc_8⟩
   ·refine wH_ift rfl hc_14 (wH_seq (wH_region (h_op (vI 5) wz rfl (h_nil ?_))))
    obtain rfl := some_inj hc_8
    obtain rfl := some_inj hL_9
    obtain rfl := some_inj hF
    exact wH_ret (fin0 (.inr rfl) [(vI 5)] ⟨rfl, trivial⟩ rfl rfl rfl)
   ·refine wH_iff rfl hc_14 (wH_skip (wH_seq ?_))
    obtain ⟨v_15, h_16, hc_8⟩ := bind_some hc_8
    refine wH_join (β := Unit) (fun _ => ([(0, (vL eS l_1)), (5, (vL eS l_1)), (6, (vI (l_1.length : Int))), (7, (vI (k_2 : Int))), (25, (vB v_15))] : List (Nat × V))) (fun _ => ([] : Hp)) (fun _ => True) ?_ ?_
    ·refine wH_region (h_op (vI (k_2 : Int)) wz rfl (h_op (vB (decide ((k_2 : Int) > 0))) wz rfl ?_))
     rcases cond_some h_16 with ⟨hc_17, h_16⟩ | ⟨hc_17, h_16⟩
     ·refine h_movb rfl hc_17 wz (h_op (vS x_4) (wg rfl rfl rfl) rfl (h_op (vL eS l_1) (wg rfl rfl rfl) rfl (h_op (vI (k_2 : Int)) (wg rfl rfl rfl) rfl (h_op (vI (w64 ((k_2 : Int) - 1))) (wg rfl rfl rfl) rfl ?_))))
      obtain ⟨y_18, hy_19, h_16⟩ := bind_some h_16
      refine h_ia es66 rfl rfl hy_19 rfl (wg rfl rfl rfl) (h_ldc sz9 ag9 rfl (vS y_18) rfl (wg rfl rfl rfl) (h_op (vB (sLe x_4 y_18)) (wg rfl rfl rfl) rfl (h_op (vB (sLe x_4 y_18)) wz rfl (h_nil ?_))))
      obtain rfl := some_inj h_16
      exact cut_mk () trivial rfl (pre_r rfl)
     ·refine h_movb rfl hc_17 wz (h_skip (wg rfl rfl rfl) (h_skip (wg rfl rfl rfl) (h_skip (wg rfl rfl rfl) (h_skip (wg rfl rfl rfl) (h_skip (wg rfl rfl rfl) (h_skip (wg rfl rfl rfl) (h_skip (wg rfl rfl rfl) (h_op (vB false) wz rfl (h_nil ?_)))))))))
      obtain rfl := some_inj h_16
      exact cut_mk () trivial rfl (pre_r rfl)
    ·rintro ⟨⟩ _ sl_ H_ hp_ hq_
     refine wH_at _ hp_ hq_ ?_
     rcases cond_some hc_8 with ⟨hc_20, hc_8⟩ | ⟨hc_20, hc_8⟩
     ·refine wH_ift rfl hc_20 (wH_seq (wH_region (h_op (vI 7) wz rfl (h_nil ?_))))
      obtain rfl := some_inj hc_8
      obtain rfl := some_inj hL_9
      obtain rfl := some_inj hF
      exact wH_ret (fin0 (.inr rfl) [(vI 7)] ⟨rfl, trivial⟩ rfl rfl rfl)
     ·refine wH_iff rfl hc_20 (wH_skip (wH_region (h_opw (w64_next hD_5 hn_6) wz rfl (h_op (vI ((k_2 + 1 : Nat) : Int)) wz rfl (h_nil ?_)))))
      obtain rfl := some_inj hc_8
      exact loop_mk (k_2 + 1, l_3, ()) ⟨hL_9, drop_next hD_5⟩ (Nat.lt_succ_self _) rfl (pre_r rfl)
 ·rintro s_7 ho_ sl_ H_ hp_ hq_
  subst ho_
  refine wH_at _ hp_ hq_ (wH_seq (wH_region (h_op (vI 0) wz rfl (h_nil ?_))))
  obtain rfl := some_inj hF
  exact wH_ret (fin0 (.inr rfl) [(vI 0)] ⟨rfl, trivial⟩ rfl rfl rfl)
theorem schedule_tagsFault_ok {l_1 : (List ByteArray)} {r : Int} (hF : schedule_tagsFault l_1 = some r) :
  FnM Tryz.prog 131 [(vL eS l_1)] [] (vI r) [] := by
 refine FnM.of_wH ⟨Tryz.prog, 8, [], []⟩ rfl Tryz.func131 rfl rfl (Nat.le_of_ble_eq_true rfl) (by kernel_rfl) ?_
 unfold schedule_tagsFault at hF
 refine wH_seq (wH_region (h_op (vI 0) wz rfl (h_nil (wH_seq (wH_seq (wH_region (h_op (vL eS l_1) wz rfl (h_len un66 rfl wz (h_op (vB (decide ((l_1.length : Int) > 20))) wz rfl (h_nil ?_))))))))))
 rcases cond_some hF with ⟨hc_2, hF⟩ | ⟨hc_2, hF⟩
 ·refine wH_ift rfl hc_2 (wH_seq (wH_region (h_op (vI 2) wz rfl (h_nil ?_))))
  obtain rfl := some_inj hF
  exact wH_ret (fin0 (.inr rfl) [(vI 2)] ⟨rfl, trivial⟩ rfl rfl rfl)
 ·refine wH_iff rfl hc_2 (wH_skip (wH_seq (wH_region (h_op (vL eS l_1) wz rfl ?_))))
  obtain ⟨r_3, hr_4, hF⟩ := bind_some hF
  refine h_call0 (kit_RisingFault_ok hr_4) rfl hb117 rfl rfl rfl rfl wz (h_op (vI r_3) wz rfl (h_nil ?_))
  obtain rfl := some_inj hF
  exact wH_ret (fin0 (.inr rfl) [(vI r_3)] ⟨rfl, trivial⟩ rfl rfl rfl)
theorem schedule_entryFault_ok {e_1 : Entry} {r : Int} (hF : schedule_entryFault e_1 = some r) :
  FnM Tryz.prog 108 [(.d (.agg (Entry.enc e_1)))] [] (vI r) [] := by
 refine FnM.of_wH ⟨Tryz.prog, 61, [], []⟩ rfl Tryz.func108 rfl rfl (Nat.le_of_ble_eq_true rfl) (by kernel_rfl) ?_
 unfold schedule_entryFault at hF
 refine wH_seq (wH_region (h_box 0 (.inl rfl) [(vS e_1.Key), (vS e_1.Item), (vI e_1.Version), (vI e_1.First), (vI e_1.Last), (vI e_1.Every), (vI e_1.Days), (vL eI e_1.Except), (vI e_1.From), (vI e_1.To), (vI e_1.Prio), (vL eS e_1.Tags), (vB e_1.Gone)] rfl rfl wz (fun n_2 => h_op (vI 0) wz rfl (h_nil (wH_seq (wH_seq ?_))))))
 obtain ⟨v_3, h_4, hF⟩ := bind_some hF
 refine wH_join (β := Unit) (fun _ => ([(1, (.ref n_2 0 0)), (13, (vB v_3))] : List (Nat × V))) (fun _ => ([(n_2, some (.cells 13 [(vS e_1.Key), (vS e_1.Item), (vI e_1.Version), (vI e_1.First), (vI e_1.Last), (vI e_1.Every), (vI e_1.Days), (vL eI e_1.Except), (vI e_1.From), (vI e_1.To), (vI e_1.Prio), (vL eS e_1.Tags), (vB e_1.Gone)]))] : Hp)) (fun _ => True) ?_ ?_
 ·refine wH_region (h_far pl112_0 rfl 0 rfl wz (h_ldr 0 0 il ft sz9 ag9 rfl rfl (vS e_1.Key) rfl wz ?_))
  obtain ⟨r_5, hr_6, h_4⟩ := bind_some h_4
  refine h_call0 (kit_IsKey_ok hr_6) rfl hb98 rfl rfl rfl rfl wz (h_op (vB (!r_5)) wz rfl ?_)
  rcases cond_some h_4 with ⟨hc_7, h_4⟩ | ⟨hc_7, h_4⟩
  ·refine h_movb rfl hc_7 wz (h_skip (wg rfl rfl rfl) (h_skip (wg rfl rfl rfl) (h_skip (wg rfl rfl rfl) (h_skip (wg rfl rfl rfl) (h_op (vB true) wz rfl (h_nil ?_))))))
   obtain rfl := some_inj h_4
   exact cut_mk () trivial rfl (pre_r rfl)
  ·refine h_movb rfl hc_7 wz (h_far pl112_1 rfl 1 rfl (wg rfl rfl rfl) (h_ldr 0 0 il ft sz9 ag9 rfl rfl (vS e_1.Item) rfl (wg rfl rfl rfl) ?_))
   obtain ⟨r_8, hr_9, h_4⟩ := bind_some h_4
   refine h_call0 (kit_IsKey_ok hr_9) rfl hb98 rfl rfl rfl rfl (wg rfl rfl rfl) (h_op (vB (!r_8)) (wg rfl rfl rfl) rfl (h_op (vB (!r_8)) wz rfl (h_nil ?_)))
   obtain rfl := some_inj h_4
   exact cut_mk () trivial rfl (pre_r rfl)
 ·rintro ⟨⟩ _ sl_ H_ hp_ hq_
  refine wH_at _ hp_ hq_ ?_
  rcases cond_some hF with ⟨hc_10, hF⟩ | ⟨hc_10, hF⟩
  ·refine wH_ift rfl hc_10 (wH_seq (wH_region (h_op (vI 5) wz rfl (h_nil ?_))))
   obtain rfl := some_inj hF
   exact wH_ret (fin0 (.inr rfl) [(vI 5)] ⟨rfl, trivial⟩ rfl rfl rfl)
  ·refine wH_iff rfl hc_10 (wH_skip (wH_seq (wH_seq ?_)))
   obtain ⟨v_11, h_12, hF⟩ := bind_some hF
   refine wH_join (β := Unit) (fun _ => ([(1, (.ref n_2 0 0)), (38, (vB v_11))] : List (Nat × V))) (fun _ => ([(n_2, some (.cells 13 [(vS e_1.Key), (vS e_1.Item), (vI e_1.Version), (vI e_1.First), (vI e_1.Last), (vI e_1.Every), (vI e_1.Days), (vL eI e_1.Except), (vI e_1.From), (vI e_1.To), (vI e_1.Prio), (vL eS e_1.Tags), (vB e_1.Gone)]))] : Hp)) (fun _ => True) ?_ ?_
   ·refine wH_region (h_far pl112_2 rfl 2 rfl wz (h_ldr 0 0 il ft sz3 ag3 rfl rfl (vI e_1.Version) rfl wz ?_))
    obtain ⟨r_13, hr_14, h_12⟩ := bind_some h_12
    refine h_call0 (kit_Outside_ok hr_14) rfl hb79 rfl rfl rfl rfl wz ?_
    rcases cond_some h_12 with ⟨hc_15, h_12⟩ | ⟨hc_15, h_12⟩
    ·refine h_movb rfl hc_15 wz (h_skip (wg rfl rfl rfl) (h_skip (wg rfl rfl rfl) (h_skip (wg rfl rfl rfl) (h_skip (wg rfl rfl rfl) (h_skip (wg rfl rfl rfl) (h_op (vB true) wz rfl (h_op (vB true) wz rfl (h_skip (wg rfl rfl rfl) (h_skip (wg rfl rfl rfl) (h_skip (wg rfl rfl rfl) (h_op (vB true) wz rfl (h_op (vB true) wz rfl (h_skip (wg rfl rfl rfl) (h_skip (wg rfl rfl rfl) (h_skip (wg rfl rfl rfl) (h_op (vB true) wz rfl (h_op (vB true) wz rfl (h_skip (wg rfl rfl rfl) (h_skip (wg rfl rfl rfl) (h_skip (wg rfl rfl rfl) (h_op (vB true) wz rfl (h_nil ?_))))))))))))))))))))))
     obtain rfl := some_inj h_12
     exact cut_mk () trivial rfl (pre_r rfl)
    ·refine h_movb rfl hc_15 wz (h_far pl112_3 rfl 3 rfl (wg rfl rfl rfl) (h_ldr 0 0 il ft sz3 ag3 rfl rfl (vI e_1.First) rfl (wg rfl rfl rfl) (h_far pl112_4 rfl 4 rfl (wg rfl rfl rfl) (h_ldr 0 0 il ft sz3 ag3 rfl rfl (vI e_1.Last) rfl (wg rfl rfl rfl) ?_))))
     obtain ⟨r_16, hr_17, h_12⟩ := bind_some h_12
     refine h_call0 (kit_Outside_ok hr_17) rfl hb79 rfl rfl rfl rfl (wg rfl rfl rfl) (h_op (vB r_16) wz rfl ?_)
     rcases cond_some h_12 with ⟨hc_18, h_12⟩ | ⟨hc_18, h_12⟩
     ·refine h_movb rfl hc_18 wz (h_skip (wg rfl rfl rfl) (h_skip (wg rfl rfl rfl) (h_skip (wg rfl rfl rfl) (h_op (vB true) wz rfl (h_op (vB true) wz rfl (h_skip (wg rfl rfl rfl) (h_skip (wg rfl rfl rfl) (h_skip (wg rfl rfl rfl) (h_op (vB true) wz rfl (h_op (vB true) wz rfl (h_skip (wg rfl rfl rfl) (h_skip (wg rfl rfl rfl) (h_skip (wg rfl rfl rfl) (h_op (vB true) wz rfl (h_nil ?_)))))))))))))))
      obtain rfl := some_inj h_12
      exact cut_mk () trivial rfl (pre_r rfl)
     ·refine h_movb rfl hc_18 wz (h_far pl112_4 rfl 4 rfl (wg rfl rfl rfl) (h_ldr 0 0 il ft sz3 ag3 rfl rfl (vI e_1.Last) rfl (wg rfl rfl rfl) (h_op (vB (decide (e_1.Last > 4000))) (wg rfl rfl rfl) rfl (h_op (vB (decide (e_1.Last > 4000))) wz rfl ?_))))
      rcases cond_some h_12 with ⟨hc_19, h_12⟩ | ⟨hc_19, h_12⟩
      ·refine h_movb rfl hc_19 wz (h_skip (wg rfl rfl rfl) (h_skip (wg rfl rfl rfl) (h_skip (wg rfl rfl rfl) (h_op (vB true) wz rfl (h_op (vB true) wz rfl (h_skip (wg rfl rfl rfl) (h_skip (wg rfl rfl rfl) (h_skip (wg rfl rfl rfl) (h_op (vB true) wz rfl (h_nil ?_))))))))))
       obtain rfl := some_inj h_12
       exact cut_mk () trivial rfl (pre_r rfl)
      ·refine h_movb rfl hc_19 wz (h_far pl112_5 rfl 5 rfl (wg rfl rfl rfl) (h_ldr 0 0 il ft sz3 ag3 rfl rfl (vI e_1.Every) rfl (wg rfl rfl rfl) ?_))
       obtain ⟨r_20, hr_21, h_12⟩ := bind_some h_12
       refine h_call0 (kit_Outside_ok hr_21) rfl hb79 rfl rfl rfl rfl (wg rfl rfl rfl) (h_op (vB r_20) wz rfl ?_)
       rcases cond_some h_12 with ⟨hc_22, h_12⟩ | ⟨hc_22, h_12⟩
       ·refine h_movb rfl hc_22 wz (h_skip (wg rfl rfl rfl) (h_skip (wg rfl rfl rfl) (h_skip (wg rfl rfl rfl) (h_op (vB true) wz rfl (h_nil ?_)))))
        obtain rfl := some_inj h_12
        exact cut_mk () trivial rfl (pre_r rfl)
       ·refine h_movb rfl hc_22 wz (h_far pl112_6 rfl 6 rfl (wg rfl rfl rfl) (h_ldr 0 0 il ft sz3 ag3 rfl rfl (vI e_1.Days) rfl (wg rfl rfl rfl) ?_))
        obtain ⟨r_23, hr_24, h_12⟩ := bind_some h_12
        refine h_call0 (kit_Outside_ok hr_24) rfl hb79 rfl rfl rfl rfl (wg rfl rfl rfl) (h_op (vB r_23) wz rfl (h_nil ?_))
        obtain rfl := some_inj h_12
        exact cut_mk () trivial rfl (pre_r rfl)
   ·rintro ⟨⟩ _ sl_ H_ hp_ hq_
    refine wH_at _ hp_ hq_ ?_
    rcases cond_some hF with ⟨hc_25, hF⟩ | ⟨hc_25, hF⟩
    ·refine wH_ift rfl hc_25 (wH_seq (wH_region (h_op (vI 1) wz rfl (h_nil ?_))))
     obtain rfl := some_inj hF
     exact wH_ret (fin0 (.inr rfl) [(vI 1)] ⟨rfl, trivial⟩ rfl rfl rfl)
    ·refine wH_iff rfl hc_25 (wH_skip (wH_seq (wH_seq (wH_region (h_far pl112_7 rfl 7 rfl wz (h_ldr 0 0 il ft sz22 ag22 rfl rfl (vL eI e_1.Except) rfl wz ?_))))))
     obtain ⟨r_26, hr_27, hF⟩ := bind_some hF
     refine h_call0 (schedule_exceptFault_ok hr_27) rfl hb130 rfl rfl rfl rfl wz (h_op (vI r_26) wz rfl (h_nil (wH_seq (wH_region (h_op (vI r_26) wz rfl (h_op (vB (r_26 != 0)) wz rfl (h_nil ?_)))))))
     rcases cond_some hF with ⟨hc_28, hF⟩ | ⟨hc_28, hF⟩
     ·refine wH_ift rfl hc_28 (wH_seq (wH_region (h_op (vI r_26) wz rfl (h_op (vI r_26) wz rfl (h_nil ?_)))))
      obtain rfl := some_inj hF
      exact wH_ret (fin0 (.inr rfl) [(vI r_26)] ⟨rfl, trivial⟩ rfl rfl rfl)
     ·refine wH_iff rfl hc_28 (wH_skip (wH_seq (wH_seq ?_)))
      obtain ⟨v_29, h_30, hF⟩ := bind_some hF
      refine wH_join (β := Unit) (fun _ => ([(1, (.ref n_2 0 0)), (57, (vB v_29))] : List (Nat × V))) (fun _ => ([(n_2, some (.cells 13 [(vS e_1.Key), (vS e_1.Item), (vI e_1.Version), (vI e_1.First), (vI e_1.Last), (vI e_1.Every), (vI e_1.Days), (vL eI e_1.Except), (vI e_1.From), (vI e_1.To), (vI e_1.Prio), (vL eS e_1.Tags), (vB e_1.Gone)]))] : Hp)) (fun _ => True) ?_ ?_
      ·refine wH_region (h_far pl112_8 rfl 8 rfl wz (h_ldr 0 0 il ft sz3 ag3 rfl rfl (vI e_1.From) rfl wz ?_))
       obtain ⟨r_31, hr_32, h_30⟩ := bind_some h_30
       refine h_call0 (kit_Outside_ok hr_32) rfl hb79 rfl rfl rfl rfl wz ?_
       rcases cond_some h_30 with ⟨hc_33, h_30⟩ | ⟨hc_33, h_30⟩
       ·refine h_movb rfl hc_33 wz (h_skip (wg rfl rfl rfl) (h_skip (wg rfl rfl rfl) (h_skip (wg rfl rfl rfl) (h_op (vB true) wz rfl (h_op (vB true) wz rfl (h_skip (wg rfl rfl rfl) (h_skip (wg rfl rfl rfl) (h_skip (wg rfl rfl rfl) (h_op (vB true) wz rfl (h_nil ?_))))))))))
        obtain rfl := some_inj h_30
        exact cut_mk () trivial rfl (pre_r rfl)
       ·refine h_movb rfl hc_33 wz (h_far pl112_9 rfl 9 rfl (wg rfl rfl rfl) (h_ldr 0 0 il ft sz3 ag3 rfl rfl (vI e_1.To) rfl (wg rfl rfl rfl) ?_))
        obtain ⟨r_34, hr_35, h_30⟩ := bind_some h_30
        refine h_call0 (kit_Outside_ok hr_35) rfl hb79 rfl rfl rfl rfl (wg rfl rfl rfl) (h_op (vB r_34) wz rfl ?_)
        rcases cond_some h_30 with ⟨hc_36, h_30⟩ | ⟨hc_36, h_30⟩
        ·refine h_movb rfl hc_36 wz (h_skip (wg rfl rfl rfl) (h_skip (wg rfl rfl rfl) (h_skip (wg rfl rfl rfl) (h_op (vB true) wz rfl (h_nil ?_)))))
         obtain rfl := some_inj h_30
         exact cut_mk () trivial rfl (pre_r rfl)
        ·refine h_movb rfl hc_36 wz (h_far pl112_10 rfl 10 rfl (wg rfl rfl rfl) (h_ldr 0 0 il ft sz3 ag3 rfl rfl (vI e_1.Prio) rfl (wg rfl rfl rfl) ?_))
         obtain ⟨r_37, hr_38, h_30⟩ := bind_some h_30
         refine h_call0 (kit_Outside_ok hr_38) rfl hb79 rfl rfl rfl rfl (wg rfl rfl rfl) (h_op (vB r_37) wz rfl (h_nil ?_))
         obtain rfl := some_inj h_30
         exact cut_mk () trivial rfl (pre_r rfl)
      ·rintro ⟨⟩ _ sl_ H_ hp_ hq_
       refine wH_at _ hp_ hq_ ?_
       rcases cond_some hF with ⟨hc_39, hF⟩ | ⟨hc_39, hF⟩
       ·refine wH_ift rfl hc_39 (wH_seq (wH_region (h_op (vI 1) wz rfl (h_nil ?_))))
        obtain rfl := some_inj hF
        exact wH_ret (fin0 (.inr rfl) [(vI 1)] ⟨rfl, trivial⟩ rfl rfl rfl)
       ·refine wH_iff rfl hc_39 (wH_skip (wH_seq (wH_region (h_far pl112_11 rfl 11 rfl wz (h_ldr 0 0 il ft sz66 ag66 rfl rfl (vL eS e_1.Tags) rfl wz ?_)))))
        obtain ⟨r_40, hr_41, hF⟩ := bind_some hF
        refine h_call0 (schedule_tagsFault_ok hr_41) rfl hb131 rfl rfl rfl rfl wz (h_op (vI r_40) wz rfl (h_nil ?_))
        obtain rfl := some_inj hF
        exact wH_ret (fin0 (.inr rfl) [(vI r_40)] ⟨rfl, trivial⟩ rfl rfl rfl)
theorem schedule_CheckEntries_ok {l_1 : (List Entry)} {r : Int} (hF : schedule_CheckEntries l_1 = some r) :
  FnM Tryz.prog 86 [(vL Entry.enc l_1)] [] (vI r) [] := by
 refine FnM.of_wH ⟨Tryz.prog, 35, [], []⟩ rfl Tryz.func86 rfl rfl (Nat.le_of_ble_eq_true rfl) (by kernel_rfl) ?_
 unfold schedule_CheckEntries at hF
 refine wH_seq (wH_region (h_op (vI 0) wz rfl (h_nil (wH_seq (wH_seq (wH_region (h_op (vL Entry.enc l_1) wz rfl (h_len un160 rfl wz (h_op (vB (decide ((l_1.length : Int) > 200))) wz rfl (h_nil ?_))))))))))
 rcases cond_some hF with ⟨hc_2, hF⟩ | ⟨hc_2, hF⟩
 ·refine wH_ift rfl hc_2 (wH_seq (wH_region (h_op (vI 2) wz rfl (h_nil ?_))))
  obtain rfl := some_inj hF
  exact wH_ret (fin0 (.inr rfl) [(vI 2)] ⟨rfl, trivial⟩ rfl rfl rfl)
 ·refine wH_iff rfl hc_2 (wH_skip (wH_seq (wH_seq (wH_region (h_op (vL Entry.enc l_1) wz rfl (h_len un160 rfl wz (h_op (vI 0) wz rfl (h_nil ?_))))))))
  obtain ⟨o_11, hj_12, hF⟩ := bind_some hF
  obtain ⟨hn_7, hj_12⟩ := forL_some hj_12
  refine wH_join (β := (Unit)) (fun (s_8 : Unit) => ([] : List (Nat × V))) (fun (s_8 : Unit) => ([] : Hp)) (fun p => o_11 = .go p) ?_ ?_
  ·refine wH_block (wH_loop (β := Nat × (List Entry) × (Unit)) (fun p => (fun (k_3 : Nat) (l_4 : List Entry) (s_8 : Unit) => ([(0, (vL Entry.enc l_1)), (9, (vL Entry.enc l_1)), (10, (vI (l_1.length : Int))), (11, (vI (k_3 : Int)))] : List (Nat × V))) p.1 p.2.1 p.2.2) (fun p => (fun (k_3 : Nat) (l_4 : List Entry) (s_8 : Unit) => ([] : Hp)) p.1 p.2.1 p.2.2) (fun p => forR (fun k x s => schedule_CheckEntries_L1 l_1 k x s) p.2.1 p.1 p.2.2 = some o_11 ∧ (l_1).drop p.1 = p.2.1) (fun p => p.2.1.length) (0, l_1, ()) ⟨hj_12, rfl⟩ rfl (pre_r rfl) ?_)
   rintro ⟨k_3, l_4, s_8⟩ ⟨hL_10, hD_6⟩
   dsimp only at hL_10 hD_6
   cases l_4 with
   | nil =>
    obtain rfl := some_inj hL_10
    refine wH_seq (wH_region (h_op (vB (decide ((k_3 : Int) < (l_1.length : Int)))) wz rfl (h_nil ?_)))
    refine wH_seq (wH_iff rfl (drop_nil hD_6) (wH_exit ?_))
    exact cut_mk (s_8) rfl rfl (pre_r rfl)
   | cons x_5 l_4 =>
    obtain ⟨c_, hc_9, hL_10⟩ := bind_some hL_10
    refine wH_seq (wH_region (h_op (vB (decide ((k_3 : Int) < (l_1.length : Int)))) wz rfl (h_nil ?_)))
    refine wH_seq (wH_ift rfl (drop_cons hD_6) (wH_skip ?_))
    unfold schedule_CheckEntries_L1 at hc_9
    refine wH_seq (wH_block (wH_seq (wH_region (h_op (vI (k_3 : Int)) wz rfl (h_ia es160 rfl rfl (drop_idx hD_6) rfl wz (h_ldc sz112 ag112 rfl (.d (.agg (Entry.enc x_5))) rfl wz (h_alloc 0 (.inl rfl) z112 rfl wz (fun n_13 => h_op (vI (k_3 : Int)) wz rfl (h_str 0 il ft 0 sz112 rfl rfl [(vS x_5.Key), (vS x_5.Item), (vI x_5.Version), (vI x_5.First), (vI x_5.Last), (vI x_5.Every), (vI x_5.Days), (vL eI x_5.Except), (vI x_5.From), (vI x_5.To), (vI x_5.Prio), (vL eS x_5.Tags), (vB x_5.Gone)] rfl wz (h_nil (wH_seq (wH_seq (wH_region (h_ldr 0 0 il ft sz112 ag112 rfl rfl (.d (.agg (Entry.enc x_5))) rfl wz ?_))))))))))))))
    obtain ⟨r_14, hr_15, hc_9⟩ := bind_some hc_9
    refine h_call0 (schedule_entryFault_ok hr_15) rfl hb108 rfl rfl rfl rfl wz (h_op (vI r_14) wz rfl (h_nil (wH_seq (wH_region (h_op (vI r_14) wz rfl (h_op (vB (r_14 != 0)) wz rfl (h_nil ?_)))))))
    rcases cond_some hc_9 with ⟨hc_16, hc_9⟩ | ⟨hc_16, hc_9⟩
    ·refine wH_ift rfl hc_16 (wH_seq (wH_region (h_op (vI r_14) wz rfl (h_op (vI r_14) wz rfl (h_nil ?_)))))
     obtain rfl := some_inj hc_9
     obtain rfl := some_inj hL_10
     obtain rfl := some_inj hF
     exact wH_ret (fin0 (.inr rfl) [(vI r_14)] ⟨rfl, trivial⟩ rfl rfl rfl)
    ·refine wH_iff rfl hc_16 (wH_skip (wH_seq ?_))
     obtain ⟨v_17, h_18, hc_9⟩ := bind_some hc_9
     refine wH_join (β := Unit) (fun _ => ([(0, (vL Entry.enc l_1)), (9, (vL Entry.enc l_1)), (10, (vI (l_1.length : Int))), (11, (vI (k_3 : Int))), (33, (vB v_17))] : List (Nat × V))) (fun _ => ([(n_13, some (.cells 13 [(vS x_5.Key), (vS x_5.Item), (vI x_5.Version), (vI x_5.First), (vI x_5.Last), (vI x_5.Every), (vI x_5.Days), (vL eI x_5.Except), (vI x_5.From), (vI x_5.To), (vI x_5.Prio), (vL eS x_5.Tags), (vB x_5.Gone)]))] : Hp)) (fun _ => True) ?_ ?_
     ·refine wH_draws (h_op (vI (k_3 : Int)) wz rfl (h_op (vB (decide ((k_3 : Int) > 0))) wz rfl ?_))
      rcases cond_some h_18 with ⟨hc_19, h_18⟩ | ⟨hc_19, h_18⟩
      ·refine h_movb rfl hc_19 wz (h_far pl112_0 rfl 0 rfl (wg rfl rfl rfl) (h_ldr 4 0 (.inr (by kernel_rfl)) (fun _ _ ag => trivial) sz9 ag9 rfl rfl (vS x_5.Key) rfl (wg rfl rfl rfl) (h_op (vL Entry.enc l_1) (wg rfl rfl rfl) rfl (h_op (vI (k_3 : Int)) (wg rfl rfl rfl) rfl (h_op (vI (w64 ((k_3 : Int) - 1))) (wg rfl rfl rfl) rfl ?_)))))
       obtain ⟨y_20, hy_21, h_18⟩ := bind_some h_18
       refine h_ia es160 rfl rfl hy_21 rfl (wg rfl rfl rfl) (h_fac pl112_0 rfl [.str y_20.Key, .str y_20.Item, .int .i64 y_20.Version, .int .i64 y_20.First, .int .i64 y_20.Last, .int .i64 y_20.Every, .int .i64 y_20.Days, dl eI y_20.Except, .int .i64 y_20.From, .int .i64 y_20.To, .int .i64 y_20.Prio, dl eS y_20.Tags, .bool y_20.Gone] rfl rfl (wg rfl rfl rfl) (h_ldc sz9 ag9 rfl (vS y_20.Key) rfl (wg rfl rfl rfl) (h_op (vB (sLe x_5.Key y_20.Key)) (wg rfl rfl rfl) rfl (h_op (vB (sLe x_5.Key y_20.Key)) wz rfl (h_nil ?_)))))
       obtain rfl := some_inj h_18
       exact cut_mk () trivial rfl (pre_r rfl)
      ·refine h_movb rfl hc_19 wz (h_skip (wg rfl rfl rfl) (h_skip (wg rfl rfl rfl) (h_skip (wg rfl rfl rfl) (h_skip (wg rfl rfl rfl) (h_skip (wg rfl rfl rfl) (h_skip (wg rfl rfl rfl) (h_skip (wg rfl rfl rfl) (h_skip (wg rfl rfl rfl) (h_skip (wg rfl rfl rfl) (h_op (vB false) wz rfl (h_nil ?_)))))))))))
       obtain rfl := some_inj h_18
       exact cut_mk () trivial rfl (pre_r rfl)
     ·rintro ⟨⟩ _ sl_ H_ hp_ hq_
      refine wH_at _ hp_ hq_ ?_
      rcases cond_some hc_9 with ⟨hc_22, hc_9⟩ | ⟨hc_22, hc_9⟩
      ·refine wH_ift rfl hc_22 (wH_seq (wH_region (h_op (vI 7) wz rfl (h_nil ?_))))
       obtain rfl := some_inj hc_9
       obtain rfl := some_inj hL_10
       obtain rfl := some_inj hF
       exact wH_ret (fin0 (.inr rfl) [(vI 7)] ⟨rfl, trivial⟩ rfl rfl rfl)
      ·refine wH_iff rfl hc_22 (wH_skip (wH_region (h_opw (w64_next hD_6 hn_7) wz rfl (h_op (vI ((k_3 + 1 : Nat) : Int)) wz rfl (h_nil ?_)))))
       obtain rfl := some_inj hc_9
       exact loop_mk (k_3 + 1, l_4, ()) ⟨hL_10, drop_next hD_6⟩ (Nat.lt_succ_self _) rfl (pre_r rfl)
  ·rintro s_8 ho_ sl_ H_ hp_ hq_
   subst ho_
   refine wH_at _ hp_ hq_ (wH_seq (wH_region (h_op (vI 0) wz rfl (h_nil ?_))))
   obtain rfl := some_inj hF
   exact wH_ret (fin0 (.inr rfl) [(vI 0)] ⟨rfl, trivial⟩ rfl rfl rfl)
theorem schedule_windowFault_ok {wv_1 : Window} {r : Int} (hF : schedule_windowFault wv_1 = some r) :
  FnM Tryz.prog 87 [(.d (.agg (Window.enc wv_1)))] [] (vI r) [] := by
 refine FnM.of_wH ⟨Tryz.prog, 19, [], []⟩ rfl Tryz.func87 rfl rfl (Nat.le_of_ble_eq_true rfl) (by kernel_rfl) ?_
 unfold schedule_windowFault at hF
 refine wH_seq (wH_region (h_box 0 (.inl rfl) [(vI wv_1.From), (vI wv_1.To)] rfl rfl wz (fun n_2 => h_op (vI 0) wz rfl (h_nil (wH_seq (wH_seq ?_))))))
 obtain ⟨v_3, h_4, hF⟩ := bind_some hF
 refine wH_join (β := Unit) (fun _ => ([(1, (.ref n_2 0 0)), (12, (vB v_3))] : List (Nat × V))) (fun _ => ([(n_2, some (.cells 2 [(vI wv_1.From), (vI wv_1.To)]))] : Hp)) (fun _ => True) ?_ ?_
 ·refine wH_region (h_far pl88_0 rfl 0 rfl wz (h_ldr 0 0 il ft sz3 ag3 rfl rfl (vI wv_1.From) rfl wz (h_far pl88_1 rfl 1 rfl wz (h_ldr 0 0 il ft sz3 ag3 rfl rfl (vI wv_1.To) rfl wz ?_))))
  obtain ⟨r_5, hr_6, h_4⟩ := bind_some h_4
  refine h_call0 (kit_Outside_ok hr_6) rfl hb79 rfl rfl rfl rfl wz ?_
  rcases cond_some h_4 with ⟨hc_7, h_4⟩ | ⟨hc_7, h_4⟩
  ·refine h_movb rfl hc_7 wz (h_skip (wg rfl rfl rfl) (h_skip (wg rfl rfl rfl) (h_skip (wg rfl rfl rfl) (h_op (vB true) wz rfl (h_nil ?_)))))
   obtain rfl := some_inj h_4
   exact cut_mk () trivial rfl (pre_r rfl)
  ·refine h_movb rfl hc_7 wz (h_far pl88_1 rfl 1 rfl (wg rfl rfl rfl) (h_ldr 0 0 il ft sz3 ag3 rfl rfl (vI wv_1.To) rfl (wg rfl rfl rfl) (h_op (vB (decide (wv_1.To > 345686400000))) (wg rfl rfl rfl) rfl (h_op (vB (decide (wv_1.To > 345686400000))) wz rfl (h_nil ?_)))))
   obtain rfl := some_inj h_4
   exact cut_mk () trivial rfl (pre_r rfl)
 ·rintro ⟨⟩ _ sl_ H_ hp_ hq_
  refine wH_at _ hp_ hq_ ?_
  rcases cond_some hF with ⟨hc_8, hF⟩ | ⟨hc_8, hF⟩
  ·refine wH_ift rfl hc_8 (wH_seq (wH_region (h_op (vI 1) wz rfl (h_nil ?_))))
   obtain rfl := some_inj hF
   exact wH_ret (fin0 (.inr rfl) [(vI 1)] ⟨rfl, trivial⟩ rfl rfl rfl)
  ·refine wH_iff rfl hc_8 (wH_skip (wH_seq (wH_seq (wH_region (h_far pl88_1 rfl 1 rfl wz (h_ldr 0 0 il ft sz3 ag3 rfl rfl (vI wv_1.To) rfl wz (h_far pl88_0 rfl 0 rfl wz (h_ldr 0 0 il ft sz3 ag3 rfl rfl (vI wv_1.From) rfl wz (h_op (vI (w64 (wv_1.To - wv_1.From))) wz rfl (h_op (vB (decide ((w64 (wv_1.To - wv_1.From)) > 34560000000))) wz rfl (h_nil ?_)))))))))))
   rcases cond_some hF with ⟨hc_9, hF⟩ | ⟨hc_9, hF⟩
   ·refine wH_ift rfl hc_9 (wH_seq (wH_region (h_op (vI 2) wz rfl (h_nil ?_))))
    obtain rfl := some_inj hF
    exact wH_ret (fin0 (.inr rfl) [(vI 2)] ⟨rfl, trivial⟩ rfl rfl rfl)
   ·refine wH_iff rfl hc_9 (wH_skip (wH_seq (wH_region (h_op (vI 0) wz rfl (h_nil ?_)))))
    obtain rfl := some_inj hF
    exact wH_ret (fin0 (.inr rfl) [(vI 0)] ⟨rfl, trivial⟩ rfl rfl rfl)
theorem cmp_isNaN_int_ok {x_1 : Int} {r : Bool} (hF : cmp_isNaN_int x_1 = some r) :
  FnM Tryz.prog 144 [(vI x_1)] [] (vB r) [] := by
 refine FnM.of_wH ⟨Tryz.prog, 6, [], []⟩ rfl Tryz.func144 rfl rfl (Nat.le_of_ble_eq_true rfl) (by kernel_rfl) ?_
 unfold cmp_isNaN_int at hF
 refine wH_seq (wH_region (h_op (vB false) wz rfl (h_nil (wH_seq (wH_region (h_op (vI x_1) wz rfl (h_op (vI x_1) wz rfl (h_op (vB (x_1 != x_1)) wz rfl (h_op (vB (x_1 != x_1)) wz rfl (h_nil ?_))))))))))
 obtain rfl := some_inj hF
 exact wH_ret (fin0 (.inr rfl) [(vB (x_1 != x_1))] ⟨rfl, trivial⟩ rfl rfl rfl)
theorem cmp_Less_int_ok {x_1 : Int} {y_2 : Int} {r : Bool} (hF : cmp_Less_int x_1 y_2 = some r) :
  FnM Tryz.prog 124 [(vI x_1), (vI y_2)] [] (vB r) [] := by
 refine FnM.of_wH ⟨Tryz.prog, 17, [], []⟩ rfl Tryz.func124 rfl rfl (Nat.le_of_ble_eq_true rfl) (by kernel_rfl) ?_
 unfold cmp_Less_int at hF
 refine wH_seq (wH_region (h_op (vB false) wz rfl (h_nil (wH_seq ?_))))
 obtain ⟨v_3, h_4, hF⟩ := bind_some hF
 refine wH_join (β := Unit) (fun _ => ([(4, (vB v_3))] : List (Nat × V))) (fun _ => ([] : Hp)) (fun _ => True) ?_ ?_
 ·refine wH_region (h_op (vI x_1) wz rfl ?_)
  obtain ⟨r_5, hr_6, h_4⟩ := bind_some h_4
  refine h_call0 (cmp_isNaN_int_ok hr_6) rfl hb144 rfl rfl rfl rfl wz ?_
  rcases cond_some h_4 with ⟨hc_7, h_4⟩ | ⟨hc_7, h_4⟩
  ·refine h_movb rfl hc_7 wz (h_op (vI y_2) (wg rfl rfl rfl) rfl ?_)
   obtain ⟨r_8, hr_9, h_4⟩ := bind_some h_4
   refine h_call0 (cmp_isNaN_int_ok hr_9) rfl hb144 rfl rfl rfl rfl (wg rfl rfl rfl) (h_op (vB (!r_8)) (wg rfl rfl rfl) rfl (h_op (vB (!r_8)) wz rfl ?_))
   rcases cond_some h_4 with ⟨hc_10, h_4⟩ | ⟨hc_10, h_4⟩
   ·refine h_movb rfl hc_10 wz (h_skip (wg rfl rfl rfl) (h_skip (wg rfl rfl rfl) (h_skip (wg rfl rfl rfl) (h_op (vB true) wz rfl (h_op (vB true) wz rfl (h_nil ?_))))))
    obtain rfl := some_inj h_4
    exact cut_mk () trivial rfl (pre_r rfl)
   ·refine h_movb rfl hc_10 wz (h_op (vI x_1) (wg rfl rfl rfl) rfl (h_op (vI y_2) (wg rfl rfl rfl) rfl (h_op (vB (decide (x_1 < y_2))) (wg rfl rfl rfl) rfl (h_op (vB (decide (x_1 < y_2))) wz rfl (h_op (vB (decide (x_1 < y_2))) wz rfl (h_nil ?_))))))
    obtain rfl := some_inj h_4
    exact cut_mk () trivial rfl (pre_r rfl)
  ·refine h_movb rfl hc_7 wz (h_skip (wg rfl rfl rfl) (h_skip (wg rfl rfl rfl) (h_skip (wg rfl rfl rfl) (h_op (vB false) wz rfl (h_op (vB false) wz rfl (h_op (vI x_1) (wg rfl rfl rfl) rfl (h_op (vI y_2) (wg rfl rfl rfl) rfl (h_op (vB (decide (x_1 < y_2))) (wg rfl rfl rfl) rfl (h_op (vB (decide (x_1 < y_2))) wz rfl (h_op (vB (decide (x_1 < y_2))) wz rfl (h_nil ?_)))))))))))
   obtain rfl := some_inj h_4
   exact cut_mk () trivial rfl (pre_r rfl)
 ·rintro ⟨⟩ _ sl_ H_ hp_ hq_
  refine wH_at _ hp_ hq_ ?_
  obtain rfl := some_inj hF
  exact wH_ret (fin0 (.inr rfl) [(vB v_3)] ⟨rfl, trivial⟩ rfl rfl rfl)
theorem slices_isNaN_int_ok {x_1 : Int} {r : Bool} (hF : slices_isNaN_int x_1 = some r) :
  FnM Tryz.prog 154 [(vI x_1)] [] (vB r) [] := by
 refine FnM.of_wH ⟨Tryz.prog, 6, [], []⟩ rfl Tryz.func154 rfl rfl (Nat.le_of_ble_eq_true rfl) (by kernel_rfl) ?_
 unfold slices_isNaN_int at hF
 refine wH_seq (wH_region (h_op (vB false) wz rfl (h_nil (wH_seq (wH_region (h_op (vI x_1) wz rfl (h_op (vI x_1) wz rfl (h_op (vB (x_1 != x_1)) wz rfl (h_op (vB (x_1 != x_1)) wz rfl (h_nil ?_))))))))))
 obtain rfl := some_inj hF
 exact wH_ret (fin0 (.inr rfl) [(vB (x_1 != x_1))] ⟨rfl, trivial⟩ rfl rfl rfl)
theorem slices_BinarySearch_int_int_ok {x_1 : (List Int)} {target_2 : Int} {r : Int × Bool} (hF : slices_BinarySearch_int_int x_1 target_2 = some r) :
  FnM Tryz.prog 132 [(vL eI x_1), (vI target_2)] [] (.tup [(vI r.1), (vB r.2)]) [] := by
 refine FnM.of_wH ⟨Tryz.prog, 54, [], []⟩ rfl Tryz.func132 rfl rfl (Nat.le_of_ble_eq_true rfl) (by kernel_rfl) ?_
 unfold slices_BinarySearch_int_int at hF
 refine wH_seq (wH_region (h_op (vI 0) wz rfl (h_op (vB false) wz rfl (h_nil (wH_seq (wH_region (h_op (vL eI x_1) wz rfl (h_len un22 rfl wz (h_op (vI (x_1.length : Int)) wz rfl (h_nil (wH_seq (wH_region (h_op (vI (x_1.length : Int)) wz rfl (h_op (vI 0) wz rfl (h_op (vI (x_1.length : Int)) wz rfl (h_nil (wH_seq ?_)))))))))))))))))
 obtain ⟨o_11, hj_12, hF⟩ := bind_some hF
 obtain ⟨nq_34, hj_12⟩ := loopO_iter hj_12
 refine wH_join (β := (Int × Int)) (fun (s_8 : Int × Int) => ([(0, (vL eI x_1)), (1, (vI target_2)), (6, (vI (x_1.length : Int))), (7, (vI s_8.1))] : List (Nat × V))) (fun (s_8 : Int × Int) => ([] : Hp)) (fun p => o_11 = .go p) ?_ ?_
 ·refine wH_block (wH_loop (β := Nat × (Int × Int)) (fun p => (fun (k_3 : Nat) (s_8 : Int × Int) => ([(0, (vL eI x_1)), (1, (vI target_2)), (6, (vI (x_1.length : Int))), (7, (vI s_8.1)), (8, (vI s_8.2))] : List (Nat × V))) p.1 p.2) (fun p => (fun (k_3 : Nat) (s_8 : Int × Int) => ([] : Hp)) p.1 p.2) (fun p => iterN (fun s => slices_BinarySearch_int_int_L1 x_1 target_2 s) p.1 p.2 = some o_11) (fun p => p.1) (nq_34, (0, (x_1.length : Int))) hj_12 rfl (pre_r rfl) ?_)
  rintro ⟨k_3, s_8⟩ hL_10
  dsimp only at hL_10
  cases k_3 with
  | zero => cases hL_10
  | succ k_3 =>
   obtain ⟨c_, hc_9, hL_10⟩ := bind_some hL_10
   unfold slices_BinarySearch_int_int_L1 at hc_9
   refine wH_seq (wH_seq (wH_region (h_op (vI s_8.1) wz rfl (h_op (vI s_8.2) wz rfl (h_op (vB (decide (s_8.1 < s_8.2))) wz rfl (h_nil ?_))))))
   rcases cond_some hc_9 with ⟨hc_13, hc_9⟩ | ⟨hc_13, hc_9⟩
   ·refine wH_ift rfl hc_13 (wH_skip (wH_block (wH_seq (wH_region (h_op (vI s_8.1) wz rfl (h_op (vI s_8.2) wz rfl (h_op (vI (w64 (s_8.1 + s_8.2))) wz rfl (h_conv un3 un178 rfl wz ?_))))))))
    obtain ⟨q_14, hz_15, hc_9⟩ := bind_some hc_9
    refine h_shr rfl rfl hz_15 wz (h_conv un178 un3 rfl wz (h_op (vI (w64 q_14)) wz rfl (h_nil (wH_seq (wH_region (h_op (vL eI x_1) wz rfl (h_op (vI (w64 q_14)) wz rfl ?_)))))))
    obtain ⟨y_16, hy_17, hc_9⟩ := bind_some hc_9
    refine h_ia es22 rfl rfl hy_17 rfl wz (h_ldc sz3 ag3 rfl (vI y_16) rfl wz (h_op (vI target_2) wz rfl ?_))
    obtain ⟨r_18, hr_19, hc_9⟩ := bind_some hc_9
    refine h_call0 (cmp_Less_int_ok hr_19) rfl hb124 rfl rfl rfl rfl wz (h_nil ?_)
    rcases cond_some hc_9 with ⟨hc_20, hc_9⟩ | ⟨hc_20, hc_9⟩
    ·refine wH_ift rfl hc_20 (wH_region (h_op (vI (w64 q_14)) wz rfl (h_op (vI (w64 ((w64 q_14) + 1))) wz rfl (h_op (vI (w64 ((w64 q_14) + 1))) wz rfl (h_nil ?_)))))
     obtain rfl := some_inj hc_9
     exact loop_mk (k_3, ((w64 ((w64 q_14) + 1)), s_8.2)) hL_10 (Nat.lt_succ_self _) rfl (pre_r rfl)
    ·refine wH_iff rfl hc_20 (wH_region (h_op (vI (w64 q_14)) wz rfl (h_op (vI (w64 q_14)) wz rfl (h_nil ?_))))
     obtain rfl := some_inj hc_9
     exact loop_mk (k_3, (s_8.1, (w64 q_14))) hL_10 (Nat.lt_succ_self _) rfl (pre_r rfl)
   ·refine wH_iff rfl hc_13 (wH_exit ?_)
    obtain rfl := some_inj hc_9
    obtain rfl := some_inj hL_10
    exact cut_mk ((s_8.1, s_8.2)) rfl rfl (pre_r rfl)
 ·rintro s_8 ho_ sl_ H_ hp_ hq_
  subst ho_
  refine wH_at _ hp_ hq_ (wH_seq ?_)
  obtain ⟨v_21, h_22, hF⟩ := bind_some hF
  refine wH_join (β := Unit) (fun _ => ([(4, (vI s_8.1)), (5, (vB v_21))] : List (Nat × V))) (fun _ => ([] : Hp)) (fun _ => True) ?_ ?_
  ·refine wH_region (h_op (vI s_8.1) wz rfl (h_op (vI s_8.1) wz rfl (h_op (vI (x_1.length : Int)) wz rfl (h_op (vB (decide (s_8.1 < (x_1.length : Int)))) wz rfl ?_))))
   rcases cond_some h_22 with ⟨hc_23, h_22⟩ | ⟨hc_23, h_22⟩
   ·refine h_movb rfl hc_23 wz (h_op (vL eI x_1) (wg rfl rfl rfl) rfl (h_op (vI s_8.1) (wg rfl rfl rfl) rfl ?_))
    obtain ⟨y_24, hy_25, h_22⟩ := bind_some h_22
    refine h_ia es22 rfl rfl hy_25 rfl (wg rfl rfl rfl) (h_ldc sz3 ag3 rfl (vI y_24) rfl (wg rfl rfl rfl) (h_op (vI target_2) (wg rfl rfl rfl) rfl (h_op (vB (y_24 == target_2)) (wg rfl rfl rfl) rfl ?_)))
    rcases cond_some h_22 with ⟨hc_26, h_22⟩ | ⟨hc_26, h_22⟩
    ·refine h_movb rfl hc_26 (wg rfl rfl rfl) (h_skip (wg rfl rfl rfl) (h_skip (wg rfl rfl rfl) (h_skip (wg rfl rfl rfl) (h_skip (wg rfl rfl rfl) (h_skip (wg rfl rfl rfl) (h_skip (wg rfl rfl rfl) (h_skip (wn rfl rfl) (h_skip (wn rfl rfl) (h_skip (wg rfl rfl rfl) (h_op (vB true) (wg rfl rfl rfl) rfl (h_op (vB true) wz rfl (h_op (vI s_8.1) wz rfl (h_op (vB true) wz rfl (h_nil ?_))))))))))))))
     obtain rfl := some_inj h_22
     exact cut_mk () trivial rfl (pre_r rfl)
    ·refine h_movb rfl hc_26 (wg rfl rfl rfl) (h_op (vL eI x_1) (wg rfl rfl rfl) rfl (h_op (vI s_8.1) (wg rfl rfl rfl) rfl ?_))
     obtain ⟨y_27, hy_28, h_22⟩ := bind_some h_22
     refine h_ia es22 rfl rfl hy_28 rfl (wg rfl rfl rfl) (h_ldc sz3 ag3 rfl (vI y_27) rfl (wg rfl rfl rfl) ?_)
     obtain ⟨r_29, hr_30, h_22⟩ := bind_some h_22
     refine h_call0 (slices_isNaN_int_ok hr_30) rfl hb154 rfl rfl rfl rfl (wg rfl rfl rfl) ?_
     rcases cond_some h_22 with ⟨hc_31, h_22⟩ | ⟨hc_31, h_22⟩
     ·refine h_movb rfl hc_31 (wg rfl rfl rfl) (h_op (vI target_2) (wg rfl rfl rfl) rfl ?_)
      obtain ⟨r_32, hr_33, h_22⟩ := bind_some h_22
      refine h_call0 (slices_isNaN_int_ok hr_33) rfl hb154 rfl rfl rfl rfl (wg rfl rfl rfl) (h_op (vB r_32) (wg rfl rfl rfl) rfl (h_op (vB r_32) (wg rfl rfl rfl) rfl (h_op (vB r_32) wz rfl (h_op (vI s_8.1) wz rfl (h_op (vB r_32) wz rfl (h_nil ?_))))))
      obtain rfl := some_inj h_22
      exact cut_mk () trivial rfl (pre_r rfl)
     ·refine h_movb rfl hc_31 (wg rfl rfl rfl) (h_skip (wg rfl rfl rfl) (h_skip (wg rfl rfl rfl) (h_op (vB false) (wg rfl rfl rfl) rfl (h_op (vB false) (wg rfl rfl rfl) rfl (h_op (vB false) wz rfl (h_op (vI s_8.1) wz rfl (h_op (vB false) wz rfl (h_nil ?_))))))))
      obtain rfl := some_inj h_22
      exact cut_mk () trivial rfl (pre_r rfl)
   ·refine h_movb rfl hc_23 wz (h_skip (wg rfl rfl rfl) (h_skip (wg rfl rfl rfl) (h_skip (wg rfl rfl rfl) (h_skip (wg rfl rfl rfl) (h_skip (wg rfl rfl rfl) (h_skip (wg rfl rfl rfl) (h_skip (wg rfl rfl rfl) (h_skip (wn rfl rfl) (h_skip (wn rfl rfl) (h_skip (wn rfl rfl) (h_skip (wn rfl rfl) (h_skip (wn rfl rfl) (h_skip (wn rfl rfl) (h_skip (wn rfl rfl) (h_skip (wn rfl rfl) (h_skip (wn rfl rfl) (h_skip (wg rfl rfl rfl) (h_op (vB false) wz rfl (h_op (vI s_8.1) wz rfl (h_op (vB false) wz rfl (h_nil ?_)))))))))))))))))))))
    obtain rfl := some_inj h_22
    exact cut_mk () trivial rfl (pre_r rfl)
  ·rintro ⟨⟩ _ sl_ H_ hp_ hq_
   refine wH_at _ hp_ hq_ ?_
   obtain rfl := some_inj hF
   exact wH_ret (fin0 (.inr rfl) [(vI s_8.1), (vB v_21)] ⟨rfl, ⟨rfl, trivial⟩⟩ rfl rfl rfl)
theorem schedule_isDay_ok {e_1 : Entry} {d_2 : Int} {r : Bool} (hF : schedule_isDay e_1 d_2 = some r) :
  FnM Tryz.prog 109 [(.d (.agg (Entry.enc e_1))), (vI d_2)] [] (vB r) [] := by
 refine FnM.of_wH ⟨Tryz.prog, 41, [], []⟩ rfl Tryz.func109 rfl rfl (Nat.le_of_ble_eq_true rfl) (by kernel_rfl) ?_
 unfold schedule_isDay at hF
 refine wH_seq (wH_region (h_box 0 (.inl rfl) [(vS e_1.Key), (vS e_1.Item), (vI e_1.Version), (vI e_1.First), (vI e_1.Last), (vI e_1.Every), (vI e_1.Days), (vL eI e_1.Except), (vI e_1.From), (vI e_1.To), (vI e_1.Prio), (vL eS e_1.Tags), (vB e_1.Gone)] rfl rfl wz (fun n_3 => h_op (vB false) wz rfl (h_nil (wH_seq (wH_seq ?_))))))
 obtain ⟨v_4, h_5, hF⟩ := bind_some hF
 refine wH_join (β := Unit) (fun _ => ([(1, (vI d_2)), (2, (.ref n_3 0 0)), (31, (vB v_4))] : List (Nat × V))) (fun _ => ([(n_3, some (.cells 13 [(vS e_1.Key), (vS e_1.Item), (vI e_1.Version), (vI e_1.First), (vI e_1.Last), (vI e_1.Every), (vI e_1.Days), (vL eI e_1.Except), (vI e_1.From), (vI e_1.To), (vI e_1.Prio), (vL eS e_1.Tags), (vB e_1.Gone)]))] : Hp)) (fun _ => True) ?_ ?_
 ·refine wH_draws (h_op (vI d_2) wz rfl (h_far pl112_3 rfl 3 rfl wz (h_ldr 2 0 (.inr (by kernel_rfl)) (fun _ _ ag => trivial) sz3 ag3 rfl rfl (vI e_1.First) rfl wz (h_far pl112_4 rfl 4 rfl wz (h_ldr 4 0 (.inr (by kernel_rfl)) (fun _ _ ag => ⟨.inl ⟨rfl, rfl⟩, trivial⟩) sz3 ag3 rfl rfl (vI e_1.Last) rfl wz ?_)))))
  obtain ⟨r_6, hr_7, h_5⟩ := bind_some h_5
  refine h_call0 (kit_Outside_ok hr_7) rfl hb79 rfl rfl rfl rfl wz ?_
  rcases cond_some h_5 with ⟨hc_8, h_5⟩ | ⟨hc_8, h_5⟩
  ·refine h_movb rfl hc_8 wz (h_skip (wg rfl rfl rfl) (h_skip (wg rfl rfl rfl) (h_skip (wg rfl rfl rfl) (h_skip (wg rfl rfl rfl) (h_skip (wg rfl rfl rfl) (h_skip (wg rfl rfl rfl) (h_skip (wg rfl rfl rfl) (h_skip (wg rfl rfl rfl) (h_op (vB true) wz rfl (h_op (vB true) wz rfl (h_skip (wg rfl rfl rfl) (h_skip (wg rfl rfl rfl) (h_skip (wg rfl rfl rfl) (h_skip (wg rfl rfl rfl) (h_skip (wg rfl rfl rfl) (h_skip (wg rfl rfl rfl) (h_skip (wg rfl rfl rfl) (h_op (vB true) wz rfl (h_nil ?_)))))))))))))))))))
   obtain rfl := some_inj h_5
   exact cut_mk () trivial rfl (pre_r rfl)
  ·refine h_movb rfl hc_8 wz (h_op (vI d_2) (wg rfl rfl rfl) rfl (h_far pl112_3 rfl 3 rfl (wg rfl rfl rfl) (h_ldr 9 0 (.inr (by kernel_rfl)) (fun _ _ ag => ⟨.inl ⟨rfl, rfl⟩, ⟨.inl ⟨rfl, rfl⟩, trivial⟩⟩) sz3 ag3 rfl rfl (vI e_1.First) rfl (wg rfl rfl rfl) (h_op (vI (w64 (d_2 - e_1.First))) (wg rfl rfl rfl) rfl (h_far pl112_5 rfl 5 rfl (wg rfl rfl rfl) (h_ldr 12 0 (.inr (by kernel_rfl)) (fun _ _ ag => ⟨.inl ⟨rfl, rfl⟩, ⟨.inl ⟨rfl, rfl⟩, ⟨.inl ⟨rfl, rfl⟩, trivial⟩⟩⟩) sz3 ag3 rfl rfl (vI e_1.Every) rfl (wg rfl rfl rfl) ?_))))))
   obtain ⟨q_9, hz_10, h_5⟩ := bind_some h_5
   refine h_rem rfl rfl hz_10 (wg rfl rfl rfl) (h_op (vB (q_9 != 0)) (wg rfl rfl rfl) rfl (h_op (vB (q_9 != 0)) wz rfl ?_))
   rcases cond_some h_5 with ⟨hc_11, h_5⟩ | ⟨hc_11, h_5⟩
   ·refine h_movb rfl hc_11 wz (h_skip (wg rfl rfl rfl) (h_skip (wg rfl rfl rfl) (h_skip (wg rfl rfl rfl) (h_skip (wg rfl rfl rfl) (h_skip (wg rfl rfl rfl) (h_skip (wg rfl rfl rfl) (h_skip (wg rfl rfl rfl) (h_op (vB true) wz rfl (h_nil ?_)))))))))
    obtain rfl := some_inj h_5
    exact cut_mk () trivial rfl (pre_r rfl)
   ·refine h_movb rfl hc_11 wz (h_far pl112_6 rfl 6 rfl (wg rfl rfl rfl) (h_ldr 18 0 (.inr (by kernel_rfl)) (fun _ _ ag => ⟨.inl ⟨rfl, rfl⟩, ⟨.inl ⟨rfl, rfl⟩, ⟨.inl ⟨rfl, rfl⟩, ⟨.inl ⟨rfl, rfl⟩, trivial⟩⟩⟩⟩) sz3 ag3 rfl rfl (vI e_1.Days) rfl (wg rfl rfl rfl) (h_op (vI d_2) (wg rfl rfl rfl) rfl (h_op (vI (d_2.tmod 7)) (wg rfl rfl rfl) rfl ?_))))
    obtain ⟨q_12, hz_13, h_5⟩ := bind_some h_5
    refine h_shl rfl rfl hz_13 (wg rfl rfl rfl) (h_op (vI (andI .i64 e_1.Days q_12)) (wg rfl rfl rfl) rfl (h_op (vB ((andI .i64 e_1.Days q_12) == 0)) (wg rfl rfl rfl) rfl (h_op (vB ((andI .i64 e_1.Days q_12) == 0)) wz rfl (h_nil ?_))))
    obtain rfl := some_inj h_5
    exact cut_mk () trivial rfl (pre_r rfl)
 ·rintro ⟨⟩ _ sl_ H_ hp_ hq_
  refine wH_at _ hp_ hq_ ?_
  rcases cond_some hF with ⟨hc_14, hF⟩ | ⟨hc_14, hF⟩
  ·refine wH_ift rfl hc_14 (wH_seq (wH_region (h_op (vB false) wz rfl (h_nil ?_))))
   obtain rfl := some_inj hF
   exact wH_ret (fin0 (.inr rfl) [(vB false)] ⟨rfl, trivial⟩ rfl rfl rfl)
  ·refine wH_iff rfl hc_14 (wH_skip (wH_seq (wH_region (h_far pl112_7 rfl 7 rfl wz (h_ldr 0 0 il ft sz22 ag22 rfl rfl (vL eI e_1.Except) rfl wz (h_op (vI d_2) wz rfl ?_))))))
   obtain ⟨r_15, hr_16, hF⟩ := bind_some hF
   refine h_call0 (slices_BinarySearch_int_int_ok hr_16) rfl hb132 rfl rfl rfl rfl wz (h_op (.tup [(vI r_15.1), (vB r_15.2)]) wz rfl (h_op (vI r_15.1) wz rfl (h_op (vB r_15.2) wz rfl (h_op (vI r_15.1) wz rfl (h_op (vB r_15.2) wz rfl (h_nil (wH_seq (wH_region (h_op (vB r_15.2) wz rfl (h_op (vB (!r_15.2)) wz rfl (h_op (vB (!r_15.2)) wz rfl (h_nil ?_))))))))))))
   obtain rfl := some_inj hF
   exact wH_ret (fin0 (.inr rfl) [(vB (!r_15.2))] ⟨rfl, trivial⟩ rfl rfl rfl)
theorem schedule_timeOf_ok {e_1 : Entry} {zone_2 : Int} {d_3 : Int} {r : Window} (hF : schedule_timeOf e_1 zone_2 d_3 = some r) :
  FnM Tryz.prog 110 [(.d (.agg (Entry.enc e_1))), (vI zone_2), (vI d_3)] [] (.d (.agg (Window.enc r))) [] := by
 refine FnM.of_wH ⟨Tryz.prog, 32, [], []⟩ rfl Tryz.func110 rfl rfl (Nat.le_of_ble_eq_true rfl) (by kernel_rfl) ?_
 unfold schedule_timeOf at hF
 refine wH_seq (wH_region (h_box 0 (.inl rfl) [(vS e_1.Key), (vS e_1.Item), (vI e_1.Version), (vI e_1.First), (vI e_1.Last), (vI e_1.Every), (vI e_1.Days), (vL eI e_1.Except), (vI e_1.From), (vI e_1.To), (vI e_1.Prio), (vL eS e_1.Tags), (vB e_1.Gone)] rfl rfl wz (fun n_4 => h_alloc 0 (.inl rfl) z88 rfl wz (fun n_5 => h_nil (wH_seq (wH_region (h_far pl112_9 rfl 9 rfl wz (h_ldr 0 0 il ft sz3 ag3 rfl rfl (vI e_1.To) rfl wz (h_far pl112_8 rfl 8 rfl wz (h_ldr 0 0 il ft sz3 ag3 rfl rfl (vI e_1.From) rfl wz (h_op (vI (w64 (e_1.To - e_1.From))) wz rfl (h_op (vI (w64 (e_1.To - e_1.From))) wz rfl (h_nil (wH_seq (wH_seq (wH_region (h_op (vI (w64 (e_1.To - e_1.From))) wz rfl (h_op (vB (decide ((w64 (e_1.To - e_1.From)) ≤ 0))) wz rfl (h_nil ?_)))))))))))))))))))
 obtain ⟨v_6, h_7, hF⟩ := bind_some hF
 refine wH_join (β := Unit) (fun _ => ([(1, (vI zone_2)), (2, (vI d_3)), (3, (.ref n_4 0 0)), (6, (.ref n_5 0 0)), (7, (vI v_6))] : List (Nat × V))) (fun _ => ([(n_4, some (.cells 13 [(vS e_1.Key), (vS e_1.Item), (vI e_1.Version), (vI e_1.First), (vI e_1.Last), (vI e_1.Every), (vI e_1.Days), (vL eI e_1.Except), (vI e_1.From), (vI e_1.To), (vI e_1.Prio), (vL eS e_1.Tags), (vB e_1.Gone)])), (n_5, some (.cells 2 [(vI 0), (vI 0)]))] : Hp)) (fun _ => True) ?_ ?_
 ·rcases cond_some h_7 with ⟨hc_8, h_7⟩ | ⟨hc_8, h_7⟩
  ·refine wH_ift rfl hc_8 (wH_region (h_op (vI (w64 (e_1.To - e_1.From))) wz rfl (h_op (vI (w64 ((w64 (e_1.To - e_1.From)) + 1440))) wz rfl (h_op (vI (w64 ((w64 (e_1.To - e_1.From)) + 1440))) wz rfl (h_nil ?_)))))
   obtain rfl := some_inj h_7
   exact cut_mk () trivial rfl (pre_r rfl)
  ·refine wH_iff rfl hc_8 (wH_skip ?_)
   obtain rfl := some_inj h_7
   exact cut_mk () trivial rfl (pre_r rfl)
 ·rintro ⟨⟩ _ sl_ H_ hp_ hq_
  refine wH_at _ hp_ hq_ (wH_seq (wH_region (h_op (vI d_3) wz rfl (h_op (vI (w64 (d_3 * 1440))) wz rfl (h_far pl112_8 rfl 8 rfl wz (h_ldr 0 0 il ft sz3 ag3 rfl rfl (vI e_1.From) rfl wz (h_op (vI (w64 ((w64 (d_3 * 1440)) + e_1.From))) wz rfl (h_op (vI zone_2) wz rfl (h_op (vI (w64 ((w64 ((w64 (d_3 * 1440)) + e_1.From)) - zone_2))) wz rfl (h_op (vI (w64 ((w64 ((w64 ((w64 (d_3 * 1440)) + e_1.From)) - zone_2)) * 60000))) wz rfl (h_op (vI (w64 ((w64 ((w64 ((w64 (d_3 * 1440)) + e_1.From)) - zone_2)) * 60000))) wz rfl (h_nil (wH_seq (wH_region (h_op (vI (w64 ((w64 ((w64 ((w64 (d_3 * 1440)) + e_1.From)) - zone_2)) * 60000))) wz rfl (h_op (vI (w64 ((w64 ((w64 ((w64 (d_3 * 1440)) + e_1.From)) - zone_2)) * 60000))) wz rfl (h_op (vI v_6) wz rfl (h_op (vI (w64 (v_6 * 60000))) wz rfl (h_op (vI (w64 ((w64 ((w64 ((w64 ((w64 (d_3 * 1440)) + e_1.From)) - zone_2)) * 60000)) + (w64 (v_6 * 60000))))) wz rfl (h_op (.d (.agg (Window.enc (⟨(w64 ((w64 ((w64 ((w64 (d_3 * 1440)) + e_1.From)) - zone_2)) * 60000)), (w64 ((w64 ((w64 ((w64 ((w64 (d_3 * 1440)) + e_1.From)) - zone_2)) * 60000)) + (w64 (v_6 * 60000))))⟩ : Window)))) wz (by kernel_rfl) (h_str 0 il ft 1 sz88 rfl rfl [(vI (w64 ((w64 ((w64 ((w64 (d_3 * 1440)) + e_1.From)) - zone_2)) * 60000))), (vI (w64 ((w64 ((w64 ((w64 ((w64 (d_3 * 1440)) + e_1.From)) - zone_2)) * 60000)) + (w64 (v_6 * 60000)))))] rfl wz (h_nil ?_))))))))))))))))))))))
  obtain rfl := some_inj hF
  exact wH_ret (fin0 (.inr rfl) [(.d (.agg (Window.enc (⟨(w64 ((w64 ((w64 ((w64 (d_3 * 1440)) + e_1.From)) - zone_2)) * 60000)), (w64 ((w64 ((w64 ((w64 ((w64 (d_3 * 1440)) + e_1.From)) - zone_2)) * 60000)) + (w64 (v_6 * 60000))))⟩ : Window))))] ⟨⟨1, _, _, _, _, _, _, _, rfl, rfl, sz88, ag88, rfl⟩, trivial⟩ rfl rfl rfl)
end Go.Proofs.YtipcgokielgnhaaGreatDoor.Law

