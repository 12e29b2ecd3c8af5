/-
 The machine computes these plain functions (written by a program of ours).
-/
import Derived.Test.YtpojeclokolkaaaGreatDoorFacts
import Derived.Test.YtpojeclokolkaaaGreatDoorDefs
import Derived.Test.YtpojeclokolkaaaGreatDoorPf1
open Go Go.Eng Go.Proofs
namespace Go.Proofs.YtpojeclokolkaaaGreatDoor.Law
set_option maxRecDepth 100000
set_option linter.unusedVariables false
set_option maxHeartbeats 1000000
theorem screen_runs_ok {l_1 : (List Rect)} {y_2 : Int} {r : (List Run)} (hF : screen_runs l_1 y_2 = some r) :
  FnM Tryz.prog 184 [(vL Rect.enc l_1), (vI y_2)] [] (vL Run.enc r) [] := by
 refine FnM.of_wH ⟨Tryz.prog, 84, [], []⟩ rfl Tryz.func184 rfl rfl (Nat.le_of_ble_eq_true rfl) (by kernel_rfl) ?_
 unfold screen_runs at hF
 refine wH_seq (wH_region (h_op .nil wz rfl (h_nil (wH_seq (wH_region (h_op .nil wz rfl (h_nil (wH_seq (wH_seq (wH_region (h_op (vL Rect.enc l_1) wz rfl (h_len un50 rfl wz (h_op (vI 0) wz rfl (h_nil (wH_new (fun n_9 => ?_))))))))))))))))
 obtain ⟨o_14, hj_15, hF⟩ := bind_some hF
 obtain ⟨hn_7, hj_15⟩ := forL_some hj_15
 refine wH_join (β := ((List Run)) × Nm) (fun p => (fun (s_8 : (List Run)) (n_11 : Nm) => ([(5, (gV n_11 2 s_8))] : List (Nat × V))) p.1 p.2) (fun p => (fun (s_8 : (List Run)) (n_11 : Nm) => ([(n_11, gB 2 Run.enc s_8)] : Hp)) p.1 p.2) (fun p => o_14 = .go p.1) ?_ ?_
 ·refine wH_block (wH_loop (β := Nat × (List Rect) × ((List Run)) × Nm) (fun p => (fun (k_3 : Nat) (l_4 : List Rect) (s_8 : (List Run)) (n_11 : Nm) => ([(1, (vI y_2)), (5, (gV n_11 2 s_8)), (12, (vL Rect.enc l_1)), (13, (vI (l_1.length : Int))), (14, (vI (k_3 : Int)))] : List (Nat × V))) p.1 p.2.1 p.2.2.1 p.2.2.2) (fun p => (fun (k_3 : Nat) (l_4 : List Rect) (s_8 : (List Run)) (n_11 : Nm) => ([(n_11, gB 2 Run.enc s_8)] : Hp)) p.1 p.2.1 p.2.2.1 p.2.2.2) (fun p => forR (fun k x s => screen_runs_L1 y_2 k x s) p.2.1 p.1 p.2.2.1 = some o_14 ∧ (l_1).drop p.1 = p.2.1) (fun p => p.2.1.length) (0, l_1, ([] : List Run), n_9) ⟨hj_15, rfl⟩ rfl (pre_r rfl) ?_)
  rintro ⟨k_3, l_4, s_8, n_11⟩ ⟨hL_13, hD_6⟩
  dsimp only at hL_13 hD_6
  cases l_4 with
  | nil =>
   obtain rfl := some_inj hL_13
   refine wH_seq (wH_region (h_op (vB (decide ((k_3 : Int) < (l_1.length : Int)))) wz rfl (h_nil ?_)))
   refine wH_seq (wH_iff rfl (drop_nil hD_6) (wH_exit ?_))
   exact cut_mk (s_8, n_11) rfl rfl (pre_r rfl)
  | cons x_5 l_4 =>
   obtain ⟨c_, hc_12, hL_13⟩ := bind_some hL_13
   refine wH_seq (wH_region (h_op (vB (decide ((k_3 : Int) < (l_1.length : Int)))) wz rfl (h_nil ?_)))
   refine wH_seq (wH_ift rfl (drop_cons hD_6) (wH_skip ?_))
   unfold screen_runs_L1 at hc_12
   refine wH_seq (wH_block (wH_seq (wH_region (h_ia es50 rfl rfl (drop_idx hD_6) rfl wz (h_ldc sz45 ag45 rfl (.d (.agg (Rect.enc x_5))) rfl wz (h_alloc 0 (.inl rfl) z45 rfl wz (fun n_16 => h_str 0 il ft 1 sz45 rfl rfl [(vI x_5.X), (vI x_5.Y), (vI x_5.W), (vI x_5.H)] rfl wz (h_nil (wH_seq ?_)))))))))
   obtain ⟨v_17, h_18, hc_12⟩ := bind_some hc_12
   refine wH_join (β := Unit) (fun _ => ([(1, (vI y_2)), (5, (gV n_11 2 s_8)), (7, (.ref n_16 0 0)), (12, (vL Rect.enc l_1)), (13, (vI (l_1.length : Int))), (14, (vI (k_3 : Int))), (30, (vB v_17))] : List (Nat × V))) (fun _ => ([(n_11, gB 2 Run.enc s_8), (n_16, some (.cells 4 [(vI x_5.X), (vI x_5.Y), (vI x_5.W), (vI x_5.H)]))] : Hp)) (fun _ => True) ?_ ?_
   ·refine wH_region (h_far pl45_1 rfl 1 rfl wz (h_ldr 0 1 il ft sz3 ag3 rfl rfl (vI x_5.Y) rfl wz (h_op (vI y_2) wz rfl (h_op (vB (decide (x_5.Y ≤ y_2))) wz rfl ?_))))
    rcases cond_some h_18 with ⟨hc_19, h_18⟩ | ⟨hc_19, h_18⟩
    ·refine h_movb rfl hc_19 wz (h_op (vI y_2) wa rfl (h_far pl45_1 rfl 1 rfl wa (h_ldr 0 1 il ft sz3 ag3 rfl rfl (vI x_5.Y) rfl wa (h_far pl45_3 rfl 3 rfl wa (h_ldr 0 1 il ft sz3 ag3 rfl rfl (vI x_5.H) rfl wa (h_op (vI (w64 (x_5.Y + x_5.H))) wa rfl (h_op (vB (decide (y_2 < (w64 (x_5.Y + x_5.H))))) wa rfl (h_op (vB (decide (y_2 < (w64 (x_5.Y + x_5.H))))) wz rfl (h_nil ?_)))))))))
     obtain rfl := some_inj h_18
     exact cu
    ·refine h_movb rfl hc_19 wz (h_skip wa (h_skip wa (h_skip wa (h_skip wa (h_skip wa (h_skip wa (h_skip wa (h_op (vB false) wz rfl (h_nil ?_)))))))))
     obtain rfl := some_inj h_18
     exact cu
   ·rintro ⟨⟩ _ sl_ H_ hp_ hq_
    refine wH_at _ hp_ hq_ ?_
    obtain ⟨v_20, h_21, hc_12⟩ := bind_some hc_12
    refine wH_join (β := Nm) (fun (n_22 : Nm) => ([(1, (vI y_2)), (5, (gV n_22 2 v_20)), (12, (vL Rect.enc l_1)), (13, (vI (l_1.length : Int))), (14, (vI (k_3 : Int)))] : List (Nat × V))) (fun (n_22 : Nm) => ([(n_22, gB 2 Run.enc v_20), (n_16, some (.cells 4 [(vI x_5.X), (vI x_5.Y), (vI x_5.W), (vI x_5.H)]))] : Hp)) (fun _ => True) ?_ ?_
    ·rcases cond_some h_21 with ⟨hc_23, h_21⟩ | ⟨hc_23, h_21⟩
     ·refine wH_ift rfl hc_23 (wH_region (h_op (gV n_11 2 s_8) wz rfl (h_far pl45_0 rfl 0 rfl wz (h_ldr 0 1 il ft sz3 ag3 rfl rfl (vI x_5.X) rfl wz (h_far pl45_0 rfl 0 rfl wz (h_ldr 0 1 il ft sz3 ag3 rfl rfl (vI x_5.X) rfl wz (h_far pl45_2 rfl 2 rfl wz (h_ldr 0 1 il ft sz3 ag3 rfl rfl (vI x_5.W) rfl wz (h_op (vI (w64 (x_5.X + x_5.W))) wz rfl (h_op (.d (.agg (Run.enc (⟨x_5.X, (w64 (x_5.X + x_5.W))⟩ : Run)))) wz (by kernel_rfl) (h_lit (([(⟨x_5.X, (w64 (x_5.X + x_5.W))⟩ : Run)] : List Run).map Run.enc) es259 ez259 rfl rfl rfl rfl rfl wz ?_)))))))))))
      obtain ⟨a_24, hz_25, h_21⟩ := bind_some h_21
      refine h_appg 0 il ft (i := 0) el259 el259 sz264 z264 rfl (by decide) by264 (by decide) (fun _ => rfl) rfl rfl rfl hz_25 wz (fun n_26 => h_op (gV n_26 2 a_24) wz rfl (h_nil ?_))
      obtain rfl := some_inj h_21
      exact cut_mk n_26 trivial rfl (pre_r rfl)
     ·refine wH_iff rfl hc_23 (wH_skip ?_)
      obtain rfl := some_inj h_21
      exact cut_mk n_11 trivial rfl (pre_r rfl)
    ·rintro n_22 _ sl_ H_ hp_ hq_
     refine wH_at _ hp_ hq_ (wH_region (h_opw (w64_next hD_6 hn_7) wz rfl (h_op (vI ((k_3 + 1 : Nat) : Int)) wz rfl (h_nil ?_))))
     obtain rfl := some_inj hc_12
     exact loop_mk (k_3 + 1, l_4, v_20, n_22) ⟨hL_13, drop_next hD_6⟩ (Nat.lt_succ_self _) rfl (pre_r rfl)
 ·rintro ⟨s_8, n_11⟩ ho_ sl_ H_ hp_ hq_
  subst ho_
  refine wH_at _ hp_ hq_ (wH_seq (wH_region (h_op (gV n_11 2 s_8) wz rfl ?_)))
  obtain ⟨r_27, hr_28, hF⟩ := bind_some hF
  obtain ⟨_, hs_29, hF⟩ := bind_some hF
  replace hs_29 := sameL_eq hs_29
  refine h_callv 0 [] 0 0 il ft (slices_SortFunc_screen_run_screen_run_v1_ok hr_28) rfl hb220 rfl rfl rfl (by kernel_rfl) rfl (.inl rfl) rfl (by kernel_rfl) (by kernel_rfl) (by kernel_rfl) (by kernel_rfl) rfl (by decide) (by kernel_rfl) gB_ok (gB_ho hs_29) wz ([(n_11, gB 2 Run.enc r_27)] : Hp) (by kernel_rfl) (h_re (v' := (gV n_11 2 r_27)) 43 rfl (gV_len hs_29.symm) (h_re (v' := (gV n_11 2 r_27)) 5 rfl (gV_len hs_29.symm) (h_nil (wH_seq (wH_region (h_op .nil wz rfl (h_nil (wH_seq (wH_seq (wH_region (h_op (gV n_11 2 r_27) wz rfl (h_leng un259 rfl wz (h_op (vI 0) wz rfl (h_nil (wH_frozg 0 rfl (wH_cog 5 0 rfl rfl (wH_cog 43 0 rfl rfl (wH_cog 45 0 rfl rfl (wH_new (fun n_36 => ?_))))))))))))))))))))
  obtain ⟨o_41, hj_42, hF⟩ := bind_some hF
  obtain ⟨hn_34, hj_42⟩ := forL_some hj_42
  refine wH_join (β := ((List Run)) × Nm) (fun p => (fun (s_35 : (List Run)) (n_38 : Nm) => ([(8, (gV n_38 2 s_35))] : List (Nat × V))) p.1 p.2) (fun p => (fun (s_35 : (List Run)) (n_38 : Nm) => ([(n_11, gF 2 Run.enc r_27), (n_38, gB 2 Run.enc s_35)] : Hp)) p.1 p.2) (fun p => o_41 = .go p.1) ?_ ?_
  ·refine wH_block (wH_loop (β := Nat × (List Run) × ((List Run)) × Nm) (fun p => (fun (k_30 : Nat) (l_31 : List Run) (s_35 : (List Run)) (n_38 : Nm) => ([(8, (gV n_38 2 s_35)), (45, (vL Run.enc r_27)), (46, (vI (r_27.length : Int))), (47, (vI (k_30 : Int)))] : List (Nat × V))) p.1 p.2.1 p.2.2.1 p.2.2.2) (fun p => (fun (k_30 : Nat) (l_31 : List Run) (s_35 : (List Run)) (n_38 : Nm) => ([(n_11, gF 2 Run.enc r_27), (n_38, gB 2 Run.enc s_35)] : Hp)) p.1 p.2.1 p.2.2.1 p.2.2.2) (fun p => forR (fun k x s => screen_runs_L2 k x s) p.2.1 p.1 p.2.2.1 = some o_41 ∧ (r_27).drop p.1 = p.2.1) (fun p => p.2.1.length) (0, r_27, ([] : List Run), n_36) ⟨hj_42, rfl⟩ rfl (pre_r rfl) ?_)
   rintro ⟨k_30, l_31, s_35, n_38⟩ ⟨hL_40, hD_33⟩
   dsimp only at hL_40 hD_33
   cases l_31 with
   | nil =>
    obtain rfl := some_inj hL_40
    refine wH_seq (wH_region (h_op (vB (decide ((k_30 : Int) < (r_27.length : Int)))) wz rfl (h_nil ?_)))
    refine wH_seq (wH_iff rfl (drop_nil hD_33) (wH_exit ?_))
    exact cut_mk (s_35, n_38) rfl rfl (pre_r rfl)
   | cons x_32 l_31 =>
    obtain ⟨c_, hc_39, hL_40⟩ := bind_some hL_40
    refine wH_seq (wH_region (h_op (vB (decide ((k_30 : Int) < (r_27.length : Int)))) wz rfl (h_nil ?_)))
    refine wH_seq (wH_ift rfl (drop_cons hD_33) (wH_skip ?_))
    unfold screen_runs_L2 at hc_39
    refine wH_seq (wH_block (wH_seq (wH_region (h_ia es259 rfl rfl (drop_idx hD_33) rfl wz (h_ldc sz264 ag264 rfl (.d (.agg (Run.enc x_32))) rfl wz (h_alloc 0 (.inl rfl) z264 rfl wz (fun n_43 => h_str 0 il ft 2 sz264 rfl rfl [(vI x_32.f_from), (vI x_32.f_to)] rfl wz (h_nil (wH_seq (wH_region (h_op (gV n_38 2 s_35) wz rfl (h_leng un259 rfl wz (h_op (vI (w64 ((s_35.length : Int) - 1))) wz rfl (h_op (vI (w64 ((s_35.length : Int) - 1))) wz rfl (h_nil (wH_seq ?_))))))))))))))))
    obtain ⟨v_44, h_45, hc_39⟩ := bind_some hc_39
    refine wH_join (β := Unit) (fun _ => ([(8, (gV n_38 2 s_35)), (10, (.ref n_43 0 0)), (11, (vI (w64 ((s_35.length : Int) - 1)))), (45, (vL Run.enc r_27)), (46, (vI (r_27.length : Int))), (47, (vI (k_30 : Int))), (65, (vB v_44))] : List (Nat × V))) (fun _ => ([(n_11, gF 2 Run.enc r_27), (n_38, gB 2 Run.enc s_35), (n_43, some (.cells 2 [(vI x_32.f_from), (vI x_32.f_to)]))] : Hp)) (fun _ => True) ?_ ?_
    ·refine wH_draws (h_op (vI (w64 ((s_35.length : Int) - 1))) wz rfl (h_op (vB (decide ((w64 ((s_35.length : Int) - 1)) ≥ 0))) wz rfl ?_))
     rcases cond_some h_45 with ⟨hc_46, h_45⟩ | ⟨hc_46, h_45⟩
     ·refine h_movb rfl hc_46 wz (h_far pl264_0 rfl 0 rfl wa (h_ldr 4 2 (.inr (by kernel_rfl)) (fun _ _ ag => trivial) sz3 ag3 rfl rfl (vI x_32.f_from) rfl wa (h_op (gV n_38 2 s_35) wa rfl (h_op (vI (w64 ((s_35.length : Int) - 1))) wa rfl ?_))))
      obtain ⟨_, hi_47, h_45⟩ := bind_some h_45
      refine h_iavg es259 rfl rfl (inR_0 hi_47) (inR_lt hi_47) wa (h_far pl264_1 rfl 1 rfl wa ?_)
      obtain ⟨e_48, hy_49, h_45⟩ := bind_some h_45
      refine h_ldvg 9 1 (.inr (by kernel_rfl)) (fun _ _ ag => ⟨.inl ⟨rfl, rfl⟩, trivial⟩) sz3 ag3 rfl rfl hy_49 (vI e_48.f_to) rfl wa (h_op (vB (decide (x_32.f_from ≤ e_48.f_to))) wa rfl (h_op (vB (decide (x_32.f_from ≤ e_48.f_to))) wz rfl (h_nil ?_)))
      obtain rfl := some_inj h_45
      exact cu
     ·refine h_movb rfl hc_46 wz (h_skip wa (h_skip wa (h_skip wa (h_skip wa (h_skip wa (h_skip wa (h_skip wa (h_skip wa (h_op (vB false) wz rfl (h_nil ?_))))))))))
      obtain rfl := some_inj h_45
      exact cu
    ·rintro ⟨⟩ _ sl_ H_ hp_ hq_
     refine wH_at _ hp_ hq_ ?_
     obtain ⟨v_50, h_51, hc_39⟩ := bind_some hc_39
     refine wH_join (β := Nm) (fun (n_52 : Nm) => ([(8, (gV n_52 2 v_50)), (45, (vL Run.enc r_27)), (46, (vI (r_27.length : Int))), (47, (vI (k_30 : Int)))] : List (Nat × V))) (fun (n_52 : Nm) => ([(n_11, gF 2 Run.enc r_27), (n_52, gB 2 Run.enc v_50), (n_43, some (.cells 2 [(vI x_32.f_from), (vI x_32.f_to)]))] : Hp)) (fun _ => True) ?_ ?_
     ·rcases cond_some h_51 with ⟨hc_53, h_51⟩ | ⟨hc_53, h_51⟩
      ·refine wH_ift rfl hc_53 (wH_draws (h_op (gV n_38 2 s_35) wz rfl (h_op (vI (w64 ((s_35.length : Int) - 1))) wz rfl (h_op (gV n_38 2 s_35) wz rfl (h_op (vI (w64 ((s_35.length : Int) - 1))) wz rfl ?_)))))
       obtain ⟨_, hi_54, h_51⟩ := bind_some h_51
       refine h_iavg es259 rfl rfl (inR_0 hi_54) (inR_lt hi_54) wz (h_far pl264_1 rfl 1 rfl wz ?_)
       obtain ⟨e_55, hy_56, h_51⟩ := bind_some h_51
       refine h_ldvg 6 1 (.inr (by kernel_rfl)) (fun _ _ ag => trivial) sz3 ag3 rfl rfl hy_56 (vI e_55.f_to) rfl wz (h_far pl264_1 rfl 1 rfl wz (h_ldr 8 2 (.inr (by kernel_rfl)) (fun _ _ ag => ⟨.inl ⟨rfl, rfl⟩, trivial⟩) sz3 ag3 rfl rfl (vI x_32.f_to) rfl wz (h_minmax (vI (maxI e_55.f_to x_32.f_to)) rfl (.inr rfl) wz ?_)))
       obtain ⟨_, hi_57, h_51⟩ := bind_some h_51
       refine h_iavg es259 rfl rfl (inR_0 hi_57) (inR_lt hi_57) wz (h_far pl264_1 rfl 1 rfl wz ?_)
       obtain ⟨e_58, hy_59, h_51⟩ := bind_some h_51
       refine h_stvg 12 (.inr (by kernel_rfl)) (fun _ _ ag => ⟨.inr (.inr (by kernel_rfl)), ⟨.inr (.inr (by kernel_rfl)), trivial⟩⟩) 1 sz3 rfl rfl hy_59 (⟨e_58.f_from, (maxI e_55.f_to x_32.f_to)⟩ : Run) rfl wz (h_re (v' := (gV n_38 2 (s_35.set (0 + ((w64 ((s_35.length : Int) - 1))).toNat) (⟨e_58.f_from, (maxI e_55.f_to x_32.f_to)⟩ : Run)))) 8 rfl (gV_len (by simp)) (h_re (v' := (gV n_38 2 (s_35.set (0 + ((w64 ((s_35.length : Int) - 1))).toNat) (⟨e_58.f_from, (maxI e_55.f_to x_32.f_to)⟩ : Run)))) 66 rfl (gV_len (by simp)) (h_re (v' := (gV n_38 2 (s_35.set (0 + ((w64 ((s_35.length : Int) - 1))).toNat) (⟨e_58.f_from, (maxI e_55.f_to x_32.f_to)⟩ : Run)))) 68 rfl (gV_len (by simp)) (h_nil ?_))))
       obtain rfl := some_inj h_51
       exact cut_mk n_38 trivial rfl (pre_r rfl)
      ·refine wH_iff rfl hc_53 (wH_region (h_op (gV n_38 2 s_35) wz rfl (h_ldr 0 2 il ft sz264 ag264 rfl rfl (.d (.agg (Run.enc x_32))) rfl wz (h_lit (([x_32] : List Run).map Run.enc) es259 ez259 rfl rfl rfl rfl rfl wz ?_))))
       obtain ⟨a_60, hz_61, h_51⟩ := bind_some h_51
       refine h_appg 0 il ft (i := 1) el259 el259 sz264 z264 rfl (by decide) by264 (by decide) (fun _ => rfl) rfl rfl rfl hz_61 wz (fun n_62 => h_op (gV n_62 2 a_60) wz rfl (h_nil ?_))
       obtain rfl := some_inj h_51
       exact cut_mk n_62 trivial rfl (pre_r rfl)
     ·rintro n_52 _ sl_ H_ hp_ hq_
      refine wH_at _ hp_ hq_ (wH_region (h_opw (w64_next hD_33 hn_34) wz rfl (h_op (vI ((k_30 + 1 : Nat) : Int)) wz rfl (h_nil ?_))))
      obtain rfl := some_inj hc_39
      exact loop_mk (k_30 + 1, l_31, v_50, n_52) ⟨hL_40, drop_next hD_33⟩ (Nat.lt_succ_self _) rfl (pre_r rfl)
  ·rintro ⟨s_35, n_38⟩ ho_ sl_ H_ hp_ hq_
   subst ho_
   refine wH_at _ hp_ hq_ (wH_seq (wH_region (h_op (gV n_38 2 s_35) wz rfl (h_op (gV n_38 2 s_35) wz rfl (h_nil (wH_frozg 1 rfl (wH_cog 4 1 rfl rfl (wH_cog 8 1 rfl rfl (wH_cog 83 1 rfl rfl ?_)))))))))
   obtain rfl := some_inj hF
   exact wH_ret (fin0 (.inr rfl) [(vL Run.enc s_35)] ⟨rfl, trivial⟩ rfl rfl rfl)
theorem screen_less_ok {l_1 : (List Run)} {m_2 : (List Run)} {r : (List Run)} (hF : screen_less l_1 m_2 = some r) :
  FnM Tryz.prog 183 [(vL Run.enc l_1), (vL Run.enc m_2)] [] (vL Run.enc r) [] := by
 refine FnM.of_wH ⟨Tryz.prog, 88, [], []⟩ rfl Tryz.func183 rfl rfl (Nat.le_of_ble_eq_true rfl) (by kernel_rfl) ?_
 unfold screen_less at hF
 refine wH_seq (wH_region (h_op .nil wz rfl (h_nil (wH_seq (wH_region (h_op .nil wz rfl (h_nil (wH_seq (wH_region (h_op (vI 0) wz rfl (h_nil (wH_seq (wH_seq (wH_region (h_op (vL Run.enc l_1) wz rfl (h_len un259 rfl wz (h_op (vI 0) wz rfl (h_nil (wH_new (fun n_9 => ?_))))))))))))))))))))
 obtain ⟨o_14, hj_15, hF⟩ := bind_some hF
 obtain ⟨hn_7, hj_15⟩ := forL_some hj_15
 refine wH_join (β := ((List Run) × Int) × Nm) (fun p => (fun (s_8 : (List Run) × Int) (n_11 : Nm) => ([(5, (gV n_11 2 s_8.1))] : List (Nat × V))) p.1 p.2) (fun p => (fun (s_8 : (List Run) × Int) (n_11 : Nm) => ([(n_11, gB 2 Run.enc s_8.1)] : Hp)) p.1 p.2) (fun p => o_14 = .go p.1) ?_ ?_
 ·refine wH_block (wH_loop (β := Nat × (List Run) × ((List Run) × Int) × Nm) (fun p => (fun (k_3 : Nat) (l_4 : List Run) (s_8 : (List Run) × Int) (n_11 : Nm) => ([(1, (vL Run.enc m_2)), (5, (gV n_11 2 s_8.1)), (6, (vI s_8.2)), (10, (vL Run.enc l_1)), (11, (vI (l_1.length : Int))), (12, (vI (k_3 : Int)))] : List (Nat × V))) p.1 p.2.1 p.2.2.1 p.2.2.2) (fun p => (fun (k_3 : Nat) (l_4 : List Run) (s_8 : (List Run) × Int) (n_11 : Nm) => ([(n_11, gB 2 Run.enc s_8.1)] : Hp)) p.1 p.2.1 p.2.2.1 p.2.2.2) (fun p => forR (fun k x s => screen_less_L3 m_2 k x s) p.2.1 p.1 p.2.2.1 = some o_14 ∧ (l_1).drop p.1 = p.2.1) (fun p => p.2.1.length) (0, l_1, (([] : List Run), 0), n_9) ⟨hj_15, rfl⟩ rfl (pre_r rfl) ?_)
  rintro ⟨k_3, l_4, s_8, n_11⟩ ⟨hL_13, hD_6⟩
  dsimp only at hL_13 hD_6
  cases l_4 with
  | nil =>
   obtain rfl := some_inj hL_13
   refine wH_seq (wH_region (h_op (vB (decide ((k_3 : Int) < (l_1.length : Int)))) wz rfl (h_nil ?_)))
   refine wH_seq (wH_iff rfl (drop_nil hD_6) (wH_exit ?_))
   exact cut_mk (s_8, n_11) rfl rfl (pre_r rfl)
  | cons x_5 l_4 =>
   obtain ⟨c_, hc_12, hL_13⟩ := bind_some hL_13
   refine wH_seq (wH_region (h_op (vB (decide ((k_3 : Int) < (l_1.length : Int)))) wz rfl (h_nil ?_)))
   refine wH_seq (wH_ift rfl (drop_cons hD_6) (wH_skip ?_))
   unfold screen_less_L3 at hc_12
   refine wH_seq (wH_block (wH_seq (wH_region (h_ia es259 rfl rfl (drop_idx hD_6) rfl wz (h_ldc sz264 ag264 rfl (.d (.agg (Run.enc x_5))) rfl wz (h_alloc 0 (.inl rfl) z264 rfl wz (fun n_16 => h_str 0 il ft 1 sz264 rfl rfl [(vI x_5.f_from), (vI x_5.f_to)] rfl wz (h_nil (wH_seq ?_)))))))))
   obtain ⟨o_25, hj_26, hc_12⟩ := bind_some hc_12
   obtain ⟨nq_72, hj_26⟩ := loopO_iter hj_26
   refine wH_join (β := (Int)) (fun (s_22 : Int) => ([(1, (vL Run.enc m_2)), (5, (gV n_11 2 s_8.1)), (6, (vI s_22)), (8, (.ref n_16 0 0)), (10, (vL Run.enc l_1)), (11, (vI (l_1.length : Int))), (12, (vI (k_3 : Int)))] : List (Nat × V))) (fun (s_22 : Int) => ([(n_11, gB 2 Run.enc s_8.1), (n_16, some (.cells 2 [(vI x_5.f_from), (vI x_5.f_to)]))] : Hp)) (fun p => o_25 = .go p) ?_ ?_
   ·refine wH_block (wH_loop (β := Nat × (Int)) (fun p => (fun (k_17 : Nat) (s_22 : Int) => ([(1, (vL Run.enc m_2)), (5, (gV n_11 2 s_8.1)), (6, (vI s_22)), (8, (.ref n_16 0 0)), (10, (vL Run.enc l_1)), (11, (vI (l_1.length : Int))), (12, (vI (k_3 : Int)))] : List (Nat × V))) p.1 p.2) (fun p => (fun (k_17 : Nat) (s_22 : Int) => ([(n_11, gB 2 Run.enc s_8.1), (n_16, some (.cells 2 [(vI x_5.f_from), (vI x_5.f_to)]))] : Hp)) p.1 p.2) (fun p => iterN (fun s => screen_less_L1 m_2 x_5 s) p.1 p.2 = some o_25) (fun p => p.1) (nq_72, s_8.2) hj_26 rfl (pre_r rfl) ?_)
    rintro ⟨k_17, s_22⟩ hL_24
    dsimp only at hL_24
    cases k_17 with
    | zero => cases hL_24
    | succ k_17 =>
     obtain ⟨c_, hc_23, hL_24⟩ := bind_some hL_24
     unfold screen_less_L1 at hc_23
     refine wH_seq (wH_seq ?_)
     obtain ⟨v_27, h_28, hc_23⟩ := bind_some hc_23
     refine wH_join (β := Unit) (fun _ => ([(1, (vL Run.enc m_2)), (5, (gV n_11 2 s_8.1)), (6, (vI s_22)), (8, (.ref n_16 0 0)), (10, (vL Run.enc l_1)), (11, (vI (l_1.length : Int))), (12, (vI (k_3 : Int))), (29, (vB v_27))] : List (Nat × V))) (fun _ => ([(n_11, gB 2 Run.enc s_8.1), (n_16, some (.cells 2 [(vI x_5.f_from), (vI x_5.f_to)]))] : Hp)) (fun _ => True) ?_ ?_
     ·refine wH_draws (h_op (vI s_22) wz rfl (h_op (vL Run.enc m_2) wz rfl (h_len un259 rfl wz (h_op (vB (decide (s_22 < (m_2.length : Int)))) wz rfl ?_))))
      rcases cond_some h_28 with ⟨hc_29, h_28⟩ | ⟨hc_29, h_28⟩
      ·refine h_movb rfl hc_29 wz (h_op (vL Run.enc m_2) wa rfl (h_op (vI s_22) wa rfl ?_))
       obtain ⟨y_30, hy_31, h_28⟩ := bind_some h_28
       refine h_ia es259 rfl rfl hy_31 rfl wa (h_fac pl264_1 rfl [.int .i64 y_30.f_to] rfl rfl wa (h_ldc sz3 ag3 rfl (vI y_30.f_to) rfl wa (h_far pl264_0 rfl 0 rfl wa (h_ldr 11 1 (.inr (by kernel_rfl)) (fun _ _ ag => trivial) sz3 ag3 rfl rfl (vI x_5.f_from) rfl wa (h_op (vB (decide (y_30.f_to ≤ x_5.f_from))) wa rfl (h_op (vB (decide (y_30.f_to ≤ x_5.f_from))) wz rfl (h_nil ?_)))))))
       obtain rfl := some_inj h_28
       exact cu
      ·refine h_movb rfl hc_29 wz (h_skip wa (h_skip wa (h_skip wa (h_skip wa (h_skip wa (h_skip wa (h_skip wa (h_skip wa (h_op (vB false) wz rfl (h_nil ?_))))))))))
       obtain rfl := some_inj h_28
       exact cu
     ·rintro ⟨⟩ _ sl_ H_ hp_ hq_
      refine wH_at _ hp_ hq_ ?_
      rcases cond_some hc_23 with ⟨hc_32, hc_23⟩ | ⟨hc_32, hc_23⟩
      ·refine wH_ift rfl hc_32 (wH_skip (wH_block (wH_region (h_op (vI s_22) wz rfl (h_op (vI (w64 (s_22 + 1))) wz rfl (h_op (vI (w64 (s_22 + 1))) wz rfl (h_nil ?_)))))))
       obtain rfl := some_inj hc_23
       exact loop_mk (k_17, (w64 (s_22 + 1))) hL_24 (Nat.lt_succ_self _) rfl (pre_r rfl)
      ·refine wH_iff rfl hc_32 (wH_exit ?_)
       obtain rfl := some_inj hc_23
       obtain rfl := some_inj hL_24
       exact cut_mk (s_22) rfl rfl (pre_r rfl)
   ·rintro s_22 ho_ sl_ H_ hp_ hq_
    subst ho_
    refine wH_at _ hp_ hq_ (wH_seq (wH_seq (wH_region (h_op (vI s_22) wz rfl (h_op (vI s_22) wz rfl (h_nil ?_))))))
    obtain ⟨o_43, hj_44, hc_12⟩ := bind_some hc_12
    obtain ⟨nq_71, hj_44⟩ := loopO_iter hj_44
    refine wH_join (β := ((List Run) × Int × Int) × Nm) (fun p => (fun (s_38 : (List Run) × Int × Int) (n_40 : Nm) => ([(1, (vL Run.enc m_2)), (5, (gV n_40 2 s_38.1)), (6, (vI s_22)), (8, (.ref n_16 0 0)), (10, (vL Run.enc l_1)), (11, (vI (l_1.length : Int))), (12, (vI (k_3 : Int)))] : List (Nat × V))) p.1 p.2) (fun p => (fun (s_38 : (List Run) × Int × Int) (n_40 : Nm) => ([(n_40, gB 2 Run.enc s_38.1), (n_16, some (.cells 2 [(vI s_38.2.2), (vI x_5.f_to)]))] : Hp)) p.1 p.2) (fun p => o_43 = .go p.1) ?_ ?_
    ·refine wH_block (wH_loop (β := Nat × ((List Run) × Int × Int) × Nm) (fun p => (fun (k_33 : Nat) (s_38 : (List Run) × Int × Int) (n_40 : Nm) => ([(1, (vL Run.enc m_2)), (5, (gV n_40 2 s_38.1)), (6, (vI s_22)), (8, (.ref n_16 0 0)), (9, (vI s_38.2.1)), (10, (vL Run.enc l_1)), (11, (vI (l_1.length : Int))), (12, (vI (k_3 : Int)))] : List (Nat × V))) p.1 p.2.1 p.2.2) (fun p => (fun (k_33 : Nat) (s_38 : (List Run) × Int × Int) (n_40 : Nm) => ([(n_40, gB 2 Run.enc s_38.1), (n_16, some (.cells 2 [(vI s_38.2.2), (vI x_5.f_to)]))] : Hp)) p.1 p.2.1 p.2.2) (fun p => iterN (fun s => screen_less_L2 m_2 x_5 s) p.1 p.2.1 = some o_43) (fun p => p.1) (nq_71, (s_8.1, s_22, x_5.f_from), n_11) hj_44 rfl (pre_r rfl) ?_)
     rintro ⟨k_33, s_38, n_40⟩ hL_42
     dsimp only at hL_42
     cases k_33 with
     | zero => cases hL_42
     | succ k_33 =>
      obtain ⟨c_, hc_41, hL_42⟩ := bind_some hL_42
      unfold screen_less_L2 at hc_41
      refine wH_seq (wH_seq ?_)
      obtain ⟨v_45, h_46, hc_41⟩ := bind_some hc_41
      refine wH_join (β := Unit) (fun _ => ([(1, (vL Run.enc m_2)), (5, (gV n_40 2 s_38.1)), (6, (vI s_22)), (8, (.ref n_16 0 0)), (9, (vI s_38.2.1)), (10, (vL Run.enc l_1)), (11, (vI (l_1.length : Int))), (12, (vI (k_3 : Int))), (46, (vB v_45))] : List (Nat × V))) (fun _ => ([(n_40, gB 2 Run.enc s_38.1), (n_16, some (.cells 2 [(vI s_38.2.2), (vI x_5.f_to)]))] : Hp)) (fun _ => True) ?_ ?_
      ·refine wH_draws (h_op (vI s_38.2.1) wz rfl (h_op (vL Run.enc m_2) wz rfl (h_len un259 rfl wz (h_op (vB (decide (s_38.2.1 < (m_2.length : Int)))) wz rfl ?_))))
       rcases cond_some h_46 with ⟨hc_47, h_46⟩ | ⟨hc_47, h_46⟩
       ·refine h_movb rfl hc_47 wz (h_op (vL Run.enc m_2) wa rfl (h_op (vI s_38.2.1) wa rfl ?_))
        obtain ⟨y_48, hy_49, h_46⟩ := bind_some h_46
        refine h_ia es259 rfl rfl hy_49 rfl wa (h_fac pl264_0 rfl [.int .i64 y_48.f_from, .int .i64 y_48.f_to] rfl rfl wa (h_ldc sz3 ag3 rfl (vI y_48.f_from) rfl wa (h_far pl264_1 rfl 1 rfl wa (h_ldr 11 1 (.inr (by kernel_rfl)) (fun _ _ ag => trivial) sz3 ag3 rfl rfl (vI x_5.f_to) rfl wa (h_op (vB (decide (y_48.f_from < x_5.f_to))) wa rfl (h_op (vB (decide (y_48.f_from < x_5.f_to))) wz rfl (h_nil ?_)))))))
        obtain rfl := some_inj h_46
        exact cu
       ·refine h_movb rfl hc_47 wz (h_skip wa (h_skip wa (h_skip wa (h_skip wa (h_skip wa (h_skip wa (h_skip wa (h_skip wa (h_op (vB false) wz rfl (h_nil ?_))))))))))
        obtain rfl := some_inj h_46
        exact cu
      ·rintro ⟨⟩ _ sl_ H_ hp_ hq_
       refine wH_at _ hp_ hq_ ?_
       rcases cond_some hc_41 with ⟨hc_50, hc_41⟩ | ⟨hc_50, hc_41⟩
       ·refine wH_ift rfl hc_50 (wH_skip (wH_seq (wH_block (wH_seq (wH_seq (wH_draws (h_op (vL Run.enc m_2) wz rfl (h_op (vI s_38.2.1) wz rfl ?_))))))))
        obtain ⟨y_51, hy_52, hc_41⟩ := bind_some hc_41
        refine h_ia es259 rfl rfl hy_52 rfl wz (h_fac pl264_0 rfl [.int .i64 y_51.f_from, .int .i64 y_51.f_to] rfl rfl wz (h_ldc sz3 ag3 rfl (vI y_51.f_from) rfl wz (h_far pl264_0 rfl 0 rfl wz (h_ldr 6 1 (.inr (by kernel_rfl)) (fun _ _ ag => trivial) sz3 ag3 rfl rfl (vI s_38.2.2) rfl wz (h_op (vB (decide (y_51.f_from > s_38.2.2))) wz rfl (h_nil ?_))))))
        obtain ⟨v_53, h_54, hc_41⟩ := bind_some hc_41
        refine wH_join (β := Nm) (fun (n_55 : Nm) => ([(1, (vL Run.enc m_2)), (5, (gV n_55 2 v_53)), (6, (vI s_22)), (8, (.ref n_16 0 0)), (9, (vI s_38.2.1)), (10, (vL Run.enc l_1)), (11, (vI (l_1.length : Int))), (12, (vI (k_3 : Int)))] : List (Nat × V))) (fun (n_55 : Nm) => ([(n_55, gB 2 Run.enc v_53), (n_16, some (.cells 2 [(vI s_38.2.2), (vI x_5.f_to)]))] : Hp)) (fun _ => True) ?_ ?_
        ·rcases cond_some h_54 with ⟨hc_56, h_54⟩ | ⟨hc_56, h_54⟩
         ·refine wH_ift rfl hc_56 (wH_draws (h_op (gV n_40 2 s_38.1) wz rfl (h_far pl264_0 rfl 0 rfl wz (h_ldr 2 1 (.inr (by kernel_rfl)) (fun _ _ ag => trivial) sz3 ag3 rfl rfl (vI s_38.2.2) rfl wz (h_op (vL Run.enc m_2) wz rfl (h_op (vI s_38.2.1) wz rfl ?_))))))
          obtain ⟨y_57, hy_58, h_54⟩ := bind_some h_54
          refine h_ia es259 rfl rfl hy_58 rfl wz (h_fac pl264_0 rfl [.int .i64 y_57.f_from, .int .i64 y_57.f_to] rfl rfl wz (h_ldc sz3 ag3 rfl (vI y_57.f_from) rfl wz (h_op (.d (.agg (Run.enc (⟨s_38.2.2, y_57.f_from⟩ : Run)))) wz (by kernel_rfl) (h_lit (([(⟨s_38.2.2, y_57.f_from⟩ : Run)] : List Run).map Run.enc) es259 ez259 rfl rfl rfl rfl rfl wz ?_))))
          obtain ⟨a_59, hz_60, h_54⟩ := bind_some h_54
          refine h_appg 10 (.inr (by kernel_rfl)) (fun _ _ ag => ⟨.inr (.inr (by kernel_rfl)), trivial⟩) (i := 0) el259 el259 sz264 z264 rfl (by decide) by264 (by decide) (fun _ => rfl) rfl rfl rfl hz_60 wz (fun n_61 => h_op (gV n_61 2 a_59) wz rfl (h_nil ?_))
          obtain rfl := some_inj h_54
          exact cut_mk n_61 trivial rfl (pre_r rfl)
         ·refine wH_iff rfl hc_56 (wH_skip ?_)
          obtain rfl := some_inj h_54
          exact cut_mk n_40 trivial rfl (pre_r rfl)
        ·rintro n_55 _ sl_ H_ hp_ hq_
         refine wH_at _ hp_ hq_ (wH_draws (h_far pl264_0 rfl 0 rfl wz (h_ldr 1 1 (.inr (by kernel_rfl)) (fun _ _ ag => trivial) sz3 ag3 rfl rfl (vI s_38.2.2) rfl wz (h_op (vL Run.enc m_2) wz rfl (h_op (vI s_38.2.1) wz rfl ?_)))))
         obtain ⟨y_62, hy_63, hc_41⟩ := bind_some hc_41
         refine h_ia es259 rfl rfl hy_63 rfl wz (h_fac pl264_1 rfl [.int .i64 y_62.f_to] rfl rfl wz (h_ldc sz3 ag3 rfl (vI y_62.f_to) rfl wz (h_minmax (vI (maxI s_38.2.2 y_62.f_to)) rfl (.inr rfl) wz (h_far pl264_0 rfl 0 rfl wz (h_str 9 (.inr (by kernel_rfl)) (fun _ _ ag => ⟨.inr (.inr (by kernel_rfl)), trivial⟩) 1 sz3 rfl rfl [(vI (maxI s_38.2.2 y_62.f_to)), (vI x_5.f_to)] rfl wz (h_nil (wH_region (h_op (vI s_38.2.1) wz rfl (h_op (vI (w64 (s_38.2.1 + 1))) wz rfl (h_op (vI (w64 (s_38.2.1 + 1))) wz rfl (h_nil ?_)))))))))))
         obtain rfl := some_inj hc_41
         exact loop_mk (k_33, (v_53, (w64 (s_38.2.1 + 1)), (maxI s_38.2.2 y_62.f_to)), n_55) hL_42 (Nat.lt_succ_self _) rfl (pre_r rfl)
       ·refine wH_iff rfl hc_50 (wH_exit ?_)
        obtain rfl := some_inj hc_41
        obtain rfl := some_inj hL_42
        exact cut_mk ((s_38.1, s_38.2.1, s_38.2.2), n_40) rfl rfl (pre_r rfl)
    ·rintro ⟨s_38, n_40⟩ ho_ sl_ H_ hp_ hq_
     subst ho_
     refine wH_at _ hp_ hq_ (wH_seq (wH_region (h_far pl264_0 rfl 0 rfl wz (h_ldr 0 1 il ft sz3 ag3 rfl rfl (vI s_38.2.2) rfl wz (h_far pl264_1 rfl 1 rfl wz (h_ldr 0 1 il ft sz3 ag3 rfl rfl (vI x_5.f_to) rfl wz (h_op (vB (decide (s_38.2.2 < x_5.f_to))) wz rfl (h_nil ?_))))))))
     obtain ⟨v_64, h_65, hc_12⟩ := bind_some hc_12
     refine wH_join (β := Nm) (fun (n_66 : Nm) => ([(1, (vL Run.enc m_2)), (5, (gV n_66 2 v_64)), (6, (vI s_22)), (10, (vL Run.enc l_1)), (11, (vI (l_1.length : Int))), (12, (vI (k_3 : Int)))] : List (Nat × V))) (fun (n_66 : Nm) => ([(n_66, gB 2 Run.enc v_64), (n_16, some (.cells 2 [(vI s_38.2.2), (vI x_5.f_to)]))] : Hp)) (fun _ => True) ?_ ?_
     ·rcases cond_some h_65 with ⟨hc_67, h_65⟩ | ⟨hc_67, h_65⟩
      ·refine wH_ift rfl hc_67 (wH_region (h_op (gV n_40 2 s_38.1) wz rfl (h_ldr 0 1 il ft sz264 ag264 rfl rfl (.d (.agg (Run.enc (⟨s_38.2.2, x_5.f_to⟩ : Run)))) rfl wz (h_lit (([(⟨s_38.2.2, x_5.f_to⟩ : Run)] : List Run).map Run.enc) es259 ez259 rfl rfl rfl rfl rfl wz ?_))))
       obtain ⟨a_68, hz_69, h_65⟩ := bind_some h_65
       refine h_appg 0 il ft (i := 0) el259 el259 sz264 z264 rfl (by decide) by264 (by decide) (fun _ => rfl) rfl rfl rfl hz_69 wz (fun n_70 => h_op (gV n_70 2 a_68) wz rfl (h_nil ?_))
       obtain rfl := some_inj h_65
       exact cut_mk n_70 trivial rfl (pre_r rfl)
      ·refine wH_iff rfl hc_67 (wH_skip ?_)
       obtain rfl := some_inj h_65
       exact cut_mk n_40 trivial rfl (pre_r rfl)
     ·rintro n_66 _ sl_ H_ hp_ hq_
      refine wH_at _ hp_ hq_ (wH_region (h_opw (w64_next hD_6 hn_7) wz rfl (h_op (vI ((k_3 + 1 : Nat) : Int)) wz rfl (h_nil ?_))))
      obtain rfl := some_inj hc_12
      exact loop_mk (k_3 + 1, l_4, (v_64, s_22), n_66) ⟨hL_13, drop_next hD_6⟩ (Nat.lt_succ_self _) rfl (pre_r rfl)
 ·rintro ⟨s_8, n_11⟩ ho_ sl_ H_ hp_ hq_
  subst ho_
  refine wH_at _ hp_ hq_ (wH_seq (wH_region (h_op (gV n_11 2 s_8.1) wz rfl (h_op (gV n_11 2 s_8.1) wz rfl (h_nil (wH_frozg 0 rfl (wH_cog 4 0 rfl rfl (wH_cog 5 0 rfl rfl (wH_cog 87 0 rfl rfl ?_)))))))))
  obtain rfl := some_inj hF
  exact wH_ret (fin0 (.inr rfl) [(vL Run.enc s_8.1)] ⟨rfl, trivial⟩ rfl rfl rfl)
theorem slices_Equal_screen_run_screen_run_ok {s1_1 : (List Run)} {s2_2 : (List Run)} {r : Bool} (hF : slices_Equal_screen_run_screen_run s1_1 s2_2 = some r) :
  FnM Tryz.prog 185 [(vL Run.enc s1_1), (vL Run.enc s2_2)] [] (vB r) [] := by
 refine FnM.of_wH ⟨Tryz.prog, 26, [], []⟩ rfl Tryz.func185 rfl rfl (Nat.le_of_ble_eq_true rfl) (by kernel_rfl) ?_
 unfold slices_Equal_screen_run_screen_run at hF
 refine wH_seq (wH_region (h_op (vB false) wz rfl (h_nil (wH_seq (wH_seq (wH_region (h_op (vL Run.enc s1_1) wz rfl (h_len un259 rfl wz (h_op (vL Run.enc s2_2) wz rfl (h_len un259 rfl wz (h_op (vB ((s1_1.length : Int) != (s2_2.length : Int))) wz rfl (h_nil ?_))))))))))))
 rcases cond_some hF with ⟨hc_3, hF⟩ | ⟨hc_3, hF⟩
 ·refine wH_ift rfl hc_3 (wH_seq (wH_region (h_op (vB false) wz rfl (h_nil ?_))))
  obtain rfl := some_inj hF
  exact wH_ret (fin0 (.inr rfl) [(vB false)] ⟨rfl, trivial⟩ rfl rfl rfl)
 ·refine wH_iff rfl hc_3 (wH_skip (wH_seq (wH_seq (wH_region (h_op (vL Run.enc s1_1) wz rfl (h_len un259 rfl wz (h_op (vI 0) wz rfl (h_nil ?_))))))))
  obtain ⟨o_12, hj_13, hF⟩ := bind_some hF
  obtain ⟨hn_8, hj_13⟩ := forL_some hj_13
  refine wH_join (β := (Unit)) (fun (s_9 : Unit) => ([] : List (Nat × V))) (fun (s_9 : Unit) => ([] : Hp)) (fun p => o_12 = .go p) ?_ ?_
  ·refine wH_block (wH_loop (β := Nat × (List Run) × (Unit)) (fun p => (fun (k_4 : Nat) (l_5 : List Run) (s_9 : Unit) => ([(0, (vL Run.enc s1_1)), (1, (vL Run.enc s2_2)), (12, (vI (s1_1.length : Int))), (13, (vI (k_4 : Int)))] : List (Nat × V))) p.1 p.2.1 p.2.2) (fun p => (fun (k_4 : Nat) (l_5 : List Run) (s_9 : Unit) => ([] : Hp)) p.1 p.2.1 p.2.2) (fun p => forR (fun k x s => slices_Equal_screen_run_screen_run_L1 s2_2 k x s) p.2.1 p.1 p.2.2 = some o_12 ∧ (s1_1).drop p.1 = p.2.1) (fun p => p.2.1.length) (0, s1_1, ()) ⟨hj_13, rfl⟩ rfl (pre_r rfl) ?_)
   rintro ⟨k_4, l_5, s_9⟩ ⟨hL_11, hD_7⟩
   dsimp only at hL_11 hD_7
   cases l_5 with
   | nil =>
    obtain rfl := some_inj hL_11
    refine wH_seq (wH_region (h_op (vB (decide ((k_4 : Int) < (s1_1.length : Int)))) wz rfl (h_nil ?_)))
    refine wH_seq (wH_iff rfl (drop_nil hD_7) (wH_exit ?_))
    exact cut_mk (s_9) rfl rfl (pre_r rfl)
   | cons x_6 l_5 =>
    obtain ⟨c_, hc_10, hL_11⟩ := bind_some hL_11
    refine wH_seq (wH_region (h_op (vB (decide ((k_4 : Int) < (s1_1.length : Int)))) wz rfl (h_nil ?_)))
    refine wH_seq (wH_ift rfl (drop_cons hD_7) (wH_skip ?_))
    unfold slices_Equal_screen_run_screen_run_L1 at hc_10
    refine wH_seq (wH_block (wH_seq (wH_region (h_op (vI (k_4 : Int)) wz rfl (h_op (vI (k_4 : Int)) wz rfl (h_nil (wH_seq (wH_draws (h_op (vL Run.enc s1_1) wz rfl (h_op (vI (k_4 : Int)) wz rfl (h_ia es259 rfl rfl (drop_idx hD_7) rfl wz (h_ldc sz264 ag264 rfl (.d (.agg (Run.enc x_6))) rfl wz (h_op (vL Run.enc s2_2) wz rfl (h_op (vI (k_4 : Int)) wz rfl ?_))))))))))))))
    obtain ⟨y_14, hy_15, hc_10⟩ := bind_some hc_10
    refine h_ia es259 rfl rfl hy_15 rfl wz (h_ldc sz264 ag264 rfl (.d (.agg (Run.enc y_14))) rfl wz (h_op (vB (!((x_6.f_from == y_14.f_from) && ((x_6.f_to == y_14.f_to) && true)))) wz (by kernel_rfl) (h_nil ?_)))
    rcases cond_some hc_10 with ⟨hc_16, hc_10⟩ | ⟨hc_16, hc_10⟩
    ·refine wH_ift rfl hc_16 (wH_seq (wH_region (h_op (vB false) wz rfl (h_nil ?_))))
     obtain rfl := some_inj hc_10
     obtain rfl := some_inj hL_11
     obtain rfl := some_inj hF
     exact wH_ret (fin0 (.inr rfl) [(vB false)] ⟨rfl, trivial⟩ rfl rfl rfl)
    ·refine wH_iff rfl hc_16 (wH_skip (wH_region (h_opw (w64_next hD_7 hn_8) wz rfl (h_op (vI ((k_4 + 1 : Nat) : Int)) wz rfl (h_nil ?_)))))
     obtain rfl := some_inj hc_10
     exact loop_mk (k_4 + 1, l_5, ()) ⟨hL_11, drop_next hD_7⟩ (Nat.lt_succ_self _) rfl (pre_r rfl)
  ·rintro s_9 ho_ sl_ H_ hp_ hq_
   subst ho_
   refine wH_at _ hp_ hq_ (wH_seq (wH_region (h_op (vB true) wz rfl (h_nil ?_))))
   obtain rfl := some_inj hF
   exact wH_ret (fin0 (.inr rfl) [(vB true)] ⟨rfl, trivial⟩ rfl rfl rfl)
theorem screen_region_ok {l_1 : (List Rect)} {m_2 : (List Rect)} {r : (List Rect)} (hF : screen_region l_1 m_2 = some r) :
  FnM Tryz.prog 100 [(vL Rect.enc l_1), (vL Rect.enc m_2)] [] (vL Rect.enc r) [] := by
 refine FnM.of_wH ⟨Tryz.prog, 88, [], []⟩ rfl Tryz.func100 rfl rfl (Nat.le_of_ble_eq_true rfl) (by kernel_rfl) ?_
 unfold screen_region at hF
 refine wH_seq (wH_region (h_op .nil wz rfl (h_nil (wH_seq (wH_region (h_op .nil wz rfl (h_nil (wH_seq (wH_seq (wH_region (h_op (vL Rect.enc l_1) wz rfl (h_op (vL Rect.enc m_2) wz rfl (h_lit (([l_1, m_2] : List (List Rect)).map (eL Rect.enc)) es289 ez289 rfl rfl rfl rfl rfl wz ?_)))))))))))))
 obtain ⟨r_3, hr_4, hF⟩ := bind_some hF
 refine h_call0 (slices_Concat_api_Rect_api_Rect_ok hr_4) rfl hb180 rfl rfl rfl rfl wz (h_len un50 rfl wz (h_op (vI 0) wz rfl (h_nil (wH_new (fun n_11 => ?_)))))
 obtain ⟨o_16, hj_17, hF⟩ := bind_some hF
 obtain ⟨hn_9, hj_17⟩ := forL_some hj_17
 refine wH_join (β := ((List Int)) × Nm) (fun p => (fun (s_10 : (List Int)) (n_13 : Nm) => ([(0, (vL Rect.enc l_1)), (1, (vL Rect.enc m_2)), (5, (gV n_13 1 s_10))] : List (Nat × V))) p.1 p.2) (fun p => (fun (s_10 : (List Int)) (n_13 : Nm) => ([(n_13, gB 1 eI s_10)] : Hp)) p.1 p.2) (fun p => o_16 = .go p.1) ?_ ?_
 ·refine wH_block (wH_loop (β := Nat × (List Rect) × ((List Int)) × Nm) (fun p => (fun (k_5 : Nat) (l_6 : List Rect) (s_10 : (List Int)) (n_13 : Nm) => ([(0, (vL Rect.enc l_1)), (1, (vL Rect.enc m_2)), (5, (gV n_13 1 s_10)), (19, (vL Rect.enc r_3)), (20, (vI (r_3.length : Int))), (21, (vI (k_5 : Int)))] : List (Nat × V))) p.1 p.2.1 p.2.2.1 p.2.2.2) (fun p => (fun (k_5 : Nat) (l_6 : List Rect) (s_10 : (List Int)) (n_13 : Nm) => ([(n_13, gB 1 eI s_10)] : Hp)) p.1 p.2.1 p.2.2.1 p.2.2.2) (fun p => forR (fun k x s => screen_region_L1 k x s) p.2.1 p.1 p.2.2.1 = some o_16 ∧ (r_3).drop p.1 = p.2.1) (fun p => p.2.1.length) (0, r_3, ([] : List Int), n_11) ⟨hj_17, rfl⟩ rfl (pre_r rfl) ?_)
  rintro ⟨k_5, l_6, s_10, n_13⟩ ⟨hL_15, hD_8⟩
  dsimp only at hL_15 hD_8
  cases l_6 with
  | nil =>
   obtain rfl := some_inj hL_15
   refine wH_seq (wH_region (h_op (vB (decide ((k_5 : Int) < (r_3.length : Int)))) wz rfl (h_nil ?_)))
   refine wH_seq (wH_iff rfl (drop_nil hD_8) (wH_exit ?_))
   exact cut_mk (s_10, n_13) rfl rfl (pre_r rfl)
  | cons x_7 l_6 =>
   obtain ⟨c_, hc_14, hL_15⟩ := bind_some hL_15
   refine wH_seq (wH_region (h_op (vB (decide ((k_5 : Int) < (r_3.length : Int)))) wz rfl (h_nil ?_)))
   refine wH_seq (wH_ift rfl (drop_cons hD_8) (wH_skip ?_))
   unfold screen_region_L1 at hc_14
   refine wH_seq (wH_block (wH_seq (wH_region (h_ia es50 rfl rfl (drop_idx hD_8) rfl wz (h_ldc sz45 ag45 rfl (.d (.agg (Rect.enc x_7))) rfl wz (h_alloc 0 (.inl rfl) z45 rfl wz (fun n_18 => h_str 0 il ft 1 sz45 rfl rfl [(vI x_7.X), (vI x_7.Y), (vI x_7.W), (vI x_7.H)] rfl wz (h_nil (wH_region (h_op (gV n_13 1 s_10) wz rfl (h_far pl45_1 rfl 1 rfl wz (h_ldr 0 1 il ft sz3 ag3 rfl rfl (vI x_7.Y) rfl wz (h_far pl45_1 rfl 1 rfl wz (h_ldr 0 1 il ft sz3 ag3 rfl rfl (vI x_7.Y) rfl wz (h_far pl45_3 rfl 3 rfl wz (h_ldr 0 1 il ft sz3 ag3 rfl rfl (vI x_7.H) rfl wz (h_op (vI (w64 (x_7.Y + x_7.H))) wz rfl (h_lit (([x_7.Y, (w64 (x_7.Y + x_7.H))] : List Int).map eI) es22 ez22 rfl rfl rfl rfl rfl wz ?_))))))))))))))))))
   obtain ⟨a_19, hz_20, hc_14⟩ := bind_some hc_14
   refine h_appg 0 il ft (i := 0) el22 el22 sz3 z3 rfl (by decide) by3 (by decide) (fun _ => rfl) rfl rfl rfl hz_20 wz (fun n_21 => h_op (gV n_21 1 a_19) wz rfl (h_nil (wH_region (h_opw (w64_next hD_8 hn_9) wz rfl (h_op (vI ((k_5 + 1 : Nat) : Int)) wz rfl (h_nil ?_))))))
   obtain rfl := some_inj hc_14
   exact loop_mk (k_5 + 1, l_6, a_19, n_21) ⟨hL_15, drop_next hD_8⟩ (Nat.lt_succ_self _) rfl (pre_r rfl)
 ·rintro ⟨s_10, n_13⟩ ho_ sl_ H_ hp_ hq_
  subst ho_
  refine wH_at _ hp_ hq_ (wH_seq (wH_region (h_op (gV n_13 1 s_10) wz rfl ?_)))
  obtain ⟨r_22, hr_23, hF⟩ := bind_some hF
  obtain ⟨_, hs_24, hF⟩ := bind_some hF
  replace hs_24 := sameL_eq hs_24
  refine h_callv 0 [] 0 0 il ft (slices_Sort_int_int_v1_ok hr_23) rfl hb181 rfl rfl rfl (by kernel_rfl) rfl (.inl rfl) rfl (by kernel_rfl) (by kernel_rfl) (by kernel_rfl) (by kernel_rfl) rfl (by decide) (by kernel_rfl) gB_ok (gB_ho hs_24) wz ([(n_13, gB 1 eI r_22)] : Hp) (by kernel_rfl) (h_re (v' := (gV n_13 1 r_22)) 36 rfl (gV_len hs_24.symm) (h_re (v' := (gV n_13 1 r_22)) 5 rfl (gV_len hs_24.symm) (h_nil (wH_seq (wH_region (h_op (gV n_13 1 r_22) wz rfl ?_))))))
  obtain ⟨r_25, hr_26, hF⟩ := bind_some hF
  refine h_callv 0 [] 0 0 il ft (slices_Compact_int_int_v1_ok hr_26) rfl hb182 rfl rfl rfl (by kernel_rfl) rfl (.inl rfl) rfl (by kernel_rfl) (by kernel_rfl) (by kernel_rfl) (by kernel_rfl) rfl (by decide) (by kernel_rfl) none_ok (fun _ => rfl) wz ([(n_13, none)] : Hp) (by kernel_rfl) (h_op (vL eI r_25) wz rfl (h_nil (wH_seq (wH_region (h_op .nil wz rfl (h_nil (wH_seq (wH_region (h_op .nil wz rfl (h_nil (wH_seq (wH_region (h_op (vI 0) wz rfl (h_nil (wH_seq (wH_seq (wH_region (h_op (vL eI r_25) wz rfl (h_len un22 rfl wz (h_op (vI 0) wz rfl (h_nil (wH_nilL Run.enc 9 rfl (wH_new (fun n_33 => ?_))))))))))))))))))))))))
  obtain ⟨o_38, hj_39, hF⟩ := bind_some hF
  obtain ⟨hn_31, hj_39⟩ := forL_some hj_39
  refine wH_join (β := ((List Rect) × (List Run) × Int) × Nm) (fun p => (fun (s_32 : (List Rect) × (List Run) × Int) (n_35 : Nm) => ([(8, (gV n_35 4 s_32.1))] : List (Nat × V))) p.1 p.2) (fun p => (fun (s_32 : (List Rect) × (List Run) × Int) (n_35 : Nm) => ([(n_13, none), (n_35, gB 4 Rect.enc s_32.1)] : Hp)) p.1 p.2) (fun p => o_38 = .go p.1) ?_ ?_
  ·refine wH_block (wH_loop (β := Nat × (List Int) × ((List Rect) × (List Run) × Int) × Nm) (fun p => (fun (k_27 : Nat) (l_28 : List Int) (s_32 : (List Rect) × (List Run) × Int) (n_35 : Nm) => ([(0, (vL Rect.enc l_1)), (1, (vL Rect.enc m_2)), (5, (vL eI r_25)), (8, (gV n_35 4 s_32.1)), (9, (vL Run.enc s_32.2.1)), (10, (vI s_32.2.2)), (40, (vL eI r_25)), (41, (vI (r_25.length : Int))), (42, (vI (k_27 : Int)))] : List (Nat × V))) p.1 p.2.1 p.2.2.1 p.2.2.2) (fun p => (fun (k_27 : Nat) (l_28 : List Int) (s_32 : (List Rect) × (List Run) × Int) (n_35 : Nm) => ([(n_13, none), (n_35, gB 4 Rect.enc s_32.1)] : Hp)) p.1 p.2.1 p.2.2.1 p.2.2.2) (fun p => forR (fun k x s => screen_region_L3 r_25 l_1 m_2 k x s) p.2.1 p.1 p.2.2.1 = some o_38 ∧ (r_25).drop p.1 = p.2.1) (fun p => p.2.1.length) (0, r_25, (([] : List Rect), ([] : List Run), 0), n_33) ⟨hj_39, rfl⟩ rfl (pre_r rfl) ?_)
   rintro ⟨k_27, l_28, s_32, n_35⟩ ⟨hL_37, hD_30⟩
   dsimp only at hL_37 hD_30
   cases l_28 with
   | nil =>
    obtain rfl := some_inj hL_37
    refine wH_seq (wH_region (h_op (vB (decide ((k_27 : Int) < (r_25.length : Int)))) wz rfl (h_nil ?_)))
    refine wH_seq (wH_iff rfl (drop_nil hD_30) (wH_exit ?_))
    exact cut_mk (s_32, n_35) rfl rfl (pre_r rfl)
   | cons x_29 l_28 =>
    obtain ⟨c_, hc_36, hL_37⟩ := bind_some hL_37
    refine wH_seq (wH_region (h_op (vB (decide ((k_27 : Int) < (r_25.length : Int)))) wz rfl (h_nil ?_)))
    refine wH_seq (wH_ift rfl (drop_cons hD_30) (wH_skip ?_))
    unfold screen_region_L3 at hc_36
    refine wH_seq (wH_block (wH_seq (wH_region (h_op (vI (k_27 : Int)) wz rfl (h_ia es22 rfl rfl (drop_idx hD_30) rfl wz (h_ldc sz3 ag3 rfl (vI x_29) rfl wz (h_op (vI (k_27 : Int)) wz rfl (h_op (vI x_29) wz rfl (h_nil (wH_seq (wH_region (h_op .nil wz rfl (h_nil (wH_seq (wH_seq (wH_region (h_op (vI (k_27 : Int)) wz rfl (h_op (vI (w64 ((k_27 : Int) + 1))) wz rfl (h_op (vL eI r_25) wz rfl (h_len un22 rfl wz (h_op (vB (decide ((w64 ((k_27 : Int) + 1)) < (r_25.length : Int)))) wz rfl (h_nil (wH_nilL Run.enc 13 rfl ?_)))))))))))))))))))))))
    obtain ⟨v_42, h_43, hc_36⟩ := bind_some hc_36
    refine wH_join (β := Unit) (fun _ => ([(0, (vL Rect.enc l_1)), (1, (vL Rect.enc m_2)), (5, (vL eI r_25)), (8, (gV n_35 4 s_32.1)), (9, (vL Run.enc s_32.2.1)), (10, (vI s_32.2.2)), (12, (vI x_29)), (13, (vL Run.enc v_42)), (40, (vL eI r_25)), (41, (vI (r_25.length : Int))), (42, (vI (k_27 : Int)))] : List (Nat × V))) (fun _ => ([(n_13, none), (n_35, gB 4 Rect.enc s_32.1)] : Hp)) (fun _ => True) ?_ ?_
    ·rcases cond_some h_43 with ⟨hc_44, h_43⟩ | ⟨hc_44, h_43⟩
     ·refine wH_ift rfl hc_44 (wH_region (h_op (vL Rect.enc l_1) wz rfl (h_op (vI x_29) wz rfl ?_)))
      obtain ⟨r_45, hr_46, h_43⟩ := bind_some h_43
      refine h_call0 (screen_runs_ok hr_46) rfl hb184 rfl rfl rfl rfl wz (h_op (vL Rect.enc m_2) wz rfl (h_op (vI x_29) wz rfl ?_))
      obtain ⟨r_47, hr_48, h_43⟩ := bind_some h_43
      refine h_call0 (screen_runs_ok hr_48) rfl hb184 rfl rfl rfl rfl wz ?_
      obtain ⟨r_49, hr_50, h_43⟩ := bind_some h_43
      refine h_call0 (screen_less_ok hr_50) rfl hb183 rfl rfl rfl rfl wz (h_op (vL Run.enc r_49) wz rfl (h_nil ?_))
      obtain rfl := some_inj h_43
      exact cu
     ·refine wH_iff rfl hc_44 (wH_skip ?_)
      obtain rfl := some_inj h_43
      exact cu
    ·rintro ⟨⟩ _ sl_ H_ hp_ hq_
     refine wH_at _ hp_ hq_ (wH_seq (wH_seq (wH_region (h_op (vL Run.enc s_32.2.1) wz rfl (h_op (vL Run.enc v_42) wz rfl ?_)))))
     obtain ⟨r_51, hr_52, hc_36⟩ := bind_some hc_36
     refine h_call0 (slices_Equal_screen_run_screen_run_ok hr_52) rfl hb185 rfl rfl rfl rfl wz (h_nil ?_)
     rcases cond_some hc_36 with ⟨hc_53, hc_36⟩ | ⟨hc_53, hc_36⟩
     ·refine wH_ift rfl hc_53 (wH_exit (wH_region (h_opw (w64_next hD_30 hn_31) wz rfl (h_op (vI ((k_27 + 1 : Nat) : Int)) wz rfl (h_nil ?_)))))
      obtain rfl := some_inj hc_36
      exact loop_mk (k_27 + 1, l_28, (s_32.1, s_32.2.1, s_32.2.2), n_35) ⟨hL_37, drop_next hD_30⟩ (Nat.lt_succ_self _) rfl (pre_r rfl)
     ·refine wH_iff rfl hc_53 (wH_skip (wH_seq (wH_seq (wH_region (h_op (vL Run.enc s_32.2.1) wz rfl (h_len un259 rfl wz (h_op (vI 0) wz rfl (h_nil ?_))))))))
      obtain ⟨o_64, hj_65, hc_36⟩ := bind_some hc_36
      obtain ⟨hn_58, hj_65⟩ := forL_some hj_65
      refine wH_join (β := ((List Rect)) × Nm) (fun p => (fun (s_59 : (List Rect)) (n_61 : Nm) => ([(0, (vL Rect.enc l_1)), (1, (vL Rect.enc m_2)), (5, (vL eI r_25)), (8, (gV n_61 4 s_59)), (12, (vI x_29)), (13, (vL Run.enc v_42)), (40, (vL eI r_25)), (41, (vI (r_25.length : Int))), (42, (vI (k_27 : Int)))] : List (Nat × V))) p.1 p.2) (fun p => (fun (s_59 : (List Rect)) (n_61 : Nm) => ([(n_13, none), (n_61, gB 4 Rect.enc s_59)] : Hp)) p.1 p.2) (fun p => o_64 = .go p.1) ?_ ?_
      ·refine wH_block (wH_loop (β := Nat × (List Run) × ((List Rect)) × Nm) (fun p => (fun (k_54 : Nat) (l_55 : List Run) (s_59 : (List Rect)) (n_61 : Nm) => ([(0, (vL Rect.enc l_1)), (1, (vL Rect.enc m_2)), (5, (vL eI r_25)), (8, (gV n_61 4 s_59)), (10, (vI s_32.2.2)), (12, (vI x_29)), (13, (vL Run.enc v_42)), (40, (vL eI r_25)), (41, (vI (r_25.length : Int))), (42, (vI (k_27 : Int))), (62, (vL Run.enc s_32.2.1)), (63, (vI (s_32.2.1.length : Int))), (64, (vI (k_54 : Int)))] : List (Nat × V))) p.1 p.2.1 p.2.2.1 p.2.2.2) (fun p => (fun (k_54 : Nat) (l_55 : List Run) (s_59 : (List Rect)) (n_61 : Nm) => ([(n_13, none), (n_61, gB 4 Rect.enc s_59)] : Hp)) p.1 p.2.1 p.2.2.1 p.2.2.2) (fun p => forR (fun k x s => screen_region_L2 s_32 x_29 k x s) p.2.1 p.1 p.2.2.1 = some o_64 ∧ (s_32.2.1).drop p.1 = p.2.1) (fun p => p.2.1.length) (0, s_32.2.1, s_32.1, n_35) ⟨hj_65, rfl⟩ rfl (pre_r rfl) ?_)
       rintro ⟨k_54, l_55, s_59, n_61⟩ ⟨hL_63, hD_57⟩
       dsimp only at hL_63 hD_57
       cases l_55 with
       | nil =>
        obtain rfl := some_inj hL_63
        refine wH_seq (wH_region (h_op (vB (decide ((k_54 : Int) < (s_32.2.1.length : Int)))) wz rfl (h_nil ?_)))
        refine wH_seq (wH_iff rfl (drop_nil hD_57) (wH_exit ?_))
        exact cut_mk (s_59, n_61) rfl rfl (pre_r rfl)
       | cons x_56 l_55 =>
        obtain ⟨c_, hc_62, hL_63⟩ := bind_some hL_63
        refine wH_seq (wH_region (h_op (vB (decide ((k_54 : Int) < (s_32.2.1.length : Int)))) wz rfl (h_nil ?_)))
        refine wH_seq (wH_ift rfl (drop_cons hD_57) (wH_skip ?_))
        unfold screen_region_L2 at hc_62
        refine wH_seq (wH_block (wH_seq (wH_region (h_ia es259 rfl rfl (drop_idx hD_57) rfl wz (h_ldc sz264 ag264 rfl (.d (.agg (Run.enc x_56))) rfl wz (h_alloc 0 (.inl rfl) z264 rfl wz (fun n_66 => h_str 0 il ft 2 sz264 rfl rfl [(vI x_56.f_from), (vI x_56.f_to)] rfl wz (h_nil (wH_region (h_op (gV n_61 4 s_59) wz rfl (h_far pl264_0 rfl 0 rfl wz (h_ldr 0 2 il ft sz3 ag3 rfl rfl (vI x_56.f_from) rfl wz (h_op (vI s_32.2.2) wz rfl (h_far pl264_1 rfl 1 rfl wz (h_ldr 0 2 il ft sz3 ag3 rfl rfl (vI x_56.f_to) rfl wz (h_far pl264_0 rfl 0 rfl wz (h_ldr 0 2 il ft sz3 ag3 rfl rfl (vI x_56.f_from) rfl wz (h_op (vI (w64 (x_56.f_to - x_56.f_from))) wz rfl (h_op (vI x_29) wz rfl (h_op (vI s_32.2.2) wz rfl (h_op (vI (w64 (x_29 - s_32.2.2))) wz rfl (h_op (.d (.agg (Rect.enc (⟨x_56.f_from, s_32.2.2, (w64 (x_56.f_to - x_56.f_from)), (w64 (x_29 - s_32.2.2))⟩ : Rect)))) wz (by kernel_rfl) (h_lit (([(⟨x_56.f_from, s_32.2.2, (w64 (x_56.f_to - x_56.f_from)), (w64 (x_29 - s_32.2.2))⟩ : Rect)] : List Rect).map Rect.enc) es50 ez50 rfl rfl rfl rfl rfl wz ?_)))))))))))))))))))))))
        obtain ⟨a_67, hz_68, hc_62⟩ := bind_some hc_62
        refine h_appg 0 il ft (i := 1) el50 el50 sz45 z45 rfl (by decide) by45 (by decide) (fun _ => rfl) rfl rfl rfl hz_68 wz (fun n_69 => h_op (gV n_69 4 a_67) wz rfl (h_nil (wH_region (h_opw (w64_next hD_57 hn_58) wz rfl (h_op (vI ((k_54 + 1 : Nat) : Int)) wz rfl (h_nil ?_))))))
        obtain rfl := some_inj hc_62
        exact loop_mk (k_54 + 1, l_55, a_67, n_69) ⟨hL_63, drop_next hD_57⟩ (Nat.lt_succ_self _) rfl (pre_r rfl)
      ·rintro ⟨s_59, n_61⟩ ho_ sl_ H_ hp_ hq_
       subst ho_
       refine wH_at _ hp_ hq_ (wH_region (h_op (vL Run.enc v_42) wz rfl (h_op (vI x_29) wz rfl (h_op (vL Run.enc v_42) wz rfl (h_op (vI x_29) wz rfl (h_nil (wH_region (h_opw (w64_next hD_30 hn_31) wz rfl (h_op (vI ((k_27 + 1 : Nat) : Int)) wz rfl (h_nil ?_))))))))))
       obtain rfl := some_inj hc_36
       exact loop_mk (k_27 + 1, l_28, (s_59, v_42, x_29), n_61) ⟨hL_37, drop_next hD_30⟩ (Nat.lt_succ_self _) rfl (pre_r rfl)
  ·rintro ⟨s_32, n_35⟩ ho_ sl_ H_ hp_ hq_
   subst ho_
   refine wH_at _ hp_ hq_ (wH_seq (wH_region (h_op (gV n_35 4 s_32.1) wz rfl (h_op (gV n_35 4 s_32.1) wz rfl (h_nil (wH_frozg 1 rfl (wH_cog 4 1 rfl rfl (wH_cog 8 1 rfl rfl (wH_cog 87 1 rfl rfl ?_)))))))))
   obtain rfl := some_inj hF
   exact wH_ret (fin0 (.inr rfl) [(vL Rect.enc s_32.1)] ⟨rfl, trivial⟩ rfl rfl rfl)
theorem screen_area_ok {l_1 : (List Rect)} {r : Int} (hF : screen_area l_1 = some r) :
  FnM Tryz.prog 103 [(vL Rect.enc l_1)] [] (vI r) [] := by
 refine FnM.of_wH ⟨Tryz.prog, 21, [], []⟩ rfl Tryz.func103 rfl rfl (Nat.le_of_ble_eq_true rfl) (by kernel_rfl) ?_
 unfold screen_area at hF
 refine wH_seq (wH_region (h_op (vI 0) wz rfl (h_nil (wH_seq (wH_region (h_op (vI 0) wz rfl (h_nil (wH_seq (wH_seq (wH_region (h_op (vL Rect.enc l_1) wz rfl (h_len un50 rfl wz (h_op (vI 0) wz rfl (h_nil ?_))))))))))))))
 obtain ⟨o_10, hj_11, hF⟩ := bind_some hF
 obtain ⟨hn_6, hj_11⟩ := forL_some hj_11
 refine wH_join (β := (Int)) (fun (s_7 : Int) => ([(3, (vI s_7))] : List (Nat × V))) (fun (s_7 : Int) => ([] : Hp)) (fun p => o_10 = .go p) ?_ ?_
 ·refine wH_block (wH_loop (β := Nat × (List Rect) × (Int)) (fun p => (fun (k_2 : Nat) (l_3 : List Rect) (s_7 : Int) => ([(3, (vI s_7)), (6, (vL Rect.enc l_1)), (7, (vI (l_1.length : Int))), (8, (vI (k_2 : Int)))] : List (Nat × V))) p.1 p.2.1 p.2.2) (fun p => (fun (k_2 : Nat) (l_3 : List Rect) (s_7 : Int) => ([] : Hp)) p.1 p.2.1 p.2.2) (fun p => forR (fun k x s => screen_area_L1 k x s) p.2.1 p.1 p.2.2 = some o_10 ∧ (l_1).drop p.1 = p.2.1) (fun p => p.2.1.length) (0, l_1, 0) ⟨hj_11, rfl⟩ rfl (pre_r rfl) ?_)
  rintro ⟨k_2, l_3, s_7⟩ ⟨hL_9, hD_5⟩
  dsimp only at hL_9 hD_5
  cases l_3 with
  | nil =>
   obtain rfl := some_inj hL_9
   refine wH_seq (wH_region (h_op (vB (decide ((k_2 : Int) < (l_1.length : Int)))) wz rfl (h_nil ?_)))
   refine wH_seq (wH_iff rfl (drop_nil hD_5) (wH_exit ?_))
   exact cut_mk (s_7) rfl rfl (pre_r rfl)
  | cons x_4 l_3 =>
   obtain ⟨c_, hc_8, hL_9⟩ := bind_some hL_9
   refine wH_seq (wH_region (h_op (vB (decide ((k_2 : Int) < (l_1.length : Int)))) wz rfl (h_nil ?_)))
   refine wH_seq (wH_ift rfl (drop_cons hD_5) (wH_skip ?_))
   unfold screen_area_L1 at hc_8
   refine wH_seq (wH_block (wH_seq (wH_region (h_ia es50 rfl rfl (drop_idx hD_5) rfl wz (h_ldc sz45 ag45 rfl (.d (.agg (Rect.enc x_4))) rfl wz (h_alloc 0 (.inl rfl) z45 rfl wz (fun n_12 => h_str 0 il ft 0 sz45 rfl rfl [(vI x_4.X), (vI x_4.Y), (vI x_4.W), (vI x_4.H)] rfl wz (h_nil (wH_region (h_op (vI s_7) wz rfl (h_far pl45_2 rfl 2 rfl wz (h_ldr 0 0 il ft sz3 ag3 rfl rfl (vI x_4.W) rfl wz (h_far pl45_3 rfl 3 rfl wz (h_ldr 0 0 il ft sz3 ag3 rfl rfl (vI x_4.H) rfl wz (h_op (vI (w64 (x_4.W * x_4.H))) wz rfl (h_op (vI (w64 (s_7 + (w64 (x_4.W * x_4.H))))) wz rfl (h_op (vI (w64 (s_7 + (w64 (x_4.W * x_4.H))))) wz rfl (h_nil (wH_region (h_opw (w64_next hD_5 hn_6) wz rfl (h_op (vI ((k_2 + 1 : Nat) : Int)) wz rfl (h_nil ?_))))))))))))))))))))))
   obtain rfl := some_inj hc_8
   exact loop_mk (k_2 + 1, l_3, (w64 (s_7 + (w64 (x_4.W * x_4.H))))) ⟨hL_9, drop_next hD_5⟩ (Nat.lt_succ_self _) rfl (pre_r rfl)
 ·rintro s_7 ho_ sl_ H_ hp_ hq_
  subst ho_
  refine wH_at _ hp_ hq_ (wH_seq (wH_region (h_op (vI s_7) wz rfl (h_op (vI s_7) wz rfl (h_nil ?_)))))
  obtain rfl := some_inj hF
  exact wH_ret (fin0 (.inr rfl) [(vI s_7)] ⟨rfl, trivial⟩ rfl rfl rfl)
theorem screen_Area_ok {l_1 : (List Rect)} {r : Int × Int} (hF : screen_Area l_1 = some r) :
  FnM Tryz.prog 89 [(vL Rect.enc l_1)] [] (.tup [(vI r.1), (vI r.2)]) [] := by
 refine FnM.of_wH ⟨Tryz.prog, 13, [], []⟩ rfl Tryz.func89 rfl rfl (Nat.le_of_ble_eq_true rfl) (by kernel_rfl) ?_
 unfold screen_Area at hF
 refine wH_seq (wH_region (h_op (vI 0) wz rfl (h_op (vI 0) wz rfl (h_nil (wH_seq (wH_seq (wH_region (h_op (vL Rect.enc l_1) wz rfl ?_))))))))
 obtain ⟨r_2, hr_3, hF⟩ := bind_some hF
 refine h_call0 (screen_rectsFault_ok hr_3) rfl hb111 rfl rfl rfl rfl wz (h_op (vI r_2) wz rfl (h_nil (wH_seq (wH_region (h_op (vI r_2) wz rfl (h_op (vB (r_2 != 0)) wz rfl (h_nil ?_)))))))
 rcases cond_some hF with ⟨hc_4, hF⟩ | ⟨hc_4, hF⟩
 ·refine wH_ift rfl hc_4 (wH_seq (wH_region (h_op (vI r_2) wz rfl (h_op (vI 0) wz rfl (h_op (vI r_2) wz rfl (h_nil ?_))))))
  obtain rfl := some_inj hF
  exact wH_ret (fin0 (.inr rfl) [(vI 0), (vI r_2)] ⟨rfl, ⟨rfl, trivial⟩⟩ rfl rfl rfl)
 ·refine wH_iff rfl hc_4 (wH_skip (wH_seq (wH_region (h_op (vL Rect.enc l_1) wz rfl ?_))))
  obtain ⟨r_5, hr_6, hF⟩ := bind_some hF
  refine h_call0 (screen_region_ok hr_6) rfl hb100 rfl rfl rfl rfl wz ?_
  obtain ⟨r_7, hr_8, hF⟩ := bind_some hF
  refine h_call0 (screen_area_ok hr_8) rfl hb103 rfl rfl rfl rfl wz (h_op (vI r_7) wz rfl (h_op (vI 0) wz rfl (h_nil ?_)))
  obtain rfl := some_inj hF
  exact wH_ret (fin0 (.inr rfl) [(vI r_7), (vI 0)] ⟨rfl, ⟨rfl, trivial⟩⟩ rfl rfl rfl)
theorem kit_IsDay_ok {n_1 : Int} {r : Bool} (hF : kit_IsDay n_1 = some r) :
  FnM Tryz.prog 299 [(vI n_1)] [] (vB r) [] := by
 refine FnM.of_wH ⟨Tryz.prog, 9, [], []⟩ rfl Tryz.func299 rfl rfl (Nat.le_of_ble_eq_true rfl) (by kernel_rfl) ?_
 unfold kit_IsDay at hF
 refine wH_seq (wH_region (h_op (vB false) wz rfl (h_nil (wH_seq ?_))))
 obtain ⟨v_2, h_3, hF⟩ := bind_some hF
 refine wH_join (β := Unit) (fun _ => ([(2, (vB v_2))] : List (Nat × V))) (fun _ => ([] : Hp)) (fun _ => True) ?_ ?_
 ·refine wH_region (h_op (vI n_1) wz rfl (h_op (vB (decide (n_1 ≥ 0))) wz rfl ?_))
  rcases cond_some h_3 with ⟨hc_4, h_3⟩ | ⟨hc_4, h_3⟩
  ·refine h_movb rfl hc_4 wz (h_op (vI n_1) wa rfl (h_op (vB (decide (n_1 ≤ 4000))) wa rfl (h_op (vB (decide (n_1 ≤ 4000))) wz rfl (h_op (vB (decide (n_1 ≤ 4000))) wz rfl (h_nil ?_)))))
   obtain rfl := some_inj h_3
   exact cu
  ·refine h_movb rfl hc_4 wz (h_skip wa (h_skip wa (h_op (vB false) wz rfl (h_op (vB false) wz rfl (h_nil ?_)))))
   obtain rfl := some_inj h_3
   exact cu
 ·rintro ⟨⟩ _ sl_ H_ hp_ hq_
  refine wH_at _ hp_ hq_ ?_
  obtain rfl := some_inj hF
  exact wH_ret (fin0 (.inr rfl) [(vB v_2)] ⟨rfl, trivial⟩ rfl rfl rfl)
theorem schedule_exceptFault_ok {l_1 : (List Int)} {r : Int} (hF : schedule_exceptFault l_1 = some r) :
  FnM Tryz.prog 262 [(vL eI l_1)] [] (vI r) [] := by
 refine FnM.of_wH ⟨Tryz.prog, 30, [], []⟩ rfl Tryz.func262 rfl rfl (Nat.le_of_ble_eq_true rfl) (by kernel_rfl) ?_
 unfold schedule_exceptFault at hF
 refine wH_seq (wH_region (h_op (vI 0) wz rfl (h_nil (wH_seq (wH_seq (wH_region (h_op (vL eI l_1) wz rfl (h_len un22 rfl wz (h_op (vB (decide ((l_1.length : Int) > 100))) wz rfl (h_nil ?_))))))))))
 rcases cond_some hF with ⟨hc_2, hF⟩ | ⟨hc_2, hF⟩
 ·refine wH_ift rfl hc_2 (wH_seq (wH_region (h_op (vI 2) wz rfl (h_nil ?_))))
  obtain rfl := some_inj hF
  exact wH_ret (fin0 (.inr rfl) [(vI 2)] ⟨rfl, trivial⟩ rfl rfl rfl)
 ·refine wH_iff rfl hc_2 (wH_skip (wH_seq (wH_seq (wH_region (h_op (vL eI l_1) wz rfl (h_len un22 rfl wz (h_op (vI 0) wz rfl (h_nil ?_))))))))
  obtain ⟨o_11, hj_12, hF⟩ := bind_some hF
  obtain ⟨hn_7, hj_12⟩ := forL_some hj_12
  refine wH_join (β := (Unit)) (fun (s_8 : Unit) => ([] : List (Nat × V))) (fun (s_8 : Unit) => ([] : Hp)) (fun p => o_11 = .go p) ?_ ?_
  ·refine wH_block (wH_loop (β := Nat × (List Int) × (Unit)) (fun p => (fun (k_3 : Nat) (l_4 : List Int) (s_8 : Unit) => ([(0, (vL eI l_1)), (8, (vL eI l_1)), (9, (vI (l_1.length : Int))), (10, (vI (k_3 : Int)))] : List (Nat × V))) p.1 p.2.1 p.2.2) (fun p => (fun (k_3 : Nat) (l_4 : List Int) (s_8 : Unit) => ([] : Hp)) p.1 p.2.1 p.2.2) (fun p => forR (fun k x s => schedule_exceptFault_L1 l_1 k x s) p.2.1 p.1 p.2.2 = some o_11 ∧ (l_1).drop p.1 = p.2.1) (fun p => p.2.1.length) (0, l_1, ()) ⟨hj_12, rfl⟩ rfl (pre_r rfl) ?_)
   rintro ⟨k_3, l_4, s_8⟩ ⟨hL_10, hD_6⟩
   dsimp only at hL_10 hD_6
   cases l_4 with
   | nil =>
    obtain rfl := some_inj hL_10
    refine wH_seq (wH_region (h_op (vB (decide ((k_3 : Int) < (l_1.length : Int)))) wz rfl (h_nil ?_)))
    refine wH_seq (wH_iff rfl (drop_nil hD_6) (wH_exit ?_))
    exact cut_mk (s_8) rfl rfl (pre_r rfl)
   | cons x_5 l_4 =>
    obtain ⟨c_, hc_9, hL_10⟩ := bind_some hL_10
    refine wH_seq (wH_region (h_op (vB (decide ((k_3 : Int) < (l_1.length : Int)))) wz rfl (h_nil ?_)))
    refine wH_seq (wH_ift rfl (drop_cons hD_6) (wH_skip ?_))
    unfold schedule_exceptFault_L1 at hc_9
    refine wH_seq (wH_block (wH_seq (wH_region (h_op (vI (k_3 : Int)) wz rfl (h_ia es22 rfl rfl (drop_idx hD_6) rfl wz (h_ldc sz3 ag3 rfl (vI x_5) rfl wz (h_op (vI (k_3 : Int)) wz rfl (h_op (vI x_5) wz rfl (h_nil (wH_seq (wH_seq (wH_region (h_op (vI x_5) wz rfl ?_)))))))))))))
    obtain ⟨r_13, hr_14, hc_9⟩ := bind_some hc_9
    refine h_call0 (kit_IsDay_ok hr_14) rfl hb299 rfl rfl rfl rfl wz (h_op (vB (!r_13)) wz rfl (h_nil ?_))
    rcases cond_some hc_9 with ⟨hc_15, hc_9⟩ | ⟨hc_15, hc_9⟩
    ·refine wH_ift rfl hc_15 (wH_seq (wH_region (h_op (vI 1) wz rfl (h_nil ?_))))
     obtain rfl := some_inj hc_9
     obtain rfl := some_inj hL_10
     obtain rfl := some_inj hF
     exact wH_ret (fin0 (.inr rfl) [(vI 1)] ⟨rfl, trivial⟩ rfl rfl rfl)
    ·refine wH_iff rfl hc_15 (wH_skip (wH_seq ?_))
     obtain ⟨v_16, h_17, hc_9⟩ := bind_some hc_9
     refine wH_join (β := Unit) (fun _ => ([(0, (vL eI l_1)), (8, (vL eI l_1)), (9, (vI (l_1.length : Int))), (10, (vI (k_3 : Int))), (28, (vB v_16))] : List (Nat × V))) (fun _ => ([] : Hp)) (fun _ => True) ?_ ?_
     ·refine wH_region (h_op (vI (k_3 : Int)) wz rfl (h_op (vB (decide ((k_3 : Int) > 0))) wz rfl ?_))
      rcases cond_some h_17 with ⟨hc_18, h_17⟩ | ⟨hc_18, h_17⟩
      ·refine h_movb rfl hc_18 wz (h_op (vI x_5) wa rfl (h_op (vL eI l_1) wa rfl (h_op (vI (k_3 : Int)) wa rfl (h_op (vI (w64 ((k_3 : Int) - 1))) wa rfl ?_))))
       obtain ⟨y_19, hy_20, h_17⟩ := bind_some h_17
       refine h_ia es22 rfl rfl hy_20 rfl wa (h_ldc sz3 ag3 rfl (vI y_19) rfl wa (h_op (vB (decide (x_5 ≤ y_19))) wa rfl (h_op (vB (decide (x_5 ≤ y_19))) wz rfl (h_nil ?_))))
       obtain rfl := some_inj h_17
       exact cu
      ·refine h_movb rfl hc_18 wz (h_skip wa (h_skip wa (h_skip wa (h_skip wa (h_skip wa (h_skip wa (h_skip wa (h_op (vB false) wz rfl (h_nil ?_)))))))))
       obtain rfl := some_inj h_17
       exact cu
     ·rintro ⟨⟩ _ sl_ H_ hp_ hq_
      refine wH_at _ hp_ hq_ ?_
      rcases cond_some hc_9 with ⟨hc_21, hc_9⟩ | ⟨hc_21, hc_9⟩
      ·refine wH_ift rfl hc_21 (wH_seq (wH_region (h_op (vI 7) wz rfl (h_nil ?_))))
       obtain rfl := some_inj hc_9
       obtain rfl := some_inj hL_10
       obtain rfl := some_inj hF
       exact wH_ret (fin0 (.inr rfl) [(vI 7)] ⟨rfl, trivial⟩ rfl rfl rfl)
      ·refine wH_iff rfl hc_21 (wH_skip (wH_region (h_opw (w64_next hD_6 hn_7) wz rfl (h_op (vI ((k_3 + 1 : Nat) : Int)) wz rfl (h_nil ?_)))))
       obtain rfl := some_inj hc_9
       exact loop_mk (k_3 + 1, l_4, ()) ⟨hL_10, drop_next hD_6⟩ (Nat.lt_succ_self _) rfl (pre_r rfl)
  ·rintro s_8 ho_ sl_ H_ hp_ hq_
   subst ho_
   refine wH_at _ hp_ hq_ (wH_seq (wH_region (h_op (vI 0) wz rfl (h_nil ?_))))
   obtain rfl := some_inj hF
   exact wH_ret (fin0 (.inr rfl) [(vI 0)] ⟨rfl, trivial⟩ rfl rfl rfl)
theorem kit_RisingFault_ok {l_1 : (List ByteArray)} {r : Int} (hF : kit_RisingFault l_1 = some r) :
  FnM Tryz.prog 265 [(vL eS l_1)] [] (vI r) [] := by
 refine FnM.of_wH ⟨Tryz.prog, 27, [], []⟩ rfl Tryz.func265 rfl rfl (Nat.le_of_ble_eq_true rfl) (by kernel_rfl) ?_
 unfold kit_RisingFault at hF
 refine wH_seq (wH_region (h_op (vI 0) wz rfl (h_nil (wH_seq (wH_seq (wH_region (h_op (vL eS l_1) wz rfl (h_len un80 rfl wz (h_op (vI 0) wz rfl (h_nil ?_))))))))))
 obtain ⟨o_10, hj_11, hF⟩ := bind_some hF
 obtain ⟨hn_6, hj_11⟩ := forL_some hj_11
 refine wH_join (β := (Unit)) (fun (s_7 : Unit) => ([] : List (Nat × V))) (fun (s_7 : Unit) => ([] : Hp)) (fun p => o_10 = .go p) ?_ ?_
 ·refine wH_block (wH_loop (β := Nat × (List ByteArray) × (Unit)) (fun p => (fun (k_2 : Nat) (l_3 : List ByteArray) (s_7 : Unit) => ([(0, (vL eS l_1)), (5, (vL eS l_1)), (6, (vI (l_1.length : Int))), (7, (vI (k_2 : Int)))] : List (Nat × V))) p.1 p.2.1 p.2.2) (fun p => (fun (k_2 : Nat) (l_3 : List ByteArray) (s_7 : Unit) => ([] : Hp)) p.1 p.2.1 p.2.2) (fun p => forR (fun k x s => kit_RisingFault_L1 l_1 k x s) p.2.1 p.1 p.2.2 = some o_10 ∧ (l_1).drop p.1 = p.2.1) (fun p => p.2.1.length) (0, l_1, ()) ⟨hj_11, rfl⟩ rfl (pre_r rfl) ?_)
  rintro ⟨k_2, l_3, s_7⟩ ⟨hL_9, hD_5⟩
  dsimp only at hL_9 hD_5
  cases l_3 with
  | nil =>
   obtain rfl := some_inj hL_9
   refine wH_seq (wH_region (h_op (vB (decide ((k_2 : Int) < (l_1.length : Int)))) wz rfl (h_nil ?_)))
   refine wH_seq (wH_iff rfl (drop_nil hD_5) (wH_exit ?_))
   exact cut_mk (s_7) rfl rfl (pre_r rfl)
  | cons x_4 l_3 =>
   obtain ⟨c_, hc_8, hL_9⟩ := bind_some hL_9
   refine wH_seq (wH_region (h_op (vB (decide ((k_2 : Int) < (l_1.length : Int)))) wz rfl (h_nil ?_)))
   refine wH_seq (wH_ift rfl (drop_cons hD_5) (wH_skip ?_))
   unfold kit_RisingFault_L1 at hc_8
   refine wH_seq (wH_block (wH_seq (wH_region (h_op (vI (k_2 : Int)) wz rfl (h_ia es80 rfl rfl (drop_idx hD_5) rfl wz (h_ldc sz9 ag9 rfl (vS x_4) rfl wz (h_op (vI (k_2 : Int)) wz rfl (h_op (vS x_4) wz rfl (h_nil (wH_seq (wH_seq (wH_region (h_op (vS x_4) wz rfl ?_)))))))))))))
   obtain ⟨r_12, hr_13, hc_8⟩ := bind_some hc_8
   refine h_call0 (kit_IsKey_ok hr_13) rfl hb124 rfl rfl rfl rfl wz (h_op (vB (!r_12)) wz rfl (h_nil ?_))
   rcases cond_some hc_8 with ⟨hc_14, hc_8⟩ | ⟨hc_14, hc_8⟩
   ·refine wH_ift rfl hc_14 (wH_seq (wH_region (h_op (vI 5) wz rfl (h_nil ?_))))
    obtain rfl := some_inj hc_8
    obtain rfl := some_inj hL_9
    obtain rfl := some_inj hF
    exact wH_ret (fin0 (.inr rfl) [(vI 5)] ⟨rfl, trivial⟩ rfl rfl rfl)
   ·refine wH_iff rfl hc_14 (wH_skip (wH_seq ?_))
    obtain ⟨v_15, h_16, hc_8⟩ := bind_some hc_8
    refine wH_join (β := Unit) (fun _ => ([(0, (vL eS l_1)), (5, (vL eS l_1)), (6, (vI (l_1.length : Int))), (7, (vI (k_2 : Int))), (25, (vB v_15))] : List (Nat × V))) (fun _ => ([] : Hp)) (fun _ => True) ?_ ?_
    ·refine wH_region (h_op (vI (k_2 : Int)) wz rfl (h_op (vB (decide ((k_2 : Int) > 0))) wz rfl ?_))
     rcases cond_some h_16 with ⟨hc_17, h_16⟩ | ⟨hc_17, h_16⟩
     ·refine h_movb rfl hc_17 wz (h_op (vS x_4) wa rfl (h_op (vL eS l_1) wa rfl (h_op (vI (k_2 : Int)) wa rfl (h_op (vI (w64 ((k_2 : Int) - 1))) wa rfl ?_))))
      obtain ⟨y_18, hy_19, h_16⟩ := bind_some h_16
      refine h_ia es80 rfl rfl hy_19 rfl wa (h_ldc sz9 ag9 rfl (vS y_18) rfl wa (h_op (vB (sLe x_4 y_18)) wa rfl (h_op (vB (sLe x_4 y_18)) wz rfl (h_nil ?_))))
      obtain rfl := some_inj h_16
      exact cu
     ·refine h_movb rfl hc_17 wz (h_skip wa (h_skip wa (h_skip wa (h_skip wa (h_skip wa (h_skip wa (h_skip wa (h_op (vB false) wz rfl (h_nil ?_)))))))))
      obtain rfl := some_inj h_16
      exact cu
    ·rintro ⟨⟩ _ sl_ H_ hp_ hq_
     refine wH_at _ hp_ hq_ ?_
     rcases cond_some hc_8 with ⟨hc_20, hc_8⟩ | ⟨hc_20, hc_8⟩
     ·refine wH_ift rfl hc_20 (wH_seq (wH_region (h_op (vI 7) wz rfl (h_nil ?_))))
      obtain rfl := some_inj hc_8
      obtain rfl := some_inj hL_9
      obtain rfl := some_inj hF
      exact wH_ret (fin0 (.inr rfl) [(vI 7)] ⟨rfl, trivial⟩ rfl rfl rfl)
     ·refine wH_iff rfl hc_20 (wH_skip (wH_region (h_opw (w64_next hD_5 hn_6) wz rfl (h_op (vI ((k_2 + 1 : Nat) : Int)) wz rfl (h_nil ?_)))))
      obtain rfl := some_inj hc_8
      exact loop_mk (k_2 + 1, l_3, ()) ⟨hL_9, drop_next hD_5⟩ (Nat.lt_succ_self _) rfl (pre_r rfl)
 ·rintro s_7 ho_ sl_ H_ hp_ hq_
  subst ho_
  refine wH_at _ hp_ hq_ (wH_seq (wH_region (h_op (vI 0) wz rfl (h_nil ?_))))
  obtain rfl := some_inj hF
  exact wH_ret (fin0 (.inr rfl) [(vI 0)] ⟨rfl, trivial⟩ rfl rfl rfl)
theorem schedule_tagsFault_ok {l_1 : (List ByteArray)} {r : Int} (hF : schedule_tagsFault l_1 = some r) :
  FnM Tryz.prog 263 [(vL eS l_1)] [] (vI r) [] := by
 refine FnM.of_wH ⟨Tryz.prog, 8, [], []⟩ rfl Tryz.func263 rfl rfl (Nat.le_of_ble_eq_true rfl) (by kernel_rfl) ?_
 unfold schedule_tagsFault at hF
 refine wH_seq (wH_region (h_op (vI 0) wz rfl (h_nil (wH_seq (wH_seq (wH_region (h_op (vL eS l_1) wz rfl (h_len un80 rfl wz (h_op (vB (decide ((l_1.length : Int) > 20))) wz rfl (h_nil ?_))))))))))
 rcases cond_some hF with ⟨hc_2, hF⟩ | ⟨hc_2, hF⟩
 ·refine wH_ift rfl hc_2 (wH_seq (wH_region (h_op (vI 2) wz rfl (h_nil ?_))))
  obtain rfl := some_inj hF
  exact wH_ret (fin0 (.inr rfl) [(vI 2)] ⟨rfl, trivial⟩ rfl rfl rfl)
 ·refine wH_iff rfl hc_2 (wH_skip (wH_seq (wH_region (h_op (vL eS l_1) wz rfl ?_))))
  obtain ⟨r_3, hr_4, hF⟩ := bind_some hF
  refine h_call0 (kit_RisingFault_ok hr_4) rfl hb265 rfl rfl rfl rfl wz (h_op (vI r_3) wz rfl (h_nil ?_))
  obtain rfl := some_inj hF
  exact wH_ret (fin0 (.inr rfl) [(vI r_3)] ⟨rfl, trivial⟩ rfl rfl rfl)
theorem schedule_entryFault_ok {e_1 : Entry} {r : Int} (hF : schedule_entryFault e_1 = some r) :
  FnM Tryz.prog 210 [(.d (.agg (Entry.enc e_1)))] [] (vI r) [] := by
 refine FnM.of_wH ⟨Tryz.prog, 61, [], []⟩ rfl Tryz.func210 rfl rfl (Nat.le_of_ble_eq_true rfl) (by kernel_rfl) ?_
 unfold schedule_entryFault at hF
 refine wH_seq (wH_region (h_box 0 (.inl rfl) [(vS e_1.Key), (vS e_1.Item), (vI e_1.Version), (vI e_1.First), (vI e_1.Last), (vI e_1.Every), (vI e_1.Days), (vL eI e_1.Except), (vI e_1.From), (vI e_1.To), (vI e_1.Prio), (vL eS e_1.Tags), (vB e_1.Gone)] rfl rfl wz (fun n_2 => h_op (vI 0) wz rfl (h_nil (wH_seq (wH_seq ?_))))))
 obtain ⟨v_3, h_4, hF⟩ := bind_some hF
 refine wH_join (β := Unit) (fun _ => ([(1, (.ref n_2 0 0)), (13, (vB v_3))] : List (Nat × V))) (fun _ => ([(n_2, some (.cells 13 [(vS e_1.Key), (vS e_1.Item), (vI e_1.Version), (vI e_1.First), (vI e_1.Last), (vI e_1.Every), (vI e_1.Days), (vL eI e_1.Except), (vI e_1.From), (vI e_1.To), (vI e_1.Prio), (vL eS e_1.Tags), (vB e_1.Gone)]))] : Hp)) (fun _ => True) ?_ ?_
 ·refine wH_region (h_far pl170_0 rfl 0 rfl wz (h_ldr 0 0 il ft sz9 ag9 rfl rfl (vS e_1.Key) rfl wz ?_))
  obtain ⟨r_5, hr_6, h_4⟩ := bind_some h_4
  refine h_call0 (kit_IsKey_ok hr_6) rfl hb124 rfl rfl rfl rfl wz (h_op (vB (!r_5)) wz rfl ?_)
  rcases cond_some h_4 with ⟨hc_7, h_4⟩ | ⟨hc_7, h_4⟩
  ·refine h_movb rfl hc_7 wz (h_skip wa (h_skip wa (h_skip wa (h_skip wa (h_op (vB true) wz rfl (h_nil ?_))))))
   obtain rfl := some_inj h_4
   exact cu
  ·refine h_movb rfl hc_7 wz (h_far pl170_1 rfl 1 rfl wa (h_ldr 0 0 il ft sz9 ag9 rfl rfl (vS e_1.Item) rfl wa ?_))
   obtain ⟨r_8, hr_9, h_4⟩ := bind_some h_4
   refine h_call0 (kit_IsKey_ok hr_9) rfl hb124 rfl rfl rfl rfl wa (h_op (vB (!r_8)) wa rfl (h_op (vB (!r_8)) wz rfl (h_nil ?_)))
   obtain rfl := some_inj h_4
   exact cu
 ·rintro ⟨⟩ _ sl_ H_ hp_ hq_
  refine wH_at _ hp_ hq_ ?_
  rcases cond_some hF with ⟨hc_10, hF⟩ | ⟨hc_10, hF⟩
  ·refine wH_ift rfl hc_10 (wH_seq (wH_region (h_op (vI 5) wz rfl (h_nil ?_))))
   obtain rfl := some_inj hF
   exact wH_ret (fin0 (.inr rfl) [(vI 5)] ⟨rfl, trivial⟩ rfl rfl rfl)
  ·refine wH_iff rfl hc_10 (wH_skip (wH_seq (wH_seq ?_)))
   obtain ⟨v_11, h_12, hF⟩ := bind_some hF
   refine wH_join (β := Unit) (fun _ => ([(1, (.ref n_2 0 0)), (38, (vB v_11))] : List (Nat × V))) (fun _ => ([(n_2, some (.cells 13 [(vS e_1.Key), (vS e_1.Item), (vI e_1.Version), (vI e_1.First), (vI e_1.Last), (vI e_1.Every), (vI e_1.Days), (vL eI e_1.Except), (vI e_1.From), (vI e_1.To), (vI e_1.Prio), (vL eS e_1.Tags), (vB e_1.Gone)]))] : Hp)) (fun _ => True) ?_ ?_
   ·refine wH_region (h_far pl170_2 rfl 2 rfl wz (h_ldr 0 0 il ft sz3 ag3 rfl rfl (vI e_1.Version) rfl wz ?_))
    obtain ⟨r_13, hr_14, h_12⟩ := bind_some h_12
    refine h_call0 (kit_Outside_ok hr_14) rfl hb86 rfl rfl rfl rfl wz ?_
    rcases cond_some h_12 with ⟨hc_15, h_12⟩ | ⟨hc_15, h_12⟩
    ·refine h_movb rfl hc_15 wz (h_skip wa (h_skip wa (h_skip wa (h_skip wa (h_skip wa (h_op (vB true) wz rfl (h_op (vB true) wz rfl (h_skip wa (h_skip wa (h_skip wa (h_op (vB true) wz rfl (h_op (vB true) wz rfl (h_skip wa (h_skip wa (h_skip wa (h_op (vB true) wz rfl (h_op (vB true) wz rfl (h_skip wa (h_skip wa (h_skip wa (h_op (vB true) wz rfl (h_nil ?_))))))))))))))))))))))
     obtain rfl := some_inj h_12
     exact cu
    ·refine h_movb rfl hc_15 wz (h_far pl170_3 rfl 3 rfl wa (h_ldr 0 0 il ft sz3 ag3 rfl rfl (vI e_1.First) rfl wa (h_far pl170_4 rfl 4 rfl wa (h_ldr 0 0 il ft sz3 ag3 rfl rfl (vI e_1.Last) rfl wa ?_))))
     obtain ⟨r_16, hr_17, h_12⟩ := bind_some h_12
     refine h_call0 (kit_Outside_ok hr_17) rfl hb86 rfl rfl rfl rfl wa (h_op (vB r_16) wz rfl ?_)
     rcases cond_some h_12 with ⟨hc_18, h_12⟩ | ⟨hc_18, h_12⟩
     ·refine h_movb rfl hc_18 wz (h_skip wa (h_skip wa (h_skip wa (h_op (vB true) wz rfl (h_op (vB true) wz rfl (h_skip wa (h_skip wa (h_skip wa (h_op (vB true) wz rfl (h_op (vB true) wz rfl (h_skip wa (h_skip wa (h_skip wa (h_op (vB true) wz rfl (h_nil ?_)))))))))))))))
      obtain rfl := some_inj h_12
      exact cu
     ·refine h_movb rfl hc_18 wz (h_far pl170_4 rfl 4 rfl wa (h_ldr 0 0 il ft sz3 ag3 rfl rfl (vI e_1.Last) rfl wa (h_op (vB (decide (e_1.Last > 4000))) wa rfl (h_op (vB (decide (e_1.Last > 4000))) wz rfl ?_))))
      rcases cond_some h_12 with ⟨hc_19, h_12⟩ | ⟨hc_19, h_12⟩
      ·refine h_movb rfl hc_19 wz (h_skip wa (h_skip wa (h_skip wa (h_op (vB true) wz rfl (h_op (vB true) wz rfl (h_skip wa (h_skip wa (h_skip wa (h_op (vB true) wz rfl (h_nil ?_))))))))))
       obtain rfl := some_inj h_12
       exact cu
      ·refine h_movb rfl hc_19 wz (h_far pl170_5 rfl 5 rfl wa (h_ldr 0 0 il ft sz3 ag3 rfl rfl (vI e_1.Every) rfl wa ?_))
       obtain ⟨r_20, hr_21, h_12⟩ := bind_some h_12
       refine h_call0 (kit_Outside_ok hr_21) rfl hb86 rfl rfl rfl rfl wa (h_op (vB r_20) wz rfl ?_)
       rcases cond_some h_12 with ⟨hc_22, h_12⟩ | ⟨hc_22, h_12⟩
       ·refine h_movb rfl hc_22 wz (h_skip wa (h_skip wa (h_skip wa (h_op (vB true) wz rfl (h_nil ?_)))))
        obtain rfl := some_inj h_12
        exact cu
       ·refine h_movb rfl hc_22 wz (h_far pl170_6 rfl 6 rfl wa (h_ldr 0 0 il ft sz3 ag3 rfl rfl (vI e_1.Days) rfl wa ?_))
        obtain ⟨r_23, hr_24, h_12⟩ := bind_some h_12
        refine h_call0 (kit_Outside_ok hr_24) rfl hb86 rfl rfl rfl rfl wa (h_op (vB r_23) wz rfl (h_nil ?_))
        obtain rfl := some_inj h_12
        exact cu
   ·rintro ⟨⟩ _ sl_ H_ hp_ hq_
    refine wH_at _ hp_ hq_ ?_
    rcases cond_some hF with ⟨hc_25, hF⟩ | ⟨hc_25, hF⟩
    ·refine wH_ift rfl hc_25 (wH_seq (wH_region (h_op (vI 1) wz rfl (h_nil ?_))))
     obtain rfl := some_inj hF
     exact wH_ret (fin0 (.inr rfl) [(vI 1)] ⟨rfl, trivial⟩ rfl rfl rfl)
    ·refine wH_iff rfl hc_25 (wH_skip (wH_seq (wH_seq (wH_region (h_far pl170_7 rfl 7 rfl wz (h_ldr 0 0 il ft sz22 ag22 rfl rfl (vL eI e_1.Except) rfl wz ?_))))))
     obtain ⟨r_26, hr_27, hF⟩ := bind_some hF
     refine h_call0 (schedule_exceptFault_ok hr_27) rfl hb262 rfl rfl rfl rfl wz (h_op (vI r_26) wz rfl (h_nil (wH_seq (wH_region (h_op (vI r_26) wz rfl (h_op (vB (r_26 != 0)) wz rfl (h_nil ?_)))))))
     rcases cond_some hF with ⟨hc_28, hF⟩ | ⟨hc_28, hF⟩
     ·refine wH_ift rfl hc_28 (wH_seq (wH_region (h_op (vI r_26) wz rfl (h_op (vI r_26) wz rfl (h_nil ?_)))))
      obtain rfl := some_inj hF
      exact wH_ret (fin0 (.inr rfl) [(vI r_26)] ⟨rfl, trivial⟩ rfl rfl rfl)
     ·refine wH_iff rfl hc_28 (wH_skip (wH_seq (wH_seq ?_)))
      obtain ⟨v_29, h_30, hF⟩ := bind_some hF
      refine wH_join (β := Unit) (fun _ => ([(1, (.ref n_2 0 0)), (57, (vB v_29))] : List (Nat × V))) (fun _ => ([(n_2, some (.cells 13 [(vS e_1.Key), (vS e_1.Item), (vI e_1.Version), (vI e_1.First), (vI e_1.Last), (vI e_1.Every), (vI e_1.Days), (vL eI e_1.Except), (vI e_1.From), (vI e_1.To), (vI e_1.Prio), (vL eS e_1.Tags), (vB e_1.Gone)]))] : Hp)) (fun _ => True) ?_ ?_
      ·refine wH_region (h_far pl170_8 rfl 8 rfl wz (h_ldr 0 0 il ft sz3 ag3 rfl rfl (vI e_1.From) rfl wz ?_))
       obtain ⟨r_31, hr_32, h_30⟩ := bind_some h_30
       refine h_call0 (kit_Outside_ok hr_32) rfl hb86 rfl rfl rfl rfl wz ?_
       rcases cond_some h_30 with ⟨hc_33, h_30⟩ | ⟨hc_33, h_30⟩
       ·refine h_movb rfl hc_33 wz (h_skip wa (h_skip wa (h_skip wa (h_op (vB true) wz rfl (h_op (vB true) wz rfl (h_skip wa (h_skip wa (h_skip wa (h_op (vB true) wz rfl (h_nil ?_))))))))))
        obtain rfl := some_inj h_30
        exact cu
       ·refine h_movb rfl hc_33 wz (h_far pl170_9 rfl 9 rfl wa (h_ldr 0 0 il ft sz3 ag3 rfl rfl (vI e_1.To) rfl wa ?_))
        obtain ⟨r_34, hr_35, h_30⟩ := bind_some h_30
        refine h_call0 (kit_Outside_ok hr_35) rfl hb86 rfl rfl rfl rfl wa (h_op (vB r_34) wz rfl ?_)
        rcases cond_some h_30 with ⟨hc_36, h_30⟩ | ⟨hc_36, h_30⟩
        ·refine h_movb rfl hc_36 wz (h_skip wa (h_skip wa (h_skip wa (h_op (vB true) wz rfl (h_nil ?_)))))
         obtain rfl := some_inj h_30
         exact cu
        ·refine h_movb rfl hc_36 wz (h_far pl170_10 rfl 10 rfl wa (h_ldr 0 0 il ft sz3 ag3 rfl rfl (vI e_1.Prio) rfl wa ?_))
         obtain ⟨r_37, hr_38, h_30⟩ := bind_some h_30
         refine h_call0 (kit_Outside_ok hr_38) rfl hb86 rfl rfl rfl rfl wa (h_op (vB r_37) wz rfl (h_nil ?_))
         obtain rfl := some_inj h_30
         exact cu
      ·rintro ⟨⟩ _ sl_ H_ hp_ hq_
       refine wH_at _ hp_ hq_ ?_
       rcases cond_some hF with ⟨hc_39, hF⟩ | ⟨hc_39, hF⟩
       ·refine wH_ift rfl hc_39 (wH_seq (wH_region (h_op (vI 1) wz rfl (h_nil ?_))))
        obtain rfl := some_inj hF
        exact wH_ret (fin0 (.inr rfl) [(vI 1)] ⟨rfl, trivial⟩ rfl rfl rfl)
       ·refine wH_iff rfl hc_39 (wH_skip (wH_seq (wH_region (h_far pl170_11 rfl 11 rfl wz (h_ldr 0 0 il ft sz80 ag80 rfl rfl (vL eS e_1.Tags) rfl wz ?_)))))
        obtain ⟨r_40, hr_41, hF⟩ := bind_some hF
        refine h_call0 (schedule_tagsFault_ok hr_41) rfl hb263 rfl rfl rfl rfl wz (h_op (vI r_40) wz rfl (h_nil ?_))
        obtain rfl := some_inj hF
        exact wH_ret (fin0 (.inr rfl) [(vI r_40)] ⟨rfl, trivial⟩ rfl rfl rfl)
theorem schedule_CheckEntries_ok {l_1 : (List Entry)} {r : Int} (hF : schedule_CheckEntries l_1 = some r) :
  FnM Tryz.prog 169 [(vL Entry.enc l_1)] [] (vI r) [] := by
 refine FnM.of_wH ⟨Tryz.prog, 35, [], []⟩ rfl Tryz.func169 rfl rfl (Nat.le_of_ble_eq_true rfl) (by kernel_rfl) ?_
 unfold schedule_CheckEntries at hF
 refine wH_seq (wH_region (h_op (vI 0) wz rfl (h_nil (wH_seq (wH_seq (wH_region (h_op (vL Entry.enc l_1) wz rfl (h_len un248 rfl wz (h_op (vB (decide ((l_1.length : Int) > 200))) wz rfl (h_nil ?_))))))))))
 rcases cond_some hF with ⟨hc_2, hF⟩ | ⟨hc_2, hF⟩
 ·refine wH_ift rfl hc_2 (wH_seq (wH_region (h_op (vI 2) wz rfl (h_nil ?_))))
  obtain rfl := some_inj hF
  exact wH_ret (fin0 (.inr rfl) [(vI 2)] ⟨rfl, trivial⟩ rfl rfl rfl)
 ·refine wH_iff rfl hc_2 (wH_skip (wH_seq (wH_seq (wH_region (h_op (vL Entry.enc l_1) wz rfl (h_len un248 rfl wz (h_op (vI 0) wz rfl (h_nil ?_))))))))
  obtain ⟨o_11, hj_12, hF⟩ := bind_some hF
  obtain ⟨hn_7, hj_12⟩ := forL_some hj_12
  refine wH_join (β := (Unit)) (fun (s_8 : Unit) => ([] : List (Nat × V))) (fun (s_8 : Unit) => ([] : Hp)) (fun p => o_11 = .go p) ?_ ?_
  ·refine wH_block (wH_loop (β := Nat × (List Entry) × (Unit)) (fun p => (fun (k_3 : Nat) (l_4 : List Entry) (s_8 : Unit) => ([(0, (vL Entry.enc l_1)), (9, (vL Entry.enc l_1)), (10, (vI (l_1.length : Int))), (11, (vI (k_3 : Int)))] : List (Nat × V))) p.1 p.2.1 p.2.2) (fun p => (fun (k_3 : Nat) (l_4 : List Entry) (s_8 : Unit) => ([] : Hp)) p.1 p.2.1 p.2.2) (fun p => forR (fun k x s => schedule_CheckEntries_L1 l_1 k x s) p.2.1 p.1 p.2.2 = some o_11 ∧ (l_1).drop p.1 = p.2.1) (fun p => p.2.1.length) (0, l_1, ()) ⟨hj_12, rfl⟩ rfl (pre_r rfl) ?_)
   rintro ⟨k_3, l_4, s_8⟩ ⟨hL_10, hD_6⟩
   dsimp only at hL_10 hD_6
   cases l_4 with
   | nil =>
    obtain rfl := some_inj hL_10
    refine wH_seq (wH_region (h_op (vB (decide ((k_3 : Int) < (l_1.length : Int)))) wz rfl (h_nil ?_)))
    refine wH_seq (wH_iff rfl (drop_nil hD_6) (wH_exit ?_))
    exact cut_mk (s_8) rfl rfl (pre_r rfl)
   | cons x_5 l_4 =>
    obtain ⟨c_, hc_9, hL_10⟩ := bind_some hL_10
    refine wH_seq (wH_region (h_op (vB (decide ((k_3 : Int) < (l_1.length : Int)))) wz rfl (h_nil ?_)))
    refine wH_seq (wH_ift rfl (drop_cons hD_6) (wH_skip ?_))
    unfold schedule_CheckEntries_L1 at hc_9
    refine wH_seq (wH_block (wH_seq (wH_region (h_op (vI (k_3 : Int)) wz rfl (h_ia es248 rfl rfl (drop_idx hD_6) rfl wz (h_ldc sz170 ag170 rfl (.d (.agg (Entry.enc x_5))) rfl wz (h_alloc 0 (.inl rfl) z170 rfl wz (fun n_13 => h_op (vI (k_3 : Int)) wz rfl (h_str 0 il ft 0 sz170 rfl rfl [(vS x_5.Key), (vS x_5.Item), (vI x_5.Version), (vI x_5.First), (vI x_5.Last), (vI x_5.Every), (vI x_5.Days), (vL eI x_5.Except), (vI x_5.From), (vI x_5.To), (vI x_5.Prio), (vL eS x_5.Tags), (vB x_5.Gone)] rfl wz (h_nil (wH_seq (wH_seq (wH_region (h_ldr 0 0 il ft sz170 ag170 rfl rfl (.d (.agg (Entry.enc x_5))) rfl wz ?_))))))))))))))
    obtain ⟨r_14, hr_15, hc_9⟩ := bind_some hc_9
    refine h_call0 (schedule_entryFault_ok hr_15) rfl hb210 rfl rfl rfl rfl wz (h_op (vI r_14) wz rfl (h_nil (wH_seq (wH_region (h_op (vI r_14) wz rfl (h_op (vB (r_14 != 0)) wz rfl (h_nil ?_)))))))
    rcases cond_some hc_9 with ⟨hc_16, hc_9⟩ | ⟨hc_16, hc_9⟩
    ·refine wH_ift rfl hc_16 (wH_seq (wH_region (h_op (vI r_14) wz rfl (h_op (vI r_14) wz rfl (h_nil ?_)))))
     obtain rfl := some_inj hc_9
     obtain rfl := some_inj hL_10
     obtain rfl := some_inj hF
     exact wH_ret (fin0 (.inr rfl) [(vI r_14)] ⟨rfl, trivial⟩ rfl rfl rfl)
    ·refine wH_iff rfl hc_16 (wH_skip (wH_seq ?_))
     obtain ⟨v_17, h_18, hc_9⟩ := bind_some hc_9
     refine wH_join (β := Unit) (fun _ => ([(0, (vL Entry.enc l_1)), (9, (vL Entry.enc l_1)), (10, (vI (l_1.length : Int))), (11, (vI (k_3 : Int))), (33, (vB v_17))] : List (Nat × V))) (fun _ => ([(n_13, some (.cells 13 [(vS x_5.Key), (vS x_5.Item), (vI x_5.Version), (vI x_5.First), (vI x_5.Last), (vI x_5.Every), (vI x_5.Days), (vL eI x_5.Except), (vI x_5.From), (vI x_5.To), (vI x_5.Prio), (vL eS x_5.Tags), (vB x_5.Gone)]))] : Hp)) (fun _ => True) ?_ ?_
     ·refine wH_draws (h_op (vI (k_3 : Int)) wz rfl (h_op (vB (decide ((k_3 : Int) > 0))) wz rfl ?_))
      rcases cond_some h_18 with ⟨hc_19, h_18⟩ | ⟨hc_19, h_18⟩
      ·refine h_movb rfl hc_19 wz (h_far pl170_0 rfl 0 rfl wa (h_ldr 4 0 (.inr (by kernel_rfl)) (fun _ _ ag => trivial) sz9 ag9 rfl rfl (vS x_5.Key) rfl wa (h_op (vL Entry.enc l_1) wa rfl (h_op (vI (k_3 : Int)) wa rfl (h_op (vI (w64 ((k_3 : Int) - 1))) wa rfl ?_)))))
       obtain ⟨y_20, hy_21, h_18⟩ := bind_some h_18
       refine h_ia es248 rfl rfl hy_21 rfl wa (h_fac pl170_0 rfl [.str y_20.Key, .str y_20.Item, .int .i64 y_20.Version, .int .i64 y_20.First, .int .i64 y_20.Last, .int .i64 y_20.Every, .int .i64 y_20.Days, dl eI y_20.Except, .int .i64 y_20.From, .int .i64 y_20.To, .int .i64 y_20.Prio, dl eS y_20.Tags, .bool y_20.Gone] rfl rfl wa (h_ldc sz9 ag9 rfl (vS y_20.Key) rfl wa (h_op (vB (sLe x_5.Key y_20.Key)) wa rfl (h_op (vB (sLe x_5.Key y_20.Key)) wz rfl (h_nil ?_)))))
       obtain rfl := some_inj h_18
       exact cu
      ·refine h_movb rfl hc_19 wz (h_skip wa (h_skip wa (h_skip wa (h_skip wa (h_skip wa (h_skip wa (h_skip wa (h_skip wa (h_skip wa (h_op (vB false) wz rfl (h_nil ?_)))))))))))
       obtain rfl := some_inj h_18
       exact cu
     ·rintro ⟨⟩ _ sl_ H_ hp_ hq_
      refine wH_at _ hp_ hq_ ?_
      rcases cond_some hc_9 with ⟨hc_22, hc_9⟩ | ⟨hc_22, hc_9⟩
      ·refine wH_ift rfl hc_22 (wH_seq (wH_region (h_op (vI 7) wz rfl (h_nil ?_))))
       obtain rfl := some_inj hc_9
       obtain rfl := some_inj hL_10
       obtain rfl := some_inj hF
       exact wH_ret (fin0 (.inr rfl) [(vI 7)] ⟨rfl, trivial⟩ rfl rfl rfl)
      ·refine wH_iff rfl hc_22 (wH_skip (wH_region (h_opw (w64_next hD_6 hn_7) wz rfl (h_op (vI ((k_3 + 1 : Nat) : Int)) wz rfl (h_nil ?_)))))
       obtain rfl := some_inj hc_9
       exact loop_mk (k_3 + 1, l_4, ()) ⟨hL_10, drop_next hD_6⟩ (Nat.lt_succ_self _) rfl (pre_r rfl)
  ·rintro s_8 ho_ sl_ H_ hp_ hq_
   subst ho_
   refine wH_at _ hp_ hq_ (wH_seq (wH_region (h_op (vI 0) wz rfl (h_nil ?_))))
   obtain rfl := some_inj hF
   exact wH_ret (fin0 (.inr rfl) [(vI 0)] ⟨rfl, trivial⟩ rfl rfl rfl)
theorem schedule_windowFault_ok {wv_1 : Window} {r : Int} (hF : schedule_windowFault wv_1 = some r) :
  FnM Tryz.prog 170 [(.d (.agg (Window.enc wv_1)))] [] (vI r) [] := by
 refine FnM.of_wH ⟨Tryz.prog, 19, [], []⟩ rfl Tryz.func170 rfl rfl (Nat.le_of_ble_eq_true rfl) (by kernel_rfl) ?_
 unfold schedule_windowFault at hF
 refine wH_seq (wH_region (h_box 0 (.inl rfl) [(vI wv_1.From), (vI wv_1.To)] rfl rfl wz (fun n_2 => h_op (vI 0) wz rfl (h_nil (wH_seq (wH_seq ?_))))))
 obtain ⟨v_3, h_4, hF⟩ := bind_some hF
 refine wH_join (β := Unit) (fun _ => ([(1, (.ref n_2 0 0)), (12, (vB v_3))] : List (Nat × V))) (fun _ => ([(n_2, some (.cells 2 [(vI wv_1.From), (vI wv_1.To)]))] : Hp)) (fun _ => True) ?_ ?_
 ·refine wH_region (h_far pl109_0 rfl 0 rfl wz (h_ldr 0 0 il ft sz3 ag3 rfl rfl (vI wv_1.From) rfl wz (h_far pl109_1 rfl 1 rfl wz (h_ldr 0 0 il ft sz3 ag3 rfl rfl (vI wv_1.To) rfl wz ?_))))
  obtain ⟨r_5, hr_6, h_4⟩ := bind_some h_4
  refine h_call0 (kit_Outside_ok hr_6) rfl hb86 rfl rfl rfl rfl wz ?_
  rcases cond_some h_4 with ⟨hc_7, h_4⟩ | ⟨hc_7, h_4⟩
  ·refine h_movb rfl hc_7 wz (h_skip wa (h_skip wa (h_skip wa (h_op (vB true) wz rfl (h_nil ?_)))))
   obtain rfl := some_inj h_4
   exact cu
  ·refine h_movb rfl hc_7 wz (h_far pl109_1 rfl 1 rfl wa (h_ldr 0 0 il ft sz3 ag3 rfl rfl (vI wv_1.To) rfl wa (h_op (vB (decide (wv_1.To > 345686400000))) wa rfl (h_op (vB (decide (wv_1.To > 345686400000))) wz rfl (h_nil ?_)))))
   obtain rfl := some_inj h_4
   exact cu
 ·rintro ⟨⟩ _ sl_ H_ hp_ hq_
  refine wH_at _ hp_ hq_ ?_
  rcases cond_some hF with ⟨hc_8, hF⟩ | ⟨hc_8, hF⟩
  ·refine wH_ift rfl hc_8 (wH_seq (wH_region (h_op (vI 1) wz rfl (h_nil ?_))))
   obtain rfl := some_inj hF
   exact wH_ret (fin0 (.inr rfl) [(vI 1)] ⟨rfl, trivial⟩ rfl rfl rfl)
  ·refine wH_iff rfl hc_8 (wH_skip (wH_seq (wH_seq (wH_region (h_far pl109_1 rfl 1 rfl wz (h_ldr 0 0 il ft sz3 ag3 rfl rfl (vI wv_1.To) rfl wz (h_far pl109_0 rfl 0 rfl wz (h_ldr 0 0 il ft sz3 ag3 rfl rfl (vI wv_1.From) rfl wz (h_op (vI (w64 (wv_1.To - wv_1.From))) wz rfl (h_op (vB (decide ((w64 (wv_1.To - wv_1.From)) > 34560000000))) wz rfl (h_nil ?_)))))))))))
   rcases cond_some hF with ⟨hc_9, hF⟩ | ⟨hc_9, hF⟩
   ·refine wH_ift rfl hc_9 (wH_seq (wH_region (h_op (vI 2) wz rfl (h_nil ?_))))
    obtain rfl := some_inj hF
    exact wH_ret (fin0 (.inr rfl) [(vI 2)] ⟨rfl, trivial⟩ rfl rfl rfl)
   ·refine wH_iff rfl hc_9 (wH_skip (wH_seq (wH_region (h_op (vI 0) wz rfl (h_nil ?_)))))
    obtain rfl := some_inj hF
    exact wH_ret (fin0 (.inr rfl) [(vI 0)] ⟨rfl, trivial⟩ rfl rfl rfl)
theorem cmp_Less_int_ok {x_1 : Int} {y_2 : Int} {r : Bool} (hF : cmp_Less_int x_1 y_2 = some r) :
  FnM Tryz.prog 273 [(vI x_1), (vI y_2)] [] (vB r) [] := by
 refine FnM.of_wH ⟨Tryz.prog, 17, [], []⟩ rfl Tryz.func273 rfl rfl (Nat.le_of_ble_eq_true rfl) (by kernel_rfl) ?_
 unfold cmp_Less_int at hF
 refine wH_seq (wH_region (h_op (vB false) wz rfl (h_nil (wH_seq ?_))))
 obtain ⟨v_3, h_4, hF⟩ := bind_some hF
 refine wH_join (β := Unit) (fun _ => ([(4, (vB v_3))] : List (Nat × V))) (fun _ => ([] : Hp)) (fun _ => True) ?_ ?_
 ·refine wH_region (h_op (vI x_1) wz rfl ?_)
  obtain ⟨r_5, hr_6, h_4⟩ := bind_some h_4
  refine h_call0 (cmp_isNaN_int_ok hr_6) rfl hb205 rfl rfl rfl rfl wz ?_
  rcases cond_some h_4 with ⟨hc_7, h_4⟩ | ⟨hc_7, h_4⟩
  ·refine h_movb rfl hc_7 wz (h_op (vI y_2) wa rfl ?_)
   obtain ⟨r_8, hr_9, h_4⟩ := bind_some h_4
   refine h_call0 (cmp_isNaN_int_ok hr_9) rfl hb205 rfl rfl rfl rfl wa (h_op (vB (!r_8)) wa rfl (h_op (vB (!r_8)) wz rfl ?_))
   rcases cond_some h_4 with ⟨hc_10, h_4⟩ | ⟨hc_10, h_4⟩
   ·refine h_movb rfl hc_10 wz (h_skip wa (h_skip wa (h_skip wa (h_op (vB true) wz rfl (h_op (vB true) wz rfl (h_nil ?_))))))
    obtain rfl := some_inj h_4
    exact cu
   ·refine h_movb rfl hc_10 wz (h_op (vI x_1) wa rfl (h_op (vI y_2) wa rfl (h_op (vB (decide (x_1 < y_2))) wa rfl (h_op (vB (decide (x_1 < y_2))) wz rfl (h_op (vB (decide (x_1 < y_2))) wz rfl (h_nil ?_))))))
    obtain rfl := some_inj h_4
    exact cu
  ·refine h_movb rfl hc_7 wz (h_skip wa (h_skip wa (h_skip wa (h_op (vB false) wz rfl (h_op (vB false) wz rfl (h_op (vI x_1) wa rfl (h_op (vI y_2) wa rfl (h_op (vB (decide (x_1 < y_2))) wa rfl (h_op (vB (decide (x_1 < y_2))) wz rfl (h_op (vB (decide (x_1 < y_2))) wz rfl (h_nil ?_)))))))))))
   obtain rfl := some_inj h_4
   exact cu
 ·rintro ⟨⟩ _ sl_ H_ hp_ hq_
  refine wH_at _ hp_ hq_ ?_
  obtain rfl := some_inj hF
  exact wH_ret (fin0 (.inr rfl) [(vB v_3)] ⟨rfl, trivial⟩ rfl rfl rfl)
theorem slices_isNaN_int_ok {x_1 : Int} {r : Bool} (hF : slices_isNaN_int x_1 = some r) :
  FnM Tryz.prog 300 [(vI x_1)] [] (vB r) [] := by
 refine FnM.of_wH ⟨Tryz.prog, 6, [], []⟩ rfl Tryz.func300 rfl rfl (Nat.le_of_ble_eq_true rfl) (by kernel_rfl) ?_
 unfold slices_isNaN_int at hF
 refine wH_seq (wH_region (h_op (vB false) wz rfl (h_nil (wH_seq (wH_region (h_op (vI x_1) wz rfl (h_op (vI x_1) wz rfl (h_op (vB (x_1 != x_1)) wz rfl (h_op (vB (x_1 != x_1)) wz rfl (h_nil ?_))))))))))
 obtain rfl := some_inj hF
 exact wH_ret (fin0 (.inr rfl) [(vB (x_1 != x_1))] ⟨rfl, trivial⟩ rfl rfl rfl)
theorem slices_BinarySearch_int_int_ok {x_1 : (List Int)} {target_2 : Int} {r : Int × Bool} (hF : slices_BinarySearch_int_int x_1 target_2 = some r) :
  FnM Tryz.prog 264 [(vL eI x_1), (vI target_2)] [] (.tup [(vI r.1), (vB r.2)]) [] := by
 refine FnM.of_wH ⟨Tryz.prog, 54, [], []⟩ rfl Tryz.func264 rfl rfl (Nat.le_of_ble_eq_true rfl) (by kernel_rfl) ?_
 unfold slices_BinarySearch_int_int at hF
 refine wH_seq (wH_region (h_op (vI 0) wz rfl (h_op (vB false) wz rfl (h_nil (wH_seq (wH_region (h_op (vL eI x_1) wz rfl (h_len un22 rfl wz (h_op (vI (x_1.length : Int)) wz rfl (h_nil (wH_seq (wH_region (h_op (vI (x_1.length : Int)) wz rfl (h_op (vI 0) wz rfl (h_op (vI (x_1.length : Int)) wz rfl (h_nil (wH_seq ?_)))))))))))))))))
 obtain ⟨o_11, hj_12, hF⟩ := bind_some hF
 obtain ⟨nq_34, hj_12⟩ := loopO_iter hj_12
 refine wH_join (β := (Int × Int)) (fun (s_8 : Int × Int) => ([(0, (vL eI x_1)), (1, (vI target_2)), (6, (vI (x_1.length : Int))), (7, (vI s_8.1))] : List (Nat × V))) (fun (s_8 : Int × Int) => ([] : Hp)) (fun p => o_11 = .go p) ?_ ?_
 ·refine wH_block (wH_loop (β := Nat × (Int × Int)) (fun p => (fun (k_3 : Nat) (s_8 : Int × Int) => ([(0, (vL eI x_1)), (1, (vI target_2)), (6, (vI (x_1.length : Int))), (7, (vI s_8.1)), (8, (vI s_8.2))] : List (Nat × V))) p.1 p.2) (fun p => (fun (k_3 : Nat) (s_8 : Int × Int) => ([] : Hp)) p.1 p.2) (fun p => iterN (fun s => slices_BinarySearch_int_int_L1 x_1 target_2 s) p.1 p.2 = some o_11) (fun p => p.1) (nq_34, (0, (x_1.length : Int))) hj_12 rfl (pre_r rfl) ?_)
  rintro ⟨k_3, s_8⟩ hL_10
  dsimp only at hL_10
  cases k_3 with
  | zero => cases hL_10
  | succ k_3 =>
   obtain ⟨c_, hc_9, hL_10⟩ := bind_some hL_10
   unfold slices_BinarySearch_int_int_L1 at hc_9
   refine wH_seq (wH_seq (wH_region (h_op (vI s_8.1) wz rfl (h_op (vI s_8.2) wz rfl (h_op (vB (decide (s_8.1 < s_8.2))) wz rfl (h_nil ?_))))))
   rcases cond_some hc_9 with ⟨hc_13, hc_9⟩ | ⟨hc_13, hc_9⟩
   ·refine wH_ift rfl hc_13 (wH_skip (wH_block (wH_seq (wH_region (h_op (vI s_8.1) wz rfl (h_op (vI s_8.2) wz rfl (h_op (vI (w64 (s_8.1 + s_8.2))) wz rfl (h_conv un3 un268 rfl wz ?_))))))))
    obtain ⟨q_14, hz_15, hc_9⟩ := bind_some hc_9
    refine h_shr rfl rfl hz_15 wz (h_conv un268 un3 rfl wz (h_op (vI (w64 q_14)) wz rfl (h_nil (wH_seq (wH_region (h_op (vL eI x_1) wz rfl (h_op (vI (w64 q_14)) wz rfl ?_)))))))
    obtain ⟨y_16, hy_17, hc_9⟩ := bind_some hc_9
    refine h_ia es22 rfl rfl hy_17 rfl wz (h_ldc sz3 ag3 rfl (vI y_16) rfl wz (h_op (vI target_2) wz rfl ?_))
    obtain ⟨r_18, hr_19, hc_9⟩ := bind_some hc_9
    refine h_call0 (cmp_Less_int_ok hr_19) rfl hb273 rfl rfl rfl rfl wz (h_nil ?_)
    rcases cond_some hc_9 with ⟨hc_20, hc_9⟩ | ⟨hc_20, hc_9⟩
    ·refine wH_ift rfl hc_20 (wH_region (h_op (vI (w64 q_14)) wz rfl (h_op (vI (w64 ((w64 q_14) + 1))) wz rfl (h_op (vI (w64 ((w64 q_14) + 1))) wz rfl (h_nil ?_)))))
     obtain rfl := some_inj hc_9
     exact loop_mk (k_3, ((w64 ((w64 q_14) + 1)), s_8.2)) hL_10 (Nat.lt_succ_self _) rfl (pre_r rfl)
    ·refine wH_iff rfl hc_20 (wH_region (h_op (vI (w64 q_14)) wz rfl (h_op (vI (w64 q_14)) wz rfl (h_nil ?_))))
     obtain rfl := some_inj hc_9
     exact loop_mk (k_3, (s_8.1, (w64 q_14))) hL_10 (Nat.lt_succ_self _) rfl (pre_r rfl)
   ·refine wH_iff rfl hc_13 (wH_exit ?_)
    obtain rfl := some_inj hc_9
    obtain rfl := some_inj hL_10
    exact cut_mk ((s_8.1, s_8.2)) rfl rfl (pre_r rfl)
 ·rintro s_8 ho_ sl_ H_ hp_ hq_
  subst ho_
  refine wH_at _ hp_ hq_ (wH_seq ?_)
  obtain ⟨v_21, h_22, hF⟩ := bind_some hF
  refine wH_join (β := Unit) (fun _ => ([(4, (vI s_8.1)), (5, (vB v_21))] : List (Nat × V))) (fun _ => ([] : Hp)) (fun _ => True) ?_ ?_
  ·refine wH_region (h_op (vI s_8.1) wz rfl (h_op (vI s_8.1) wz rfl (h_op (vI (x_1.length : Int)) wz rfl (h_op (vB (decide (s_8.1 < (x_1.length : Int)))) wz rfl ?_))))
   rcases cond_some h_22 with ⟨hc_23, h_22⟩ | ⟨hc_23, h_22⟩
   ·refine h_movb rfl hc_23 wz (h_op (vL eI x_1) wa rfl (h_op (vI s_8.1) wa rfl ?_))
    obtain ⟨y_24, hy_25, h_22⟩ := bind_some h_22
    refine h_ia es22 rfl rfl hy_25 rfl wa (h_ldc sz3 ag3 rfl (vI y_24) rfl wa (h_op (vI target_2) wa rfl (h_op (vB (y_24 == target_2)) wa rfl ?_)))
    rcases cond_some h_22 with ⟨hc_26, h_22⟩ | ⟨hc_26, h_22⟩
    ·refine h_movb rfl hc_26 wa (h_skip wa (h_skip wa (h_skip wa (h_skip wa (h_skip wa (h_skip wa (h_skip (wn rfl rfl) (h_skip (wn rfl rfl) (h_skip wa (h_op (vB true) wa rfl (h_op (vB true) wz rfl (h_op (vI s_8.1) wz rfl (h_op (vB true) wz rfl (h_nil ?_))))))))))))))
     obtain rfl := some_inj h_22
     exact cu
    ·refine h_movb rfl hc_26 wa (h_op (vL eI x_1) wa rfl (h_op (vI s_8.1) wa rfl ?_))
     obtain ⟨y_27, hy_28, h_22⟩ := bind_some h_22
     refine h_ia es22 rfl rfl hy_28 rfl wa (h_ldc sz3 ag3 rfl (vI y_27) rfl wa ?_)
     obtain ⟨r_29, hr_30, h_22⟩ := bind_some h_22
     refine h_call0 (slices_isNaN_int_ok hr_30) rfl hb300 rfl rfl rfl rfl wa ?_
     rcases cond_some h_22 with ⟨hc_31, h_22⟩ | ⟨hc_31, h_22⟩
     ·refine h_movb rfl hc_31 wa (h_op (vI target_2) wa rfl ?_)
      obtain ⟨r_32, hr_33, h_22⟩ := bind_some h_22
      refine h_call0 (slices_isNaN_int_ok hr_33) rfl hb300 rfl rfl rfl rfl wa (h_op (vB r_32) wa rfl (h_op (vB r_32) wa rfl (h_op (vB r_32) wz rfl (h_op (vI s_8.1) wz rfl (h_op (vB r_32) wz rfl (h_nil ?_))))))
      obtain rfl := some_inj h_22
      exact cu
     ·refine h_movb rfl hc_31 wa (h_skip wa (h_skip wa (h_op (vB false) wa rfl (h_op (vB false) wa rfl (h_op (vB false) wz rfl (h_op (vI s_8.1) wz rfl (h_op (vB false) wz rfl (h_nil ?_))))))))
      obtain rfl := some_inj h_22
      exact cu
   ·refine h_movb rfl hc_23 wz (h_skip wa (h_skip wa (h_skip wa (h_skip wa (h_skip wa (h_skip wa (h_skip wa (h_skip (wn rfl rfl) (h_skip (wn rfl rfl) (h_skip (wn rfl rfl) (h_skip (wn rfl rfl) (h_skip (wn rfl rfl) (h_skip (wn rfl rfl) (h_skip (wn rfl rfl) (h_skip (wn rfl rfl) (h_skip (wn rfl rfl) (h_skip wa (h_op (vB false) wz rfl (h_op (vI s_8.1) wz rfl (h_op (vB false) wz rfl (h_nil ?_)))))))))))))))))))))
    obtain rfl := some_inj h_22
    exact cu
  ·rintro ⟨⟩ _ sl_ H_ hp_ hq_
   refine wH_at _ hp_ hq_ ?_
   obtain rfl := some_inj hF
   exact wH_ret (fin0 (.inr rfl) [(vI s_8.1), (vB v_21)] ⟨rfl, ⟨rfl, trivial⟩⟩ rfl rfl rfl)
end Go.Proofs.YtpojeclokolkaaaGreatDoor.Law

