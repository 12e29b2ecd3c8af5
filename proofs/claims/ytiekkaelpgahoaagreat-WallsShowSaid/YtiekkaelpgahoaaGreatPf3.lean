/-
 The machine computes these plain functions (written by a program of ours).
-/
import Derived.Test.YtiekkaelpgahoaaGreatFacts
import Derived.Test.YtiekkaelpgahoaaGreatDefs
import Derived.Test.YtiekkaelpgahoaaGreatPf2
open Go Go.Eng Go.Proofs
namespace Go.Proofs.YtiekkaelpgahoaaGreat.Law
set_option maxRecDepth 100000
set_option linter.unusedVariables false
set_option maxHeartbeats 1000000
theorem screen_region_ok {l_1 : (List Rect)} {m_2 : (List Rect)} {r : (List Rect)} (hF : screen_region l_1 m_2 = some r) :
  FnM Tryz.prog 84 [(vL Rect.enc l_1), (vL Rect.enc m_2)] [] (vL Rect.enc r) [] := by
 refine FnM.of_wH ⟨Tryz.prog, 88, [], []⟩ rfl Tryz.func84 rfl rfl (Nat.le_of_ble_eq_true rfl) (by kernel_rfl) ?_
 unfold screen_region at hF
 refine wH_seq (wH_region (h_op .nil wz rfl (h_nil (wH_seq (wH_region (h_op .nil wz rfl (h_nil (wH_seq (wH_seq (wH_region (h_op (vL Rect.enc l_1) wz rfl (h_op (vL Rect.enc m_2) wz rfl (h_lit (([l_1, m_2] : List (List Rect)).map (eL Rect.enc)) es192 ez192 rfl rfl rfl rfl rfl wz ?_)))))))))))))
 obtain ⟨r_3, hr_4, hF⟩ := bind_some hF
 refine h_call0 (slices_Concat_api_Rect_api_Rect_ok hr_4) rfl hb118 rfl rfl rfl rfl wz (h_len un62 rfl wz (h_op (vI 0) wz rfl (h_nil (wH_new (fun n_11 => ?_)))))
 obtain ⟨o_16, hj_17, hF⟩ := bind_some hF
 obtain ⟨hn_9, hj_17⟩ := forL_some hj_17
 refine wH_join (β := ((List Int)) × Nm) (fun p => (fun (s_10 : (List Int)) (n_13 : Nm) => ([(0, (vL Rect.enc l_1)), (1, (vL Rect.enc m_2)), (5, (gV n_13 1 s_10))] : List (Nat × V))) p.1 p.2) (fun p => (fun (s_10 : (List Int)) (n_13 : Nm) => ([(n_13, gB 1 eI s_10)] : Hp)) p.1 p.2) (fun p => o_16 = .go p.1) ?_ ?_
 ·refine wH_block (wH_loop (β := Nat × (List Rect) × ((List Int)) × Nm) (fun p => (fun (k_5 : Nat) (l_6 : List Rect) (s_10 : (List Int)) (n_13 : Nm) => ([(0, (vL Rect.enc l_1)), (1, (vL Rect.enc m_2)), (5, (gV n_13 1 s_10)), (19, (vL Rect.enc r_3)), (20, (vI (r_3.length : Int))), (21, (vI (k_5 : Int)))] : List (Nat × V))) p.1 p.2.1 p.2.2.1 p.2.2.2) (fun p => (fun (k_5 : Nat) (l_6 : List Rect) (s_10 : (List Int)) (n_13 : Nm) => ([(n_13, gB 1 eI s_10)] : Hp)) p.1 p.2.1 p.2.2.1 p.2.2.2) (fun p => forR (fun k x s => screen_region_L1 k x s) p.2.1 p.1 p.2.2.1 = some o_16 ∧ (r_3).drop p.1 = p.2.1) (fun p => p.2.1.length) (0, r_3, ([] : List Int), n_11) ⟨hj_17, rfl⟩ rfl (pre_r rfl) ?_)
  rintro ⟨k_5, l_6, s_10, n_13⟩ ⟨hL_15, hD_8⟩
  dsimp only at hL_15 hD_8
  cases l_6 with
  | nil =>
   obtain rfl := some_inj hL_15
   refine wH_seq (wH_region (h_op (vB (decide ((k_5 : Int) < (r_3.length : Int)))) wz rfl (h_nil ?_)))
   refine wH_seq (wH_iff rfl (drop_nil hD_8) (wH_exit ?_))
   exact cut_mk (s_10, n_13) rfl rfl (pre_r rfl)
  | cons x_7 l_6 =>
   obtain ⟨c_, hc_14, hL_15⟩ := bind_some hL_15
   refine wH_seq (wH_region (h_op (vB (decide ((k_5 : Int) < (r_3.length : Int)))) wz rfl (h_nil ?_)))
   refine wH_seq (wH_ift rfl (drop_cons hD_8) (wH_skip ?_))
   unfold screen_region_L1 at hc_14
   refine wH_seq (wH_block (wH_seq (wH_region (h_ia es62 rfl rfl (drop_idx hD_8) rfl wz (h_ldc sz49 ag49 rfl (.d (.agg (Rect.enc x_7))) rfl wz (h_alloc 0 (.inl rfl) z49 rfl wz (fun n_18 => h_str 0 (.inl rfl) (fun _ _ _ => trivial) 1 sz49 rfl rfl [(vI x_7.X), (vI x_7.Y), (vI x_7.W), (vI x_7.H)] rfl wz (h_nil (wH_region (h_op (gV n_13 1 s_10) wz rfl (h_far pl49_1 rfl 1 rfl wz (h_ldr 0 1 (.inl rfl) (fun _ _ _ => trivial) sz3 ag3 rfl rfl (vI x_7.Y) rfl wz (h_far pl49_1 rfl 1 rfl wz (h_ldr 0 1 (.inl rfl) (fun _ _ _ => trivial) sz3 ag3 rfl rfl (vI x_7.Y) rfl wz (h_far pl49_3 rfl 3 rfl wz (h_ldr 0 1 (.inl rfl) (fun _ _ _ => trivial) sz3 ag3 rfl rfl (vI x_7.H) rfl wz (h_op (vI (w64 (x_7.Y + x_7.H))) wz rfl (h_lit (([x_7.Y, (w64 (x_7.Y + x_7.H))] : List Int).map eI) es22 ez22 rfl rfl rfl rfl rfl wz ?_))))))))))))))))))
   obtain ⟨a_19, hz_20, hc_14⟩ := bind_some hc_14
   refine h_appg 0 (.inl rfl) (fun _ _ _ => trivial) (i := 0) el22 el22 sz3 z3 rfl (by decide) by3 (by decide) (fun _ => rfl) rfl rfl rfl hz_20 wz (fun n_21 => h_op (gV n_21 1 a_19) wz rfl (h_nil (wH_region (h_opw (w64_next hD_8 hn_9) wz rfl (h_op (vI ((k_5 + 1 : Nat) : Int)) wz rfl (h_nil ?_))))))
   obtain rfl := some_inj hc_14
   exact loop_mk (k_5 + 1, l_6, a_19, n_21) ⟨hL_15, drop_next hD_8⟩ (Nat.lt_succ_self _) rfl (pre_r rfl)
 ·rintro ⟨s_10, n_13⟩ ho_ sl_ H_ hp_ hq_
  subst ho_
  refine wH_at _ hp_ hq_ (wH_seq (wH_region (h_op (gV n_13 1 s_10) wz rfl ?_)))
  obtain ⟨r_22, hr_23, hF⟩ := bind_some hF
  obtain ⟨_, hs_24, hF⟩ := bind_some hF
  replace hs_24 := sameL_eq hs_24
  refine h_callv 0 [] 0 0 (.inl rfl) (fun _ _ _ => trivial) (slices_Sort_int_int_v1_ok hr_23) rfl hb119 rfl rfl rfl (by kernel_rfl) rfl (.inl rfl) rfl (by kernel_rfl) (by kernel_rfl) (by kernel_rfl) (by kernel_rfl) rfl (by decide) (by kernel_rfl) gB_ok (gB_ho hs_24) wz ([(n_13, gB 1 eI r_22)] : Hp) (by kernel_rfl) (h_re (v' := (gV n_13 1 r_22)) 36 rfl (gV_len hs_24.symm) (h_re (v' := (gV n_13 1 r_22)) 5 rfl (gV_len hs_24.symm) (h_nil (wH_seq (wH_region (h_op (gV n_13 1 r_22) wz rfl ?_))))))
  obtain ⟨r_25, hr_26, hF⟩ := bind_some hF
  refine h_callv 0 [] 0 0 (.inl rfl) (fun _ _ _ => trivial) (slices_Compact_int_int_v1_ok hr_26) rfl hb120 rfl rfl rfl (by kernel_rfl) rfl (.inl rfl) rfl (by kernel_rfl) (by kernel_rfl) (by kernel_rfl) (by kernel_rfl) rfl (by decide) (by kernel_rfl) none_ok (fun _ => rfl) wz ([(n_13, none)] : Hp) (by kernel_rfl) (h_op (vL eI r_25) wz rfl (h_nil (wH_seq (wH_region (h_op .nil wz rfl (h_nil (wH_seq (wH_region (h_op .nil wz rfl (h_nil (wH_seq (wH_region (h_op (vI 0) wz rfl (h_nil (wH_seq (wH_seq (wH_region (h_op (vL eI r_25) wz rfl (h_len un22 rfl wz (h_op (vI 0) wz rfl (h_nil (wH_nilL Run.enc 9 rfl (wH_new (fun n_33 => ?_))))))))))))))))))))))))
  obtain ⟨o_38, hj_39, hF⟩ := bind_some hF
  obtain ⟨hn_31, hj_39⟩ := forL_some hj_39
  refine wH_join (β := ((List Rect) × (List Run) × Int) × Nm) (fun p => (fun (s_32 : (List Rect) × (List Run) × Int) (n_35 : Nm) => ([(8, (gV n_35 4 s_32.1))] : List (Nat × V))) p.1 p.2) (fun p => (fun (s_32 : (List Rect) × (List Run) × Int) (n_35 : Nm) => ([(n_13, none), (n_35, gB 4 Rect.enc s_32.1)] : Hp)) p.1 p.2) (fun p => o_38 = .go p.1) ?_ ?_
  ·refine wH_block (wH_loop (β := Nat × (List Int) × ((List Rect) × (List Run) × Int) × Nm) (fun p => (fun (k_27 : Nat) (l_28 : List Int) (s_32 : (List Rect) × (List Run) × Int) (n_35 : Nm) => ([(0, (vL Rect.enc l_1)), (1, (vL Rect.enc m_2)), (5, (vL eI r_25)), (8, (gV n_35 4 s_32.1)), (9, (vL Run.enc s_32.2.1)), (10, (vI s_32.2.2)), (40, (vL eI r_25)), (41, (vI (r_25.length : Int))), (42, (vI (k_27 : Int)))] : List (Nat × V))) p.1 p.2.1 p.2.2.1 p.2.2.2) (fun p => (fun (k_27 : Nat) (l_28 : List Int) (s_32 : (List Rect) × (List Run) × Int) (n_35 : Nm) => ([(n_13, none), (n_35, gB 4 Rect.enc s_32.1)] : Hp)) p.1 p.2.1 p.2.2.1 p.2.2.2) (fun p => forR (fun k x s => screen_region_L3 r_25 l_1 m_2 k x s) p.2.1 p.1 p.2.2.1 = some o_38 ∧ (r_25).drop p.1 = p.2.1) (fun p => p.2.1.length) (0, r_25, (([] : List Rect), ([] : List Run), 0), n_33) ⟨hj_39, rfl⟩ rfl (pre_r rfl) ?_)
   rintro ⟨k_27, l_28, s_32, n_35⟩ ⟨hL_37, hD_30⟩
   dsimp only at hL_37 hD_30
   cases l_28 with
   | nil =>
    obtain rfl := some_inj hL_37
    refine wH_seq (wH_region (h_op (vB (decide ((k_27 : Int) < (r_25.length : Int)))) wz rfl (h_nil ?_)))
    refine wH_seq (wH_iff rfl (drop_nil hD_30) (wH_exit ?_))
    exact cut_mk (s_32, n_35) rfl rfl (pre_r rfl)
   | cons x_29 l_28 =>
    obtain ⟨c_, hc_36, hL_37⟩ := bind_some hL_37
    refine wH_seq (wH_region (h_op (vB (decide ((k_27 : Int) < (r_25.length : Int)))) wz rfl (h_nil ?_)))
    refine wH_seq (wH_ift rfl (drop_cons hD_30) (wH_skip ?_))
    unfold screen_region_L3 at hc_36
    refine wH_seq (wH_block (wH_seq (wH_region (h_op (vI (k_27 : Int)) wz rfl (h_ia es22 rfl rfl (drop_idx hD_30) rfl wz (h_ldc sz3 ag3 rfl (vI x_29) rfl wz (h_op (vI (k_27 : Int)) wz rfl (h_op (vI x_29) wz rfl (h_nil (wH_seq (wH_region (h_op .nil wz rfl (h_nil (wH_seq (wH_seq (wH_region (h_op (vI (k_27 : Int)) wz rfl (h_op (vI (w64 ((k_27 : Int) + 1))) wz rfl (h_op (vL eI r_25) wz rfl (h_len un22 rfl wz (h_op (vB (decide ((w64 ((k_27 : Int) + 1)) < (r_25.length : Int)))) wz rfl (h_nil (wH_nilL Run.enc 13 rfl ?_)))))))))))))))))))))))
    obtain ⟨v_42, h_43, hc_36⟩ := bind_some hc_36
    refine wH_join (β := Unit) (fun _ => ([(0, (vL Rect.enc l_1)), (1, (vL Rect.enc m_2)), (5, (vL eI r_25)), (8, (gV n_35 4 s_32.1)), (9, (vL Run.enc s_32.2.1)), (10, (vI s_32.2.2)), (12, (vI x_29)), (13, (vL Run.enc v_42)), (40, (vL eI r_25)), (41, (vI (r_25.length : Int))), (42, (vI (k_27 : Int)))] : List (Nat × V))) (fun _ => ([(n_13, none), (n_35, gB 4 Rect.enc s_32.1)] : Hp)) (fun _ => True) ?_ ?_
    ·rcases cond_some h_43 with ⟨hc_44, h_43⟩ | ⟨hc_44, h_43⟩
     ·refine wH_ift rfl hc_44 (wH_region (h_op (vL Rect.enc l_1) wz rfl (h_op (vI x_29) wz rfl ?_)))
      obtain ⟨r_45, hr_46, h_43⟩ := bind_some h_43
      refine h_call0 (screen_runs_ok hr_46) rfl hb122 rfl rfl rfl rfl wz (h_op (vL Rect.enc m_2) wz rfl (h_op (vI x_29) wz rfl ?_))
      obtain ⟨r_47, hr_48, h_43⟩ := bind_some h_43
      refine h_call0 (screen_runs_ok hr_48) rfl hb122 rfl rfl rfl rfl wz ?_
      obtain ⟨r_49, hr_50, h_43⟩ := bind_some h_43
      refine h_call0 (screen_less_ok hr_50) rfl hb121 rfl rfl rfl rfl wz (h_op (vL Run.enc r_49) wz rfl (h_nil ?_))
      obtain rfl := some_inj h_43
      exact cut_mk () trivial rfl (pre_r rfl)
     ·refine wH_iff rfl hc_44 (wH_skip ?_)
      obtain rfl := some_inj h_43
      exact cut_mk () trivial rfl (pre_r rfl)
    ·rintro ⟨⟩ _ sl_ H_ hp_ hq_
     refine wH_at _ hp_ hq_ (wH_seq (wH_seq (wH_region (h_op (vL Run.enc s_32.2.1) wz rfl (h_op (vL Run.enc v_42) wz rfl ?_)))))
     obtain ⟨r_51, hr_52, hc_36⟩ := bind_some hc_36
     refine h_call0 (slices_Equal_screen_run_screen_run_ok hr_52) rfl hb123 rfl rfl rfl rfl wz (h_nil ?_)
     rcases cond_some hc_36 with ⟨hc_53, hc_36⟩ | ⟨hc_53, hc_36⟩
     ·refine wH_ift rfl hc_53 (wH_exit (wH_region (h_opw (w64_next hD_30 hn_31) wz rfl (h_op (vI ((k_27 + 1 : Nat) : Int)) wz rfl (h_nil ?_)))))
      obtain rfl := some_inj hc_36
      exact loop_mk (k_27 + 1, l_28, (s_32.1, s_32.2.1, s_32.2.2), n_35) ⟨hL_37, drop_next hD_30⟩ (Nat.lt_succ_self _) rfl (pre_r rfl)
     ·refine wH_iff rfl hc_53 (wH_skip (wH_seq (wH_seq (wH_region (h_op (vL Run.enc s_32.2.1) wz rfl (h_len un165 rfl wz (h_op (vI 0) wz rfl (h_nil ?_))))))))
      obtain ⟨o_64, hj_65, hc_36⟩ := bind_some hc_36
      obtain ⟨hn_58, hj_65⟩ := forL_some hj_65
      refine wH_join (β := ((List Rect)) × Nm) (fun p => (fun (s_59 : (List Rect)) (n_61 : Nm) => ([(0, (vL Rect.enc l_1)), (1, (vL Rect.enc m_2)), (5, (vL eI r_25)), (8, (gV n_61 4 s_59)), (12, (vI x_29)), (13, (vL Run.enc v_42)), (40, (vL eI r_25)), (41, (vI (r_25.length : Int))), (42, (vI (k_27 : Int)))] : List (Nat × V))) p.1 p.2) (fun p => (fun (s_59 : (List Rect)) (n_61 : Nm) => ([(n_13, none), (n_61, gB 4 Rect.enc s_59)] : Hp)) p.1 p.2) (fun p => o_64 = .go p.1) ?_ ?_
      ·refine wH_block (wH_loop (β := Nat × (List Run) × ((List Rect)) × Nm) (fun p => (fun (k_54 : Nat) (l_55 : List Run) (s_59 : (List Rect)) (n_61 : Nm) => ([(0, (vL Rect.enc l_1)), (1, (vL Rect.enc m_2)), (5, (vL eI r_25)), (8, (gV n_61 4 s_59)), (10, (vI s_32.2.2)), (12, (vI x_29)), (13, (vL Run.enc v_42)), (40, (vL eI r_25)), (41, (vI (r_25.length : Int))), (42, (vI (k_27 : Int))), (62, (vL Run.enc s_32.2.1)), (63, (vI (s_32.2.1.length : Int))), (64, (vI (k_54 : Int)))] : List (Nat × V))) p.1 p.2.1 p.2.2.1 p.2.2.2) (fun p => (fun (k_54 : Nat) (l_55 : List Run) (s_59 : (List Rect)) (n_61 : Nm) => ([(n_13, none), (n_61, gB 4 Rect.enc s_59)] : Hp)) p.1 p.2.1 p.2.2.1 p.2.2.2) (fun p => forR (fun k x s => screen_region_L2 s_32 x_29 k x s) p.2.1 p.1 p.2.2.1 = some o_64 ∧ (s_32.2.1).drop p.1 = p.2.1) (fun p => p.2.1.length) (0, s_32.2.1, s_32.1, n_35) ⟨hj_65, rfl⟩ rfl (pre_r rfl) ?_)
       rintro ⟨k_54, l_55, s_59, n_61⟩ ⟨hL_63, hD_57⟩
       dsimp only at hL_63 hD_57
       cases l_55 with
       | nil =>
        obtain rfl := some_inj hL_63
        refine wH_seq (wH_region (h_op (vB (decide ((k_54 : Int) < (s_32.2.1.length : Int)))) wz rfl (h_nil ?_)))
        refine wH_seq (wH_iff rfl (drop_nil hD_57) (wH_exit ?_))
        exact cut_mk (s_59, n_61) rfl rfl (pre_r rfl)
       | cons x_56 l_55 =>
        obtain ⟨c_, hc_62, hL_63⟩ := bind_some hL_63
        refine wH_seq (wH_region (h_op (vB (decide ((k_54 : Int) < (s_32.2.1.length : Int)))) wz rfl (h_nil ?_)))
        refine wH_seq (wH_ift rfl (drop_cons hD_57) (wH_skip ?_))
        unfold screen_region_L2 at hc_62
        refine wH_seq (wH_block (wH_seq (wH_region (h_ia es165 rfl rfl (drop_idx hD_57) rfl wz (h_ldc sz170 ag170 rfl (.d (.agg (Run.enc x_56))) rfl wz (h_alloc 0 (.inl rfl) z170 rfl wz (fun n_66 => h_str 0 (.inl rfl) (fun _ _ _ => trivial) 2 sz170 rfl rfl [(vI x_56.f_from), (vI x_56.f_to)] rfl wz (h_nil (wH_region (h_op (gV n_61 4 s_59) wz rfl (h_far pl170_0 rfl 0 rfl wz (h_ldr 0 2 (.inl rfl) (fun _ _ _ => trivial) sz3 ag3 rfl rfl (vI x_56.f_from) rfl wz (h_op (vI s_32.2.2) wz rfl (h_far pl170_1 rfl 1 rfl wz (h_ldr 0 2 (.inl rfl) (fun _ _ _ => trivial) sz3 ag3 rfl rfl (vI x_56.f_to) rfl wz (h_far pl170_0 rfl 0 rfl wz (h_ldr 0 2 (.inl rfl) (fun _ _ _ => trivial) sz3 ag3 rfl rfl (vI x_56.f_from) rfl wz (h_op (vI (w64 (x_56.f_to - x_56.f_from))) wz rfl (h_op (vI x_29) wz rfl (h_op (vI s_32.2.2) wz rfl (h_op (vI (w64 (x_29 - s_32.2.2))) wz rfl (h_op (.d (.agg (Rect.enc (⟨x_56.f_from, s_32.2.2, (w64 (x_56.f_to - x_56.f_from)), (w64 (x_29 - s_32.2.2))⟩ : Rect)))) wz (by kernel_rfl) (h_lit (([(⟨x_56.f_from, s_32.2.2, (w64 (x_56.f_to - x_56.f_from)), (w64 (x_29 - s_32.2.2))⟩ : Rect)] : List Rect).map Rect.enc) es62 ez62 rfl rfl rfl rfl rfl wz ?_)))))))))))))))))))))))
        obtain ⟨a_67, hz_68, hc_62⟩ := bind_some hc_62
        refine h_appg 0 (.inl rfl) (fun _ _ _ => trivial) (i := 1) el62 el62 sz49 z49 rfl (by decide) by49 (by decide) (fun _ => rfl) rfl rfl rfl hz_68 wz (fun n_69 => h_op (gV n_69 4 a_67) wz rfl (h_nil (wH_region (h_opw (w64_next hD_57 hn_58) wz rfl (h_op (vI ((k_54 + 1 : Nat) : Int)) wz rfl (h_nil ?_))))))
        obtain rfl := some_inj hc_62
        exact loop_mk (k_54 + 1, l_55, a_67, n_69) ⟨hL_63, drop_next hD_57⟩ (Nat.lt_succ_self _) rfl (pre_r rfl)
      ·rintro ⟨s_59, n_61⟩ ho_ sl_ H_ hp_ hq_
       subst ho_
       refine wH_at _ hp_ hq_ (wH_region (h_op (vL Run.enc v_42) wz rfl (h_op (vI x_29) wz rfl (h_op (vL Run.enc v_42) wz rfl (h_op (vI x_29) wz rfl (h_nil (wH_region (h_opw (w64_next hD_30 hn_31) wz rfl (h_op (vI ((k_27 + 1 : Nat) : Int)) wz rfl (h_nil ?_))))))))))
       obtain rfl := some_inj hc_36
       exact loop_mk (k_27 + 1, l_28, (s_59, v_42, x_29), n_61) ⟨hL_37, drop_next hD_30⟩ (Nat.lt_succ_self _) rfl (pre_r rfl)
  ·rintro ⟨s_32, n_35⟩ ho_ sl_ H_ hp_ hq_
   subst ho_
   refine wH_at _ hp_ hq_ (wH_seq (wH_region (h_op (gV n_35 4 s_32.1) wz rfl (h_op (gV n_35 4 s_32.1) wz rfl (h_nil (wH_frozg 1 rfl (wH_cog 4 1 rfl rfl (wH_cog 8 1 rfl rfl (wH_cog 87 1 rfl rfl ?_)))))))))
   obtain rfl := some_inj hF
   exact wH_ret (fin0 (.inr rfl) [(vL Rect.enc s_32.1)] ⟨rfl, trivial⟩ rfl rfl rfl)
theorem screen_seenOf_ok {l_1 : Layout} {k_2 : Int} {r : (List Rect)} (hF : screen_seenOf l_1 k_2 = some r) :
  FnM Tryz.prog 64 [(.d (.agg (Layout.enc l_1))), (vI k_2)] [] (vL Rect.enc r) [] := by
 refine FnM.of_wH ⟨Tryz.prog, 36, [], []⟩ rfl Tryz.func64 rfl rfl (Nat.le_of_ble_eq_true rfl) (by kernel_rfl) ?_
 unfold screen_seenOf at hF
 refine wH_seq (wH_region (h_box 0 (.inl rfl) [(vS l_1.Key), (vI l_1.W), (vI l_1.H), (vL Zone.enc l_1.Zones)] rfl rfl wz (fun n_3 => h_op .nil wz rfl (h_nil (wH_seq (wH_region (h_op .nil wz rfl (h_nil (wH_seq (wH_seq (wH_region (h_far pl28_3 rfl 3 rfl wz (h_ldr 0 0 (.inl rfl) (fun _ _ _ => trivial) sz26 ag26 rfl rfl (vL Zone.enc l_1.Zones) rfl wz (h_len un26 rfl wz (h_op (vI 0) wz rfl (h_nil (wH_new (fun n_10 => ?_))))))))))))))))))
 obtain ⟨o_15, hj_16, hF⟩ := bind_some hF
 obtain ⟨hn_8, hj_16⟩ := forL_some hj_16
 refine wH_join (β := ((List Rect)) × Nm) (fun p => (fun (s_9 : (List Rect)) (n_12 : Nm) => ([(1, (vI k_2)), (2, (.ref n_3 0 0)), (5, (gV n_12 4 s_9))] : List (Nat × V))) p.1 p.2) (fun p => (fun (s_9 : (List Rect)) (n_12 : Nm) => ([(n_3, some (.cells 4 [(vS l_1.Key), (vI l_1.W), (vI l_1.H), (vL Zone.enc l_1.Zones)])), (n_12, gB 4 Rect.enc s_9)] : Hp)) p.1 p.2) (fun p => o_15 = .go p.1) ?_ ?_
 ·refine wH_block (wH_loop (β := Nat × (List Zone) × ((List Rect)) × Nm) (fun p => (fun (k_4 : Nat) (l_5 : List Zone) (s_9 : (List Rect)) (n_12 : Nm) => ([(1, (vI k_2)), (2, (.ref n_3 0 0)), (5, (gV n_12 4 s_9)), (9, (vL Zone.enc l_1.Zones)), (10, (vI (l_1.Zones.length : Int))), (11, (vI (k_4 : Int)))] : List (Nat × V))) p.1 p.2.1 p.2.2.1 p.2.2.2) (fun p => (fun (k_4 : Nat) (l_5 : List Zone) (s_9 : (List Rect)) (n_12 : Nm) => ([(n_3, some (.cells 4 [(vS l_1.Key), (vI l_1.W), (vI l_1.H), (vL Zone.enc l_1.Zones)])), (n_12, gB 4 Rect.enc s_9)] : Hp)) p.1 p.2.1 p.2.2.1 p.2.2.2) (fun p => forR (fun k x s => screen_seenOf_L1 l_1 k_2 k x s) p.2.1 p.1 p.2.2.1 = some o_15 ∧ (l_1.Zones).drop p.1 = p.2.1) (fun p => p.2.1.length) (0, l_1.Zones, ([] : List Rect), n_10) ⟨hj_16, rfl⟩ rfl (pre_r rfl) ?_)
  rintro ⟨k_4, l_5, s_9, n_12⟩ ⟨hL_14, hD_7⟩
  dsimp only at hL_14 hD_7
  cases l_5 with
  | nil =>
   obtain rfl := some_inj hL_14
   refine wH_seq (wH_region (h_op (vB (decide ((k_4 : Int) < (l_1.Zones.length : Int)))) wz rfl (h_nil ?_)))
   refine wH_seq (wH_iff rfl (drop_nil hD_7) (wH_exit ?_))
   exact cut_mk (s_9, n_12) rfl rfl (pre_r rfl)
  | cons x_6 l_5 =>
   obtain ⟨c_, hc_13, hL_14⟩ := bind_some hL_14
   refine wH_seq (wH_region (h_op (vB (decide ((k_4 : Int) < (l_1.Zones.length : Int)))) wz rfl (h_nil ?_)))
   refine wH_seq (wH_ift rfl (drop_cons hD_7) (wH_skip ?_))
   unfold screen_seenOf_L1 at hc_13
   refine wH_seq (wH_block (wH_seq (wH_region (h_op (vI (k_4 : Int)) wz rfl (h_ia es26 rfl rfl (drop_idx hD_7) rfl wz (h_ldc sz107 ag107 rfl (.d (.agg (Zone.enc x_6))) rfl wz (h_alloc 0 (.inl rfl) z107 rfl wz (fun n_17 => h_op (vI (k_4 : Int)) wz rfl (h_str 0 (.inl rfl) (fun _ _ _ => trivial) 2 sz107 rfl rfl [(vS x_6.Key), (vI x_6.On.X), (vI x_6.On.Y), (vI x_6.On.W), (vI x_6.On.H), (vI x_6.Order)] rfl wz (h_nil (wH_seq (wH_region (h_far pl28_3 rfl 3 rfl wz (h_ldr 0 0 (.inl rfl) (fun _ _ _ => trivial) sz26 ag26 rfl rfl (vL Zone.enc l_1.Zones) rfl wz (h_op (vI (k_4 : Int)) wz rfl (h_op (vI k_2) wz rfl ?_))))))))))))))))
   obtain ⟨r_18, hr_19, hc_13⟩ := bind_some hc_13
   refine h_call0 (screen_covers_ok hr_19) rfl hb62 rfl rfl rfl rfl wz (h_nil ?_)
   obtain ⟨v_20, h_21, hc_13⟩ := bind_some hc_13
   refine wH_join (β := Nm) (fun (n_22 : Nm) => ([(1, (vI k_2)), (2, (.ref n_3 0 0)), (5, (gV n_22 4 v_20)), (9, (vL Zone.enc l_1.Zones)), (10, (vI (l_1.Zones.length : Int))), (11, (vI (k_4 : Int)))] : List (Nat × V))) (fun (n_22 : Nm) => ([(n_3, some (.cells 4 [(vS l_1.Key), (vI l_1.W), (vI l_1.H), (vL Zone.enc l_1.Zones)])), (n_22, gB 4 Rect.enc v_20), (n_17, some (.cells 6 [(vS x_6.Key), (vI x_6.On.X), (vI x_6.On.Y), (vI x_6.On.W), (vI x_6.On.H), (vI x_6.Order)]))] : Hp)) (fun _ => True) ?_ ?_
   ·rcases cond_some h_21 with ⟨hc_23, h_21⟩ | ⟨hc_23, h_21⟩
    ·refine wH_ift rfl hc_23 (wH_region (h_op (gV n_12 4 s_9) wz rfl (h_far pl107_1 rfl 1 rfl wz (h_ldr 0 2 (.inl rfl) (fun _ _ _ => trivial) sz49 ag49 rfl rfl (.d (.agg (Rect.enc x_6.On))) rfl wz (h_lit (([x_6.On] : List Rect).map Rect.enc) es62 ez62 rfl rfl rfl rfl rfl wz ?_)))))
     obtain ⟨a_24, hz_25, h_21⟩ := bind_some h_21
     refine h_appg 0 (.inl rfl) (fun _ _ _ => trivial) (i := 1) el62 el62 sz49 z49 rfl (by decide) by49 (by decide) (fun _ => rfl) rfl rfl rfl hz_25 wz (fun n_26 => h_op (gV n_26 4 a_24) wz rfl (h_nil ?_))
     obtain rfl := some_inj h_21
     exact cut_mk n_26 trivial rfl (pre_r rfl)
    ·refine wH_iff rfl hc_23 (wH_skip ?_)
     obtain rfl := some_inj h_21
     exact cut_mk n_12 trivial rfl (pre_r rfl)
   ·rintro n_22 _ sl_ H_ hp_ hq_
    refine wH_at _ hp_ hq_ (wH_region (h_opw (w64_next hD_7 hn_8) wz rfl (h_op (vI ((k_4 + 1 : Nat) : Int)) wz rfl (h_nil ?_))))
    obtain rfl := some_inj hc_13
    exact loop_mk (k_4 + 1, l_5, v_20, n_22) ⟨hL_14, drop_next hD_7⟩ (Nat.lt_succ_self _) rfl (pre_r rfl)
 ·rintro ⟨s_9, n_12⟩ ho_ sl_ H_ hp_ hq_
  subst ho_
  refine wH_at _ hp_ hq_ (wH_seq (wH_frozg 1 rfl (wH_cog 5 1 rfl rfl (wH_region (h_far pl28_3 rfl 3 rfl wz (h_ldr 0 0 (.inl rfl) (fun _ _ _ => trivial) sz26 ag26 rfl rfl (vL Zone.enc l_1.Zones) rfl wz (h_op (vI k_2) wz rfl ?_)))))))
  obtain ⟨y_27, hy_28, hF⟩ := bind_some hF
  refine h_ia es26 rfl rfl hy_28 rfl wz (h_fac pl107_1 rfl [.int .i64 y_27.On.X, .int .i64 y_27.On.Y, .int .i64 y_27.On.W, .int .i64 y_27.On.H, .int .i64 y_27.Order] rfl rfl wz (h_ldc sz49 ag49 rfl (.d (.agg (Rect.enc y_27.On))) rfl wz (h_lit (([y_27.On] : List Rect).map Rect.enc) es62 ez62 rfl rfl rfl rfl rfl wz (h_op (vL Rect.enc s_9) wz rfl ?_))))
  obtain ⟨r_29, hr_30, hF⟩ := bind_some hF
  refine h_call0 (screen_region_ok hr_30) rfl hb84 rfl rfl rfl rfl wz (h_op (vL Rect.enc r_29) wz rfl (h_nil ?_))
  obtain rfl := some_inj hF
  exact wH_ret (fin0 (.inr rfl) [(vL Rect.enc r_29)] ⟨rfl, trivial⟩ rfl rfl rfl)
theorem screen_seen_ok {l_1 : Layout} {r : (List Piece) × Int} (hF : screen_seen l_1 = some r) :
  FnM Tryz.prog 63 [(.d (.agg (Layout.enc l_1)))] [] (.tup [(vL Piece.enc r.1), (vI r.2)]) [] := by
 refine FnM.of_wH ⟨Tryz.prog, 38, [], []⟩ rfl Tryz.func63 rfl rfl (Nat.le_of_ble_eq_true rfl) (by kernel_rfl) ?_
 unfold screen_seen at hF
 refine wH_seq (wH_region (h_box 0 (.inl rfl) [(vS l_1.Key), (vI l_1.W), (vI l_1.H), (vL Zone.enc l_1.Zones)] rfl rfl wz (fun n_2 => h_op .nil wz rfl (h_op (vI 0) wz rfl (h_nil (wH_seq (wH_region (h_op .nil wz rfl (h_nil (wH_seq (wH_seq (wH_region (h_far pl28_3 rfl 3 rfl wz (h_ldr 0 0 (.inl rfl) (fun _ _ _ => trivial) sz26 ag26 rfl rfl (vL Zone.enc l_1.Zones) rfl wz (h_len un26 rfl wz (h_op (vI 0) wz rfl (h_nil (wH_new (fun n_9 => ?_)))))))))))))))))))
 obtain ⟨o_14, hj_15, hF⟩ := bind_some hF
 obtain ⟨hn_7, hj_15⟩ := forL_some hj_15
 refine wH_join (β := ((List Piece)) × Nm) (fun p => (fun (s_8 : (List Piece)) (n_11 : Nm) => ([(4, (gV n_11 5 s_8))] : List (Nat × V))) p.1 p.2) (fun p => (fun (s_8 : (List Piece)) (n_11 : Nm) => ([(n_2, some (.cells 4 [(vS l_1.Key), (vI l_1.W), (vI l_1.H), (vL Zone.enc l_1.Zones)])), (n_11, gB 5 Piece.enc s_8)] : Hp)) p.1 p.2) (fun p => o_14 = .go p.1) ?_ ?_
 ·refine wH_block (wH_loop (β := Nat × (List Zone) × ((List Piece)) × Nm) (fun p => (fun (k_3 : Nat) (l_4 : List Zone) (s_8 : (List Piece)) (n_11 : Nm) => ([(1, (.ref n_2 0 0)), (4, (gV n_11 5 s_8)), (10, (vL Zone.enc l_1.Zones)), (11, (vI (l_1.Zones.length : Int))), (12, (vI (k_3 : Int)))] : List (Nat × V))) p.1 p.2.1 p.2.2.1 p.2.2.2) (fun p => (fun (k_3 : Nat) (l_4 : List Zone) (s_8 : (List Piece)) (n_11 : Nm) => ([(n_2, some (.cells 4 [(vS l_1.Key), (vI l_1.W), (vI l_1.H), (vL Zone.enc l_1.Zones)])), (n_11, gB 5 Piece.enc s_8)] : Hp)) p.1 p.2.1 p.2.2.1 p.2.2.2) (fun p => forR (fun k x s => screen_seen_L2 l_1 k x s) p.2.1 p.1 p.2.2.1 = some o_14 ∧ (l_1.Zones).drop p.1 = p.2.1) (fun p => p.2.1.length) (0, l_1.Zones, ([] : List Piece), n_9) ⟨hj_15, rfl⟩ rfl (pre_r rfl) ?_)
  rintro ⟨k_3, l_4, s_8, n_11⟩ ⟨hL_13, hD_6⟩
  dsimp only at hL_13 hD_6
  cases l_4 with
  | nil =>
   obtain rfl := some_inj hL_13
   refine wH_seq (wH_region (h_op (vB (decide ((k_3 : Int) < (l_1.Zones.length : Int)))) wz rfl (h_nil ?_)))
   refine wH_seq (wH_iff rfl (drop_nil hD_6) (wH_exit ?_))
   exact cut_mk (s_8, n_11) rfl rfl (pre_r rfl)
  | cons x_5 l_4 =>
   obtain ⟨c_, hc_12, hL_13⟩ := bind_some hL_13
   refine wH_seq (wH_region (h_op (vB (decide ((k_3 : Int) < (l_1.Zones.length : Int)))) wz rfl (h_nil ?_)))
   refine wH_seq (wH_ift rfl (drop_cons hD_6) (wH_skip ?_))
   unfold screen_seen_L2 at hc_12
   refine wH_seq (wH_block (wH_seq (wH_region (h_op (vI (k_3 : Int)) wz rfl (h_ia es26 rfl rfl (drop_idx hD_6) rfl wz (h_ldc sz107 ag107 rfl (.d (.agg (Zone.enc x_5))) rfl wz (h_alloc 0 (.inl rfl) z107 rfl wz (fun n_16 => h_op (vI (k_3 : Int)) wz rfl (h_str 0 (.inl rfl) (fun _ _ _ => trivial) 2 sz107 rfl rfl [(vS x_5.Key), (vI x_5.On.X), (vI x_5.On.Y), (vI x_5.On.W), (vI x_5.On.H), (vI x_5.Order)] rfl wz (h_nil (wH_seq (wH_region (h_ldr 0 0 (.inl rfl) (fun _ _ _ => trivial) sz28 ag28 rfl rfl (.d (.agg (Layout.enc l_1))) rfl wz (h_op (vI (k_3 : Int)) wz rfl ?_))))))))))))))
   obtain ⟨r_17, hr_18, hc_12⟩ := bind_some hc_12
   refine h_call0 (screen_seenOf_ok hr_18) rfl hb64 rfl rfl rfl rfl wz (h_len un62 rfl wz (h_op (vI 0) wz rfl (h_nil ?_)))
   obtain ⟨o_29, hj_30, hc_12⟩ := bind_some hc_12
   obtain ⟨hn_23, hj_30⟩ := forL_some hj_30
   refine wH_join (β := ((List Piece)) × Nm) (fun p => (fun (s_24 : (List Piece)) (n_26 : Nm) => ([(1, (.ref n_2 0 0)), (4, (gV n_26 5 s_24)), (10, (vL Zone.enc l_1.Zones)), (11, (vI (l_1.Zones.length : Int))), (12, (vI (k_3 : Int)))] : List (Nat × V))) p.1 p.2) (fun p => (fun (s_24 : (List Piece)) (n_26 : Nm) => ([(n_2, some (.cells 4 [(vS l_1.Key), (vI l_1.W), (vI l_1.H), (vL Zone.enc l_1.Zones)])), (n_26, gB 5 Piece.enc s_24), (n_16, some (.cells 6 [(vS x_5.Key), (vI x_5.On.X), (vI x_5.On.Y), (vI x_5.On.W), (vI x_5.On.H), (vI x_5.Order)]))] : Hp)) p.1 p.2) (fun p => o_29 = .go p.1) ?_ ?_
   ·refine wH_block (wH_loop (β := Nat × (List Rect) × ((List Piece)) × Nm) (fun p => (fun (k_19 : Nat) (l_20 : List Rect) (s_24 : (List Piece)) (n_26 : Nm) => ([(1, (.ref n_2 0 0)), (4, (gV n_26 5 s_24)), (6, (.ref n_16 0 0)), (10, (vL Zone.enc l_1.Zones)), (11, (vI (l_1.Zones.length : Int))), (12, (vI (k_3 : Int))), (19, (vL Rect.enc r_17)), (20, (vI (r_17.length : Int))), (21, (vI (k_19 : Int)))] : List (Nat × V))) p.1 p.2.1 p.2.2.1 p.2.2.2) (fun p => (fun (k_19 : Nat) (l_20 : List Rect) (s_24 : (List Piece)) (n_26 : Nm) => ([(n_2, some (.cells 4 [(vS l_1.Key), (vI l_1.W), (vI l_1.H), (vL Zone.enc l_1.Zones)])), (n_26, gB 5 Piece.enc s_24), (n_16, some (.cells 6 [(vS x_5.Key), (vI x_5.On.X), (vI x_5.On.Y), (vI x_5.On.W), (vI x_5.On.H), (vI x_5.Order)]))] : Hp)) p.1 p.2.1 p.2.2.1 p.2.2.2) (fun p => forR (fun k x s => screen_seen_L1 x_5 k x s) p.2.1 p.1 p.2.2.1 = some o_29 ∧ (r_17).drop p.1 = p.2.1) (fun p => p.2.1.length) (0, r_17, s_8, n_11) ⟨hj_30, rfl⟩ rfl (pre_r rfl) ?_)
    rintro ⟨k_19, l_20, s_24, n_26⟩ ⟨hL_28, hD_22⟩
    dsimp only at hL_28 hD_22
    cases l_20 with
    | nil =>
     obtain rfl := some_inj hL_28
     refine wH_seq (wH_region (h_op (vB (decide ((k_19 : Int) < (r_17.length : Int)))) wz rfl (h_nil ?_)))
     refine wH_seq (wH_iff rfl (drop_nil hD_22) (wH_exit ?_))
     exact cut_mk (s_24, n_26) rfl rfl (pre_r rfl)
    | cons x_21 l_20 =>
     obtain ⟨c_, hc_27, hL_28⟩ := bind_some hL_28
     refine wH_seq (wH_region (h_op (vB (decide ((k_19 : Int) < (r_17.length : Int)))) wz rfl (h_nil ?_)))
     refine wH_seq (wH_ift rfl (drop_cons hD_22) (wH_skip ?_))
     unfold screen_seen_L1 at hc_27
     refine wH_seq (wH_block (wH_seq (wH_region (h_ia es62 rfl rfl (drop_idx hD_22) rfl wz (h_ldc sz49 ag49 rfl (.d (.agg (Rect.enc x_21))) rfl wz (h_alloc 0 (.inl rfl) z49 rfl wz (fun n_31 => h_str 0 (.inl rfl) (fun _ _ _ => trivial) 3 sz49 rfl rfl [(vI x_21.X), (vI x_21.Y), (vI x_21.W), (vI x_21.H)] rfl wz (h_nil (wH_region (h_op (gV n_26 5 s_24) wz rfl (h_far pl107_0 rfl 0 rfl wz (h_ldr 0 2 (.inl rfl) (fun _ _ _ => trivial) sz9 ag9 rfl rfl (vS x_5.Key) rfl wz (h_ldr 0 3 (.inl rfl) (fun _ _ _ => trivial) sz49 ag49 rfl rfl (.d (.agg (Rect.enc x_21))) rfl wz (h_op (.d (.agg (Piece.enc (⟨x_5.Key, x_21⟩ : Piece)))) wz (by kernel_rfl) (h_lit (([(⟨x_5.Key, x_21⟩ : Piece)] : List Piece).map Piece.enc) es35 ez35 rfl rfl rfl rfl rfl wz ?_)))))))))))))))
     obtain ⟨a_32, hz_33, hc_27⟩ := bind_some hc_27
     refine h_appg 0 (.inl rfl) (fun _ _ _ => trivial) (i := 1) el35 el35 sz51 z51 rfl (by decide) by51 (by decide) (fun _ => rfl) rfl rfl rfl hz_33 wz (fun n_34 => h_op (gV n_34 5 a_32) wz rfl (h_nil (wH_region (h_opw (w64_next hD_22 hn_23) wz rfl (h_op (vI ((k_19 + 1 : Nat) : Int)) wz rfl (h_nil ?_))))))
     obtain rfl := some_inj hc_27
     exact loop_mk (k_19 + 1, l_20, a_32, n_34) ⟨hL_28, drop_next hD_22⟩ (Nat.lt_succ_self _) rfl (pre_r rfl)
   ·rintro ⟨s_24, n_26⟩ ho_ sl_ H_ hp_ hq_
    subst ho_
    refine wH_at _ hp_ hq_ (wH_region (h_opw (w64_next hD_6 hn_7) wz rfl (h_op (vI ((k_3 + 1 : Nat) : Int)) wz rfl (h_nil ?_))))
    obtain rfl := some_inj hc_12
    exact loop_mk (k_3 + 1, l_4, s_24, n_26) ⟨hL_13, drop_next hD_6⟩ (Nat.lt_succ_self _) rfl (pre_r rfl)
 ·rintro ⟨s_8, n_11⟩ ho_ sl_ H_ hp_ hq_
  subst ho_
  refine wH_at _ hp_ hq_ (wH_seq (wH_seq (wH_region (h_op (gV n_11 5 s_8) wz rfl (h_leng un35 rfl wz (h_op (vB (decide ((s_8.length : Int) > 2000))) wz rfl (h_nil ?_)))))))
  rcases cond_some hF with ⟨hc_35, hF⟩ | ⟨hc_35, hF⟩
  ·refine wH_ift rfl hc_35 (wH_seq (wH_region (h_op .nil wz rfl (h_op (vI 2) wz rfl (h_nil ?_)))))
   obtain rfl := some_inj hF
   exact wH_ret (fin0 (.inr rfl) [.nil, (vI 2)] ⟨rfl, ⟨rfl, trivial⟩⟩ rfl rfl rfl)
  ·refine wH_iff rfl hc_35 (wH_skip (wH_seq (wH_region (h_op (gV n_11 5 s_8) wz rfl (h_op (gV n_11 5 s_8) wz rfl (h_op (vI 0) wz rfl (h_nil (wH_frozg 1 rfl (wH_cog 2 1 rfl rfl (wH_cog 4 1 rfl rfl (wH_cog 34 1 rfl rfl (wH_cog 37 1 rfl rfl ?_))))))))))))
   obtain rfl := some_inj hF
   exact wH_ret (fin0 (.inr rfl) [(vL Piece.enc s_8), (vI 0)] ⟨rfl, ⟨rfl, trivial⟩⟩ rfl rfl rfl)
theorem ref_in_ok {n_1 : Int} {low_2 : Int} {high_3 : Int} {r : Bool} (hF : ref_in n_1 low_2 high_3 = some r) :
  FnM Tryz.prog 68 [(vI n_1), (vI low_2), (vI high_3)] [] (vB r) [] := by
 refine FnM.of_wH ⟨Tryz.prog, 15, [], []⟩ rfl Tryz.func68 rfl rfl (Nat.le_of_ble_eq_true rfl) (by kernel_rfl) ?_
 unfold ref_in at hF
 refine wH_seq (wH_region (h_op (vB false) wz rfl (h_nil (wH_seq ?_))))
 obtain ⟨v_4, h_5, hF⟩ := bind_some hF
 refine wH_join (β := Unit) (fun _ => ([(6, (vB v_4))] : List (Nat × V))) (fun _ => ([] : Hp)) (fun _ => True) ?_ ?_
 ·refine wH_region (h_op (vI low_2) wz rfl (h_op (vI n_1) wz rfl (h_op (vB (decide (low_2 ≤ n_1))) wz rfl ?_)))
  rcases cond_some h_5 with ⟨hc_6, h_5⟩ | ⟨hc_6, h_5⟩
  ·refine h_movb rfl hc_6 wz (h_op (vI n_1) (wg rfl rfl rfl) rfl (h_op (vI high_3) (wg rfl rfl rfl) rfl (h_op (vB (decide (n_1 ≤ high_3))) (wg rfl rfl rfl) rfl (h_op (vB (decide (n_1 ≤ high_3))) wz rfl (h_op (vB (decide (n_1 ≤ high_3))) wz rfl (h_nil ?_))))))
   obtain rfl := some_inj h_5
   exact cut_mk () trivial rfl (pre_r rfl)
  ·refine h_movb rfl hc_6 wz (h_skip (wg rfl rfl rfl) (h_skip (wg rfl rfl rfl) (h_skip (wg rfl rfl rfl) (h_op (vB false) wz rfl (h_op (vB false) wz rfl (h_nil ?_))))))
   obtain rfl := some_inj h_5
   exact cut_mk () trivial rfl (pre_r rfl)
 ·rintro ⟨⟩ _ sl_ H_ hp_ hq_
  refine wH_at _ hp_ hq_ ?_
  obtain rfl := some_inj hF
  exact wH_ret (fin0 (.inr rfl) [(vB v_4)] ⟨rfl, trivial⟩ rfl rfl rfl)
theorem internal_stringslite_IndexByte_ok {s_1 : ByteArray} {c_2 : Int} {r : Int} (hF : internal_stringslite_IndexByte s_1 c_2 = some r) :
  FnM Tryz.prog 176 [(vS s_1), (.d (.int .u8 c_2))] [] (vI r) [] := by
 refine FnM.of_wH ⟨Tryz.prog, 8, [], []⟩ rfl Tryz.func176 rfl rfl (Nat.le_of_ble_eq_true rfl) (by kernel_rfl) ?_
 unfold internal_stringslite_IndexByte at hF
 refine wH_seq (wH_region (h_op (vI 0) wz rfl (h_nil (wH_seq (wH_region (h_op (vS s_1) wz rfl (h_op (.d (.int .u8 c_2)) wz rfl (h_ext (ext_ixB (f := 214) Tryz.func214 rfl rfl (by kernel_rfl) (by kernel_rfl) _ _) rfl nb214 rfl wz (h_op (vI (ixB s_1 c_2)) wz rfl (h_nil ?_))))))))))
 obtain rfl := some_inj hF
 exact wH_ret (fin0 (.inr rfl) [(vI (ixB s_1 c_2))] ⟨rfl, trivial⟩ rfl rfl rfl)
theorem strings_IndexByte_ok {s_1 : ByteArray} {c_2 : Int} {r : Int} (hF : strings_IndexByte s_1 c_2 = some r) :
  FnM Tryz.prog 150 [(vS s_1), (.d (.int .u8 c_2))] [] (vI r) [] := by
 refine FnM.of_wH ⟨Tryz.prog, 8, [], []⟩ rfl Tryz.func150 rfl rfl (Nat.le_of_ble_eq_true rfl) (by kernel_rfl) ?_
 unfold strings_IndexByte at hF
 refine wH_seq (wH_region (h_op (vI 0) wz rfl (h_nil (wH_seq (wH_region (h_op (vS s_1) wz rfl (h_op (.d (.int .u8 c_2)) wz rfl ?_)))))))
 obtain ⟨r_3, hr_4, hF⟩ := bind_some hF
 refine h_call0 (internal_stringslite_IndexByte_ok hr_4) rfl hb176 rfl rfl rfl rfl wz (h_op (vI r_3) wz rfl (h_nil ?_))
 obtain rfl := some_inj hF
 exact wH_ret (fin0 (.inr rfl) [(vI r_3)] ⟨rfl, trivial⟩ rfl rfl rfl)
theorem ref_only_ok {s_1 : ByteArray} {somev_2 : ByteArray} {r : Bool} (hF : ref_only s_1 somev_2 = some r) :
  FnM Tryz.prog 109 [(vS s_1), (vS somev_2)] [] (vB r) [] := by
 refine FnM.of_wH ⟨Tryz.prog, 18, [], []⟩ rfl Tryz.func109 rfl rfl (Nat.le_of_ble_eq_true rfl) (by kernel_rfl) ?_
 unfold ref_only at hF
 refine wH_seq (wH_region (h_op (vB false) wz rfl (h_nil (wH_seq (wH_seq (wH_region (h_op (vS s_1) wz rfl (h_lens un9 rfl wz (h_op (vI 0) wz rfl (h_nil ?_))))))))))
 obtain ⟨o_11, hj_12, hF⟩ := bind_some hF
 obtain ⟨hn_7, hj_12⟩ := forL_some hj_12
 refine wH_join (β := (Unit)) (fun (s_8 : Unit) => ([] : List (Nat × V))) (fun (s_8 : Unit) => ([] : Hp)) (fun p => o_11 = .go p) ?_ ?_
 ·refine wH_block (wH_loop (β := Nat × (List Nat) × (Unit)) (fun p => (fun (k_3 : Nat) (l_4 : List Nat) (s_8 : Unit) => ([(0, (vS s_1)), (1, (vS somev_2)), (7, (vI (s_1.size : Int))), (8, (vI (k_3 : Int)))] : List (Nat × V))) p.1 p.2.1 p.2.2) (fun p => (fun (k_3 : Nat) (l_4 : List Nat) (s_8 : Unit) => ([] : Hp)) p.1 p.2.1 p.2.2) (fun p => forR (fun k x s => ref_only_L1 s_1 somev_2 k x s) p.2.1 p.1 p.2.2 = some o_11 ∧ ((List.range ((s_1.size : Int)).toNat)).drop p.1 = p.2.1) (fun p => p.2.1.length) (0, (List.range ((s_1.size : Int)).toNat), ()) ⟨hj_12, rfl⟩ rfl (pre_r rfl) ?_)
  rintro ⟨k_3, l_4, s_8⟩ ⟨hL_10, hD_6⟩
  dsimp only at hL_10 hD_6
  cases l_4 with
  | nil =>
   obtain rfl := some_inj hL_10
   refine wH_seq (wH_region (h_op (vB (decide ((k_3 : Int) < (s_1.size : Int)))) wz rfl (h_nil ?_)))
   refine wH_seq (wH_iff rfl (range_nil hD_6) (wH_exit ?_))
   exact cut_mk (s_8) rfl rfl (pre_r rfl)
  | cons x_5 l_4 =>
   obtain ⟨c_, hc_9, hL_10⟩ := bind_some hL_10
   refine wH_seq (wH_region (h_op (vB (decide ((k_3 : Int) < (s_1.size : Int)))) wz rfl (h_nil ?_)))
   refine wH_seq (wH_ift rfl (range_cons hD_6) (wH_skip ?_))
   unfold ref_only_L1 at hc_9
   refine wH_seq (wH_block (wH_seq (wH_region (h_op (vI (k_3 : Int)) wz rfl (h_op (vI (k_3 : Int)) wz rfl (h_nil (wH_seq (wH_region (h_op (vS somev_2) wz rfl (h_op (vS s_1) wz rfl (h_op (vI (k_3 : Int)) wz rfl ?_)))))))))))
   obtain ⟨b_13, hy_14, hc_9⟩ := bind_some hc_9
   refine h_idxs un9 rfl rfl hy_14 wz ?_
   obtain ⟨r_15, hr_16, hc_9⟩ := bind_some hc_9
   refine h_call0 (strings_IndexByte_ok hr_16) rfl hb150 rfl rfl rfl rfl wz (h_op (vB (decide (r_15 < 0))) wz rfl (h_nil ?_))
   rcases cond_some hc_9 with ⟨hc_17, hc_9⟩ | ⟨hc_17, hc_9⟩
   ·refine wH_ift rfl hc_17 (wH_seq (wH_region (h_op (vB false) wz rfl (h_nil ?_))))
    obtain rfl := some_inj hc_9
    obtain rfl := some_inj hL_10
    obtain rfl := some_inj hF
    exact wH_ret (fin0 (.inr rfl) [(vB false)] ⟨rfl, trivial⟩ rfl rfl rfl)
   ·refine wH_iff rfl hc_17 (wH_skip (wH_region (h_opw (w64_nextr hD_6 hn_7) wz rfl (h_op (vI ((k_3 + 1 : Nat) : Int)) wz rfl (h_nil ?_)))))
    obtain rfl := some_inj hc_9
    exact loop_mk (k_3 + 1, l_4, ()) ⟨hL_10, drop_next hD_6⟩ (Nat.lt_succ_self _) rfl (pre_r rfl)
 ·rintro s_8 ho_ sl_ H_ hp_ hq_
  subst ho_
  refine wH_at _ hp_ hq_ (wH_seq (wH_region (h_op (vB true) wz rfl (h_nil ?_))))
  obtain rfl := some_inj hF
  exact wH_ret (fin0 (.inr rfl) [(vB true)] ⟨rfl, trivial⟩ rfl rfl rfl)
theorem ref_Key_ok {s_1 : ByteArray} {r : Bool} (hF : ref_Key s_1 = some r) :
  FnM Tryz.prog 65 [(vS s_1)] [] (vB r) [] := by
 refine FnM.of_wH ⟨Tryz.prog, 15, [], []⟩ rfl Tryz.func65 rfl rfl (Nat.le_of_ble_eq_true rfl) (by kernel_rfl) ?_
 unfold ref_Key at hF
 refine wH_seq (wH_region (h_op (vB false) wz rfl (h_nil (wH_seq ?_))))
 obtain ⟨v_2, h_3, hF⟩ := bind_some hF
 refine wH_join (β := Unit) (fun _ => ([(2, (vB v_2))] : List (Nat × V))) (fun _ => ([] : Hp)) (fun _ => True) ?_ ?_
 ·refine wH_region (h_op (vS s_1) wz rfl (h_lens un9 rfl wz ?_))
  obtain ⟨r_4, hr_5, h_3⟩ := bind_some h_3
  refine h_call0 (ref_in_ok hr_5) rfl hb68 rfl rfl rfl rfl wz ?_
  rcases cond_some h_3 with ⟨hc_6, h_3⟩ | ⟨hc_6, h_3⟩
  ·refine h_movb rfl hc_6 wz (h_op (vS s_1) (wg rfl rfl rfl) rfl ?_)
   obtain ⟨y_7, hy_8, h_3⟩ := bind_some h_3
   refine h_subFalseTrue un9 rfl rfl hy_8 (wg rfl rfl rfl) ?_
   obtain ⟨r_9, hr_10, h_3⟩ := bind_some h_3
   refine h_call0 (ref_only_ok hr_10) rfl hb109 rfl rfl rfl rfl (wg rfl rfl rfl) (h_op (vB r_9) wz rfl ?_)
   rcases cond_some h_3 with ⟨hc_11, h_3⟩ | ⟨hc_11, h_3⟩
   ·refine h_movb rfl hc_11 wz (h_op (vS s_1) (wg rfl rfl rfl) rfl ?_)
    obtain ⟨r_12, hr_13, h_3⟩ := bind_some h_3
    refine h_call0 (ref_only_ok hr_13) rfl hb109 rfl rfl rfl rfl (wg rfl rfl rfl) (h_op (vB r_12) wz rfl (h_op (vB r_12) wz rfl (h_nil ?_)))
    obtain rfl := some_inj h_3
    exact cut_mk () trivial rfl (pre_r rfl)
   ·refine h_movb rfl hc_11 wz (h_skip (wg rfl rfl rfl) (h_skip (wg rfl rfl rfl) (h_op (vB false) wz rfl (h_op (vB false) wz rfl (h_nil ?_)))))
    obtain rfl := some_inj h_3
    exact cut_mk () trivial rfl (pre_r rfl)
  ·refine h_movb rfl hc_6 wz (h_skip (wg rfl rfl rfl) (h_skip (wg rfl rfl rfl) (h_skip (wg rfl rfl rfl) (h_op (vB false) wz rfl (h_op (vB false) wz rfl (h_skip (wg rfl rfl rfl) (h_skip (wg rfl rfl rfl) (h_op (vB false) wz rfl (h_op (vB false) wz rfl (h_nil ?_))))))))))
   obtain rfl := some_inj h_3
   exact cut_mk () trivial rfl (pre_r rfl)
 ·rintro ⟨⟩ _ sl_ H_ hp_ hq_
  refine wH_at _ hp_ hq_ ?_
  obtain rfl := some_inj hF
  exact wH_ret (fin0 (.inr rfl) [(vB v_2)] ⟨rfl, trivial⟩ rfl rfl rfl)
theorem ref_side_ok {n_1 : Int} {r : Bool} (hF : ref_side n_1 = some r) :
  FnM Tryz.prog 66 [(vI n_1)] [] (vB r) [] := by
 refine FnM.of_wH ⟨Tryz.prog, 5, [], []⟩ rfl Tryz.func66 rfl rfl (Nat.le_of_ble_eq_true rfl) (by kernel_rfl) ?_
 unfold ref_side at hF
 refine wH_seq (wH_region (h_op (vB false) wz rfl (h_nil (wH_seq (wH_region (h_op (vI n_1) wz rfl ?_))))))
 obtain ⟨r_2, hr_3, hF⟩ := bind_some hF
 refine h_call0 (ref_in_ok hr_3) rfl hb68 rfl rfl rfl rfl wz (h_op (vB r_2) wz rfl (h_nil ?_))
 obtain rfl := some_inj hF
 exact wH_ret (fin0 (.inr rfl) [(vB r_2)] ⟨rfl, trivial⟩ rfl rfl rfl)
theorem ref_RectFault_ok {r_1 : Rect} {r : Int} (hF : ref_RectFault r_1 = some r) :
  FnM Tryz.prog 31 [(.d (.agg (Rect.enc r_1)))] [] (vI r) [] := by
 refine FnM.of_wH ⟨Tryz.prog, 31, [], []⟩ rfl Tryz.func31 rfl rfl (Nat.le_of_ble_eq_true rfl) (by kernel_rfl) ?_
 unfold ref_RectFault at hF
 refine wH_seq (wH_region (h_box 0 (.inl rfl) [(vI r_1.X), (vI r_1.Y), (vI r_1.W), (vI r_1.H)] rfl rfl wz (fun n_2 => h_op (vI 0) wz rfl (h_nil (wH_seq (wH_seq ?_))))))
 obtain ⟨v_3, h_4, hF⟩ := bind_some hF
 refine wH_join (β := Unit) (fun _ => ([(30, (vB v_3))] : List (Nat × V))) (fun _ => ([(n_2, some (.cells 4 [(vI r_1.X), (vI r_1.Y), (vI r_1.W), (vI r_1.H)]))] : Hp)) (fun _ => True) ?_ ?_
 ·refine wH_region (h_far pl49_0 rfl 0 rfl wz (h_ldr 0 0 (.inl rfl) (fun _ _ _ => trivial) sz3 ag3 rfl rfl (vI r_1.X) rfl wz ?_))
  obtain ⟨r_5, hr_6, h_4⟩ := bind_some h_4
  refine h_call0 (ref_in_ok hr_6) rfl hb68 rfl rfl rfl rfl wz (h_op (vB (!r_5)) wz rfl ?_)
  rcases cond_some h_4 with ⟨hc_7, h_4⟩ | ⟨hc_7, h_4⟩
  ·refine h_movb rfl hc_7 wz (h_skip (wg rfl rfl rfl) (h_skip (wg rfl rfl rfl) (h_skip (wg rfl rfl rfl) (h_skip (wg rfl rfl rfl) (h_op (vB true) wz rfl (h_op (vB true) wz rfl (h_skip (wg rfl rfl rfl) (h_skip (wg rfl rfl rfl) (h_skip (wg rfl rfl rfl) (h_skip (wg rfl rfl rfl) (h_skip (wg rfl rfl rfl) (h_skip (wg rfl rfl rfl) (h_skip (wg rfl rfl rfl) (h_op (vB true) wz rfl (h_op (vB true) wz rfl (h_skip (wg rfl rfl rfl) (h_skip (wg rfl rfl rfl) (h_skip (wg rfl rfl rfl) (h_skip (wg rfl rfl rfl) (h_skip (wg rfl rfl rfl) (h_skip (wg rfl rfl rfl) (h_skip (wg rfl rfl rfl) (h_op (vB true) wz rfl ?_)))))))))))))))))))))))
   refine h_nil ?_
   obtain rfl := some_inj h_4
   exact cut_mk () trivial rfl (pre_r rfl)
  ·refine h_movb rfl hc_7 wz (h_far pl49_1 rfl 1 rfl (wg rfl rfl rfl) (h_ldr 0 0 (.inl rfl) (fun _ _ _ => trivial) sz3 ag3 rfl rfl (vI r_1.Y) rfl (wg rfl rfl rfl) ?_))
   obtain ⟨r_8, hr_9, h_4⟩ := bind_some h_4
   refine h_call0 (ref_in_ok hr_9) rfl hb68 rfl rfl rfl rfl (wg rfl rfl rfl) (h_op (vB (!r_8)) (wg rfl rfl rfl) rfl (h_op (vB (!r_8)) wz rfl ?_))
   rcases cond_some h_4 with ⟨hc_10, h_4⟩ | ⟨hc_10, h_4⟩
   ·refine h_movb rfl hc_10 wz (h_skip (wg rfl rfl rfl) (h_skip (wg rfl rfl rfl) (h_skip (wg rfl rfl rfl) (h_skip (wg rfl rfl rfl) (h_skip (wg rfl rfl rfl) (h_skip (wg rfl rfl rfl) (h_skip (wg rfl rfl rfl) (h_op (vB true) wz rfl (h_op (vB true) wz rfl (h_skip (wg rfl rfl rfl) (h_skip (wg rfl rfl rfl) (h_skip (wg rfl rfl rfl) (h_skip (wg rfl rfl rfl) (h_skip (wg rfl rfl rfl) (h_skip (wg rfl rfl rfl) (h_skip (wg rfl rfl rfl) (h_op (vB true) wz rfl (h_nil ?_))))))))))))))))))
    obtain rfl := some_inj h_4
    exact cut_mk () trivial rfl (pre_r rfl)
   ·refine h_movb rfl hc_10 wz (h_far pl49_2 rfl 2 rfl (wg rfl rfl rfl) (h_ldr 0 0 (.inl rfl) (fun _ _ _ => trivial) sz3 ag3 rfl rfl (vI r_1.W) rfl (wg rfl rfl rfl) (h_far pl49_0 rfl 0 rfl (wg rfl rfl rfl) (h_ldr 0 0 (.inl rfl) (fun _ _ _ => trivial) sz3 ag3 rfl rfl (vI r_1.X) rfl (wg rfl rfl rfl) (h_op (vI (w64 (100000 - r_1.X))) (wg rfl rfl rfl) rfl ?_)))))
    obtain ⟨r_11, hr_12, h_4⟩ := bind_some h_4
    refine h_call0 (ref_in_ok hr_12) rfl hb68 rfl rfl rfl rfl (wg rfl rfl rfl) (h_op (vB (!r_11)) (wg rfl rfl rfl) rfl (h_op (vB (!r_11)) wz rfl ?_))
    rcases cond_some h_4 with ⟨hc_13, h_4⟩ | ⟨hc_13, h_4⟩
    ·refine h_movb rfl hc_13 wz (h_skip (wg rfl rfl rfl) (h_skip (wg rfl rfl rfl) (h_skip (wg rfl rfl rfl) (h_skip (wg rfl rfl rfl) (h_skip (wg rfl rfl rfl) (h_skip (wg rfl rfl rfl) (h_skip (wg rfl rfl rfl) (h_op (vB true) wz rfl (h_nil ?_)))))))))
     obtain rfl := some_inj h_4
     exact cut_mk () trivial rfl (pre_r rfl)
    ·refine h_movb rfl hc_13 wz (h_far pl49_3 rfl 3 rfl (wg rfl rfl rfl) (h_ldr 0 0 (.inl rfl) (fun _ _ _ => trivial) sz3 ag3 rfl rfl (vI r_1.H) rfl (wg rfl rfl rfl) (h_far pl49_1 rfl 1 rfl (wg rfl rfl rfl) (h_ldr 0 0 (.inl rfl) (fun _ _ _ => trivial) sz3 ag3 rfl rfl (vI r_1.Y) rfl (wg rfl rfl rfl) (h_op (vI (w64 (100000 - r_1.Y))) (wg rfl rfl rfl) rfl ?_)))))
     obtain ⟨r_14, hr_15, h_4⟩ := bind_some h_4
     refine h_call0 (ref_in_ok hr_15) rfl hb68 rfl rfl rfl rfl (wg rfl rfl rfl) (h_op (vB (!r_14)) (wg rfl rfl rfl) rfl (h_op (vB (!r_14)) wz rfl (h_nil ?_)))
     obtain rfl := some_inj h_4
     exact cut_mk () trivial rfl (pre_r rfl)
 ·rintro ⟨⟩ _ sl_ H_ hp_ hq_
  refine wH_at _ hp_ hq_ ?_
  rcases cond_some hF with ⟨hc_16, hF⟩ | ⟨hc_16, hF⟩
  ·refine wH_ift rfl hc_16 (wH_seq (wH_region (h_op (vI 1) wz rfl (h_nil ?_))))
   obtain rfl := some_inj hF
   exact wH_ret (fin0 (.inr rfl) [(vI 1)] ⟨rfl, trivial⟩ rfl rfl rfl)
  ·refine wH_iff rfl hc_16 (wH_skip (wH_seq (wH_region (h_op (vI 0) wz rfl (h_nil ?_)))))
   obtain rfl := some_inj hF
   exact wH_ret (fin0 (.inr rfl) [(vI 0)] ⟨rfl, trivial⟩ rfl rfl rfl)
theorem ref_within_ok {r_1 : Rect} {wv_2 : Int} {h_3 : Int} {r : Bool} (hF : ref_within r_1 wv_2 h_3 = some r) :
  FnM Tryz.prog 67 [(.d (.agg (Rect.enc r_1))), (vI wv_2), (vI h_3)] [] (vB r) [] := by
 refine FnM.of_wH ⟨Tryz.prog, 33, [], []⟩ rfl Tryz.func67 rfl rfl (Nat.le_of_ble_eq_true rfl) (by kernel_rfl) ?_
 unfold ref_within at hF
 refine wH_seq (wH_region (h_box 0 (.inl rfl) [(vI r_1.X), (vI r_1.Y), (vI r_1.W), (vI r_1.H)] rfl rfl wz (fun n_4 => h_op (vB false) wz rfl (h_nil (wH_seq ?_)))))
 obtain ⟨v_5, h_6, hF⟩ := bind_some hF
 refine wH_join (β := Unit) (fun _ => ([(6, (vB v_5))] : List (Nat × V))) (fun _ => ([(n_4, some (.cells 4 [(vI r_1.X), (vI r_1.Y), (vI r_1.W), (vI r_1.H)]))] : Hp)) (fun _ => True) ?_ ?_
 ·refine wH_region (h_far pl49_0 rfl 0 rfl wz (h_ldr 0 0 (.inl rfl) (fun _ _ _ => trivial) sz3 ag3 rfl rfl (vI r_1.X) rfl wz (h_op (vB (decide (r_1.X ≥ 0))) wz rfl ?_)))
  rcases cond_some h_6 with ⟨hc_7, h_6⟩ | ⟨hc_7, h_6⟩
  ·refine h_movb rfl hc_7 wz (h_far pl49_1 rfl 1 rfl (wg rfl rfl rfl) (h_ldr 0 0 (.inl rfl) (fun _ _ _ => trivial) sz3 ag3 rfl rfl (vI r_1.Y) rfl (wg rfl rfl rfl) (h_op (vB (decide (r_1.Y ≥ 0))) (wg rfl rfl rfl) rfl (h_op (vB (decide (r_1.Y ≥ 0))) wz rfl ?_))))
   rcases cond_some h_6 with ⟨hc_8, h_6⟩ | ⟨hc_8, h_6⟩
   ·refine h_movb rfl hc_8 wz (h_far pl49_0 rfl 0 rfl (wg rfl rfl rfl) (h_ldr 0 0 (.inl rfl) (fun _ _ _ => trivial) sz3 ag3 rfl rfl (vI r_1.X) rfl (wg rfl rfl rfl) (h_far pl49_2 rfl 2 rfl (wg rfl rfl rfl) (h_ldr 0 0 (.inl rfl) (fun _ _ _ => trivial) sz3 ag3 rfl rfl (vI r_1.W) rfl (wg rfl rfl rfl) (h_op (vI (w64 (r_1.X + r_1.W))) (wg rfl rfl rfl) rfl (h_op (vI wv_2) (wg rfl rfl rfl) rfl (h_op (vB (decide ((w64 (r_1.X + r_1.W)) ≤ wv_2))) (wg rfl rfl rfl) rfl (h_op (vB (decide ((w64 (r_1.X + r_1.W)) ≤ wv_2))) wz rfl ?_))))))))
    rcases cond_some h_6 with ⟨hc_9, h_6⟩ | ⟨hc_9, h_6⟩
    ·refine h_movb rfl hc_9 wz (h_far pl49_1 rfl 1 rfl (wg rfl rfl rfl) (h_ldr 0 0 (.inl rfl) (fun _ _ _ => trivial) sz3 ag3 rfl rfl (vI r_1.Y) rfl (wg rfl rfl rfl) (h_far pl49_3 rfl 3 rfl (wg rfl rfl rfl) (h_ldr 0 0 (.inl rfl) (fun _ _ _ => trivial) sz3 ag3 rfl rfl (vI r_1.H) rfl (wg rfl rfl rfl) (h_op (vI (w64 (r_1.Y + r_1.H))) (wg rfl rfl rfl) rfl (h_op (vI h_3) (wg rfl rfl rfl) rfl (h_op (vB (decide ((w64 (r_1.Y + r_1.H)) ≤ h_3))) (wg rfl rfl rfl) rfl (h_op (vB (decide ((w64 (r_1.Y + r_1.H)) ≤ h_3))) wz rfl (h_op (vB (decide ((w64 (r_1.Y + r_1.H)) ≤ h_3))) wz rfl (h_nil ?_))))))))))
     obtain rfl := some_inj h_6
     exact cut_mk () trivial rfl (pre_r rfl)
    ·refine h_movb rfl hc_9 wz (h_skip (wg rfl rfl rfl) (h_skip (wg rfl rfl rfl) (h_skip (wg rfl rfl rfl) (h_skip (wg rfl rfl rfl) (h_skip (wg rfl rfl rfl) (h_skip (wg rfl rfl rfl) (h_skip (wg rfl rfl rfl) (h_op (vB false) wz rfl (h_op (vB false) wz rfl (h_nil ?_))))))))))
     obtain rfl := some_inj h_6
     exact cut_mk () trivial rfl (pre_r rfl)
   ·refine h_movb rfl hc_8 wz (h_skip (wg rfl rfl rfl) (h_skip (wg rfl rfl rfl) (h_skip (wg rfl rfl rfl) (h_skip (wg rfl rfl rfl) (h_skip (wg rfl rfl rfl) (h_skip (wg rfl rfl rfl) (h_skip (wg rfl rfl rfl) (h_op (vB false) wz rfl (h_op (vB false) wz rfl (h_skip (wg rfl rfl rfl) (h_skip (wg rfl rfl rfl) (h_skip (wg rfl rfl rfl) (h_skip (wg rfl rfl rfl) (h_skip (wg rfl rfl rfl) (h_skip (wg rfl rfl rfl) (h_skip (wg rfl rfl rfl) (h_op (vB false) wz rfl (h_op (vB false) wz rfl (h_nil ?_)))))))))))))))))))
    obtain rfl := some_inj h_6
    exact cut_mk () trivial rfl (pre_r rfl)
  ·refine h_movb rfl hc_7 wz (h_skip (wg rfl rfl rfl) (h_skip (wg rfl rfl rfl) (h_skip (wg rfl rfl rfl) (h_op (vB false) wz rfl (h_op (vB false) wz rfl (h_skip (wg rfl rfl rfl) (h_skip (wg rfl rfl rfl) (h_skip (wg rfl rfl rfl) (h_skip (wg rfl rfl rfl) (h_skip (wg rfl rfl rfl) (h_skip (wg rfl rfl rfl) (h_skip (wg rfl rfl rfl) (h_op (vB false) wz rfl (h_op (vB false) wz rfl (h_skip (wg rfl rfl rfl) (h_skip (wg rfl rfl rfl) (h_skip (wg rfl rfl rfl) (h_skip (wg rfl rfl rfl) (h_skip (wg rfl rfl rfl) (h_skip (wg rfl rfl rfl) (h_skip (wg rfl rfl rfl) (h_op (vB false) wz rfl (h_op (vB false) wz rfl ?_)))))))))))))))))))))))
   refine h_nil ?_
   obtain rfl := some_inj h_6
   exact cut_mk () trivial rfl (pre_r rfl)
 ·rintro ⟨⟩ _ sl_ H_ hp_ hq_
  refine wH_at _ hp_ hq_ ?_
  obtain rfl := some_inj hF
  exact wH_ret (fin0 (.inr rfl) [(vB v_5)] ⟨rfl, trivial⟩ rfl rfl rfl)
theorem ref_LayoutFault_ok {l_1 : Layout} {r : Int} (hF : ref_LayoutFault l_1 = some r) :
  FnM Tryz.prog 14 [(.d (.agg (Layout.enc l_1)))] [] (vI r) [] := by
 refine FnM.of_wH ⟨Tryz.prog, 67, [], []⟩ rfl Tryz.func14 rfl rfl (Nat.le_of_ble_eq_true rfl) (by kernel_rfl) ?_
 unfold ref_LayoutFault at hF
 refine wH_seq (wH_region (h_box 0 (.inl rfl) [(vS l_1.Key), (vI l_1.W), (vI l_1.H), (vL Zone.enc l_1.Zones)] rfl rfl wz (fun n_2 => h_op (vI 0) wz rfl (h_nil (wH_seq (wH_block (wH_seq (wH_region (h_far pl28_0 rfl 0 rfl wz (h_ldr 0 0 (.inl rfl) (fun _ _ _ => trivial) sz9 ag9 rfl rfl (vS l_1.Key) rfl wz ?_))))))))))
 obtain ⟨r_3, hr_4, hF⟩ := bind_some hF
 refine h_call0 (ref_Key_ok hr_4) rfl hb65 rfl rfl rfl rfl wz (h_op (vB (!r_3)) wz rfl (h_op (vB (!r_3)) wz rfl (h_nil ?_)))
 rcases cond_some hF with ⟨hc_5, hF⟩ | ⟨hc_5, hF⟩
 ·refine wH_ift rfl hc_5 (wH_seq (wH_region (h_op (vI 5) wz rfl (h_nil ?_))))
  obtain rfl := some_inj hF
  exact wH_ret (fin0 (.inr rfl) [(vI 5)] ⟨rfl, trivial⟩ rfl rfl rfl)
 ·refine wH_iff rfl hc_5 (wH_seq ?_)
  obtain ⟨v_6, h_7, hF⟩ := bind_some hF
  refine wH_join (β := Unit) (fun _ => ([(1, (.ref n_2 0 0)), (12, (vB v_6))] : List (Nat × V))) (fun _ => ([(n_2, some (.cells 4 [(vS l_1.Key), (vI l_1.W), (vI l_1.H), (vL Zone.enc l_1.Zones)]))] : Hp)) (fun _ => True) ?_ ?_
  ·refine wH_region (h_far pl28_1 rfl 1 rfl wz (h_ldr 0 0 (.inl rfl) (fun _ _ _ => trivial) sz3 ag3 rfl rfl (vI l_1.W) rfl wz ?_))
   obtain ⟨r_8, hr_9, h_7⟩ := bind_some h_7
   refine h_call0 (ref_side_ok hr_9) rfl hb66 rfl rfl rfl rfl wz (h_op (vB (!r_8)) wz rfl ?_)
   rcases cond_some h_7 with ⟨hc_10, h_7⟩ | ⟨hc_10, h_7⟩
   ·refine h_movb rfl hc_10 wz (h_skip (wg rfl rfl rfl) (h_skip (wg rfl rfl rfl) (h_skip (wg rfl rfl rfl) (h_skip (wg rfl rfl rfl) (h_op (vB true) wz rfl (h_op (vB true) wz rfl (h_nil ?_)))))))
    obtain rfl := some_inj h_7
    exact cut_mk () trivial rfl (pre_r rfl)
   ·refine h_movb rfl hc_10 wz (h_far pl28_2 rfl 2 rfl (wg rfl rfl rfl) (h_ldr 0 0 (.inl rfl) (fun _ _ _ => trivial) sz3 ag3 rfl rfl (vI l_1.H) rfl (wg rfl rfl rfl) ?_))
    obtain ⟨r_11, hr_12, h_7⟩ := bind_some h_7
    refine h_call0 (ref_side_ok hr_12) rfl hb66 rfl rfl rfl rfl (wg rfl rfl rfl) (h_op (vB (!r_11)) (wg rfl rfl rfl) rfl (h_op (vB (!r_11)) wz rfl (h_op (vB (!r_11)) wz rfl (h_nil ?_))))
    obtain rfl := some_inj h_7
    exact cut_mk () trivial rfl (pre_r rfl)
  ·rintro ⟨⟩ _ sl_ H_ hp_ hq_
   refine wH_at _ hp_ hq_ ?_
   rcases cond_some hF with ⟨hc_13, hF⟩ | ⟨hc_13, hF⟩
   ·refine wH_ift rfl hc_13 (wH_seq (wH_region (h_op (vI 1) wz rfl (h_nil ?_))))
    obtain rfl := some_inj hF
    exact wH_ret (fin0 (.inr rfl) [(vI 1)] ⟨rfl, trivial⟩ rfl rfl rfl)
   ·refine wH_iff rfl hc_13 (wH_seq (wH_region (h_far pl28_3 rfl 3 rfl wz (h_ldr 0 0 (.inl rfl) (fun _ _ _ => trivial) sz26 ag26 rfl rfl (vL Zone.enc l_1.Zones) rfl wz (h_len un26 rfl wz (h_op (vB (decide ((l_1.Zones.length : Int) > 30))) wz rfl (h_op (vB (decide ((l_1.Zones.length : Int) > 30))) wz rfl (h_nil ?_))))))))
    rcases cond_some hF with ⟨hc_14, hF⟩ | ⟨hc_14, hF⟩
    ·refine wH_ift rfl hc_14 (wH_seq (wH_region (h_op (vI 2) wz rfl (h_nil ?_))))
     obtain rfl := some_inj hF
     exact wH_ret (fin0 (.inr rfl) [(vI 2)] ⟨rfl, trivial⟩ rfl rfl rfl)
    ·refine wH_iff rfl hc_14 (wH_skip (wH_seq (wH_region (h_op (vS (⟨#[]⟩ : ByteArray)) wz rfl (h_nil (wH_seq (wH_seq (wH_region (h_far pl28_3 rfl 3 rfl wz (h_ldr 0 0 (.inl rfl) (fun _ _ _ => trivial) sz26 ag26 rfl rfl (vL Zone.enc l_1.Zones) rfl wz (h_len un26 rfl wz (h_op (vI 0) wz rfl (h_nil ?_)))))))))))))
     obtain ⟨o_23, hj_24, hF⟩ := bind_some hF
     obtain ⟨hn_19, hj_24⟩ := forL_some hj_24
     refine wH_join (β := (ByteArray)) (fun (s_20 : ByteArray) => ([] : List (Nat × V))) (fun (s_20 : ByteArray) => ([(n_2, some (.cells 4 [(vS l_1.Key), (vI l_1.W), (vI l_1.H), (vL Zone.enc l_1.Zones)]))] : Hp)) (fun p => o_23 = .go p) ?_ ?_
     ·refine wH_block (wH_loop (β := Nat × (List Zone) × (ByteArray)) (fun p => (fun (k_15 : Nat) (l_16 : List Zone) (s_20 : ByteArray) => ([(1, (.ref n_2 0 0)), (3, (vS s_20)), (29, (vL Zone.enc l_1.Zones)), (30, (vI (l_1.Zones.length : Int))), (31, (vI (k_15 : Int)))] : List (Nat × V))) p.1 p.2.1 p.2.2) (fun p => (fun (k_15 : Nat) (l_16 : List Zone) (s_20 : ByteArray) => ([(n_2, some (.cells 4 [(vS l_1.Key), (vI l_1.W), (vI l_1.H), (vL Zone.enc l_1.Zones)]))] : Hp)) p.1 p.2.1 p.2.2) (fun p => forR (fun k x s => ref_LayoutFault_L1 l_1 k x s) p.2.1 p.1 p.2.2 = some o_23 ∧ (l_1.Zones).drop p.1 = p.2.1) (fun p => p.2.1.length) (0, l_1.Zones, (⟨#[]⟩ : ByteArray)) ⟨hj_24, rfl⟩ rfl (pre_r rfl) ?_)
      rintro ⟨k_15, l_16, s_20⟩ ⟨hL_22, hD_18⟩
      dsimp only at hL_22 hD_18
      cases l_16 with
      | nil =>
       obtain rfl := some_inj hL_22
       refine wH_seq (wH_region (h_op (vB (decide ((k_15 : Int) < (l_1.Zones.length : Int)))) wz rfl (h_nil ?_)))
       refine wH_seq (wH_iff rfl (drop_nil hD_18) (wH_exit ?_))
       exact cut_mk (s_20) rfl rfl (pre_r rfl)
      | cons x_17 l_16 =>
       obtain ⟨c_, hc_21, hL_22⟩ := bind_some hL_22
       refine wH_seq (wH_region (h_op (vB (decide ((k_15 : Int) < (l_1.Zones.length : Int)))) wz rfl (h_nil ?_)))
       refine wH_seq (wH_ift rfl (drop_cons hD_18) (wH_skip ?_))
       unfold ref_LayoutFault_L1 at hc_21
       refine wH_seq (wH_block (wH_seq (wH_region (h_ia es26 rfl rfl (drop_idx hD_18) rfl wz (h_ldc sz107 ag107 rfl (.d (.agg (Zone.enc x_17))) rfl wz (h_alloc 0 (.inl rfl) z107 rfl wz (fun n_25 => h_str 0 (.inl rfl) (fun _ _ _ => trivial) 1 sz107 rfl rfl [(vS x_17.Key), (vI x_17.On.X), (vI x_17.On.Y), (vI x_17.On.W), (vI x_17.On.H), (vI x_17.Order)] rfl wz (h_nil (wH_seq (wH_seq (wH_region (h_far pl107_0 rfl 0 rfl wz (h_ldr 0 1 (.inl rfl) (fun _ _ _ => trivial) sz9 ag9 rfl rfl (vS x_17.Key) rfl wz ?_)))))))))))))
       obtain ⟨r_26, hr_27, hc_21⟩ := bind_some hc_21
       refine h_call0 (ref_Key_ok hr_27) rfl hb65 rfl rfl rfl rfl wz (h_op (vB (!r_26)) wz rfl (h_nil ?_))
       rcases cond_some hc_21 with ⟨hc_28, hc_21⟩ | ⟨hc_28, hc_21⟩
       ·refine wH_ift rfl hc_28 (wH_seq (wH_region (h_op (vI 5) wz rfl (h_nil ?_))))
        obtain rfl := some_inj hc_21
        obtain rfl := some_inj hL_22
        obtain rfl := some_inj hF
        exact wH_ret (fin0 (.inr rfl) [(vI 5)] ⟨rfl, trivial⟩ rfl rfl rfl)
       ·refine wH_iff rfl hc_28 (wH_skip (wH_seq (wH_seq (wH_region (h_far pl107_1 rfl 1 rfl wz (h_ldr 0 1 (.inl rfl) (fun _ _ _ => trivial) sz49 ag49 rfl rfl (.d (.agg (Rect.enc x_17.On))) rfl wz ?_))))))
        obtain ⟨r_29, hr_30, hc_21⟩ := bind_some hc_21
        refine h_call0 (ref_RectFault_ok hr_30) rfl hb31 rfl rfl rfl rfl wz (h_op (vI r_29) wz rfl (h_nil (wH_seq (wH_region (h_op (vI r_29) wz rfl (h_op (vB (r_29 != 0)) wz rfl (h_nil ?_)))))))
        rcases cond_some hc_21 with ⟨hc_31, hc_21⟩ | ⟨hc_31, hc_21⟩
        ·refine wH_ift rfl hc_31 (wH_seq (wH_region (h_op (vI r_29) wz rfl (h_op (vI r_29) wz rfl (h_nil ?_)))))
         obtain rfl := some_inj hc_21
         obtain rfl := some_inj hL_22
         obtain rfl := some_inj hF
         exact wH_ret (fin0 (.inr rfl) [(vI r_29)] ⟨rfl, trivial⟩ rfl rfl rfl)
        ·refine wH_iff rfl hc_31 (wH_skip (wH_seq (wH_block (wH_seq (wH_region (h_far pl107_1 rfl 1 rfl wz (h_ldr 0 1 (.inl rfl) (fun _ _ _ => trivial) sz49 ag49 rfl rfl (.d (.agg (Rect.enc x_17.On))) rfl wz (h_far pl28_1 rfl 1 rfl wz (h_ldr 0 0 (.inl rfl) (fun _ _ _ => trivial) sz3 ag3 rfl rfl (vI l_1.W) rfl wz (h_far pl28_2 rfl 2 rfl wz (h_ldr 0 0 (.inl rfl) (fun _ _ _ => trivial) sz3 ag3 rfl rfl (vI l_1.H) rfl wz ?_)))))))))))
         obtain ⟨r_32, hr_33, hc_21⟩ := bind_some hc_21
         refine h_call0 (ref_within_ok hr_33) rfl hb67 rfl rfl rfl rfl wz (h_op (vB (!r_32)) wz rfl (h_op (vB (!r_32)) wz rfl (h_nil ?_)))
         rcases cond_some hc_21 with ⟨hc_34, hc_21⟩ | ⟨hc_34, hc_21⟩
         ·refine wH_ift rfl hc_34 (wH_seq (wH_region (h_op (vI 3) wz rfl (h_nil ?_))))
          obtain rfl := some_inj hc_21
          obtain rfl := some_inj hL_22
          obtain rfl := some_inj hF
          exact wH_ret (fin0 (.inr rfl) [(vI 3)] ⟨rfl, trivial⟩ rfl rfl rfl)
         ·refine wH_iff rfl hc_34 (wH_seq (wH_region (h_far pl107_2 rfl 5 rfl wz (h_ldr 0 1 (.inl rfl) (fun _ _ _ => trivial) sz3 ag3 rfl rfl (vI x_17.Order) rfl wz ?_))))
          obtain ⟨r_35, hr_36, hc_21⟩ := bind_some hc_21
          refine h_call0 (ref_in_ok hr_36) rfl hb68 rfl rfl rfl rfl wz (h_op (vB (!r_35)) wz rfl (h_op (vB (!r_35)) wz rfl (h_nil ?_)))
          rcases cond_some hc_21 with ⟨hc_37, hc_21⟩ | ⟨hc_37, hc_21⟩
          ·refine wH_ift rfl hc_37 (wH_seq (wH_region (h_op (vI 1) wz rfl (h_nil ?_))))
           obtain rfl := some_inj hc_21
           obtain rfl := some_inj hL_22
           obtain rfl := some_inj hF
           exact wH_ret (fin0 (.inr rfl) [(vI 1)] ⟨rfl, trivial⟩ rfl rfl rfl)
          ·refine wH_iff rfl hc_37 (wH_seq (wH_region (h_far pl107_0 rfl 0 rfl wz (h_ldr 0 1 (.inl rfl) (fun _ _ _ => trivial) sz9 ag9 rfl rfl (vS x_17.Key) rfl wz (h_op (vS s_20) wz rfl (h_op (vB (sLe x_17.Key s_20)) wz rfl (h_op (vB (sLe x_17.Key s_20)) wz rfl (h_nil (wH_at (H0 := ([(n_2, some (.cells 4 [(vS l_1.Key), (vI l_1.W), (vI l_1.H), (vL Zone.enc l_1.Zones)])), (n_25, some (.cells 6 [(vS x_17.Key), (vI x_17.On.X), (vI x_17.On.Y), (vI x_17.On.W), (vI x_17.On.H), (vI x_17.Order)]))] : Hp)) ([(1, (.ref n_2 0 0)), (5, (.ref n_25 0 0)), (29, (vL Zone.enc l_1.Zones)), (30, (vI (l_1.Zones.length : Int))), (31, (vI (k_15 : Int))), (59, (vB (sLe x_17.Key s_20)))] : List (Nat × V)) (by kernel_rfl) (pre_mk (by kernel_rfl)) ?_)))))))))
           rcases cond_some hc_21 with ⟨hc_38, hc_21⟩ | ⟨hc_38, hc_21⟩
           ·refine wH_ift rfl hc_38 (wH_seq (wH_region (h_op (vI 7) wz rfl (h_nil ?_))))
            obtain rfl := some_inj hc_21
            obtain rfl := some_inj hL_22
            obtain rfl := some_inj hF
            exact wH_ret (fin0 (.inr rfl) [(vI 7)] ⟨rfl, trivial⟩ rfl rfl rfl)
           ·refine wH_iff rfl hc_38 (wH_skip (wH_region (h_far pl107_0 rfl 0 rfl wz (h_ldr 0 1 (.inl rfl) (fun _ _ _ => trivial) sz9 ag9 rfl rfl (vS x_17.Key) rfl wz (h_op (vS x_17.Key) wz rfl (h_nil (wH_region (h_opw (w64_next hD_18 hn_19) wz rfl (h_op (vI ((k_15 + 1 : Nat) : Int)) wz rfl (h_nil ?_))))))))))
            obtain rfl := some_inj hc_21
            exact loop_mk (k_15 + 1, l_16, x_17.Key) ⟨hL_22, drop_next hD_18⟩ (Nat.lt_succ_self _) rfl (pre_r rfl)
     ·rintro s_20 ho_ sl_ H_ hp_ hq_
      subst ho_
      refine wH_at _ hp_ hq_ (wH_seq (wH_region (h_op (vI 0) wz rfl (h_nil ?_))))
      obtain rfl := some_inj hF
      exact wH_ret (fin0 (.inr rfl) [(vI 0)] ⟨rfl, trivial⟩ rfl rfl rfl)
theorem law_errs_ok {l_1 : (List Int)} {r : Int} (hF : law_errs l_1 = some r) :
  FnM Tryz.prog 16 [(vL eI l_1)] [] (vI r) [] := by
 refine FnM.of_wH ⟨Tryz.prog, 15, [], []⟩ rfl Tryz.func16 rfl rfl (Nat.le_of_ble_eq_true rfl) (by kernel_rfl) ?_
 unfold law_errs at hF
 refine wH_seq (wH_region (h_op (vI 0) wz rfl (h_nil (wH_seq (wH_seq (wH_region (h_op (vL eI l_1) wz rfl (h_len un115 rfl wz (h_op (vI 0) wz rfl (h_nil ?_))))))))))
 obtain ⟨o_10, hj_11, hF⟩ := bind_some hF
 obtain ⟨hn_6, hj_11⟩ := forL_some hj_11
 refine wH_join (β := (Unit)) (fun (s_7 : Unit) => ([] : List (Nat × V))) (fun (s_7 : Unit) => ([] : Hp)) (fun p => o_10 = .go p) ?_ ?_
 ·refine wH_block (wH_loop (β := Nat × (List Int) × (Unit)) (fun p => (fun (k_2 : Nat) (l_3 : List Int) (s_7 : Unit) => ([(5, (vL eI l_1)), (6, (vI (l_1.length : Int))), (7, (vI (k_2 : Int)))] : List (Nat × V))) p.1 p.2.1 p.2.2) (fun p => (fun (k_2 : Nat) (l_3 : List Int) (s_7 : Unit) => ([] : Hp)) p.1 p.2.1 p.2.2) (fun p => forR (fun k x s => law_errs_L1 k x s) p.2.1 p.1 p.2.2 = some o_10 ∧ (l_1).drop p.1 = p.2.1) (fun p => p.2.1.length) (0, l_1, ()) ⟨hj_11, rfl⟩ rfl (pre_r rfl) ?_)
  rintro ⟨k_2, l_3, s_7⟩ ⟨hL_9, hD_5⟩
  dsimp only at hL_9 hD_5
  cases l_3 with
  | nil =>
   obtain rfl := some_inj hL_9
   refine wH_seq (wH_region (h_op (vB (decide ((k_2 : Int) < (l_1.length : Int)))) wz rfl (h_nil ?_)))
   refine wH_seq (wH_iff rfl (drop_nil hD_5) (wH_exit ?_))
   exact cut_mk (s_7) rfl rfl (pre_r rfl)
  | cons x_4 l_3 =>
   obtain ⟨c_, hc_8, hL_9⟩ := bind_some hL_9
   refine wH_seq (wH_region (h_op (vB (decide ((k_2 : Int) < (l_1.length : Int)))) wz rfl (h_nil ?_)))
   refine wH_seq (wH_ift rfl (drop_cons hD_5) (wH_skip ?_))
   unfold law_errs_L1 at hc_8
   refine wH_seq (wH_block (wH_seq (wH_region (h_ia es115 rfl rfl (drop_idx hD_5) rfl wz (h_ldc sz32 ag32 rfl (vI x_4) rfl wz (h_op (vI x_4) wz rfl (h_nil (wH_seq (wH_region (h_op (vI x_4) wz rfl (h_op (vB (x_4 != 0)) wz rfl (h_nil ?_))))))))))))
   rcases cond_some hc_8 with ⟨hc_12, hc_8⟩ | ⟨hc_12, hc_8⟩
   ·refine wH_ift rfl hc_12 (wH_seq (wH_region (h_op (vI x_4) wz rfl (h_op (vI x_4) wz rfl (h_nil ?_)))))
    obtain rfl := some_inj hc_8
    obtain rfl := some_inj hL_9
    obtain rfl := some_inj hF
    exact wH_ret (fin0 (.inr rfl) [(vI x_4)] ⟨rfl, trivial⟩ rfl rfl rfl)
   ·refine wH_iff rfl hc_12 (wH_skip (wH_region (h_opw (w64_next hD_5 hn_6) wz rfl (h_op (vI ((k_2 + 1 : Nat) : Int)) wz rfl (h_nil ?_)))))
    obtain rfl := some_inj hc_8
    exact loop_mk (k_2 + 1, l_3, ()) ⟨hL_9, drop_next hD_5⟩ (Nat.lt_succ_self _) rfl (pre_r rfl)
 ·rintro s_7 ho_ sl_ H_ hp_ hq_
  subst ho_
  refine wH_at _ hp_ hq_ (wH_seq (wH_region (h_op (vI 0) wz rfl (h_nil ?_))))
  obtain rfl := some_inj hF
  exact wH_ret (fin0 (.inr rfl) [(vI 0)] ⟨rfl, trivial⟩ rfl rfl rfl)
theorem ref_has_ok {r_1 : Rect} {x_2 : Int} {y_3 : Int} {r : Bool} (hF : ref_has r_1 x_2 y_3 = some r) :
  FnM Tryz.prog 74 [(.d (.agg (Rect.enc r_1))), (vI x_2), (vI y_3)] [] (vB r) [] := by
 refine FnM.of_wH ⟨Tryz.prog, 29, [], []⟩ rfl Tryz.func74 rfl rfl (Nat.le_of_ble_eq_true rfl) (by kernel_rfl) ?_
 unfold ref_has at hF
 refine wH_seq (wH_region (h_box 0 (.inl rfl) [(vI r_1.X), (vI r_1.Y), (vI r_1.W), (vI r_1.H)] rfl rfl wz (fun n_4 => h_op (vB false) wz rfl (h_nil (wH_seq ?_)))))
 obtain ⟨v_5, h_6, hF⟩ := bind_some hF
 refine wH_join (β := Unit) (fun _ => ([(6, (vB v_5))] : List (Nat × V))) (fun _ => ([(n_4, some (.cells 4 [(vI r_1.X), (vI r_1.Y), (vI r_1.W), (vI r_1.H)]))] : Hp)) (fun _ => True) ?_ ?_
 ·refine wH_region (h_op (vI x_2) wz rfl (h_far pl49_0 rfl 0 rfl wz (h_ldr 0 0 (.inl rfl) (fun _ _ _ => trivial) sz3 ag3 rfl rfl (vI r_1.X) rfl wz (h_far pl49_0 rfl 0 rfl wz (h_ldr 0 0 (.inl rfl) (fun _ _ _ => trivial) sz3 ag3 rfl rfl (vI r_1.X) rfl wz (h_far pl49_2 rfl 2 rfl wz (h_ldr 0 0 (.inl rfl) (fun _ _ _ => trivial) sz3 ag3 rfl rfl (vI r_1.W) rfl wz (h_op (vI (w64 (r_1.X + r_1.W))) wz rfl (h_op (vI (w64 ((w64 (r_1.X + r_1.W)) - 1))) wz rfl ?_)))))))))
  obtain ⟨r_7, hr_8, h_6⟩ := bind_some h_6
  refine h_call0 (ref_in_ok hr_8) rfl hb68 rfl rfl rfl rfl wz ?_
  rcases cond_some h_6 with ⟨hc_9, h_6⟩ | ⟨hc_9, h_6⟩
  ·refine h_movb rfl hc_9 wz (h_op (vI y_3) (wg rfl rfl rfl) rfl (h_far pl49_1 rfl 1 rfl (wg rfl rfl rfl) (h_ldr 0 0 (.inl rfl) (fun _ _ _ => trivial) sz3 ag3 rfl rfl (vI r_1.Y) rfl (wg rfl rfl rfl) (h_far pl49_1 rfl 1 rfl (wg rfl rfl rfl) (h_ldr 0 0 (.inl rfl) (fun _ _ _ => trivial) sz3 ag3 rfl rfl (vI r_1.Y) rfl (wg rfl rfl rfl) (h_far pl49_3 rfl 3 rfl (wg rfl rfl rfl) (h_ldr 0 0 (.inl rfl) (fun _ _ _ => trivial) sz3 ag3 rfl rfl (vI r_1.H) rfl (wg rfl rfl rfl) (h_op (vI (w64 (r_1.Y + r_1.H))) (wg rfl rfl rfl) rfl (h_op (vI (w64 ((w64 (r_1.Y + r_1.H)) - 1))) (wg rfl rfl rfl) rfl ?_)))))))))
   obtain ⟨r_10, hr_11, h_6⟩ := bind_some h_6
   refine h_call0 (ref_in_ok hr_11) rfl hb68 rfl rfl rfl rfl (wg rfl rfl rfl) (h_op (vB r_10) wz rfl (h_op (vB r_10) wz rfl (h_nil ?_)))
   obtain rfl := some_inj h_6
   exact cut_mk () trivial rfl (pre_r rfl)
  ·refine h_movb rfl hc_9 wz (h_skip (wg rfl rfl rfl) (h_skip (wg rfl rfl rfl) (h_skip (wg rfl rfl rfl) (h_skip (wg rfl rfl rfl) (h_skip (wg rfl rfl rfl) (h_skip (wg rfl rfl rfl) (h_skip (wg rfl rfl rfl) (h_skip (wg rfl rfl rfl) (h_skip (wg rfl rfl rfl) (h_skip (wg rfl rfl rfl) (h_op (vB false) wz rfl (h_op (vB false) wz rfl (h_nil ?_)))))))))))))
   obtain rfl := some_inj h_6
   exact cut_mk () trivial rfl (pre_r rfl)
 ·rintro ⟨⟩ _ sl_ H_ hp_ hq_
  refine wH_at _ hp_ hq_ ?_
  obtain rfl := some_inj hF
  exact wH_ret (fin0 (.inr rfl) [(vB v_5)] ⟨rfl, trivial⟩ rfl rfl rfl)
theorem ref_ZoneOf_ok {l_1 : Layout} {x_2 : Int} {y_3 : Int} {r : ByteArray × Bool} (hF : ref_ZoneOf l_1 x_2 y_3 = some r) :
  FnM Tryz.prog 18 [(.d (.agg (Layout.enc l_1))), (vI x_2), (vI y_3)] [] (.tup [(vS r.1), (vB r.2)]) [] := by
 refine FnM.of_wH ⟨Tryz.prog, 49, [], []⟩ rfl Tryz.func18 rfl rfl (Nat.le_of_ble_eq_true rfl) (by kernel_rfl) ?_
 unfold ref_ZoneOf at hF
 refine wH_seq (wH_region (h_box 0 (.inl rfl) [(vS l_1.Key), (vI l_1.W), (vI l_1.H), (vL Zone.enc l_1.Zones)] rfl rfl wz (fun n_4 => h_op (vS (⟨#[]⟩ : ByteArray)) wz rfl (h_op (vB false) wz rfl (h_nil (wH_seq (wH_region (h_op (vI (-1)) wz rfl (h_nil (wH_seq (wH_seq (wH_region (h_far pl28_3 rfl 3 rfl wz (h_ldr 0 0 (.inl rfl) (fun _ _ _ => trivial) sz26 ag26 rfl rfl (vL Zone.enc l_1.Zones) rfl wz (h_len un26 rfl wz (h_op (vI 0) wz rfl (h_nil ?_)))))))))))))))))
 obtain ⟨o_13, hj_14, hF⟩ := bind_some hF
 obtain ⟨hn_9, hj_14⟩ := forL_some hj_14
 refine wH_join (β := (Int)) (fun (s_10 : Int) => ([(3, (.ref n_4 0 0)), (8, (vI s_10))] : List (Nat × V))) (fun (s_10 : Int) => ([(n_4, some (.cells 4 [(vS l_1.Key), (vI l_1.W), (vI l_1.H), (vL Zone.enc l_1.Zones)]))] : Hp)) (fun p => o_13 = .go p) ?_ ?_
 ·refine wH_block (wH_loop (β := Nat × (List Zone) × (Int)) (fun p => (fun (k_5 : Nat) (l_6 : List Zone) (s_10 : Int) => ([(1, (vI x_2)), (2, (vI y_3)), (3, (.ref n_4 0 0)), (8, (vI s_10)), (12, (vL Zone.enc l_1.Zones)), (13, (vI (l_1.Zones.length : Int))), (14, (vI (k_5 : Int)))] : List (Nat × V))) p.1 p.2.1 p.2.2) (fun p => (fun (k_5 : Nat) (l_6 : List Zone) (s_10 : Int) => ([(n_4, some (.cells 4 [(vS l_1.Key), (vI l_1.W), (vI l_1.H), (vL Zone.enc l_1.Zones)]))] : Hp)) p.1 p.2.1 p.2.2) (fun p => forR (fun k x s => ref_ZoneOf_L1 x_2 y_3 l_1 k x s) p.2.1 p.1 p.2.2 = some o_13 ∧ (l_1.Zones).drop p.1 = p.2.1) (fun p => p.2.1.length) (0, l_1.Zones, (-1)) ⟨hj_14, rfl⟩ rfl (pre_r rfl) ?_)
  rintro ⟨k_5, l_6, s_10⟩ ⟨hL_12, hD_8⟩
  dsimp only at hL_12 hD_8
  cases l_6 with
  | nil =>
   obtain rfl := some_inj hL_12
   refine wH_seq (wH_region (h_op (vB (decide ((k_5 : Int) < (l_1.Zones.length : Int)))) wz rfl (h_nil ?_)))
   refine wH_seq (wH_iff rfl (drop_nil hD_8) (wH_exit ?_))
   exact cut_mk (s_10) rfl rfl (pre_r rfl)
  | cons x_7 l_6 =>
   obtain ⟨c_, hc_11, hL_12⟩ := bind_some hL_12
   refine wH_seq (wH_region (h_op (vB (decide ((k_5 : Int) < (l_1.Zones.length : Int)))) wz rfl (h_nil ?_)))
   refine wH_seq (wH_ift rfl (drop_cons hD_8) (wH_skip ?_))
   unfold ref_ZoneOf_L1 at hc_11
   refine wH_seq (wH_block (wH_seq (wH_region (h_op (vI (k_5 : Int)) wz rfl (h_ia es26 rfl rfl (drop_idx hD_8) rfl wz (h_ldc sz107 ag107 rfl (.d (.agg (Zone.enc x_7))) rfl wz (h_alloc 0 (.inl rfl) z107 rfl wz (fun n_15 => h_op (vI (k_5 : Int)) wz rfl (h_str 0 (.inl rfl) (fun _ _ _ => trivial) 1 sz107 rfl rfl [(vS x_7.Key), (vI x_7.On.X), (vI x_7.On.Y), (vI x_7.On.W), (vI x_7.On.H), (vI x_7.Order)] rfl wz (h_nil (wH_seq ?_)))))))))))
   obtain ⟨v_16, h_17, hc_11⟩ := bind_some hc_11
   refine wH_join (β := Unit) (fun _ => ([(1, (vI x_2)), (2, (vI y_3)), (3, (.ref n_4 0 0)), (8, (vI s_10)), (9, (vI (k_5 : Int))), (12, (vL Zone.enc l_1.Zones)), (13, (vI (l_1.Zones.length : Int))), (14, (vI (k_5 : Int))), (38, (vB v_16))] : List (Nat × V))) (fun _ => ([(n_4, some (.cells 4 [(vS l_1.Key), (vI l_1.W), (vI l_1.H), (vL Zone.enc l_1.Zones)])), (n_15, some (.cells 6 [(vS x_7.Key), (vI x_7.On.X), (vI x_7.On.Y), (vI x_7.On.W), (vI x_7.On.H), (vI x_7.Order)]))] : Hp)) (fun _ => True) ?_ ?_
   ·refine wH_draws (h_far pl107_1 rfl 1 rfl wz (h_ldr 1 1 (.inr (by kernel_rfl)) (fun _ _ ag => trivial) sz49 ag49 rfl rfl (.d (.agg (Rect.enc x_7.On))) rfl wz (h_op (vI x_2) wz rfl (h_op (vI y_3) wz rfl ?_))))
    obtain ⟨r_18, hr_19, h_17⟩ := bind_some h_17
    refine h_call0 (ref_has_ok hr_19) rfl hb74 rfl rfl rfl rfl wz ?_
    rcases cond_some h_17 with ⟨hc_20, h_17⟩ | ⟨hc_20, h_17⟩
    ·refine h_movb rfl hc_20 wz (h_op (vI s_10) (wg rfl rfl rfl) rfl (h_op (vB (decide (s_10 < 0))) (wg rfl rfl rfl) rfl ?_))
     rcases cond_some h_17 with ⟨hc_21, h_17⟩ | ⟨hc_21, h_17⟩
     ·refine h_movb rfl hc_21 (wg rfl rfl rfl) (h_skip (wg rfl rfl rfl) (h_skip (wg rfl rfl rfl) (h_skip (wg rfl rfl rfl) (h_skip (wg rfl rfl rfl) (h_skip (wg rfl rfl rfl) (h_skip (wg rfl rfl rfl) (h_skip (wg rfl rfl rfl) (h_skip (wg rfl rfl rfl) (h_skip (wg rfl rfl rfl) (h_op (vB true) (wg rfl rfl rfl) rfl (h_op (vB true) wz rfl (h_nil ?_))))))))))))
      obtain rfl := some_inj h_17
      exact cut_mk () trivial rfl (pre_r rfl)
     ·refine h_movb rfl hc_21 (wg rfl rfl rfl) (h_far pl107_2 rfl 5 rfl (wg rfl rfl rfl) (h_ldr 10 1 (.inr (by kernel_rfl)) (fun _ _ ag => ⟨.inl ⟨rfl, rfl⟩, trivial⟩) sz3 ag3 rfl rfl (vI x_7.Order) rfl (wg rfl rfl rfl) (h_far pl28_3 rfl 3 rfl (wg rfl rfl rfl) (h_ldr 12 0 (.inr (by kernel_rfl)) (fun _ _ ag => ⟨.inl ⟨rfl, rfl⟩, ⟨.inl ⟨rfl, rfl⟩, trivial⟩⟩) sz26 ag26 rfl rfl (vL Zone.enc l_1.Zones) rfl (wg rfl rfl rfl) (h_op (vI s_10) (wg rfl rfl rfl) rfl ?_)))))
      obtain ⟨y_22, hy_23, h_17⟩ := bind_some h_17
      refine h_ia es26 rfl rfl hy_23 rfl (wg rfl rfl rfl) (h_fac pl107_2 rfl [.int .i64 y_22.Order] rfl rfl (wg rfl rfl rfl) (h_ldc sz3 ag3 rfl (vI y_22.Order) rfl (wg rfl rfl rfl) (h_op (vB (decide (x_7.Order ≥ y_22.Order))) (wg rfl rfl rfl) rfl (h_op (vB (decide (x_7.Order ≥ y_22.Order))) (wg rfl rfl rfl) rfl (h_op (vB (decide (x_7.Order ≥ y_22.Order))) wz rfl (h_nil ?_))))))
      obtain rfl := some_inj h_17
      exact cut_mk () trivial rfl (pre_r rfl)
    ·refine h_movb rfl hc_20 wz (h_skip (wg rfl rfl rfl) (h_skip (wg rfl rfl rfl) (h_skip (wg rfl rfl rfl) (h_skip (wn rfl rfl) (h_skip (wn rfl rfl) (h_skip (wn rfl rfl) (h_skip (wn rfl rfl) (h_skip (wn rfl rfl) (h_skip (wn rfl rfl) (h_skip (wn rfl rfl) (h_skip (wn rfl rfl) (h_skip (wn rfl rfl) (h_skip (wg rfl rfl rfl) (h_op (vB false) wz rfl (h_nil ?_)))))))))))))))
     obtain rfl := some_inj h_17
     exact cut_mk () trivial rfl (pre_r rfl)
   ·rintro ⟨⟩ _ sl_ H_ hp_ hq_
    refine wH_at _ hp_ hq_ ?_
    obtain ⟨v_24, h_25, hc_11⟩ := bind_some hc_11
    refine wH_join (β := Unit) (fun _ => ([(1, (vI x_2)), (2, (vI y_3)), (3, (.ref n_4 0 0)), (8, (vI v_24)), (12, (vL Zone.enc l_1.Zones)), (13, (vI (l_1.Zones.length : Int))), (14, (vI (k_5 : Int)))] : List (Nat × V))) (fun _ => ([(n_4, some (.cells 4 [(vS l_1.Key), (vI l_1.W), (vI l_1.H), (vL Zone.enc l_1.Zones)])), (n_15, some (.cells 6 [(vS x_7.Key), (vI x_7.On.X), (vI x_7.On.Y), (vI x_7.On.W), (vI x_7.On.H), (vI x_7.Order)]))] : Hp)) (fun _ => True) ?_ ?_
    ·rcases cond_some h_25 with ⟨hc_26, h_25⟩ | ⟨hc_26, h_25⟩
     ·refine wH_ift rfl hc_26 (wH_region (h_op (vI (k_5 : Int)) wz rfl (h_op (vI (k_5 : Int)) wz rfl (h_nil ?_))))
      obtain rfl := some_inj h_25
      exact cut_mk () trivial rfl (pre_r rfl)
     ·refine wH_iff rfl hc_26 (wH_skip ?_)
      obtain rfl := some_inj h_25
      exact cut_mk () trivial rfl (pre_r rfl)
    ·rintro ⟨⟩ _ sl_ H_ hp_ hq_
     refine wH_at _ hp_ hq_ (wH_region (h_opw (w64_next hD_8 hn_9) wz rfl (h_op (vI ((k_5 + 1 : Nat) : Int)) wz rfl (h_nil ?_))))
     obtain rfl := some_inj hc_11
     exact loop_mk (k_5 + 1, l_6, v_24) ⟨hL_12, drop_next hD_8⟩ (Nat.lt_succ_self _) rfl (pre_r rfl)
 ·rintro s_10 ho_ sl_ H_ hp_ hq_
  subst ho_
  refine wH_at _ hp_ hq_ (wH_seq (wH_seq (wH_region (h_op (vI s_10) wz rfl (h_op (vB (decide (s_10 < 0))) wz rfl (h_nil ?_))))))
  rcases cond_some hF with ⟨hc_27, hF⟩ | ⟨hc_27, hF⟩
  ·refine wH_ift rfl hc_27 (wH_seq (wH_region (h_op (vS (⟨#[]⟩ : ByteArray)) wz rfl (h_op (vB false) wz rfl (h_nil ?_)))))
   obtain rfl := some_inj hF
   exact wH_ret (fin0 (.inr rfl) [(vS (⟨#[]⟩ : ByteArray)), (vB false)] ⟨rfl, ⟨rfl, trivial⟩⟩ rfl rfl rfl)
  ·refine wH_iff rfl hc_27 (wH_skip (wH_seq (wH_region (h_far pl28_3 rfl 3 rfl wz (h_ldr 0 0 (.inl rfl) (fun _ _ _ => trivial) sz26 ag26 rfl rfl (vL Zone.enc l_1.Zones) rfl wz (h_op (vI s_10) wz rfl ?_))))))
   obtain ⟨y_28, hy_29, hF⟩ := bind_some hF
   refine h_ia es26 rfl rfl hy_29 rfl wz (h_fac pl107_0 rfl [.str y_28.Key, .int .i64 y_28.On.X, .int .i64 y_28.On.Y, .int .i64 y_28.On.W, .int .i64 y_28.On.H, .int .i64 y_28.Order] rfl rfl wz (h_ldc sz9 ag9 rfl (vS y_28.Key) rfl wz (h_op (vS y_28.Key) wz rfl (h_op (vB true) wz rfl (h_nil ?_)))))
   obtain rfl := some_inj hF
   exact wH_ret (fin0 (.inr rfl) [(vS y_28.Key), (vB true)] ⟨rfl, ⟨rfl, trivial⟩⟩ rfl rfl rfl)
theorem screen_rectsFault_ok {l_1 : (List Rect)} {r : Int} (hF : screen_rectsFault l_1 = some r) :
  FnM Tryz.prog 111 [(vL Rect.enc l_1)] [] (vI r) [] := by
 refine FnM.of_wH ⟨Tryz.prog, 21, [], []⟩ rfl Tryz.func111 rfl rfl (Nat.le_of_ble_eq_true rfl) (by kernel_rfl) ?_
 unfold screen_rectsFault at hF
 refine wH_seq (wH_region (h_op (vI 0) wz rfl (h_nil (wH_seq (wH_seq (wH_region (h_op (vL Rect.enc l_1) wz rfl (h_len un62 rfl wz (h_op (vB (decide ((l_1.length : Int) > 2000))) wz rfl (h_nil ?_))))))))))
 rcases cond_some hF with ⟨hc_2, hF⟩ | ⟨hc_2, hF⟩
 ·refine wH_ift rfl hc_2 (wH_seq (wH_region (h_op (vI 2) wz rfl (h_nil ?_))))
  obtain rfl := some_inj hF
  exact wH_ret (fin0 (.inr rfl) [(vI 2)] ⟨rfl, trivial⟩ rfl rfl rfl)
 ·refine wH_iff rfl hc_2 (wH_skip (wH_seq (wH_seq (wH_region (h_op (vL Rect.enc l_1) wz rfl (h_len un62 rfl wz (h_op (vI 0) wz rfl (h_nil ?_))))))))
  obtain ⟨o_11, hj_12, hF⟩ := bind_some hF
  obtain ⟨hn_7, hj_12⟩ := forL_some hj_12
  refine wH_join (β := (Unit)) (fun (s_8 : Unit) => ([] : List (Nat × V))) (fun (s_8 : Unit) => ([] : Hp)) (fun p => o_11 = .go p) ?_ ?_
  ·refine wH_block (wH_loop (β := Nat × (List Rect) × (Unit)) (fun p => (fun (k_3 : Nat) (l_4 : List Rect) (s_8 : Unit) => ([(9, (vL Rect.enc l_1)), (10, (vI (l_1.length : Int))), (11, (vI (k_3 : Int)))] : List (Nat × V))) p.1 p.2.1 p.2.2) (fun p => (fun (k_3 : Nat) (l_4 : List Rect) (s_8 : Unit) => ([] : Hp)) p.1 p.2.1 p.2.2) (fun p => forR (fun k x s => screen_rectsFault_L1 k x s) p.2.1 p.1 p.2.2 = some o_11 ∧ (l_1).drop p.1 = p.2.1) (fun p => p.2.1.length) (0, l_1, ()) ⟨hj_12, rfl⟩ rfl (pre_r rfl) ?_)
   rintro ⟨k_3, l_4, s_8⟩ ⟨hL_10, hD_6⟩
   dsimp only at hL_10 hD_6
   cases l_4 with
   | nil =>
    obtain rfl := some_inj hL_10
    refine wH_seq (wH_region (h_op (vB (decide ((k_3 : Int) < (l_1.length : Int)))) wz rfl (h_nil ?_)))
    refine wH_seq (wH_iff rfl (drop_nil hD_6) (wH_exit ?_))
    exact cut_mk (s_8) rfl rfl (pre_r rfl)
   | cons x_5 l_4 =>
    obtain ⟨c_, hc_9, hL_10⟩ := bind_some hL_10
    refine wH_seq (wH_region (h_op (vB (decide ((k_3 : Int) < (l_1.length : Int)))) wz rfl (h_nil ?_)))
    refine wH_seq (wH_ift rfl (drop_cons hD_6) (wH_skip ?_))
    unfold screen_rectsFault_L1 at hc_9
    refine wH_seq (wH_block (wH_seq (wH_region (h_ia es62 rfl rfl (drop_idx hD_6) rfl wz (h_ldc sz49 ag49 rfl (.d (.agg (Rect.enc x_5))) rfl wz (h_alloc 0 (.inl rfl) z49 rfl wz (fun n_13 => h_str 0 (.inl rfl) (fun _ _ _ => trivial) 0 sz49 rfl rfl [(vI x_5.X), (vI x_5.Y), (vI x_5.W), (vI x_5.H)] rfl wz (h_nil (wH_seq (wH_region (h_ldr 0 0 (.inl rfl) (fun _ _ _ => trivial) sz49 ag49 rfl rfl (.d (.agg (Rect.enc x_5))) rfl wz ?_)))))))))))
    obtain ⟨r_14, hr_15, hc_9⟩ := bind_some hc_9
    refine h_call0 (screen_CheckRect_ok hr_15) rfl hb71 rfl rfl rfl rfl wz (h_op (vI r_14) wz rfl (h_nil (wH_seq (wH_region (h_op (vI r_14) wz rfl (h_op (vB (r_14 != 0)) wz rfl (h_nil ?_)))))))
    rcases cond_some hc_9 with ⟨hc_16, hc_9⟩ | ⟨hc_16, hc_9⟩
    ·refine wH_ift rfl hc_16 (wH_seq (wH_region (h_op (vI r_14) wz rfl (h_op (vI r_14) wz rfl (h_nil ?_)))))
     obtain rfl := some_inj hc_9
     obtain rfl := some_inj hL_10
     obtain rfl := some_inj hF
     exact wH_ret (fin0 (.inr rfl) [(vI r_14)] ⟨rfl, trivial⟩ rfl rfl rfl)
    ·refine wH_iff rfl hc_16 (wH_skip (wH_region (h_opw (w64_next hD_6 hn_7) wz rfl (h_op (vI ((k_3 + 1 : Nat) : Int)) wz rfl (h_nil ?_)))))
     obtain rfl := some_inj hc_9
     exact loop_mk (k_3 + 1, l_4, ()) ⟨hL_10, drop_next hD_6⟩ (Nat.lt_succ_self _) rfl (pre_r rfl)
  ·rintro s_8 ho_ sl_ H_ hp_ hq_
   subst ho_
   refine wH_at _ hp_ hq_ (wH_seq (wH_region (h_op (vI 0) wz rfl (h_nil ?_))))
   obtain rfl := some_inj hF
   exact wH_ret (fin0 (.inr rfl) [(vI 0)] ⟨rfl, trivial⟩ rfl rfl rfl)
theorem screen_area_ok {l_1 : (List Rect)} {r : Int} (hF : screen_area l_1 = some r) :
  FnM Tryz.prog 92 [(vL Rect.enc l_1)] [] (vI r) [] := by
 refine FnM.of_wH ⟨Tryz.prog, 21, [], []⟩ rfl Tryz.func92 rfl rfl (Nat.le_of_ble_eq_true rfl) (by kernel_rfl) ?_
 unfold screen_area at hF
 refine wH_seq (wH_region (h_op (vI 0) wz rfl (h_nil (wH_seq (wH_region (h_op (vI 0) wz rfl (h_nil (wH_seq (wH_seq (wH_region (h_op (vL Rect.enc l_1) wz rfl (h_len un62 rfl wz (h_op (vI 0) wz rfl (h_nil ?_))))))))))))))
 obtain ⟨o_10, hj_11, hF⟩ := bind_some hF
 obtain ⟨hn_6, hj_11⟩ := forL_some hj_11
 refine wH_join (β := (Int)) (fun (s_7 : Int) => ([(3, (vI s_7))] : List (Nat × V))) (fun (s_7 : Int) => ([] : Hp)) (fun p => o_10 = .go p) ?_ ?_
 ·refine wH_block (wH_loop (β := Nat × (List Rect) × (Int)) (fun p => (fun (k_2 : Nat) (l_3 : List Rect) (s_7 : Int) => ([(3, (vI s_7)), (6, (vL Rect.enc l_1)), (7, (vI (l_1.length : Int))), (8, (vI (k_2 : Int)))] : List (Nat × V))) p.1 p.2.1 p.2.2) (fun p => (fun (k_2 : Nat) (l_3 : List Rect) (s_7 : Int) => ([] : Hp)) p.1 p.2.1 p.2.2) (fun p => forR (fun k x s => screen_area_L1 k x s) p.2.1 p.1 p.2.2 = some o_10 ∧ (l_1).drop p.1 = p.2.1) (fun p => p.2.1.length) (0, l_1, 0) ⟨hj_11, rfl⟩ rfl (pre_r rfl) ?_)
  rintro ⟨k_2, l_3, s_7⟩ ⟨hL_9, hD_5⟩
  dsimp only at hL_9 hD_5
  cases l_3 with
  | nil =>
   obtain rfl := some_inj hL_9
   refine wH_seq (wH_region (h_op (vB (decide ((k_2 : Int) < (l_1.length : Int)))) wz rfl (h_nil ?_)))
   refine wH_seq (wH_iff rfl (drop_nil hD_5) (wH_exit ?_))
   exact cut_mk (s_7) rfl rfl (pre_r rfl)
  | cons x_4 l_3 =>
   obtain ⟨c_, hc_8, hL_9⟩ := bind_some hL_9
   refine wH_seq (wH_region (h_op (vB (decide ((k_2 : Int) < (l_1.length : Int)))) wz rfl (h_nil ?_)))
   refine wH_seq (wH_ift rfl (drop_cons hD_5) (wH_skip ?_))
   unfold screen_area_L1 at hc_8
   refine wH_seq (wH_block (wH_seq (wH_region (h_ia es62 rfl rfl (drop_idx hD_5) rfl wz (h_ldc sz49 ag49 rfl (.d (.agg (Rect.enc x_4))) rfl wz (h_alloc 0 (.inl rfl) z49 rfl wz (fun n_12 => h_str 0 (.inl rfl) (fun _ _ _ => trivial) 0 sz49 rfl rfl [(vI x_4.X), (vI x_4.Y), (vI x_4.W), (vI x_4.H)] rfl wz (h_nil (wH_region (h_op (vI s_7) wz rfl (h_far pl49_2 rfl 2 rfl wz (h_ldr 0 0 (.inl rfl) (fun _ _ _ => trivial) sz3 ag3 rfl rfl (vI x_4.W) rfl wz (h_far pl49_3 rfl 3 rfl wz (h_ldr 0 0 (.inl rfl) (fun _ _ _ => trivial) sz3 ag3 rfl rfl (vI x_4.H) rfl wz (h_op (vI (w64 (x_4.W * x_4.H))) wz rfl (h_op (vI (w64 (s_7 + (w64 (x_4.W * x_4.H))))) wz rfl (h_op (vI (w64 (s_7 + (w64 (x_4.W * x_4.H))))) wz rfl (h_nil (wH_region (h_opw (w64_next hD_5 hn_6) wz rfl (h_op (vI ((k_2 + 1 : Nat) : Int)) wz rfl (h_nil ?_))))))))))))))))))))))
   obtain rfl := some_inj hc_8
   exact loop_mk (k_2 + 1, l_3, (w64 (s_7 + (w64 (x_4.W * x_4.H))))) ⟨hL_9, drop_next hD_5⟩ (Nat.lt_succ_self _) rfl (pre_r rfl)
 ·rintro s_7 ho_ sl_ H_ hp_ hq_
  subst ho_
  refine wH_at _ hp_ hq_ (wH_seq (wH_region (h_op (vI s_7) wz rfl (h_op (vI s_7) wz rfl (h_nil ?_)))))
  obtain rfl := some_inj hF
  exact wH_ret (fin0 (.inr rfl) [(vI s_7)] ⟨rfl, trivial⟩ rfl rfl rfl)
theorem screen_Area_ok {l_1 : (List Rect)} {r : Int × Int} (hF : screen_Area l_1 = some r) :
  FnM Tryz.prog 75 [(vL Rect.enc l_1)] [] (.tup [(vI r.1), (vI r.2)]) [] := by
 refine FnM.of_wH ⟨Tryz.prog, 13, [], []⟩ rfl Tryz.func75 rfl rfl (Nat.le_of_ble_eq_true rfl) (by kernel_rfl) ?_
 unfold screen_Area at hF
 refine wH_seq (wH_region (h_op (vI 0) wz rfl (h_op (vI 0) wz rfl (h_nil (wH_seq (wH_seq (wH_region (h_op (vL Rect.enc l_1) wz rfl ?_))))))))
 obtain ⟨r_2, hr_3, hF⟩ := bind_some hF
 refine h_call0 (screen_rectsFault_ok hr_3) rfl hb111 rfl rfl rfl rfl wz (h_op (vI r_2) wz rfl (h_nil (wH_seq (wH_region (h_op (vI r_2) wz rfl (h_op (vB (r_2 != 0)) wz rfl (h_nil ?_)))))))
 rcases cond_some hF with ⟨hc_4, hF⟩ | ⟨hc_4, hF⟩
 ·refine wH_ift rfl hc_4 (wH_seq (wH_region (h_op (vI r_2) wz rfl (h_op (vI 0) wz rfl (h_op (vI r_2) wz rfl (h_nil ?_))))))
  obtain rfl := some_inj hF
  exact wH_ret (fin0 (.inr rfl) [(vI 0), (vI r_2)] ⟨rfl, ⟨rfl, trivial⟩⟩ rfl rfl rfl)
 ·refine wH_iff rfl hc_4 (wH_skip (wH_seq (wH_region (h_op (vL Rect.enc l_1) wz rfl ?_))))
  obtain ⟨r_5, hr_6, hF⟩ := bind_some hF
  refine h_call0 (screen_region_ok hr_6) rfl hb84 rfl rfl rfl rfl wz ?_
  obtain ⟨r_7, hr_8, hF⟩ := bind_some hF
  refine h_call0 (screen_area_ok hr_8) rfl hb92 rfl rfl rfl rfl wz (h_op (vI r_7) wz rfl (h_op (vI 0) wz rfl (h_nil ?_)))
  obtain rfl := some_inj hF
  exact wH_ret (fin0 (.inr rfl) [(vI r_7), (vI 0)] ⟨rfl, ⟨rfl, trivial⟩⟩ rfl rfl rfl)
theorem law_lit_ok {r : Bool} (hF : law_lit  = some r) :
  FnM Tryz.prog 19 [] [] (vB r) [] := by
 refine FnM.of_wH ⟨Tryz.prog, 16, [], []⟩ rfl Tryz.func19 rfl rfl (Nat.le_of_ble_eq_true rfl) (by kernel_rfl) ?_
 unfold law_lit at hF
 refine wH_seq (wH_region (h_op (vB false) wz rfl (h_nil (wH_seq (wH_region (h_op (.d (.agg (Rect.enc (⟨0, 0, 2, 2⟩ : Rect)))) wz (by kernel_rfl) (h_op (.d (.agg (Rect.enc (⟨1, 1, 2, 2⟩ : Rect)))) wz (by kernel_rfl) (h_lit (([(⟨0, 0, 2, 2⟩ : Rect), (⟨1, 1, 2, 2⟩ : Rect)] : List Rect).map Rect.enc) es62 ez62 rfl rfl rfl rfl rfl wz ?_))))))))
 obtain ⟨r_1, hr_2, hF⟩ := bind_some hF
 refine h_call0 (screen_Area_ok hr_2) rfl hb75 rfl rfl rfl rfl wz (h_op (.tup [(vI r_1.1), (vI r_1.2)]) wz rfl (h_op (vI r_1.1) wz rfl (h_op (vI r_1.2) wz rfl (h_op (vI r_1.1) wz rfl (h_op (vI r_1.2) wz rfl (h_nil (wH_seq ?_)))))))
 obtain ⟨v_3, h_4, hF⟩ := bind_some hF
 refine wH_join (β := Unit) (fun _ => ([(0, (vB v_3))] : List (Nat × V))) (fun _ => ([] : Hp)) (fun _ => True) ?_ ?_
 ·refine wH_region (h_op (vI r_1.2) wz rfl (h_op (vB (r_1.2 == 0)) wz rfl ?_))
  rcases cond_some h_4 with ⟨hc_5, h_4⟩ | ⟨hc_5, h_4⟩
  ·refine h_movb rfl hc_5 wz (h_op (vI r_1.1) (wg rfl rfl rfl) rfl (h_op (vB (r_1.1 == 7)) (wg rfl rfl rfl) rfl (h_op (vB (r_1.1 == 7)) wz rfl (h_op (vB (r_1.1 == 7)) wz rfl (h_nil ?_)))))
   obtain rfl := some_inj h_4
   exact cut_mk () trivial rfl (pre_r rfl)
  ·refine h_movb rfl hc_5 wz (h_skip (wg rfl rfl rfl) (h_skip (wg rfl rfl rfl) (h_op (vB false) wz rfl (h_op (vB false) wz rfl (h_nil ?_)))))
   obtain rfl := some_inj h_4
   exact cut_mk () trivial rfl (pre_r rfl)
 ·rintro ⟨⟩ _ sl_ H_ hp_ hq_
  refine wH_at _ hp_ hq_ ?_
  obtain rfl := some_inj hF
  exact wH_ret (fin0 (.inr rfl) [(vB v_3)] ⟨rfl, trivial⟩ rfl rfl rfl)
theorem ref_SeenOf_1_ok {x_1 : Int} {y_2 : Int} {p_3 : Layout} {p_4 : Zone} {r : Bool} (hF : ref_SeenOf_1 x_1 y_2 p_3 p_4 = some r) :
  FnM Tryz.prog 77 [(vI x_1), (vI y_2), (.ref (extN 0) 0 0), (.ref (extN 1) 0 0)] [(.cells 4 [(vS p_3.Key), (vI p_3.W), (vI p_3.H), (vL Zone.enc p_3.Zones)]), (.cells 6 [(vS p_4.Key), (vI p_4.On.X), (vI p_4.On.Y), (vI p_4.On.W), (vI p_4.On.H), (vI p_4.Order)])] (vB r) [some (.cells 4 [(vS p_3.Key), (vI p_3.W), (vI p_3.H), (vL Zone.enc p_3.Zones)]), some (.cells 6 [(vS p_4.Key), (vI p_4.On.X), (vI p_4.On.Y), (vI p_4.On.W), (vI p_4.On.H), (vI p_4.Order)])] := by
 refine FnM.of_wH ⟨Tryz.prog, 20, [], []⟩ rfl Tryz.func77 rfl rfl (Nat.le_of_ble_eq_true rfl) (by kernel_rfl) ?_
 unfold ref_SeenOf_1 at hF
 refine wH_seq (wH_region (h_op (vB false) wz rfl (h_nil (wH_seq (wH_region (h_ldr 0 0 (.inl rfl) (fun _ _ _ => trivial) sz28 ag28 rfl rfl (.d (.agg (Layout.enc p_3))) rfl wz (h_op (vI x_1) wz rfl (h_op (vI y_2) wz rfl ?_))))))))
 obtain ⟨r_5, hr_6, hF⟩ := bind_some hF
 refine h_call0 (ref_ZoneOf_ok hr_6) rfl hb18 rfl rfl rfl rfl wz (h_op (.tup [(vS r_5.1), (vB r_5.2)]) wz rfl (h_op (vS r_5.1) wz rfl (h_op (vB r_5.2) wz rfl (h_op (vS r_5.1) wz rfl (h_op (vB r_5.2) wz rfl (h_nil (wH_seq (wH_region (h_op (vS r_5.1) wz rfl (h_far pl107_0 rfl 0 rfl wz (h_ldr 0 1 (.inl rfl) (fun _ _ _ => trivial) sz9 ag9 rfl rfl (vS p_4.Key) rfl wz (h_op (vB (sEq r_5.1 p_4.Key)) wz rfl (h_op (vB (sEq r_5.1 p_4.Key)) wz rfl (h_nil ?_))))))))))))))
 obtain rfl := some_inj hF
 exact wH_ret (finB (.inr rfl) [(vB (sEq r_5.1 p_4.Key))] _ [0, 1] [extN 0, extN 1] ⟨rfl, trivial⟩ (.cons (co_data rfl rfl) (.nil)) (by kernel_rfl) ⟨(by kernel_rfl), ⟨(by kernel_rfl), trivial⟩⟩ (by decide) (by kernel_rfl))
theorem ref_regionOf_1_ok {r_1 : Rect} {r : Int × Int} (hF : ref_regionOf_1 r_1 = some r) :
  FnM Tryz.prog 113 [(.d (.agg (Rect.enc r_1)))] [] (.tup [(vI r.1), (vI r.2)]) [] := by
 refine FnM.of_wH ⟨Tryz.prog, 11, [], []⟩ rfl Tryz.func113 rfl rfl (Nat.le_of_ble_eq_true rfl) (by kernel_rfl) ?_
 unfold ref_regionOf_1 at hF
 refine wH_seq (wH_region (h_box 0 (.inl rfl) [(vI r_1.X), (vI r_1.Y), (vI r_1.W), (vI r_1.H)] rfl rfl wz (fun n_2 => h_op (vI 0) wz rfl (h_op (vI 0) wz rfl (h_nil (wH_seq (wH_draws (h_far pl49_0 rfl 0 rfl wz (h_ldr 1 0 (.inr (by kernel_rfl)) (fun _ _ ag => trivial) sz3 ag3 rfl rfl (vI r_1.X) rfl wz (h_far pl49_0 rfl 0 rfl wz (h_ldr 3 0 (.inr (by kernel_rfl)) (fun _ _ ag => ⟨.inl ⟨rfl, rfl⟩, trivial⟩) sz3 ag3 rfl rfl (vI r_1.X) rfl wz (h_far pl49_2 rfl 2 rfl wz (h_ldr 5 0 (.inr (by kernel_rfl)) (fun _ _ ag => ⟨.inl ⟨rfl, rfl⟩, ⟨.inl ⟨rfl, rfl⟩, trivial⟩⟩) sz3 ag3 rfl rfl (vI r_1.W) rfl wz (h_op (vI (w64 (r_1.X + r_1.W))) wz rfl (h_op (vI r_1.X) wz rfl (h_op (vI (w64 (r_1.X + r_1.W))) wz rfl (h_nil ?_)))))))))))))))))
 obtain rfl := some_inj hF
 exact wH_ret (fin0 (.inr rfl) [(vI r_1.X), (vI (w64 (r_1.X + r_1.W)))] ⟨rfl, ⟨rfl, trivial⟩⟩ rfl rfl rfl)
theorem ref_cuts_v1_ok {l_1 : (List Rect)} {r : (List Int)} (hF : ref_cuts_v1 l_1 = some r) :
  FnM Tryz.prog 112 [(vL Rect.enc l_1), (.fn 113 [])] [] (vL eI r) [] := by
 refine FnM.of_wH ⟨Tryz.prog, 32, [], []⟩ rfl Tryz.func112 rfl rfl (Nat.le_of_ble_eq_true rfl) (by kernel_rfl) ?_
 unfold ref_cuts_v1 at hF
 refine wH_seq (wH_region (h_op .nil wz rfl (h_nil (wH_seq (wH_region (h_op .nil wz rfl (h_nil (wH_seq (wH_seq (wH_region (h_op (vL Rect.enc l_1) wz rfl (h_len un62 rfl wz (h_op (vI 0) wz rfl (h_nil (wH_new (fun n_9 => ?_))))))))))))))))
 obtain ⟨o_14, hj_15, hF⟩ := bind_some hF
 obtain ⟨hn_7, hj_15⟩ := forL_some hj_15
 refine wH_join (β := ((List Int)) × Nm) (fun p => (fun (s_8 : (List Int)) (n_11 : Nm) => ([(5, (gV n_11 1 s_8))] : List (Nat × V))) p.1 p.2) (fun p => (fun (s_8 : (List Int)) (n_11 : Nm) => ([(n_11, gB 1 eI s_8)] : Hp)) p.1 p.2) (fun p => o_14 = .go p.1) ?_ ?_
 ·refine wH_block (wH_loop (β := Nat × (List Rect) × ((List Int)) × Nm) (fun p => (fun (k_3 : Nat) (l_4 : List Rect) (s_8 : (List Int)) (n_11 : Nm) => ([(1, (.fn 113 [])), (5, (gV n_11 1 s_8)), (10, (vL Rect.enc l_1)), (11, (vI (l_1.length : Int))), (12, (vI (k_3 : Int)))] : List (Nat × V))) p.1 p.2.1 p.2.2.1 p.2.2.2) (fun p => (fun (k_3 : Nat) (l_4 : List Rect) (s_8 : (List Int)) (n_11 : Nm) => ([(n_11, gB 1 eI s_8)] : Hp)) p.1 p.2.1 p.2.2.1 p.2.2.2) (fun p => forR (fun k x s => ref_cuts_v1_L1 k x s) p.2.1 p.1 p.2.2.1 = some o_14 ∧ (l_1).drop p.1 = p.2.1) (fun p => p.2.1.length) (0, l_1, ([] : List Int), n_9) ⟨hj_15, rfl⟩ rfl (pre_r rfl) ?_)
  rintro ⟨k_3, l_4, s_8, n_11⟩ ⟨hL_13, hD_6⟩
  dsimp only at hL_13 hD_6
  cases l_4 with
  | nil =>
   obtain rfl := some_inj hL_13
   refine wH_seq (wH_region (h_op (vB (decide ((k_3 : Int) < (l_1.length : Int)))) wz rfl (h_nil ?_)))
   refine wH_seq (wH_iff rfl (drop_nil hD_6) (wH_exit ?_))
   exact cut_mk (s_8, n_11) rfl rfl (pre_r rfl)
  | cons x_5 l_4 =>
   obtain ⟨c_, hc_12, hL_13⟩ := bind_some hL_13
   refine wH_seq (wH_region (h_op (vB (decide ((k_3 : Int) < (l_1.length : Int)))) wz rfl (h_nil ?_)))
   refine wH_seq (wH_ift rfl (drop_cons hD_6) (wH_skip ?_))
   unfold ref_cuts_v1_L1 at hc_12
   refine wH_seq (wH_block (wH_seq (wH_region (h_ia es62 rfl rfl (drop_idx hD_6) rfl wz (h_ldc sz49 ag49 rfl (.d (.agg (Rect.enc x_5))) rfl wz (h_alloc 0 (.inl rfl) z49 rfl wz (fun n_16 => h_str 0 (.inl rfl) (fun _ _ _ => trivial) 1 sz49 rfl rfl [(vI x_5.X), (vI x_5.Y), (vI x_5.W), (vI x_5.H)] rfl wz (h_nil (wH_seq (wH_region (h_op (.fn 113 []) wz rfl (h_ldr 0 1 (.inl rfl) (fun _ _ _ => trivial) sz49 ag49 rfl rfl (.d (.agg (Rect.enc x_5))) rfl wz ?_))))))))))))
   obtain ⟨r_17, hr_18, hc_12⟩ := bind_some hc_12
   refine h_call0 (ref_regionOf_1_ok hr_18) rfl hb113 rfl rfl rfl rfl wz (h_op (.tup [(vI r_17.1), (vI r_17.2)]) wz rfl (h_op (vI r_17.1) wz rfl (h_op (vI r_17.2) wz rfl (h_op (vI r_17.1) wz rfl (h_op (vI r_17.2) wz rfl (h_nil (wH_region (h_op (gV n_11 1 s_8) wz rfl (h_op (vI r_17.1) wz rfl (h_op (vI r_17.2) wz rfl (h_lit (([r_17.1, r_17.2] : List Int).map eI) es22 ez22 rfl rfl rfl rfl rfl wz ?_)))))))))))
   obtain ⟨a_19, hz_20, hc_12⟩ := bind_some hc_12
   refine h_appg 0 (.inl rfl) (fun _ _ _ => trivial) (i := 0) el22 el22 sz3 z3 rfl (by decide) by3 (by decide) (fun _ => rfl) rfl rfl rfl hz_20 wz (fun n_21 => h_op (gV n_21 1 a_19) wz rfl (h_nil (wH_region (h_opw (w64_next hD_6 hn_7) wz rfl (h_op (vI ((k_3 + 1 : Nat) : Int)) wz rfl (h_nil ?_))))))
   obtain rfl := some_inj hc_12
   exact loop_mk (k_3 + 1, l_4, a_19, n_21) ⟨hL_13, drop_next hD_6⟩ (Nat.lt_succ_self _) rfl (pre_r rfl)
 ·rintro ⟨s_8, n_11⟩ ho_ sl_ H_ hp_ hq_
  subst ho_
  refine wH_at _ hp_ hq_ (wH_seq (wH_region (h_op (gV n_11 1 s_8) wz rfl ?_)))
  obtain ⟨r_22, hr_23, hF⟩ := bind_some hF
  obtain ⟨_, hs_24, hF⟩ := bind_some hF
  replace hs_24 := sameL_eq hs_24
  refine h_callv 0 [] 0 0 (.inl rfl) (fun _ _ _ => trivial) (slices_Sort_int_int_v1_ok hr_23) rfl hb119 rfl rfl rfl (by kernel_rfl) rfl (.inl rfl) rfl (by kernel_rfl) (by kernel_rfl) (by kernel_rfl) (by kernel_rfl) rfl (by decide) (by kernel_rfl) gB_ok (gB_ho hs_24) wz ([(n_11, gB 1 eI r_22)] : Hp) (by kernel_rfl) (h_re (v' := (gV n_11 1 r_22)) 28 rfl (gV_len hs_24.symm) (h_re (v' := (gV n_11 1 r_22)) 5 rfl (gV_len hs_24.symm) (h_nil (wH_seq (wH_region (h_op (gV n_11 1 r_22) wz rfl ?_))))))
  obtain ⟨r_25, hr_26, hF⟩ := bind_some hF
  refine h_callv 0 [] 0 0 (.inl rfl) (fun _ _ _ => trivial) (slices_Compact_int_int_v1_ok hr_26) rfl hb120 rfl rfl rfl (by kernel_rfl) rfl (.inl rfl) rfl (by kernel_rfl) (by kernel_rfl) (by kernel_rfl) (by kernel_rfl) rfl (by decide) (by kernel_rfl) none_ok (fun _ => rfl) wz ([(n_11, none)] : Hp) (by kernel_rfl) (h_op (vL eI r_25) wz rfl (h_nil ?_))
  obtain rfl := some_inj hF
  exact wH_ret (fin0 (.inr rfl) [(vL eI r_25)] ⟨rfl, trivial⟩ rfl rfl rfl)
theorem ref_regionOf_2_ok {r_1 : Rect} {r : Int × Int} (hF : ref_regionOf_2 r_1 = some r) :
  FnM Tryz.prog 114 [(.d (.agg (Rect.enc r_1)))] [] (.tup [(vI r.1), (vI r.2)]) [] := by
 refine FnM.of_wH ⟨Tryz.prog, 11, [], []⟩ rfl Tryz.func114 rfl rfl (Nat.le_of_ble_eq_true rfl) (by kernel_rfl) ?_
 unfold ref_regionOf_2 at hF
 refine wH_seq (wH_region (h_box 0 (.inl rfl) [(vI r_1.X), (vI r_1.Y), (vI r_1.W), (vI r_1.H)] rfl rfl wz (fun n_2 => h_op (vI 0) wz rfl (h_op (vI 0) wz rfl (h_nil (wH_seq (wH_draws (h_far pl49_1 rfl 1 rfl wz (h_ldr 1 0 (.inr (by kernel_rfl)) (fun _ _ ag => trivial) sz3 ag3 rfl rfl (vI r_1.Y) rfl wz (h_far pl49_1 rfl 1 rfl wz (h_ldr 3 0 (.inr (by kernel_rfl)) (fun _ _ ag => ⟨.inl ⟨rfl, rfl⟩, trivial⟩) sz3 ag3 rfl rfl (vI r_1.Y) rfl wz (h_far pl49_3 rfl 3 rfl wz (h_ldr 5 0 (.inr (by kernel_rfl)) (fun _ _ ag => ⟨.inl ⟨rfl, rfl⟩, ⟨.inl ⟨rfl, rfl⟩, trivial⟩⟩) sz3 ag3 rfl rfl (vI r_1.H) rfl wz (h_op (vI (w64 (r_1.Y + r_1.H))) wz rfl (h_op (vI r_1.Y) wz rfl (h_op (vI (w64 (r_1.Y + r_1.H))) wz rfl (h_nil ?_)))))))))))))))))
 obtain rfl := some_inj hF
 exact wH_ret (fin0 (.inr rfl) [(vI r_1.Y), (vI (w64 (r_1.Y + r_1.H)))] ⟨rfl, ⟨rfl, trivial⟩⟩ rfl rfl rfl)
end Go.Proofs.YtiekkaelpgahoaaGreat.Law

