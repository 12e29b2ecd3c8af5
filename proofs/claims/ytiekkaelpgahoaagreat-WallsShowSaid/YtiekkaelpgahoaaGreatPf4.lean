/-
 The machine computes these plain functions (written by a program of ours).
-/
import Derived.Test.YtiekkaelpgahoaaGreatFacts
import Derived.Test.YtiekkaelpgahoaaGreatDefs
import Derived.Test.YtiekkaelpgahoaaGreatPf3
open Go Go.Eng Go.Proofs
namespace Go.Proofs.YtiekkaelpgahoaaGreat.Law
set_option maxRecDepth 100000
set_option linter.unusedVariables false
set_option maxHeartbeats 1000000
theorem ref_regionOf_v1_ok {l_1 : (List Rect)} {is2_3 : Layout} {is2_4 : Zone} {r : (List Rect)} (hF : ref_regionOf_v1 l_1 is2_3 is2_4 = some r) :
  FnM Tryz.prog 76 [(vL Rect.enc l_1), (.fn 77 [(.ref (extN 0) 0 0), (.ref (extN 1) 0 0)])] [(.cells 4 [(vS is2_3.Key), (vI is2_3.W), (vI is2_3.H), (vL Zone.enc is2_3.Zones)]), (.cells 6 [(vS is2_4.Key), (vI is2_4.On.X), (vI is2_4.On.Y), (vI is2_4.On.W), (vI is2_4.On.H), (vI is2_4.Order)])] (vL Rect.enc r) [some (.cells 4 [(vS is2_3.Key), (vI is2_3.W), (vI is2_3.H), (vL Zone.enc is2_3.Zones)]), some (.cells 6 [(vS is2_4.Key), (vI is2_4.On.X), (vI is2_4.On.Y), (vI is2_4.On.W), (vI is2_4.On.H), (vI is2_4.Order)])] := by
 refine FnM.of_wH ⟨Tryz.prog, 149, [], []⟩ rfl Tryz.func76 rfl rfl (Nat.le_of_ble_eq_true rfl) (by kernel_rfl) ?_
 unfold ref_regionOf_v1 at hF
 refine wH_seq (wH_region (h_op .nil wz rfl (h_nil (wH_seq (wH_region (h_op (vL Rect.enc l_1) wz rfl ?_))))))
 obtain ⟨r_5, hr_6, hF⟩ := bind_some hF
 refine h_call0 (ref_cuts_v1_ok hr_6) rfl hb112 rfl rfl rfl rfl wz (h_op (vL eI r_5) wz rfl (h_nil (wH_seq (wH_region (h_op (vL Rect.enc l_1) wz rfl ?_)))))
 obtain ⟨r_7, hr_8, hF⟩ := bind_some hF
 refine h_call0 (ref_cuts_v2_ok hr_8) rfl hb112 rfl rfl rfl rfl wz (h_op (vL eI r_7) wz rfl (h_nil (wH_seq (wH_region (h_op .nil wz rfl (h_op .nil wz rfl (h_nil (wH_seq (wH_seq (wH_region (h_op (vI 0) wz rfl (h_nil (wH_new (fun n_15 => wH_new (fun n_16 => ?_)))))))))))))))
 obtain ⟨o_23, hj_24, hF⟩ := bind_some hF
 obtain ⟨nq_118, hj_24⟩ := loopO_iter hj_24
 refine wH_join (β := ((List Rect) × (List Rect) × Int) × Nm × Nm) (fun p => (fun (s_14 : (List Rect) × (List Rect) × Int) (n_19 : Nm) (n_20 : Nm) => ([(7, (gV n_19 4 s_14.1)), (8, (gV n_20 4 s_14.2.1))] : List (Nat × V))) p.1 p.2.1 p.2.2) (fun p => (fun (s_14 : (List Rect) × (List Rect) × Int) (n_19 : Nm) (n_20 : Nm) => ([((extN 0), some (.cells 4 [(vS is2_3.Key), (vI is2_3.W), (vI is2_3.H), (vL Zone.enc is2_3.Zones)])), ((extN 1), some (.cells 6 [(vS is2_4.Key), (vI is2_4.On.X), (vI is2_4.On.Y), (vI is2_4.On.W), (vI is2_4.On.H), (vI is2_4.Order)])), (n_19, gB 4 Rect.enc s_14.1), (n_20, gB 4 Rect.enc s_14.2.1)] : Hp)) p.1 p.2.1 p.2.2) (fun p => o_23 = .go p.1) ?_ ?_
 ·refine wH_block (wH_loop (β := Nat × ((List Rect) × (List Rect) × Int) × Nm × Nm) (fun p => (fun (k_9 : Nat) (s_14 : (List Rect) × (List Rect) × Int) (n_19 : Nm) (n_20 : Nm) => ([(1, (.fn 77 [(.ref (extN 0) 0 0), (.ref (extN 1) 0 0)])), (5, (vL eI r_5)), (6, (vL eI r_7)), (7, (gV n_19 4 s_14.1)), (8, (gV n_20 4 s_14.2.1)), (9, (vI s_14.2.2))] : List (Nat × V))) p.1 p.2.1 p.2.2.1 p.2.2.2) (fun p => (fun (k_9 : Nat) (s_14 : (List Rect) × (List Rect) × Int) (n_19 : Nm) (n_20 : Nm) => ([((extN 0), some (.cells 4 [(vS is2_3.Key), (vI is2_3.W), (vI is2_3.H), (vL Zone.enc is2_3.Zones)])), ((extN 1), some (.cells 6 [(vS is2_4.Key), (vI is2_4.On.X), (vI is2_4.On.Y), (vI is2_4.On.W), (vI is2_4.On.H), (vI is2_4.Order)])), (n_19, gB 4 Rect.enc s_14.1), (n_20, gB 4 Rect.enc s_14.2.1)] : Hp)) p.1 p.2.1 p.2.2.1 p.2.2.2) (fun p => iterN (fun s => ref_regionOf_v1_L3 r_7 r_5 is2_3 is2_4 s) p.1 p.2.1 = some o_23) (fun p => p.1) (nq_118, (([] : List Rect), ([] : List Rect), 0), n_15, n_16) hj_24 rfl (pre_r rfl) ?_)
  rintro ⟨k_9, s_14, n_19, n_20⟩ hL_22
  dsimp only at hL_22
  cases k_9 with
  | zero => cases hL_22
  | succ k_9 =>
   obtain ⟨c_, hc_21, hL_22⟩ := bind_some hL_22
   unfold ref_regionOf_v1_L3 at hc_21
   refine wH_seq (wH_seq (wH_region (h_op (vI s_14.2.2) wz rfl (h_op (vI (w64 (s_14.2.2 + 1))) wz rfl (h_op (vL eI r_7) wz rfl (h_len un22 rfl wz (h_op (vB (decide ((w64 (s_14.2.2 + 1)) < (r_7.length : Int)))) wz rfl (h_nil ?_))))))))
   rcases cond_some hc_21 with ⟨hc_25, hc_21⟩ | ⟨hc_25, hc_21⟩
   ·refine wH_ift rfl hc_25 (wH_skip (wH_seq (wH_block (wH_seq (wH_region (h_op .nil wz rfl (h_nil (wH_seq (wH_seq (wH_region (h_op (vI 0) wz rfl (h_nil (wH_new (fun n_32 => ?_))))))))))))))
    obtain ⟨o_37, hj_38, hc_21⟩ := bind_some hc_21
    obtain ⟨nq_114, hj_38⟩ := loopO_iter hj_38
    refine wH_join (β := ((List Rect) × Int) × Nm) (fun p => (fun (s_31 : (List Rect) × Int) (n_34 : Nm) => ([(1, (.fn 77 [(.ref (extN 0) 0 0), (.ref (extN 1) 0 0)])), (5, (vL eI r_5)), (6, (vL eI r_7)), (7, (gV n_19 4 s_14.1)), (8, (gV n_20 4 s_14.2.1)), (9, (vI s_14.2.2)), (10, (gV n_34 4 s_31.1))] : List (Nat × V))) p.1 p.2) (fun p => (fun (s_31 : (List Rect) × Int) (n_34 : Nm) => ([((extN 0), some (.cells 4 [(vS is2_3.Key), (vI is2_3.W), (vI is2_3.H), (vL Zone.enc is2_3.Zones)])), ((extN 1), some (.cells 6 [(vS is2_4.Key), (vI is2_4.On.X), (vI is2_4.On.Y), (vI is2_4.On.W), (vI is2_4.On.H), (vI is2_4.Order)])), (n_19, gB 4 Rect.enc s_14.1), (n_20, gB 4 Rect.enc s_14.2.1), (n_34, gB 4 Rect.enc s_31.1)] : Hp)) p.1 p.2) (fun p => o_37 = .go p.1) ?_ ?_
    ·refine wH_block (wH_loop (β := Nat × ((List Rect) × Int) × Nm) (fun p => (fun (k_26 : Nat) (s_31 : (List Rect) × Int) (n_34 : Nm) => ([(1, (.fn 77 [(.ref (extN 0) 0 0), (.ref (extN 1) 0 0)])), (5, (vL eI r_5)), (6, (vL eI r_7)), (7, (gV n_19 4 s_14.1)), (8, (gV n_20 4 s_14.2.1)), (9, (vI s_14.2.2)), (10, (gV n_34 4 s_31.1)), (11, (vI s_31.2))] : List (Nat × V))) p.1 p.2.1 p.2.2) (fun p => (fun (k_26 : Nat) (s_31 : (List Rect) × Int) (n_34 : Nm) => ([((extN 0), some (.cells 4 [(vS is2_3.Key), (vI is2_3.W), (vI is2_3.H), (vL Zone.enc is2_3.Zones)])), ((extN 1), some (.cells 6 [(vS is2_4.Key), (vI is2_4.On.X), (vI is2_4.On.Y), (vI is2_4.On.W), (vI is2_4.On.H), (vI is2_4.Order)])), (n_19, gB 4 Rect.enc s_14.1), (n_20, gB 4 Rect.enc s_14.2.1), (n_34, gB 4 Rect.enc s_31.1)] : Hp)) p.1 p.2.1 p.2.2) (fun p => iterN (fun s => ref_regionOf_v1_L1 r_5 r_7 s_14 is2_3 is2_4 s) p.1 p.2.1 = some o_37) (fun p => p.1) (nq_114, (([] : List Rect), 0), n_32) hj_38 rfl (pre_r rfl) ?_)
     rintro ⟨k_26, s_31, n_34⟩ hL_36
     dsimp only at hL_36
     cases k_26 with
     | zero => cases hL_36
     | succ k_26 =>
      obtain ⟨c_, hc_35, hL_36⟩ := bind_some hL_36
      unfold ref_regionOf_v1_L1 at hc_35
      refine wH_seq (wH_seq (wH_region (h_op (vI s_31.2) wz rfl (h_op (vI (w64 (s_31.2 + 1))) wz rfl (h_op (vL eI r_5) wz rfl (h_len un22 rfl wz (h_op (vB (decide ((w64 (s_31.2 + 1)) < (r_5.length : Int)))) wz rfl (h_nil ?_))))))))
      rcases cond_some hc_35 with ⟨hc_39, hc_35⟩ | ⟨hc_39, hc_35⟩
      ·refine wH_ift rfl hc_39 (wH_skip (wH_seq (wH_block (wH_seq (wH_seq (wH_draws (h_op (.fn 77 [(.ref (extN 0) 0 0), (.ref (extN 1) 0 0)]) wz rfl (h_op (vL eI r_5) wz rfl (h_op (vI s_31.2) wz rfl ?_)))))))))
       obtain ⟨y_40, hy_41, hc_35⟩ := bind_some hc_35
       refine h_ia es22 rfl rfl hy_41 rfl wz (h_ldc sz3 ag3 rfl (vI y_40) rfl wz (h_op (vL eI r_7) wz rfl (h_op (vI s_14.2.2) wz rfl ?_)))
       obtain ⟨y_42, hy_43, hc_35⟩ := bind_some hc_35
       refine h_ia es22 rfl rfl hy_43 rfl wz (h_ldc sz3 ag3 rfl (vI y_42) rfl wz ?_)
       obtain ⟨r_44, hr_45, hc_35⟩ := bind_some hc_35
       refine h_callq 9 [0, 1] (.inr (by kernel_rfl)) (fun _ _ ag => by exact trivial) (ref_SeenOf_1_ok hr_45) rfl hb77 rfl (by kernel_rfl) (by kernel_rfl) (by kernel_rfl) (by kernel_rfl) (by kernel_rfl) (by kernel_rfl) (by kernel_rfl) (by decide) (by kernel_rfl) wz (vB r_44) (by kernel_rfl) ([((extN 0), some (.cells 4 [(vS is2_3.Key), (vI is2_3.W), (vI is2_3.H), (vL Zone.enc is2_3.Zones)])), ((extN 1), some (.cells 6 [(vS is2_4.Key), (vI is2_4.On.X), (vI is2_4.On.Y), (vI is2_4.On.W), (vI is2_4.On.H), (vI is2_4.Order)])), (n_19, gB 4 Rect.enc s_14.1), (n_20, gB 4 Rect.enc s_14.2.1), (n_34, gB 4 Rect.enc s_31.1)] : Hp) (by kernel_rfl) (h_op (vB (!r_44)) wz rfl (h_nil ?_))
       rcases cond_some hc_35 with ⟨hc_47, hc_35⟩ | ⟨hc_47, hc_35⟩
       ·refine wH_ift rfl hc_47 (wH_exit (wH_region (h_op (vI s_31.2) wz rfl (h_op (vI (w64 (s_31.2 + 1))) wz rfl (h_op (vI (w64 (s_31.2 + 1))) wz rfl (h_nil ?_))))))
        obtain rfl := some_inj hc_35
        exact loop_mk (k_26, (s_31.1, (w64 (s_31.2 + 1))), n_34) hL_36 (Nat.lt_succ_self _) rfl (pre_r rfl)
       ·refine wH_iff rfl hc_47 (wH_skip (wH_seq (wH_region (h_op (gV n_34 4 s_31.1) wz rfl (h_leng un62 rfl wz (h_op (vI (w64 ((s_31.1.length : Int) - 1))) wz rfl (h_op (vI (w64 ((s_31.1.length : Int) - 1))) wz rfl (h_nil (wH_seq ?_)))))))))
        obtain ⟨v_48, h_49, hc_35⟩ := bind_some hc_35
        refine wH_join (β := Unit) (fun _ => ([(1, (.fn 77 [(.ref (extN 0) 0 0), (.ref (extN 1) 0 0)])), (5, (vL eI r_5)), (6, (vL eI r_7)), (7, (gV n_19 4 s_14.1)), (8, (gV n_20 4 s_14.2.1)), (9, (vI s_14.2.2)), (10, (gV n_34 4 s_31.1)), (11, (vI s_31.2)), (12, (vI (w64 ((s_31.1.length : Int) - 1)))), (66, (vB v_48))] : List (Nat × V))) (fun _ => ([((extN 0), some (.cells 4 [(vS is2_3.Key), (vI is2_3.W), (vI is2_3.H), (vL Zone.enc is2_3.Zones)])), ((extN 1), some (.cells 6 [(vS is2_4.Key), (vI is2_4.On.X), (vI is2_4.On.Y), (vI is2_4.On.W), (vI is2_4.On.H), (vI is2_4.Order)])), (n_19, gB 4 Rect.enc s_14.1), (n_20, gB 4 Rect.enc s_14.2.1), (n_34, gB 4 Rect.enc s_31.1)] : Hp)) (fun _ => True) ?_ ?_
        ·refine wH_draws (h_op (vI (w64 ((s_31.1.length : Int) - 1))) wz rfl (h_op (vB (decide ((w64 ((s_31.1.length : Int) - 1)) ≥ 0))) wz rfl ?_))
         rcases cond_some h_49 with ⟨hc_50, h_49⟩ | ⟨hc_50, h_49⟩
         ·refine h_movb rfl hc_50 wz (h_op (gV n_34 4 s_31.1) (wg rfl rfl rfl) rfl (h_op (vI (w64 ((s_31.1.length : Int) - 1))) (wg rfl rfl rfl) rfl ?_))
          obtain ⟨_, hi_51, h_49⟩ := bind_some h_49
          refine h_iavg es62 rfl rfl (inR_0 hi_51) (inR_lt hi_51) (wg rfl rfl rfl) (h_far pl49_0 rfl 0 rfl (wg rfl rfl rfl) ?_)
          obtain ⟨e_52, hy_53, h_49⟩ := bind_some h_49
          refine h_ldvg 7 4 (.inr (by kernel_rfl)) (fun _ _ ag => trivial) sz3 ag3 rfl rfl hy_53 (vI e_52.X) rfl (wg rfl rfl rfl) (h_op (gV n_34 4 s_31.1) (wg rfl rfl rfl) rfl (h_op (vI (w64 ((s_31.1.length : Int) - 1))) (wg rfl rfl rfl) rfl ?_))
          obtain ⟨_, hi_54, h_49⟩ := bind_some h_49
          refine h_iavg es62 rfl rfl (inR_0 hi_54) (inR_lt hi_54) (wg rfl rfl rfl) (h_far pl49_2 rfl 2 rfl (wg rfl rfl rfl) ?_)
          obtain ⟨e_55, hy_56, h_49⟩ := bind_some h_49
          refine h_ldvg 12 4 (.inr (by kernel_rfl)) (fun _ _ ag => ⟨.inl ⟨rfl, rfl⟩, trivial⟩) sz3 ag3 rfl rfl hy_56 (vI e_55.W) rfl (wg rfl rfl rfl) (h_op (vI (w64 (e_52.X + e_55.W))) (wg rfl rfl rfl) rfl (h_op (vL eI r_5) (wg rfl rfl rfl) rfl (h_op (vI s_31.2) (wg rfl rfl rfl) rfl ?_)))
          obtain ⟨y_57, hy_58, h_49⟩ := bind_some h_49
          refine h_ia es22 rfl rfl hy_58 rfl (wg rfl rfl rfl) (h_ldc sz3 ag3 rfl (vI y_57) rfl (wg rfl rfl rfl) (h_op (vB ((w64 (e_52.X + e_55.W)) == y_57)) (wg rfl rfl rfl) rfl (h_op (vB ((w64 (e_52.X + e_55.W)) == y_57)) wz rfl (h_nil ?_))))
          obtain rfl := some_inj h_49
          exact cut_mk () trivial rfl (pre_r rfl)
         ·refine h_movb rfl hc_50 wz (h_skip (wg rfl rfl rfl) (h_skip (wg rfl rfl rfl) (h_skip (wg rfl rfl rfl) (h_skip (wg rfl rfl rfl) (h_skip (wg rfl rfl rfl) (h_skip (wg rfl rfl rfl) (h_skip (wg rfl rfl rfl) (h_skip (wg rfl rfl rfl) (h_skip (wg rfl rfl rfl) (h_skip (wg rfl rfl rfl) (h_skip (wg rfl rfl rfl) (h_skip (wg rfl rfl rfl) (h_skip (wg rfl rfl rfl) (h_skip (wg rfl rfl rfl) (h_skip (wg rfl rfl rfl) (h_skip (wg rfl rfl rfl) (h_op (vB false) wz rfl (h_nil ?_))))))))))))))))))
          obtain rfl := some_inj h_49
          exact cut_mk () trivial rfl (pre_r rfl)
        ·rintro ⟨⟩ _ sl_ H_ hp_ hq_
         refine wH_at _ hp_ hq_ ?_
         obtain ⟨v_59, h_60, hc_35⟩ := bind_some hc_35
         refine wH_join (β := Nm) (fun (n_61 : Nm) => ([(1, (.fn 77 [(.ref (extN 0) 0 0), (.ref (extN 1) 0 0)])), (5, (vL eI r_5)), (6, (vL eI r_7)), (7, (gV n_19 4 s_14.1)), (8, (gV n_20 4 s_14.2.1)), (9, (vI s_14.2.2)), (10, (gV n_61 4 v_59)), (11, (vI s_31.2))] : List (Nat × V))) (fun (n_61 : Nm) => ([((extN 0), some (.cells 4 [(vS is2_3.Key), (vI is2_3.W), (vI is2_3.H), (vL Zone.enc is2_3.Zones)])), ((extN 1), some (.cells 6 [(vS is2_4.Key), (vI is2_4.On.X), (vI is2_4.On.Y), (vI is2_4.On.W), (vI is2_4.On.H), (vI is2_4.Order)])), (n_19, gB 4 Rect.enc s_14.1), (n_20, gB 4 Rect.enc s_14.2.1), (n_61, gB 4 Rect.enc v_59)] : Hp)) (fun _ => True) ?_ ?_
         ·rcases cond_some h_60 with ⟨hc_62, h_60⟩ | ⟨hc_62, h_60⟩
          ·refine wH_ift rfl hc_62 (wH_draws (h_op (gV n_34 4 s_31.1) wz rfl (h_op (vI (w64 ((s_31.1.length : Int) - 1))) wz rfl (h_op (vL eI r_5) wz rfl (h_op (vI s_31.2) wz rfl (h_op (vI (w64 (s_31.2 + 1))) wz rfl ?_))))))
           obtain ⟨y_63, hy_64, h_60⟩ := bind_some h_60
           refine h_ia es22 rfl rfl hy_64 rfl wz (h_ldc sz3 ag3 rfl (vI y_63) rfl wz (h_op (gV n_34 4 s_31.1) wz rfl (h_op (vI (w64 ((s_31.1.length : Int) - 1))) wz rfl ?_)))
           obtain ⟨_, hi_65, h_60⟩ := bind_some h_60
           refine h_iavg es62 rfl rfl (inR_0 hi_65) (inR_lt hi_65) wz (h_far pl49_0 rfl 0 rfl wz ?_)
           obtain ⟨e_66, hy_67, h_60⟩ := bind_some h_60
           refine h_ldvg 11 4 (.inr (by kernel_rfl)) (fun _ _ ag => trivial) sz3 ag3 rfl rfl hy_67 (vI e_66.X) rfl wz (h_op (vI (w64 (y_63 - e_66.X))) wz rfl ?_)
           obtain ⟨_, hi_68, h_60⟩ := bind_some h_60
           refine h_iavg es62 rfl rfl (inR_0 hi_68) (inR_lt hi_68) wz (h_far pl49_2 rfl 2 rfl wz ?_)
           obtain ⟨e_69, hy_70, h_60⟩ := bind_some h_60
           refine h_stvg 15 (.inr (by kernel_rfl)) (fun _ _ ag => ⟨.inr (.inr (by kernel_rfl)), trivial⟩) 4 sz3 rfl rfl hy_70 (⟨e_69.X, e_69.Y, (w64 (y_63 - e_66.X)), e_69.H⟩ : Rect) rfl wz (h_re (v' := (gV n_34 4 (s_31.1.set (0 + ((w64 ((s_31.1.length : Int) - 1))).toNat) (⟨e_69.X, e_69.Y, (w64 (y_63 - e_66.X)), e_69.H⟩ : Rect)))) 10 rfl (gV_len (by simp)) (h_re (v' := (gV n_34 4 (s_31.1.set (0 + ((w64 ((s_31.1.length : Int) - 1))).toNat) (⟨e_69.X, e_69.Y, (w64 (y_63 - e_66.X)), e_69.H⟩ : Rect)))) 67 rfl (gV_len (by simp)) (h_re (v' := (gV n_34 4 (s_31.1.set (0 + ((w64 ((s_31.1.length : Int) - 1))).toNat) (⟨e_69.X, e_69.Y, (w64 (y_63 - e_66.X)), e_69.H⟩ : Rect)))) 74 rfl (gV_len (by simp)) (h_nil ?_))))
           obtain rfl := some_inj h_60
           exact cut_mk n_34 trivial rfl (pre_r rfl)
          ·refine wH_iff rfl hc_62 (wH_draws (h_op (gV n_34 4 s_31.1) wz rfl (h_op (vL eI r_5) wz rfl (h_op (vI s_31.2) wz rfl ?_))))
           obtain ⟨y_71, hy_72, h_60⟩ := bind_some h_60
           refine h_ia es22 rfl rfl hy_72 rfl wz (h_ldc sz3 ag3 rfl (vI y_71) rfl wz (h_op (vL eI r_7) wz rfl (h_op (vI s_14.2.2) wz rfl ?_)))
           obtain ⟨y_73, hy_74, h_60⟩ := bind_some h_60
           refine h_ia es22 rfl rfl hy_74 rfl wz (h_ldc sz3 ag3 rfl (vI y_73) rfl wz (h_op (vL eI r_5) wz rfl (h_op (vI s_31.2) wz rfl (h_op (vI (w64 (s_31.2 + 1))) wz rfl ?_))))
           obtain ⟨y_75, hy_76, h_60⟩ := bind_some h_60
           refine h_ia es22 rfl rfl hy_76 rfl wz (h_ldc sz3 ag3 rfl (vI y_75) rfl wz (h_op (vL eI r_5) wz rfl (h_op (vI s_31.2) wz rfl ?_)))
           obtain ⟨y_77, hy_78, h_60⟩ := bind_some h_60
           refine h_ia es22 rfl rfl hy_78 rfl wz (h_ldc sz3 ag3 rfl (vI y_77) rfl wz (h_op (vI (w64 (y_75 - y_77))) wz rfl (h_op (vL eI r_7) wz rfl (h_op (vI s_14.2.2) wz rfl (h_op (vI (w64 (s_14.2.2 + 1))) wz rfl ?_)))))
           obtain ⟨y_79, hy_80, h_60⟩ := bind_some h_60
           refine h_ia es22 rfl rfl hy_80 rfl wz (h_ldc sz3 ag3 rfl (vI y_79) rfl wz (h_op (vL eI r_7) wz rfl (h_op (vI s_14.2.2) wz rfl ?_)))
           obtain ⟨y_81, hy_82, h_60⟩ := bind_some h_60
           refine h_ia es22 rfl rfl hy_82 rfl wz (h_ldc sz3 ag3 rfl (vI y_81) rfl wz (h_op (vI (w64 (y_79 - y_81))) wz rfl (h_op (.d (.agg (Rect.enc (⟨y_71, y_73, (w64 (y_75 - y_77)), (w64 (y_79 - y_81))⟩ : Rect)))) wz (by kernel_rfl) (h_lit (([(⟨y_71, y_73, (w64 (y_75 - y_77)), (w64 (y_79 - y_81))⟩ : Rect)] : List Rect).map Rect.enc) es62 ez62 rfl rfl rfl rfl rfl wz ?_))))
           obtain ⟨a_83, hz_84, h_60⟩ := bind_some h_60
           refine h_appg 31 (.inr (by kernel_rfl)) (fun _ _ ag => trivial) (i := 4) el62 el62 sz49 z49 rfl (by decide) by49 (by decide) (fun _ => rfl) rfl rfl rfl hz_84 wz (fun n_85 => h_op (gV n_85 4 a_83) wz rfl (h_nil ?_))
           obtain rfl := some_inj h_60
           exact cut_mk n_85 trivial rfl (pre_r rfl)
         ·rintro n_61 _ sl_ H_ hp_ hq_
          refine wH_at _ hp_ hq_ (wH_region (h_op (vI s_31.2) wz rfl (h_op (vI (w64 (s_31.2 + 1))) wz rfl (h_op (vI (w64 (s_31.2 + 1))) wz rfl (h_nil ?_)))))
          obtain rfl := some_inj hc_35
          exact loop_mk (k_26, (v_59, (w64 (s_31.2 + 1))), n_61) hL_36 (Nat.lt_succ_self _) rfl (pre_r rfl)
      ·refine wH_iff rfl hc_39 (wH_exit ?_)
       obtain rfl := some_inj hc_35
       obtain rfl := some_inj hL_36
       exact cut_mk ((s_31.1, s_31.2), n_34) rfl rfl (pre_r rfl)
    ·rintro ⟨s_31, n_34⟩ ho_ sl_ H_ hp_ hq_
     subst ho_
     refine wH_at _ hp_ hq_ (wH_seq (wH_region (h_op (gV n_34 4 s_31.1) wz rfl (h_op (gV n_20 4 s_14.2.1) wz rfl ?_))))
     obtain ⟨r_86, hr_87, hc_21⟩ := bind_some hc_21
     refine h_callv2 0 [] 4 3 0 1 (.inl rfl) (fun _ _ _ => trivial) (slices_EqualFunc_api_Rect_api_Rect_api_Rect_api_Rect_v3_ok hr_87) rfl hb115 rfl rfl rfl rfl (by kernel_rfl) rfl (.inl rfl) rfl rfl (.inl rfl) rfl (by decide) (by kernel_rfl) (by kernel_rfl) (by kernel_rfl) (by kernel_rfl) rfl (by decide) (by kernel_rfl) gB_ok (gB_ho rfl) gB_ok (gB_ho rfl) wz ([((extN 0), some (.cells 4 [(vS is2_3.Key), (vI is2_3.W), (vI is2_3.H), (vL Zone.enc is2_3.Zones)])), ((extN 1), some (.cells 6 [(vS is2_4.Key), (vI is2_4.On.X), (vI is2_4.On.Y), (vI is2_4.On.W), (vI is2_4.On.H), (vI is2_4.Order)])), (n_19, gB 4 Rect.enc s_14.1), (n_20, gB 4 Rect.enc s_14.2.1), (n_34, gB 4 Rect.enc s_31.1)] : Hp) (by kernel_rfl) (h_op (vB r_86) wz rfl (h_nil (wH_seq (wH_seq ?_))))
     obtain ⟨v_88, h_89, hc_21⟩ := bind_some hc_21
     refine wH_join (β := Unit) (fun _ => ([(1, (.fn 77 [(.ref (extN 0) 0 0), (.ref (extN 1) 0 0)])), (5, (vL eI r_5)), (6, (vL eI r_7)), (7, (gV n_19 4 s_14.1)), (8, (gV n_20 4 s_14.2.1)), (9, (vI s_14.2.2)), (10, (gV n_34 4 s_31.1)), (122, (vB v_88))] : List (Nat × V))) (fun _ => ([((extN 0), some (.cells 4 [(vS is2_3.Key), (vI is2_3.W), (vI is2_3.H), (vL Zone.enc is2_3.Zones)])), ((extN 1), some (.cells 6 [(vS is2_4.Key), (vI is2_4.On.X), (vI is2_4.On.Y), (vI is2_4.On.W), (vI is2_4.On.H), (vI is2_4.Order)])), (n_19, gB 4 Rect.enc s_14.1), (n_20, gB 4 Rect.enc s_14.2.1), (n_34, gB 4 Rect.enc s_31.1)] : Hp)) (fun _ => True) ?_ ?_
     ·refine wH_region (h_op (vB r_86) wz rfl ?_)
      rcases cond_some h_89 with ⟨hc_90, h_89⟩ | ⟨hc_90, h_89⟩
      ·refine h_movb rfl hc_90 wz (h_op (gV n_34 4 s_31.1) (wg rfl rfl rfl) rfl (h_leng un62 rfl (wg rfl rfl rfl) (h_op (vB (decide ((s_31.1.length : Int) > 0))) (wg rfl rfl rfl) rfl (h_op (vB (decide ((s_31.1.length : Int) > 0))) wz rfl (h_nil ?_)))))
       obtain rfl := some_inj h_89
       exact cut_mk () trivial rfl (pre_r rfl)
      ·refine h_movb rfl hc_90 wz (h_skip (wg rfl rfl rfl) (h_skip (wg rfl rfl rfl) (h_skip (wg rfl rfl rfl) (h_op (vB false) wz rfl (h_nil ?_)))))
       obtain rfl := some_inj h_89
       exact cut_mk () trivial rfl (pre_r rfl)
     ·rintro ⟨⟩ _ sl_ H_ hp_ hq_
      refine wH_at _ hp_ hq_ ?_
      rcases cond_some hc_21 with ⟨hc_91, hc_21⟩ | ⟨hc_91, hc_21⟩
      ·refine wH_ift rfl hc_91 (wH_seq (wH_seq (wH_region (h_op (gV n_20 4 s_14.2.1) wz rfl (h_leng un62 rfl wz (h_op (vI 0) wz rfl (h_nil ?_)))))))
       obtain ⟨o_100, hj_101, hc_21⟩ := bind_some hc_21
       obtain ⟨hn_96, hj_101⟩ := forL_some hj_101
       refine wH_join (β := ((List Rect))) (fun (s_97 : (List Rect)) => ([(1, (.fn 77 [(.ref (extN 0) 0 0), (.ref (extN 1) 0 0)])), (5, (vL eI r_5)), (6, (vL eI r_7)), (7, (gV n_19 4 s_14.1)), (8, (gV n_20 4 s_97)), (9, (vI s_14.2.2))] : List (Nat × V))) (fun (s_97 : (List Rect)) => ([((extN 0), some (.cells 4 [(vS is2_3.Key), (vI is2_3.W), (vI is2_3.H), (vL Zone.enc is2_3.Zones)])), ((extN 1), some (.cells 6 [(vS is2_4.Key), (vI is2_4.On.X), (vI is2_4.On.Y), (vI is2_4.On.W), (vI is2_4.On.H), (vI is2_4.Order)])), (n_19, gB 4 Rect.enc s_14.1), (n_20, gB 4 Rect.enc s_97), (n_34, gB 4 Rect.enc s_31.1)] : Hp)) (fun p => o_100 = .go p) ?_ ?_
       ·refine wH_block (wH_loop (β := Nat × (List Nat) × ((List Rect))) (fun p => (fun (k_92 : Nat) (l_93 : List Nat) (s_97 : (List Rect)) => ([(1, (.fn 77 [(.ref (extN 0) 0 0), (.ref (extN 1) 0 0)])), (5, (vL eI r_5)), (6, (vL eI r_7)), (7, (gV n_19 4 s_14.1)), (8, (gV n_20 4 s_97)), (9, (vI s_14.2.2)), (10, (gV n_34 4 s_31.1)), (124, (vI (s_14.2.1.length : Int))), (125, (vI (k_92 : Int)))] : List (Nat × V))) p.1 p.2.1 p.2.2) (fun p => (fun (k_92 : Nat) (l_93 : List Nat) (s_97 : (List Rect)) => ([((extN 0), some (.cells 4 [(vS is2_3.Key), (vI is2_3.W), (vI is2_3.H), (vL Zone.enc is2_3.Zones)])), ((extN 1), some (.cells 6 [(vS is2_4.Key), (vI is2_4.On.X), (vI is2_4.On.Y), (vI is2_4.On.W), (vI is2_4.On.H), (vI is2_4.Order)])), (n_19, gB 4 Rect.enc s_14.1), (n_20, gB 4 Rect.enc s_97), (n_34, gB 4 Rect.enc s_31.1)] : Hp)) p.1 p.2.1 p.2.2) (fun p => forR (fun k x s => ref_regionOf_v1_L2 s_31 k x s) p.2.1 p.1 p.2.2 = some o_100 ∧ ((List.range ((s_14.2.1.length : Int)).toNat)).drop p.1 = p.2.1) (fun p => p.2.1.length) (0, (List.range ((s_14.2.1.length : Int)).toNat), s_14.2.1) ⟨hj_101, rfl⟩ rfl (pre_r rfl) ?_)
        rintro ⟨k_92, l_93, s_97⟩ ⟨hL_99, hD_95⟩
        dsimp only at hL_99 hD_95
        cases l_93 with
        | nil =>
         obtain rfl := some_inj hL_99
         refine wH_seq (wH_region (h_op (vB (decide ((k_92 : Int) < (s_14.2.1.length : Int)))) wz rfl (h_nil ?_)))
         refine wH_seq (wH_iff rfl (range_nil hD_95) (wH_exit ?_))
         exact cut_mk (s_97) rfl rfl (pre_r rfl)
        | cons x_94 l_93 =>
         obtain ⟨c_, hc_98, hL_99⟩ := bind_some hL_99
         refine wH_seq (wH_region (h_op (vB (decide ((k_92 : Int) < (s_14.2.1.length : Int)))) wz rfl (h_nil ?_)))
         refine wH_seq (wH_ift rfl (range_cons hD_95) (wH_skip ?_))
         unfold ref_regionOf_v1_L2 at hc_98
         refine wH_seq (wH_block (wH_seq (wH_region (h_op (vI (k_92 : Int)) wz rfl (h_op (vI (k_92 : Int)) wz rfl (h_nil (wH_draws (h_op (gV n_20 4 s_97) wz rfl (h_op (vI (k_92 : Int)) wz rfl ?_)))))))))
         obtain ⟨_, hi_102, hc_98⟩ := bind_some hc_98
         refine h_iavg es62 rfl rfl (inR_0 hi_102) (inR_lt hi_102) wz (h_far pl49_3 rfl 3 rfl wz ?_)
         obtain ⟨e_103, hy_104, hc_98⟩ := bind_some hc_98
         refine h_ldvg 4 3 (.inr (by kernel_rfl)) (fun _ _ ag => trivial) sz3 ag3 rfl rfl hy_104 (vI e_103.H) rfl wz (h_op (gV n_34 4 s_31.1) wz rfl (h_op (vI (k_92 : Int)) wz rfl ?_))
         obtain ⟨_, hi_105, hc_98⟩ := bind_some hc_98
         refine h_iavg es62 rfl rfl (inR_0 hi_105) (inR_lt hi_105) wz (h_far pl49_3 rfl 3 rfl wz ?_)
         obtain ⟨e_106, hy_107, hc_98⟩ := bind_some hc_98
         refine h_ldvg 9 4 (.inr (by kernel_rfl)) (fun _ _ ag => ⟨.inl ⟨rfl, rfl⟩, trivial⟩) sz3 ag3 rfl rfl hy_107 (vI e_106.H) rfl wz (h_op (vI (w64 (e_103.H + e_106.H))) wz rfl ?_)
         obtain ⟨_, hi_108, hc_98⟩ := bind_some hc_98
         refine h_iavg es62 rfl rfl (inR_0 hi_108) (inR_lt hi_108) wz (h_far pl49_3 rfl 3 rfl wz ?_)
         obtain ⟨e_109, hy_110, hc_98⟩ := bind_some hc_98
         refine h_stvg 13 (.inr (by kernel_rfl)) (fun _ _ ag => ⟨.inr (.inr (by kernel_rfl)), ⟨.inr (.inr (by kernel_rfl)), trivial⟩⟩) 3 sz3 rfl rfl hy_110 (⟨e_109.X, e_109.Y, e_109.W, (w64 (e_103.H + e_106.H))⟩ : Rect) rfl wz (h_re (v' := (gV n_20 4 (s_97.set (0 + ((k_92 : Int)).toNat) (⟨e_109.X, e_109.Y, e_109.W, (w64 (e_103.H + e_106.H))⟩ : Rect)))) 8 rfl (gV_len (by simp)) (h_re (v' := (gV n_20 4 (s_97.set (0 + ((k_92 : Int)).toNat) (⟨e_109.X, e_109.Y, e_109.W, (w64 (e_103.H + e_106.H))⟩ : Rect)))) 128 rfl (gV_len (by simp)) (h_nil (wH_region (h_opw (w64_nextr hD_95 hn_96) wz rfl (h_op (vI ((k_92 + 1 : Nat) : Int)) wz rfl (h_nil ?_)))))))
         obtain rfl := some_inj hc_98
         exact loop_mk (k_92 + 1, l_93, (s_97.set (0 + ((k_92 : Int)).toNat) (⟨e_109.X, e_109.Y, e_109.W, (w64 (e_103.H + e_106.H))⟩ : Rect))) ⟨hL_99, drop_next hD_95⟩ (Nat.lt_succ_self _) rfl (pre_r rfl)
       ·rintro s_97 ho_ sl_ H_ hp_ hq_
        subst ho_
        refine wH_at _ hp_ hq_ (wH_exit (wH_region (h_op (vI s_14.2.2) wz rfl (h_op (vI (w64 (s_14.2.2 + 1))) wz rfl (h_op (vI (w64 (s_14.2.2 + 1))) wz rfl (h_nil ?_))))))
        obtain rfl := some_inj hc_21
        exact loop_mk (k_9, (s_14.1, s_97, (w64 (s_14.2.2 + 1))), n_19, n_20) hL_22 (Nat.lt_succ_self _) rfl (pre_r rfl)
      ·refine wH_iff rfl hc_91 (wH_skip (wH_frozg 3 rfl (wH_cog 8 3 rfl rfl (wH_region (h_op (gV n_19 4 s_14.1) wz rfl (h_op (vL Rect.enc s_14.2.1) wz rfl ?_))))))
       obtain ⟨a_111, hz_112, hc_21⟩ := bind_some hc_21
       refine h_appg 0 (.inl rfl) (fun _ _ _ => trivial) (i := 2) el62 el62 sz49 z49 rfl (by decide) by49 (by decide) (fun _ => rfl) rfl rfl rfl hz_112 wz (fun n_113 => h_op (gV n_34 4 s_31.1) wz rfl (h_op (gV n_113 4 a_111) wz rfl (h_op (gV n_34 4 s_31.1) wz rfl (h_nil (wH_region (h_op (vI s_14.2.2) wz rfl (h_op (vI (w64 (s_14.2.2 + 1))) wz rfl (h_op (vI (w64 (s_14.2.2 + 1))) wz rfl (h_nil ?_)))))))))
       obtain rfl := some_inj hc_21
       exact loop_mk (k_9, (a_111, s_31.1, (w64 (s_14.2.2 + 1))), n_113, n_34) hL_22 (Nat.lt_succ_self _) rfl (pre_is [0, 1, 2, 4] (by decide) rfl)
   ·refine wH_iff rfl hc_25 (wH_exit ?_)
    obtain rfl := some_inj hc_21
    obtain rfl := some_inj hL_22
    exact cut_mk ((s_14.1, s_14.2.1, s_14.2.2), n_19, n_20) rfl rfl (pre_r rfl)
 ·rintro ⟨s_14, n_19, n_20⟩ ho_ sl_ H_ hp_ hq_
  subst ho_
  refine wH_at _ hp_ hq_ (wH_seq (wH_frozg 3 rfl (wH_cog 8 3 rfl rfl (wH_region (h_op (gV n_19 4 s_14.1) wz rfl (h_op (vL Rect.enc s_14.2.1) wz rfl ?_))))))
  obtain ⟨a_115, hz_116, hF⟩ := bind_some hF
  refine h_appg 0 (.inl rfl) (fun _ _ _ => trivial) (i := 2) el62 el62 sz49 z49 rfl (by decide) by49 (by decide) (fun _ => rfl) rfl rfl rfl hz_116 wz (fun n_117 => h_op (gV n_117 4 a_115) wz rfl (h_nil (wH_frozg 2 rfl (wH_cog 4 2 rfl rfl (wH_cog 148 2 rfl rfl ?_)))))
  obtain rfl := some_inj hF
  exact wH_ret (finB (.inr rfl) [(vL Rect.enc a_115)] _ [0, 1] [extN 0, extN 1] ⟨rfl, trivial⟩ (.cons (co_data rfl rfl) (.nil)) (by kernel_rfl) ⟨(by kernel_rfl), ⟨(by kernel_rfl), trivial⟩⟩ (by decide) (by kernel_rfl))
theorem ref_SeenOf_ok {l_1 : Layout} {r : (List Piece)} (hF : ref_SeenOf l_1 = some r) :
  FnM Tryz.prog 21 [(.d (.agg (Layout.enc l_1)))] [] (vL Piece.enc r) [] := by
 refine FnM.of_wH ⟨Tryz.prog, 49, [], []⟩ rfl Tryz.func21 rfl rfl (Nat.le_of_ble_eq_true rfl) (by kernel_rfl) ?_
 unfold ref_SeenOf at hF
 refine wH_seq (wH_region (h_box 0 (.inl rfl) [(vS l_1.Key), (vI l_1.W), (vI l_1.H), (vL Zone.enc l_1.Zones)] rfl rfl wz (fun n_2 => h_op .nil wz rfl (h_nil (wH_seq (wH_region (h_op .nil wz rfl (h_nil (wH_seq (wH_seq (wH_region (h_far pl28_3 rfl 3 rfl wz (h_ldr 0 0 (.inl rfl) (fun _ _ _ => trivial) sz26 ag26 rfl rfl (vL Zone.enc l_1.Zones) rfl wz (h_len un26 rfl wz (h_op (vI 0) wz rfl (h_nil (wH_new (fun n_9 => ?_))))))))))))))))))
 obtain ⟨o_14, hj_15, hF⟩ := bind_some hF
 obtain ⟨hn_7, hj_15⟩ := forL_some hj_15
 refine wH_join (β := ((List Rect)) × Nm) (fun p => (fun (s_8 : (List Rect)) (n_11 : Nm) => ([(1, (.ref n_2 0 0)), (3, (gV n_11 4 s_8))] : List (Nat × V))) p.1 p.2) (fun p => (fun (s_8 : (List Rect)) (n_11 : Nm) => ([(n_2, some (.cells 4 [(vS l_1.Key), (vI l_1.W), (vI l_1.H), (vL Zone.enc l_1.Zones)])), (n_11, gB 4 Rect.enc s_8)] : Hp)) p.1 p.2) (fun p => o_14 = .go p.1) ?_ ?_
 ·refine wH_block (wH_loop (β := Nat × (List Zone) × ((List Rect)) × Nm) (fun p => (fun (k_3 : Nat) (l_4 : List Zone) (s_8 : (List Rect)) (n_11 : Nm) => ([(1, (.ref n_2 0 0)), (3, (gV n_11 4 s_8)), (12, (vL Zone.enc l_1.Zones)), (13, (vI (l_1.Zones.length : Int))), (14, (vI (k_3 : Int)))] : List (Nat × V))) p.1 p.2.1 p.2.2.1 p.2.2.2) (fun p => (fun (k_3 : Nat) (l_4 : List Zone) (s_8 : (List Rect)) (n_11 : Nm) => ([(n_2, some (.cells 4 [(vS l_1.Key), (vI l_1.W), (vI l_1.H), (vL Zone.enc l_1.Zones)])), (n_11, gB 4 Rect.enc s_8)] : Hp)) p.1 p.2.1 p.2.2.1 p.2.2.2) (fun p => forR (fun k x s => ref_SeenOf_L1 k x s) p.2.1 p.1 p.2.2.1 = some o_14 ∧ (l_1.Zones).drop p.1 = p.2.1) (fun p => p.2.1.length) (0, l_1.Zones, ([] : List Rect), n_9) ⟨hj_15, rfl⟩ rfl (pre_r rfl) ?_)
  rintro ⟨k_3, l_4, s_8, n_11⟩ ⟨hL_13, hD_6⟩
  dsimp only at hL_13 hD_6
  cases l_4 with
  | nil =>
   obtain rfl := some_inj hL_13
   refine wH_seq (wH_region (h_op (vB (decide ((k_3 : Int) < (l_1.Zones.length : Int)))) wz rfl (h_nil ?_)))
   refine wH_seq (wH_iff rfl (drop_nil hD_6) (wH_exit ?_))
   exact cut_mk (s_8, n_11) rfl rfl (pre_r rfl)
  | cons x_5 l_4 =>
   obtain ⟨c_, hc_12, hL_13⟩ := bind_some hL_13
   refine wH_seq (wH_region (h_op (vB (decide ((k_3 : Int) < (l_1.Zones.length : Int)))) wz rfl (h_nil ?_)))
   refine wH_seq (wH_ift rfl (drop_cons hD_6) (wH_skip ?_))
   unfold ref_SeenOf_L1 at hc_12
   refine wH_seq (wH_block (wH_seq (wH_region (h_ia es26 rfl rfl (drop_idx hD_6) rfl wz (h_ldc sz107 ag107 rfl (.d (.agg (Zone.enc x_5))) rfl wz (h_alloc 0 (.inl rfl) z107 rfl wz (fun n_16 => h_str 0 (.inl rfl) (fun _ _ _ => trivial) 2 sz107 rfl rfl [(vS x_5.Key), (vI x_5.On.X), (vI x_5.On.Y), (vI x_5.On.W), (vI x_5.On.H), (vI x_5.Order)] rfl wz (h_nil (wH_region (h_op (gV n_11 4 s_8) wz rfl (h_far pl107_1 rfl 1 rfl wz (h_ldr 0 2 (.inl rfl) (fun _ _ _ => trivial) sz49 ag49 rfl rfl (.d (.agg (Rect.enc x_5.On))) rfl wz (h_lit (([x_5.On] : List Rect).map Rect.enc) es62 ez62 rfl rfl rfl rfl rfl wz ?_)))))))))))))
   obtain ⟨a_17, hz_18, hc_12⟩ := bind_some hc_12
   refine h_appg 0 (.inl rfl) (fun _ _ _ => trivial) (i := 1) el62 el62 sz49 z49 rfl (by decide) by49 (by decide) (fun _ => rfl) rfl rfl rfl hz_18 wz (fun n_19 => h_op (gV n_19 4 a_17) wz rfl (h_nil (wH_region (h_opw (w64_next hD_6 hn_7) wz rfl (h_op (vI ((k_3 + 1 : Nat) : Int)) wz rfl (h_nil ?_))))))
   obtain rfl := some_inj hc_12
   exact loop_mk (k_3 + 1, l_4, a_17, n_19) ⟨hL_13, drop_next hD_6⟩ (Nat.lt_succ_self _) rfl (pre_r rfl)
 ·rintro ⟨s_8, n_11⟩ ho_ sl_ H_ hp_ hq_
  subst ho_
  refine wH_at _ hp_ hq_ (wH_seq (wH_region (h_op .nil wz rfl (h_nil (wH_seq (wH_seq (wH_frozg 1 rfl (wH_cog 3 1 rfl rfl (wH_region (h_far pl28_3 rfl 3 rfl wz (h_ldr 0 0 (.inl rfl) (fun _ _ _ => trivial) sz26 ag26 rfl rfl (vL Zone.enc l_1.Zones) rfl wz (h_len un26 rfl wz (h_op (vI 0) wz rfl (h_nil (wH_new (fun n_26 => ?_))))))))))))))))
  obtain ⟨o_31, hj_32, hF⟩ := bind_some hF
  obtain ⟨hn_24, hj_32⟩ := forL_some hj_32
  refine wH_join (β := ((List Piece)) × Nm) (fun p => (fun (s_25 : (List Piece)) (n_28 : Nm) => ([(6, (gV n_28 5 s_25))] : List (Nat × V))) p.1 p.2) (fun p => (fun (s_25 : (List Piece)) (n_28 : Nm) => ([(n_2, some (.cells 4 [(vS l_1.Key), (vI l_1.W), (vI l_1.H), (vL Zone.enc l_1.Zones)])), (n_11, gF 4 Rect.enc s_8), (n_28, gB 5 Piece.enc s_25)] : Hp)) p.1 p.2) (fun p => o_31 = .go p.1) ?_ ?_
  ·refine wH_block (wH_loop (β := Nat × (List Zone) × ((List Piece)) × Nm) (fun p => (fun (k_20 : Nat) (l_21 : List Zone) (s_25 : (List Piece)) (n_28 : Nm) => ([(1, (.ref n_2 0 0)), (3, (vL Rect.enc s_8)), (6, (gV n_28 5 s_25)), (25, (vL Zone.enc l_1.Zones)), (26, (vI (l_1.Zones.length : Int))), (27, (vI (k_20 : Int)))] : List (Nat × V))) p.1 p.2.1 p.2.2.1 p.2.2.2) (fun p => (fun (k_20 : Nat) (l_21 : List Zone) (s_25 : (List Piece)) (n_28 : Nm) => ([(n_2, some (.cells 4 [(vS l_1.Key), (vI l_1.W), (vI l_1.H), (vL Zone.enc l_1.Zones)])), (n_11, gF 4 Rect.enc s_8), (n_28, gB 5 Piece.enc s_25)] : Hp)) p.1 p.2.1 p.2.2.1 p.2.2.2) (fun p => forR (fun k x s => ref_SeenOf_L3 s_8 l_1 k x s) p.2.1 p.1 p.2.2.1 = some o_31 ∧ (l_1.Zones).drop p.1 = p.2.1) (fun p => p.2.1.length) (0, l_1.Zones, ([] : List Piece), n_26) ⟨hj_32, rfl⟩ rfl (pre_r rfl) ?_)
   rintro ⟨k_20, l_21, s_25, n_28⟩ ⟨hL_30, hD_23⟩
   dsimp only at hL_30 hD_23
   cases l_21 with
   | nil =>
    obtain rfl := some_inj hL_30
    refine wH_seq (wH_region (h_op (vB (decide ((k_20 : Int) < (l_1.Zones.length : Int)))) wz rfl (h_nil ?_)))
    refine wH_seq (wH_iff rfl (drop_nil hD_23) (wH_exit ?_))
    exact cut_mk (s_25, n_28) rfl rfl (pre_r rfl)
   | cons x_22 l_21 =>
    obtain ⟨c_, hc_29, hL_30⟩ := bind_some hL_30
    refine wH_seq (wH_region (h_op (vB (decide ((k_20 : Int) < (l_1.Zones.length : Int)))) wz rfl (h_nil ?_)))
    refine wH_seq (wH_ift rfl (drop_cons hD_23) (wH_skip ?_))
    unfold ref_SeenOf_L3 at hc_29
    refine wH_seq (wH_block (wH_seq (wH_region (h_ia es26 rfl rfl (drop_idx hD_23) rfl wz (h_ldc sz107 ag107 rfl (.d (.agg (Zone.enc x_22))) rfl wz (h_alloc 0 (.inl rfl) z107 rfl wz (fun n_33 => h_str 0 (.inl rfl) (fun _ _ _ => trivial) 3 sz107 rfl rfl [(vS x_22.Key), (vI x_22.On.X), (vI x_22.On.Y), (vI x_22.On.W), (vI x_22.On.H), (vI x_22.Order)] rfl wz (h_nil (wH_seq (wH_region (h_op (vL Rect.enc s_8) wz rfl (h_op (.fn 77 [(.ref n_2 0 0), (.ref n_33 0 0)]) wz rfl ?_))))))))))))
    obtain ⟨r_34, hr_35, hc_29⟩ := bind_some hc_29
    refine h_callq 0 [0, 3] (.inl rfl) (fun _ _ _ => trivial) (ref_regionOf_v1_ok hr_35) rfl hb76 rfl (by kernel_rfl) (by kernel_rfl) (by kernel_rfl) (by kernel_rfl) (by kernel_rfl) (by kernel_rfl) (by kernel_rfl) (by decide) (by kernel_rfl) wz (vL Rect.enc r_34) (by kernel_rfl) ([(n_2, some (.cells 4 [(vS l_1.Key), (vI l_1.W), (vI l_1.H), (vL Zone.enc l_1.Zones)])), (n_11, gF 4 Rect.enc s_8), (n_28, gB 5 Piece.enc s_25), (n_33, some (.cells 6 [(vS x_22.Key), (vI x_22.On.X), (vI x_22.On.Y), (vI x_22.On.W), (vI x_22.On.H), (vI x_22.Order)]))] : Hp) (by kernel_rfl) (h_len un62 rfl wz (h_op (vI 0) wz rfl (h_nil ?_)))
    obtain ⟨o_47, hj_48, hc_29⟩ := bind_some hc_29
    obtain ⟨hn_41, hj_48⟩ := forL_some hj_48
    refine wH_join (β := ((List Piece)) × Nm) (fun p => (fun (s_42 : (List Piece)) (n_44 : Nm) => ([(1, (.ref n_2 0 0)), (3, (vL Rect.enc s_8)), (6, (gV n_44 5 s_42)), (25, (vL Zone.enc l_1.Zones)), (26, (vI (l_1.Zones.length : Int))), (27, (vI (k_20 : Int)))] : List (Nat × V))) p.1 p.2) (fun p => (fun (s_42 : (List Piece)) (n_44 : Nm) => ([(n_2, some (.cells 4 [(vS l_1.Key), (vI l_1.W), (vI l_1.H), (vL Zone.enc l_1.Zones)])), (n_11, gF 4 Rect.enc s_8), (n_44, gB 5 Piece.enc s_42), (n_33, some (.cells 6 [(vS x_22.Key), (vI x_22.On.X), (vI x_22.On.Y), (vI x_22.On.W), (vI x_22.On.H), (vI x_22.Order)]))] : Hp)) p.1 p.2) (fun p => o_47 = .go p.1) ?_ ?_
    ·refine wH_block (wH_loop (β := Nat × (List Rect) × ((List Piece)) × Nm) (fun p => (fun (k_37 : Nat) (l_38 : List Rect) (s_42 : (List Piece)) (n_44 : Nm) => ([(1, (.ref n_2 0 0)), (3, (vL Rect.enc s_8)), (6, (gV n_44 5 s_42)), (8, (.ref n_33 0 0)), (25, (vL Zone.enc l_1.Zones)), (26, (vI (l_1.Zones.length : Int))), (27, (vI (k_20 : Int))), (33, (vL Rect.enc r_34)), (34, (vI (r_34.length : Int))), (35, (vI (k_37 : Int)))] : List (Nat × V))) p.1 p.2.1 p.2.2.1 p.2.2.2) (fun p => (fun (k_37 : Nat) (l_38 : List Rect) (s_42 : (List Piece)) (n_44 : Nm) => ([(n_2, some (.cells 4 [(vS l_1.Key), (vI l_1.W), (vI l_1.H), (vL Zone.enc l_1.Zones)])), (n_11, gF 4 Rect.enc s_8), (n_44, gB 5 Piece.enc s_42), (n_33, some (.cells 6 [(vS x_22.Key), (vI x_22.On.X), (vI x_22.On.Y), (vI x_22.On.W), (vI x_22.On.H), (vI x_22.Order)]))] : Hp)) p.1 p.2.1 p.2.2.1 p.2.2.2) (fun p => forR (fun k x s => ref_SeenOf_L2 x_22 k x s) p.2.1 p.1 p.2.2.1 = some o_47 ∧ (r_34).drop p.1 = p.2.1) (fun p => p.2.1.length) (0, r_34, s_25, n_28) ⟨hj_48, rfl⟩ rfl (pre_r rfl) ?_)
     rintro ⟨k_37, l_38, s_42, n_44⟩ ⟨hL_46, hD_40⟩
     dsimp only at hL_46 hD_40
     cases l_38 with
     | nil =>
      obtain rfl := some_inj hL_46
      refine wH_seq (wH_region (h_op (vB (decide ((k_37 : Int) < (r_34.length : Int)))) wz rfl (h_nil ?_)))
      refine wH_seq (wH_iff rfl (drop_nil hD_40) (wH_exit ?_))
      exact cut_mk (s_42, n_44) rfl rfl (pre_r rfl)
     | cons x_39 l_38 =>
      obtain ⟨c_, hc_45, hL_46⟩ := bind_some hL_46
      refine wH_seq (wH_region (h_op (vB (decide ((k_37 : Int) < (r_34.length : Int)))) wz rfl (h_nil ?_)))
      refine wH_seq (wH_ift rfl (drop_cons hD_40) (wH_skip ?_))
      unfold ref_SeenOf_L2 at hc_45
      refine wH_seq (wH_block (wH_seq (wH_region (h_ia es62 rfl rfl (drop_idx hD_40) rfl wz (h_ldc sz49 ag49 rfl (.d (.agg (Rect.enc x_39))) rfl wz (h_alloc 0 (.inl rfl) z49 rfl wz (fun n_49 => h_str 0 (.inl rfl) (fun _ _ _ => trivial) 4 sz49 rfl rfl [(vI x_39.X), (vI x_39.Y), (vI x_39.W), (vI x_39.H)] rfl wz (h_nil (wH_region (h_op (gV n_44 5 s_42) wz rfl (h_far pl107_0 rfl 0 rfl wz (h_ldr 0 3 (.inl rfl) (fun _ _ _ => trivial) sz9 ag9 rfl rfl (vS x_22.Key) rfl wz (h_ldr 0 4 (.inl rfl) (fun _ _ _ => trivial) sz49 ag49 rfl rfl (.d (.agg (Rect.enc x_39))) rfl wz (h_op (.d (.agg (Piece.enc (⟨x_22.Key, x_39⟩ : Piece)))) wz (by kernel_rfl) (h_lit (([(⟨x_22.Key, x_39⟩ : Piece)] : List Piece).map Piece.enc) es35 ez35 rfl rfl rfl rfl rfl wz ?_)))))))))))))))
      obtain ⟨a_50, hz_51, hc_45⟩ := bind_some hc_45
      refine h_appg 0 (.inl rfl) (fun _ _ _ => trivial) (i := 2) el35 el35 sz51 z51 rfl (by decide) by51 (by decide) (fun _ => rfl) rfl rfl rfl hz_51 wz (fun n_52 => h_op (gV n_52 5 a_50) wz rfl (h_nil (wH_region (h_opw (w64_next hD_40 hn_41) wz rfl (h_op (vI ((k_37 + 1 : Nat) : Int)) wz rfl (h_nil ?_))))))
      obtain rfl := some_inj hc_45
      exact loop_mk (k_37 + 1, l_38, a_50, n_52) ⟨hL_46, drop_next hD_40⟩ (Nat.lt_succ_self _) rfl (pre_r rfl)
    ·rintro ⟨s_42, n_44⟩ ho_ sl_ H_ hp_ hq_
     subst ho_
     refine wH_at _ hp_ hq_ (wH_region (h_opw (w64_next hD_23 hn_24) wz rfl (h_op (vI ((k_20 + 1 : Nat) : Int)) wz rfl (h_nil ?_))))
     obtain rfl := some_inj hc_29
     exact loop_mk (k_20 + 1, l_21, s_42, n_44) ⟨hL_30, drop_next hD_23⟩ (Nat.lt_succ_self _) rfl (pre_r rfl)
  ·rintro ⟨s_25, n_28⟩ ho_ sl_ H_ hp_ hq_
   subst ho_
   refine wH_at _ hp_ hq_ (wH_seq (wH_region (h_op (gV n_28 5 s_25) wz rfl (h_op (gV n_28 5 s_25) wz rfl (h_nil (wH_frozg 2 rfl (wH_cog 2 2 rfl rfl (wH_cog 6 2 rfl rfl (wH_cog 48 2 rfl rfl ?_)))))))))
   obtain rfl := some_inj hF
   exact wH_ret (fin0 (.inr rfl) [(vL Piece.enc s_25)] ⟨rfl, trivial⟩ rfl rfl rfl)
theorem slices_Clone_api_Screen_api_Screen_okb {s_1 : (List Screen)} {r : (List Screen)} (hF : slices_Clone_api_Screen_api_Screen s_1 = some r) :
  FnM Tryz.prog 81 [(vL Screen.enc s_1)] [] (gV (extN 0) 5 r) (([] : List Box).map some ++ gO 5 Screen.enc r) := by
 refine FnM.of_wH ⟨Tryz.prog, 8, [], []⟩ rfl Tryz.func81 rfl rfl (Nat.le_of_ble_eq_true rfl) (by kernel_rfl) ?_
 unfold slices_Clone_api_Screen_api_Screen at hF
 refine wH_seq (wH_region (h_op .nil wz rfl (h_nil (wH_seq (wH_seq (wH_region (h_op (vL Screen.enc s_1) wz rfl (h_nileq un56 rfl wz (fun b_2 hb_3 => h_nil ?_)))))))))
 cases b_2 with
 | true =>
  refine wH_ift rfl rfl ?_
  obtain rfl := hb_3 rfl
  replace hF := clone_nil hF
  refine wH_seq (wH_region (h_op .nil wz rfl (h_nil (wH_new (fun n_4 => ?_)))))
  obtain rfl := some_inj hF
  exact wH_ret (finG (outs := ([] : List Box)) (.inr rfl) 0 rfl rfl rfl (by kernel_rfl) (by kernel_rfl))
 | false =>
  refine wH_iff rfl rfl (wH_skip (wH_seq (wH_region (h_lit0 es56 ez56 rfl wz (h_op (vL Screen.enc s_1) wz rfl ?_)))))
  obtain ⟨a_5, hz_6, hF⟩ := bind_some hF
  refine h_appn 0 (.inl rfl) el56 el56 sz123 z123 rfl (by decide) by123 (by decide) (fun _ => rfl) rfl rfl hz_6 wz (fun n_7 => h_op (gV n_7 5 a_5) wz rfl (h_nil ?_))
  obtain rfl := some_inj hF
  exact wH_ret (finG (outs := ([] : List Box)) (.inr rfl) 0 rfl rfl rfl (by kernel_rfl) (by kernel_rfl))
theorem ref_MeetOf_ok {a_1 : Rect} {b_2 : Rect} {r : Rect × Bool} (hF : ref_MeetOf a_1 b_2 = some r) :
  FnM Tryz.prog 88 [(.d (.agg (Rect.enc a_1))), (.d (.agg (Rect.enc b_2)))] [] (.tup [(.d (.agg (Rect.enc r.1))), (vB r.2)]) [] := by
 refine FnM.of_wH ⟨Tryz.prog, 58, [], []⟩ rfl Tryz.func88 rfl rfl (Nat.le_of_ble_eq_true rfl) (by kernel_rfl) ?_
 unfold ref_MeetOf at hF
 refine wH_seq (wH_region (h_box 0 (.inl rfl) [(vI a_1.X), (vI a_1.Y), (vI a_1.W), (vI a_1.H)] rfl rfl wz (fun n_3 => h_box 0 (.inl rfl) [(vI b_2.X), (vI b_2.Y), (vI b_2.W), (vI b_2.H)] rfl rfl wz (fun n_4 => h_alloc 0 (.inl rfl) z49 rfl wz (fun n_5 => h_op (vB false) wz rfl (h_nil (wH_seq (wH_draws (h_far pl49_0 rfl 0 rfl wz (h_ldr 1 0 (.inr (by kernel_rfl)) (fun _ _ ag => trivial) sz3 ag3 rfl rfl (vI a_1.X) rfl wz (h_far pl49_0 rfl 0 rfl wz (h_ldr 3 1 (.inr (by kernel_rfl)) (fun _ _ ag => ⟨.inl ⟨rfl, rfl⟩, trivial⟩) sz3 ag3 rfl rfl (vI b_2.X) rfl wz (h_minmax (vI (maxI a_1.X b_2.X)) rfl (.inr rfl) wz (h_far pl49_1 rfl 1 rfl wz (h_ldr 6 0 (.inr (by kernel_rfl)) (fun _ _ ag => ⟨.inl ⟨rfl, rfl⟩, ⟨.inl ⟨rfl, rfl⟩, trivial⟩⟩) sz3 ag3 rfl rfl (vI a_1.Y) rfl wz (h_far pl49_1 rfl 1 rfl wz (h_ldr 8 1 (.inr (by kernel_rfl)) (fun _ _ ag => ⟨.inl ⟨rfl, rfl⟩, ⟨.inl ⟨rfl, rfl⟩, ⟨.inl ⟨rfl, rfl⟩, trivial⟩⟩⟩) sz3 ag3 rfl rfl (vI b_2.Y) rfl wz (h_minmax (vI (maxI a_1.Y b_2.Y)) rfl (.inr rfl) wz (h_op (vI (maxI a_1.X b_2.X)) wz rfl (h_op (vI (maxI a_1.Y b_2.Y)) wz rfl (h_nil (wH_seq (wH_draws ?_)))))))))))))))))))))))
 refine h_far pl49_0 rfl 0 rfl wz (h_ldr 1 0 (.inr (by kernel_rfl)) (fun _ _ ag => trivial) sz3 ag3 rfl rfl (vI a_1.X) rfl wz (h_far pl49_2 rfl 2 rfl wz (h_ldr 3 0 (.inr (by kernel_rfl)) (fun _ _ ag => ⟨.inl ⟨rfl, rfl⟩, trivial⟩) sz3 ag3 rfl rfl (vI a_1.W) rfl wz (h_op (vI (w64 (a_1.X + a_1.W))) wz rfl (h_far pl49_0 rfl 0 rfl wz (h_ldr 6 1 (.inr (by kernel_rfl)) (fun _ _ ag => ⟨.inl ⟨rfl, rfl⟩, ⟨.inl ⟨rfl, rfl⟩, trivial⟩⟩) sz3 ag3 rfl rfl (vI b_2.X) rfl wz (h_far pl49_2 rfl 2 rfl wz (h_ldr 8 1 (.inr (by kernel_rfl)) (fun _ _ ag => ⟨.inl ⟨rfl, rfl⟩, ⟨.inl ⟨rfl, rfl⟩, ⟨.inl ⟨rfl, rfl⟩, trivial⟩⟩⟩) sz3 ag3 rfl rfl (vI b_2.W) rfl wz (h_op (vI (w64 (b_2.X + b_2.W))) wz rfl (h_minmax (vI (minI (w64 (a_1.X + a_1.W)) (w64 (b_2.X + b_2.W)))) rfl (.inl rfl) wz (h_op (vI (maxI a_1.X b_2.X)) wz rfl (h_op (vI (w64 ((minI (w64 (a_1.X + a_1.W)) (w64 (b_2.X + b_2.W))) - (maxI a_1.X b_2.X)))) wz rfl (h_far pl49_1 rfl 1 rfl wz (h_ldr 14 0 (.inr (by kernel_rfl)) (fun _ _ ag => ⟨.inl ⟨rfl, rfl⟩, ⟨.inl ⟨rfl, rfl⟩, ⟨.inl ⟨rfl, rfl⟩, ⟨.inl ⟨rfl, rfl⟩, trivial⟩⟩⟩⟩) sz3 ag3 rfl rfl (vI a_1.Y) rfl wz (h_far pl49_3 rfl 3 rfl wz (h_ldr 16 0 (.inr (by kernel_rfl)) (fun _ _ ag => ⟨.inl ⟨rfl, rfl⟩, ⟨.inl ⟨rfl, rfl⟩, ⟨.inl ⟨rfl, rfl⟩, ⟨.inl ⟨rfl, rfl⟩, ⟨.inl ⟨rfl, rfl⟩, trivial⟩⟩⟩⟩⟩) sz3 ag3 rfl rfl (vI a_1.H) rfl wz (h_op (vI (w64 (a_1.Y + a_1.H))) wz rfl (h_far pl49_1 rfl 1 rfl wz (h_ldr 19 1 (.inr (by kernel_rfl)) (fun _ _ ag => ⟨.inl ⟨rfl, rfl⟩, ⟨.inl ⟨rfl, rfl⟩, ⟨.inl ⟨rfl, rfl⟩, ⟨.inl ⟨rfl, rfl⟩, ⟨.inl ⟨rfl, rfl⟩, ⟨.inl ⟨rfl, rfl⟩, trivial⟩⟩⟩⟩⟩⟩) sz3 ag3 rfl rfl (vI b_2.Y) rfl wz (h_far pl49_3 rfl 3 rfl wz (h_ldr 21 1 (.inr (by kernel_rfl)) (fun _ _ ag => ⟨.inl ⟨rfl, rfl⟩, ⟨.inl ⟨rfl, rfl⟩, ⟨.inl ⟨rfl, rfl⟩, ⟨.inl ⟨rfl, rfl⟩, ⟨.inl ⟨rfl, rfl⟩, ⟨.inl ⟨rfl, rfl⟩, ⟨.inl ⟨rfl, rfl⟩, trivial⟩⟩⟩⟩⟩⟩⟩) sz3 ag3 rfl rfl (vI b_2.H) rfl wz (h_op (vI (w64 (b_2.Y + b_2.H))) wz rfl (h_minmax (vI (minI (w64 (a_1.Y + a_1.H)) (w64 (b_2.Y + b_2.H)))) rfl (.inl rfl) wz ?_)))))))))))))))))))))))
 refine h_op (vI (maxI a_1.Y b_2.Y)) wz rfl (h_op (vI (w64 ((minI (w64 (a_1.Y + a_1.H)) (w64 (b_2.Y + b_2.H))) - (maxI a_1.Y b_2.Y)))) wz rfl (h_op (vI (w64 ((minI (w64 (a_1.X + a_1.W)) (w64 (b_2.X + b_2.W))) - (maxI a_1.X b_2.X)))) wz rfl (h_op (vI (w64 ((minI (w64 (a_1.Y + a_1.H)) (w64 (b_2.Y + b_2.H))) - (maxI a_1.Y b_2.Y)))) wz rfl (h_nil (wH_at (H0 := ([(n_3, some (.cells 4 [(vI a_1.X), (vI a_1.Y), (vI a_1.W), (vI a_1.H)])), (n_4, some (.cells 4 [(vI b_2.X), (vI b_2.Y), (vI b_2.W), (vI b_2.H)])), (n_5, some (.cells 4 [(vI 0), (vI 0), (vI 0), (vI 0)]))] : Hp)) ([(4, (.ref n_5 0 0)), (6, (vI (maxI a_1.X b_2.X))), (7, (vI (maxI a_1.Y b_2.Y))), (8, (vI (w64 ((minI (w64 (a_1.X + a_1.W)) (w64 (b_2.X + b_2.W))) - (maxI a_1.X b_2.X))))), (9, (vI (w64 ((minI (w64 (a_1.Y + a_1.H)) (w64 (b_2.Y + b_2.H))) - (maxI a_1.Y b_2.Y)))))] : List (Nat × V)) (by kernel_rfl) (pre_mk (by kernel_rfl)) (wH_seq (wH_seq ?_)))))))
 obtain ⟨v_6, h_7, hF⟩ := bind_some hF
 refine wH_join (β := Unit) (fun _ => ([(4, (.ref n_5 0 0)), (6, (vI (maxI a_1.X b_2.X))), (7, (vI (maxI a_1.Y b_2.Y))), (8, (vI (w64 ((minI (w64 (a_1.X + a_1.W)) (w64 (b_2.X + b_2.W))) - (maxI a_1.X b_2.X))))), (9, (vI (w64 ((minI (w64 (a_1.Y + a_1.H)) (w64 (b_2.Y + b_2.H))) - (maxI a_1.Y b_2.Y))))), (51, (vB v_6))] : List (Nat × V))) (fun _ => ([(n_3, some (.cells 4 [(vI a_1.X), (vI a_1.Y), (vI a_1.W), (vI a_1.H)])), (n_4, some (.cells 4 [(vI b_2.X), (vI b_2.Y), (vI b_2.W), (vI b_2.H)])), (n_5, some (.cells 4 [(vI 0), (vI 0), (vI 0), (vI 0)]))] : Hp)) (fun _ => True) ?_ ?_
 ·refine wH_region (h_op (vI (w64 ((minI (w64 (a_1.X + a_1.W)) (w64 (b_2.X + b_2.W))) - (maxI a_1.X b_2.X)))) wz rfl (h_op (vB (decide ((w64 ((minI (w64 (a_1.X + a_1.W)) (w64 (b_2.X + b_2.W))) - (maxI a_1.X b_2.X))) ≤ 0))) wz rfl ?_))
  rcases cond_some h_7 with ⟨hc_8, h_7⟩ | ⟨hc_8, h_7⟩
  ·refine h_movb rfl hc_8 wz (h_skip (wg rfl rfl rfl) (h_skip (wg rfl rfl rfl) (h_op (vB true) wz rfl (h_nil ?_))))
   obtain rfl := some_inj h_7
   exact cut_mk () trivial rfl (pre_r rfl)
  ·refine h_movb rfl hc_8 wz (h_op (vI (w64 ((minI (w64 (a_1.Y + a_1.H)) (w64 (b_2.Y + b_2.H))) - (maxI a_1.Y b_2.Y)))) (wg rfl rfl rfl) rfl (h_op (vB (decide ((w64 ((minI (w64 (a_1.Y + a_1.H)) (w64 (b_2.Y + b_2.H))) - (maxI a_1.Y b_2.Y))) ≤ 0))) (wg rfl rfl rfl) rfl (h_op (vB (decide ((w64 ((minI (w64 (a_1.Y + a_1.H)) (w64 (b_2.Y + b_2.H))) - (maxI a_1.Y b_2.Y))) ≤ 0))) wz rfl (h_nil ?_))))
   obtain rfl := some_inj h_7
   exact cut_mk () trivial rfl (pre_r rfl)
 ·rintro ⟨⟩ _ sl_ H_ hp_ hq_
  refine wH_at _ hp_ hq_ ?_
  rcases cond_some hF with ⟨hc_9, hF⟩ | ⟨hc_9, hF⟩
  ·refine wH_ift rfl hc_9 (wH_seq (wH_region (h_op (.d (.agg (Rect.enc (⟨0, 0, 0, 0⟩ : Rect)))) wz (by kernel_rfl) (h_str 0 (.inl rfl) (fun _ _ _ => trivial) 2 sz49 rfl rfl [(vI 0), (vI 0), (vI 0), (vI 0)] rfl wz (h_op (vB false) wz rfl (h_nil ?_))))))
   obtain rfl := some_inj hF
   exact wH_ret (fin0 (.inr rfl) [(.d (.agg (Rect.enc (⟨0, 0, 0, 0⟩ : Rect)))), (vB false)] ⟨⟨2, _, _, _, _, _, _, _, rfl, rfl, sz49, ag49, rfl⟩, ⟨rfl, trivial⟩⟩ rfl rfl rfl)
  ·refine wH_iff rfl hc_9 (wH_skip (wH_seq (wH_region (h_op (vI (maxI a_1.X b_2.X)) wz rfl (h_op (vI (maxI a_1.Y b_2.Y)) wz rfl (h_op (vI (w64 ((minI (w64 (a_1.X + a_1.W)) (w64 (b_2.X + b_2.W))) - (maxI a_1.X b_2.X)))) wz rfl (h_op (vI (w64 ((minI (w64 (a_1.Y + a_1.H)) (w64 (b_2.Y + b_2.H))) - (maxI a_1.Y b_2.Y)))) wz rfl (h_op (.d (.agg (Rect.enc (⟨(maxI a_1.X b_2.X), (maxI a_1.Y b_2.Y), (w64 ((minI (w64 (a_1.X + a_1.W)) (w64 (b_2.X + b_2.W))) - (maxI a_1.X b_2.X))), (w64 ((minI (w64 (a_1.Y + a_1.H)) (w64 (b_2.Y + b_2.H))) - (maxI a_1.Y b_2.Y)))⟩ : Rect)))) wz (by kernel_rfl) (h_str 0 (.inl rfl) (fun _ _ _ => trivial) 2 sz49 rfl rfl [(vI (maxI a_1.X b_2.X)), (vI (maxI a_1.Y b_2.Y)), (vI (w64 ((minI (w64 (a_1.X + a_1.W)) (w64 (b_2.X + b_2.W))) - (maxI a_1.X b_2.X)))), (vI (w64 ((minI (w64 (a_1.Y + a_1.H)) (w64 (b_2.Y + b_2.H))) - (maxI a_1.Y b_2.Y))))] rfl wz (h_op (vB true) wz rfl (h_nil ?_)))))))))))
   obtain rfl := some_inj hF
   exact wH_ret (fin0 (.inr rfl) [(.d (.agg (Rect.enc (⟨(maxI a_1.X b_2.X), (maxI a_1.Y b_2.Y), (w64 ((minI (w64 (a_1.X + a_1.W)) (w64 (b_2.X + b_2.W))) - (maxI a_1.X b_2.X))), (w64 ((minI (w64 (a_1.Y + a_1.H)) (w64 (b_2.Y + b_2.H))) - (maxI a_1.Y b_2.Y)))⟩ : Rect)))), (vB true)] ⟨⟨2, _, _, _, _, _, _, _, rfl, rfl, sz49, ag49, rfl⟩, ⟨rfl, trivial⟩⟩ rfl rfl rfl)
theorem ref_WallFault_ok {wv_1 : Wall} {r : Int} (hF : ref_WallFault wv_1 = some r) :
  FnM Tryz.prog 29 [(.d (.agg (Wall.enc wv_1)))] [] (vI r) [] := by
 refine FnM.of_wH ⟨Tryz.prog, 96, [], []⟩ rfl Tryz.func29 rfl rfl (Nat.le_of_ble_eq_true rfl) (by kernel_rfl) ?_
 unfold ref_WallFault at hF
 refine wH_seq (wH_region (h_box 0 (.inl rfl) [(vS wv_1.Key), (vI wv_1.W), (vI wv_1.H), (vL Screen.enc wv_1.Screens)] rfl rfl wz (fun n_2 => h_op (vI 0) wz rfl (h_nil (wH_seq (wH_block (wH_seq (wH_region (h_far pl58_0 rfl 0 rfl wz (h_ldr 0 0 (.inl rfl) (fun _ _ _ => trivial) sz9 ag9 rfl rfl (vS wv_1.Key) rfl wz ?_))))))))))
 obtain ⟨r_3, hr_4, hF⟩ := bind_some hF
 refine h_call0 (ref_Key_ok hr_4) rfl hb65 rfl rfl rfl rfl wz (h_op (vB (!r_3)) wz rfl (h_op (vB (!r_3)) wz rfl (h_nil ?_)))
 rcases cond_some hF with ⟨hc_5, hF⟩ | ⟨hc_5, hF⟩
 ·refine wH_ift rfl hc_5 (wH_seq (wH_region (h_op (vI 5) wz rfl (h_nil ?_))))
  obtain rfl := some_inj hF
  exact wH_ret (fin0 (.inr rfl) [(vI 5)] ⟨rfl, trivial⟩ rfl rfl rfl)
 ·refine wH_iff rfl hc_5 (wH_seq ?_)
  obtain ⟨v_6, h_7, hF⟩ := bind_some hF
  refine wH_join (β := Unit) (fun _ => ([(1, (.ref n_2 0 0)), (18, (vB v_6))] : List (Nat × V))) (fun _ => ([(n_2, some (.cells 4 [(vS wv_1.Key), (vI wv_1.W), (vI wv_1.H), (vL Screen.enc wv_1.Screens)]))] : Hp)) (fun _ => True) ?_ ?_
  ·refine wH_region (h_far pl58_1 rfl 1 rfl wz (h_ldr 0 0 (.inl rfl) (fun _ _ _ => trivial) sz3 ag3 rfl rfl (vI wv_1.W) rfl wz ?_))
   obtain ⟨r_8, hr_9, h_7⟩ := bind_some h_7
   refine h_call0 (ref_side_ok hr_9) rfl hb66 rfl rfl rfl rfl wz (h_op (vB (!r_8)) wz rfl ?_)
   rcases cond_some h_7 with ⟨hc_10, h_7⟩ | ⟨hc_10, h_7⟩
   ·refine h_movb rfl hc_10 wz (h_skip (wg rfl rfl rfl) (h_skip (wg rfl rfl rfl) (h_skip (wg rfl rfl rfl) (h_skip (wg rfl rfl rfl) (h_op (vB true) wz rfl (h_op (vB true) wz rfl (h_nil ?_)))))))
    obtain rfl := some_inj h_7
    exact cut_mk () trivial rfl (pre_r rfl)
   ·refine h_movb rfl hc_10 wz (h_far pl58_2 rfl 2 rfl (wg rfl rfl rfl) (h_ldr 0 0 (.inl rfl) (fun _ _ _ => trivial) sz3 ag3 rfl rfl (vI wv_1.H) rfl (wg rfl rfl rfl) ?_))
    obtain ⟨r_11, hr_12, h_7⟩ := bind_some h_7
    refine h_call0 (ref_side_ok hr_12) rfl hb66 rfl rfl rfl rfl (wg rfl rfl rfl) (h_op (vB (!r_11)) (wg rfl rfl rfl) rfl (h_op (vB (!r_11)) wz rfl (h_op (vB (!r_11)) wz rfl (h_nil ?_))))
    obtain rfl := some_inj h_7
    exact cut_mk () trivial rfl (pre_r rfl)
  ·rintro ⟨⟩ _ sl_ H_ hp_ hq_
   refine wH_at _ hp_ hq_ ?_
   rcases cond_some hF with ⟨hc_13, hF⟩ | ⟨hc_13, hF⟩
   ·refine wH_ift rfl hc_13 (wH_seq (wH_region (h_op (vI 1) wz rfl (h_nil ?_))))
    obtain rfl := some_inj hF
    exact wH_ret (fin0 (.inr rfl) [(vI 1)] ⟨rfl, trivial⟩ rfl rfl rfl)
   ·refine wH_iff rfl hc_13 (wH_seq (wH_region (h_far pl58_3 rfl 3 rfl wz (h_ldr 0 0 (.inl rfl) (fun _ _ _ => trivial) sz56 ag56 rfl rfl (vL Screen.enc wv_1.Screens) rfl wz (h_len un56 rfl wz (h_op (vB (decide ((wv_1.Screens.length : Int) > 50))) wz rfl (h_op (vB (decide ((wv_1.Screens.length : Int) > 50))) wz rfl (h_nil ?_))))))))
    rcases cond_some hF with ⟨hc_14, hF⟩ | ⟨hc_14, hF⟩
    ·refine wH_ift rfl hc_14 (wH_seq (wH_region (h_op (vI 2) wz rfl (h_nil ?_))))
     obtain rfl := some_inj hF
     exact wH_ret (fin0 (.inr rfl) [(vI 2)] ⟨rfl, trivial⟩ rfl rfl rfl)
    ·refine wH_iff rfl hc_14 (wH_skip (wH_seq (wH_region (h_op (vS (⟨#[]⟩ : ByteArray)) wz rfl (h_nil (wH_seq (wH_seq (wH_region (h_far pl58_3 rfl 3 rfl wz (h_ldr 0 0 (.inl rfl) (fun _ _ _ => trivial) sz56 ag56 rfl rfl (vL Screen.enc wv_1.Screens) rfl wz (h_len un56 rfl wz (h_op (vI 0) wz rfl (h_nil ?_)))))))))))))
     obtain ⟨o_23, hj_24, hF⟩ := bind_some hF
     obtain ⟨hn_19, hj_24⟩ := forL_some hj_24
     refine wH_join (β := (ByteArray)) (fun (s_20 : ByteArray) => ([(1, (.ref n_2 0 0))] : List (Nat × V))) (fun (s_20 : ByteArray) => ([(n_2, some (.cells 4 [(vS wv_1.Key), (vI wv_1.W), (vI wv_1.H), (vL Screen.enc wv_1.Screens)]))] : Hp)) (fun p => o_23 = .go p) ?_ ?_
     ·refine wH_block (wH_loop (β := Nat × (List Screen) × (ByteArray)) (fun p => (fun (k_15 : Nat) (l_16 : List Screen) (s_20 : ByteArray) => ([(1, (.ref n_2 0 0)), (3, (vS s_20)), (35, (vL Screen.enc wv_1.Screens)), (36, (vI (wv_1.Screens.length : Int))), (37, (vI (k_15 : Int)))] : List (Nat × V))) p.1 p.2.1 p.2.2) (fun p => (fun (k_15 : Nat) (l_16 : List Screen) (s_20 : ByteArray) => ([(n_2, some (.cells 4 [(vS wv_1.Key), (vI wv_1.W), (vI wv_1.H), (vL Screen.enc wv_1.Screens)]))] : Hp)) p.1 p.2.1 p.2.2) (fun p => forR (fun k x s => ref_WallFault_L1 wv_1 k x s) p.2.1 p.1 p.2.2 = some o_23 ∧ (wv_1.Screens).drop p.1 = p.2.1) (fun p => p.2.1.length) (0, wv_1.Screens, (⟨#[]⟩ : ByteArray)) ⟨hj_24, rfl⟩ rfl (pre_r rfl) ?_)
      rintro ⟨k_15, l_16, s_20⟩ ⟨hL_22, hD_18⟩
      dsimp only at hL_22 hD_18
      cases l_16 with
      | nil =>
       obtain rfl := some_inj hL_22
       refine wH_seq (wH_region (h_op (vB (decide ((k_15 : Int) < (wv_1.Screens.length : Int)))) wz rfl (h_nil ?_)))
       refine wH_seq (wH_iff rfl (drop_nil hD_18) (wH_exit ?_))
       exact cut_mk (s_20) rfl rfl (pre_r rfl)
      | cons x_17 l_16 =>
       obtain ⟨c_, hc_21, hL_22⟩ := bind_some hL_22
       refine wH_seq (wH_region (h_op (vB (decide ((k_15 : Int) < (wv_1.Screens.length : Int)))) wz rfl (h_nil ?_)))
       refine wH_seq (wH_ift rfl (drop_cons hD_18) (wH_skip ?_))
       unfold ref_WallFault_L1 at hc_21
       refine wH_seq (wH_block (wH_seq (wH_region (h_ia es56 rfl rfl (drop_idx hD_18) rfl wz (h_ldc sz123 ag123 rfl (.d (.agg (Screen.enc x_17))) rfl wz (h_alloc 0 (.inl rfl) z123 rfl wz (fun n_25 => h_str 0 (.inl rfl) (fun _ _ _ => trivial) 1 sz123 rfl rfl [(vS x_17.Key), (vI x_17.On.X), (vI x_17.On.Y), (vI x_17.On.W), (vI x_17.On.H)] rfl wz (h_nil (wH_seq (wH_seq (wH_region (h_far pl123_0 rfl 0 rfl wz (h_ldr 0 1 (.inl rfl) (fun _ _ _ => trivial) sz9 ag9 rfl rfl (vS x_17.Key) rfl wz ?_)))))))))))))
       obtain ⟨r_26, hr_27, hc_21⟩ := bind_some hc_21
       refine h_call0 (ref_Key_ok hr_27) rfl hb65 rfl rfl rfl rfl wz (h_op (vB (!r_26)) wz rfl (h_nil ?_))
       rcases cond_some hc_21 with ⟨hc_28, hc_21⟩ | ⟨hc_28, hc_21⟩
       ·refine wH_ift rfl hc_28 (wH_seq (wH_region (h_op (vI 5) wz rfl (h_nil ?_))))
        obtain rfl := some_inj hc_21
        obtain rfl := some_inj hL_22
        obtain rfl := some_inj hF
        exact wH_ret (fin0 (.inr rfl) [(vI 5)] ⟨rfl, trivial⟩ rfl rfl rfl)
       ·refine wH_iff rfl hc_28 (wH_skip (wH_seq (wH_seq (wH_region (h_far pl123_1 rfl 1 rfl wz (h_ldr 0 1 (.inl rfl) (fun _ _ _ => trivial) sz49 ag49 rfl rfl (.d (.agg (Rect.enc x_17.On))) rfl wz ?_))))))
        obtain ⟨r_29, hr_30, hc_21⟩ := bind_some hc_21
        refine h_call0 (ref_RectFault_ok hr_30) rfl hb31 rfl rfl rfl rfl wz (h_op (vI r_29) wz rfl (h_nil (wH_seq (wH_region (h_op (vI r_29) wz rfl (h_op (vB (r_29 != 0)) wz rfl (h_nil ?_)))))))
        rcases cond_some hc_21 with ⟨hc_31, hc_21⟩ | ⟨hc_31, hc_21⟩
        ·refine wH_ift rfl hc_31 (wH_seq (wH_region (h_op (vI r_29) wz rfl (h_op (vI r_29) wz rfl (h_nil ?_)))))
         obtain rfl := some_inj hc_21
         obtain rfl := some_inj hL_22
         obtain rfl := some_inj hF
         exact wH_ret (fin0 (.inr rfl) [(vI r_29)] ⟨rfl, trivial⟩ rfl rfl rfl)
        ·refine wH_iff rfl hc_31 (wH_skip (wH_seq (wH_block (wH_seq (wH_region (h_far pl123_1 rfl 1 rfl wz (h_ldr 0 1 (.inl rfl) (fun _ _ _ => trivial) sz49 ag49 rfl rfl (.d (.agg (Rect.enc x_17.On))) rfl wz (h_far pl58_1 rfl 1 rfl wz (h_ldr 0 0 (.inl rfl) (fun _ _ _ => trivial) sz3 ag3 rfl rfl (vI wv_1.W) rfl wz (h_far pl58_2 rfl 2 rfl wz (h_ldr 0 0 (.inl rfl) (fun _ _ _ => trivial) sz3 ag3 rfl rfl (vI wv_1.H) rfl wz ?_)))))))))))
         obtain ⟨r_32, hr_33, hc_21⟩ := bind_some hc_21
         refine h_call0 (ref_within_ok hr_33) rfl hb67 rfl rfl rfl rfl wz (h_op (vB (!r_32)) wz rfl (h_op (vB (!r_32)) wz rfl (h_nil ?_)))
         rcases cond_some hc_21 with ⟨hc_34, hc_21⟩ | ⟨hc_34, hc_21⟩
         ·refine wH_ift rfl hc_34 (wH_seq (wH_region (h_op (vI 3) wz rfl (h_nil ?_))))
          obtain rfl := some_inj hc_21
          obtain rfl := some_inj hL_22
          obtain rfl := some_inj hF
          exact wH_ret (fin0 (.inr rfl) [(vI 3)] ⟨rfl, trivial⟩ rfl rfl rfl)
         ·refine wH_iff rfl hc_34 (wH_seq (wH_region (h_far pl123_0 rfl 0 rfl wz (h_ldr 0 1 (.inl rfl) (fun _ _ _ => trivial) sz9 ag9 rfl rfl (vS x_17.Key) rfl wz (h_op (vS s_20) wz rfl (h_op (vB (sLe x_17.Key s_20)) wz rfl (h_op (vB (sLe x_17.Key s_20)) wz rfl (h_nil ?_))))))))
          rcases cond_some hc_21 with ⟨hc_35, hc_21⟩ | ⟨hc_35, hc_21⟩
          ·refine wH_ift rfl hc_35 (wH_seq (wH_region (h_op (vI 7) wz rfl (h_nil ?_))))
           obtain rfl := some_inj hc_21
           obtain rfl := some_inj hL_22
           obtain rfl := some_inj hF
           exact wH_ret (fin0 (.inr rfl) [(vI 7)] ⟨rfl, trivial⟩ rfl rfl rfl)
          ·refine wH_iff rfl hc_35 (wH_skip (wH_region (h_far pl123_0 rfl 0 rfl wz (h_ldr 0 1 (.inl rfl) (fun _ _ _ => trivial) sz9 ag9 rfl rfl (vS x_17.Key) rfl wz (h_op (vS x_17.Key) wz rfl (h_nil (wH_at (H0 := ([(n_2, some (.cells 4 [(vS wv_1.Key), (vI wv_1.W), (vI wv_1.H), (vL Screen.enc wv_1.Screens)])), (n_25, some (.cells 5 [(vS x_17.Key), (vI x_17.On.X), (vI x_17.On.Y), (vI x_17.On.W), (vI x_17.On.H)]))] : Hp)) ([(1, (.ref n_2 0 0)), (3, (vS x_17.Key)), (35, (vL Screen.enc wv_1.Screens)), (36, (vI (wv_1.Screens.length : Int))), (37, (vI (k_15 : Int)))] : List (Nat × V)) (by kernel_rfl) (pre_mk (by kernel_rfl)) (wH_region (h_opw (w64_next hD_18 hn_19) wz rfl (h_op (vI ((k_15 + 1 : Nat) : Int)) wz rfl (h_nil ?_)))))))))))
           obtain rfl := some_inj hc_21
           exact loop_mk (k_15 + 1, l_16, x_17.Key) ⟨hL_22, drop_next hD_18⟩ (Nat.lt_succ_self _) rfl (pre_r rfl)
     ·rintro s_20 ho_ sl_ H_ hp_ hq_
      subst ho_
      refine wH_at _ hp_ hq_ (wH_seq (wH_seq (wH_region (h_far pl58_3 rfl 3 rfl wz (h_ldr 0 0 (.inl rfl) (fun _ _ _ => trivial) sz56 ag56 rfl rfl (vL Screen.enc wv_1.Screens) rfl wz (h_len un56 rfl wz (h_op (vI 0) wz rfl (h_nil ?_))))))))
      obtain ⟨o_44, hj_45, hF⟩ := bind_some hF
      obtain ⟨hn_40, hj_45⟩ := forL_some hj_45
      refine wH_join (β := (Unit)) (fun (s_41 : Unit) => ([] : List (Nat × V))) (fun (s_41 : Unit) => ([(n_2, some (.cells 4 [(vS wv_1.Key), (vI wv_1.W), (vI wv_1.H), (vL Screen.enc wv_1.Screens)]))] : Hp)) (fun p => o_44 = .go p) ?_ ?_
      ·refine wH_block (wH_loop (β := Nat × (List Screen) × (Unit)) (fun p => (fun (k_36 : Nat) (l_37 : List Screen) (s_41 : Unit) => ([(1, (.ref n_2 0 0)), (69, (vL Screen.enc wv_1.Screens)), (70, (vI (wv_1.Screens.length : Int))), (71, (vI (k_36 : Int)))] : List (Nat × V))) p.1 p.2.1 p.2.2) (fun p => (fun (k_36 : Nat) (l_37 : List Screen) (s_41 : Unit) => ([(n_2, some (.cells 4 [(vS wv_1.Key), (vI wv_1.W), (vI wv_1.H), (vL Screen.enc wv_1.Screens)]))] : Hp)) p.1 p.2.1 p.2.2) (fun p => forR (fun k x s => ref_WallFault_L3 wv_1 k x s) p.2.1 p.1 p.2.2 = some o_44 ∧ (wv_1.Screens).drop p.1 = p.2.1) (fun p => p.2.1.length) (0, wv_1.Screens, ()) ⟨hj_45, rfl⟩ rfl (pre_r rfl) ?_)
       rintro ⟨k_36, l_37, s_41⟩ ⟨hL_43, hD_39⟩
       dsimp only at hL_43 hD_39
       cases l_37 with
       | nil =>
        obtain rfl := some_inj hL_43
        refine wH_seq (wH_region (h_op (vB (decide ((k_36 : Int) < (wv_1.Screens.length : Int)))) wz rfl (h_nil ?_)))
        refine wH_seq (wH_iff rfl (drop_nil hD_39) (wH_exit ?_))
        exact cut_mk (s_41) rfl rfl (pre_r rfl)
       | cons x_38 l_37 =>
        obtain ⟨c_, hc_42, hL_43⟩ := bind_some hL_43
        refine wH_seq (wH_region (h_op (vB (decide ((k_36 : Int) < (wv_1.Screens.length : Int)))) wz rfl (h_nil ?_)))
        refine wH_seq (wH_ift rfl (drop_cons hD_39) (wH_skip ?_))
        unfold ref_WallFault_L3 at hc_42
        refine wH_seq (wH_block (wH_seq (wH_region (h_op (vI (k_36 : Int)) wz rfl (h_ia es56 rfl rfl (drop_idx hD_39) rfl wz (h_ldc sz123 ag123 rfl (.d (.agg (Screen.enc x_38))) rfl wz (h_alloc 0 (.inl rfl) z123 rfl wz (fun n_46 => h_op (vI (k_36 : Int)) wz rfl (h_str 0 (.inl rfl) (fun _ _ _ => trivial) 1 sz123 rfl rfl [(vS x_38.Key), (vI x_38.On.X), (vI x_38.On.Y), (vI x_38.On.W), (vI x_38.On.H)] rfl wz (h_nil (wH_seq (wH_region (h_far pl58_3 rfl 3 rfl wz (h_ldr 0 0 (.inl rfl) (fun _ _ _ => trivial) sz56 ag56 rfl rfl (vL Screen.enc wv_1.Screens) rfl wz (h_op (vI (k_36 : Int)) wz rfl ?_)))))))))))))))
        obtain ⟨y_47, hy_48, hc_42⟩ := bind_some hc_42
        refine h_sublFalseTrue un56 sz123 (fun _ => rfl) rfl rfl hy_48 wz (h_len un56 rfl wz (h_op (vI 0) wz rfl (h_nil ?_)))
        obtain ⟨o_57, hj_58, hc_42⟩ := bind_some hc_42
        obtain ⟨hn_53, hj_58⟩ := forL_some hj_58
        refine wH_join (β := (Unit)) (fun (s_54 : Unit) => ([(1, (.ref n_2 0 0)), (69, (vL Screen.enc wv_1.Screens)), (70, (vI (wv_1.Screens.length : Int))), (71, (vI (k_36 : Int)))] : List (Nat × V))) (fun (s_54 : Unit) => ([(n_2, some (.cells 4 [(vS wv_1.Key), (vI wv_1.W), (vI wv_1.H), (vL Screen.enc wv_1.Screens)])), (n_46, some (.cells 5 [(vS x_38.Key), (vI x_38.On.X), (vI x_38.On.Y), (vI x_38.On.W), (vI x_38.On.H)]))] : Hp)) (fun p => o_57 = .go p) ?_ ?_
        ·refine wH_block (wH_loop (β := Nat × (List Screen) × (Unit)) (fun p => (fun (k_49 : Nat) (l_50 : List Screen) (s_54 : Unit) => ([(1, (.ref n_2 0 0)), (8, (.ref n_46 0 0)), (69, (vL Screen.enc wv_1.Screens)), (70, (vI (wv_1.Screens.length : Int))), (71, (vI (k_36 : Int))), (79, (vL Screen.enc y_47)), (80, (vI (y_47.length : Int))), (81, (vI (k_49 : Int)))] : List (Nat × V))) p.1 p.2.1 p.2.2) (fun p => (fun (k_49 : Nat) (l_50 : List Screen) (s_54 : Unit) => ([(n_2, some (.cells 4 [(vS wv_1.Key), (vI wv_1.W), (vI wv_1.H), (vL Screen.enc wv_1.Screens)])), (n_46, some (.cells 5 [(vS x_38.Key), (vI x_38.On.X), (vI x_38.On.Y), (vI x_38.On.W), (vI x_38.On.H)]))] : Hp)) p.1 p.2.1 p.2.2) (fun p => forR (fun k x s => ref_WallFault_L2 x_38 k x s) p.2.1 p.1 p.2.2 = some o_57 ∧ (y_47).drop p.1 = p.2.1) (fun p => p.2.1.length) (0, y_47, ()) ⟨hj_58, rfl⟩ rfl (pre_r rfl) ?_)
         rintro ⟨k_49, l_50, s_54⟩ ⟨hL_56, hD_52⟩
         dsimp only at hL_56 hD_52
         cases l_50 with
         | nil =>
          obtain rfl := some_inj hL_56
          refine wH_seq (wH_region (h_op (vB (decide ((k_49 : Int) < (y_47.length : Int)))) wz rfl (h_nil ?_)))
          refine wH_seq (wH_iff rfl (drop_nil hD_52) (wH_exit ?_))
          exact cut_mk (s_54) rfl rfl (pre_r rfl)
         | cons x_51 l_50 =>
          obtain ⟨c_, hc_55, hL_56⟩ := bind_some hL_56
          refine wH_seq (wH_region (h_op (vB (decide ((k_49 : Int) < (y_47.length : Int)))) wz rfl (h_nil ?_)))
          refine wH_seq (wH_ift rfl (drop_cons hD_52) (wH_skip ?_))
          unfold ref_WallFault_L2 at hc_55
          refine wH_seq (wH_block (wH_seq (wH_region (h_ia es56 rfl rfl (drop_idx hD_52) rfl wz (h_ldc sz123 ag123 rfl (.d (.agg (Screen.enc x_51))) rfl wz (h_alloc 0 (.inl rfl) z123 rfl wz (fun n_59 => h_str 0 (.inl rfl) (fun _ _ _ => trivial) 2 sz123 rfl rfl [(vS x_51.Key), (vI x_51.On.X), (vI x_51.On.Y), (vI x_51.On.W), (vI x_51.On.H)] rfl wz (h_nil (wH_seq (wH_region (h_far pl123_1 rfl 1 rfl wz (h_ldr 0 1 (.inl rfl) (fun _ _ _ => trivial) sz49 ag49 rfl rfl (.d (.agg (Rect.enc x_38.On))) rfl wz (h_far pl123_1 rfl 1 rfl wz (h_ldr 0 2 (.inl rfl) (fun _ _ _ => trivial) sz49 ag49 rfl rfl (.d (.agg (Rect.enc x_51.On))) rfl wz ?_))))))))))))))
          obtain ⟨r_60, hr_61, hc_55⟩ := bind_some hc_55
          refine h_call0 (ref_MeetOf_ok hr_61) rfl hb88 rfl rfl rfl rfl wz (h_op (.tup [(.d (.agg (Rect.enc r_60.1))), (vB r_60.2)]) wz rfl (h_op (.d (.agg (Rect.enc r_60.1))) wz rfl (h_op (vB r_60.2) wz rfl (h_alloc 0 (.inl rfl) z49 rfl wz (fun n_62 => h_str 0 (.inl rfl) (fun _ _ _ => trivial) 3 sz49 rfl rfl [(vI r_60.1.X), (vI r_60.1.Y), (vI r_60.1.W), (vI r_60.1.H)] rfl wz (h_op (vB r_60.2) wz rfl (h_nil (wH_seq (wH_region (h_op (vB r_60.2) wz rfl (h_nil ?_)))))))))))
          rcases cond_some hc_55 with ⟨hc_63, hc_55⟩ | ⟨hc_63, hc_55⟩
          ·refine wH_ift rfl hc_63 (wH_seq (wH_region (h_op (vI 13) wz rfl (h_nil ?_))))
           obtain rfl := some_inj hc_55
           obtain rfl := some_inj hL_56
           obtain rfl := some_inj hc_42
           obtain rfl := some_inj hL_43
           obtain rfl := some_inj hF
           exact wH_ret (fin0 (.inr rfl) [(vI 13)] ⟨rfl, trivial⟩ rfl rfl rfl)
          ·refine wH_iff rfl hc_63 (wH_skip (wH_region (h_opw (w64_next hD_52 hn_53) wz rfl (h_op (vI ((k_49 + 1 : Nat) : Int)) wz rfl (h_nil ?_)))))
           obtain rfl := some_inj hc_55
           exact loop_mk (k_49 + 1, l_50, ()) ⟨hL_56, drop_next hD_52⟩ (Nat.lt_succ_self _) rfl (pre_r rfl)
        ·rintro s_54 ho_ sl_ H_ hp_ hq_
         subst ho_
         refine wH_at _ hp_ hq_ (wH_region (h_opw (w64_next hD_39 hn_40) wz rfl (h_op (vI ((k_36 + 1 : Nat) : Int)) wz rfl (h_nil ?_))))
         obtain rfl := some_inj hc_42
         exact loop_mk (k_36 + 1, l_37, ()) ⟨hL_43, drop_next hD_39⟩ (Nat.lt_succ_self _) rfl (pre_r rfl)
      ·rintro s_41 ho_ sl_ H_ hp_ hq_
       subst ho_
       refine wH_at _ hp_ hq_ (wH_seq (wH_region (h_op (vI 0) wz rfl (h_nil ?_))))
       obtain rfl := some_inj hF
       exact wH_ret (fin0 (.inr rfl) [(vI 0)] ⟨rfl, trivial⟩ rfl rfl rfl)
theorem mk_Stream_RightWall_ok {s_1 : Stream} {r : Wall × Stream} (hF : mk_Stream_RightWall s_1 = some r) :
  FnM Tryz.prog 80 [(.ref (extN 0) 0 0)] [(.cells 2 [(vL eI s_1.L), (vI s_1.f_at)])] (.d (.agg (Wall.enc r.1))) [some (.cells 2 [(vL eI r.2.L), (vI r.2.f_at)])] := by
 refine FnM.of_wH ⟨Tryz.prog, 73, [], []⟩ rfl Tryz.func80 rfl rfl (Nat.le_of_ble_eq_true rfl) (by kernel_rfl) ?_
 unfold mk_Stream_RightWall at hF
 refine wH_seq (wH_region (h_alloc 0 (.inl rfl) z58 rfl wz (fun n_2 => h_nil (wH_seq (wH_region (h_op (.ref (extN 0) 0 0) wz rfl (h_lit (([10, 20, 24, 100] : List Int).map eI) es22 ez22 rfl rfl rfl rfl rfl wz ?_)))))))
 obtain ⟨r_3, hr_4, hF⟩ := bind_some hF
 refine h_callq 0 [0] (.inl rfl) (fun _ _ _ => trivial) (mk_Stream_Pick_ok hr_4) rfl hb45 rfl (by kernel_rfl) (by kernel_rfl) (by kernel_rfl) (by kernel_rfl) (by kernel_rfl) (by kernel_rfl) (by kernel_rfl) (by decide) (by kernel_rfl) wz (vI r_3.1) (by kernel_rfl) ([((extN 0), some (.cells 2 [(vL eI r_3.2.L), (vI r_3.2.f_at)])), (n_2, some (.cells 4 [(vS (⟨#[]⟩ : ByteArray)), (vI 0), (vI 0), .nil]))] : Hp) (by kernel_rfl) (h_op (.ref (extN 0) 0 0) wz rfl (h_lit (([6, 10, 30] : List Int).map eI) es22 ez22 rfl rfl rfl rfl rfl wz ?_))
 obtain ⟨r_6, hr_7, hF⟩ := bind_some hF
 refine h_callq 0 [0] (.inl rfl) (fun _ _ _ => trivial) (mk_Stream_Pick_ok hr_7) rfl hb45 rfl (by kernel_rfl) (by kernel_rfl) (by kernel_rfl) (by kernel_rfl) (by kernel_rfl) (by kernel_rfl) (by kernel_rfl) (by decide) (by kernel_rfl) wz (vI r_6.1) (by kernel_rfl) ([((extN 0), some (.cells 2 [(vL eI r_6.2.L), (vI r_6.2.f_at)])), (n_2, some (.cells 4 [(vS (⟨#[]⟩ : ByteArray)), (vI 0), (vI 0), .nil]))] : Hp) (by kernel_rfl) (h_op (.agg [(vS (⟨#[119]⟩ : ByteArray)), (vI r_3.1), (vI r_6.1), .nil]) wz (by kernel_rfl) (h_alloc 0 (.inl rfl) z58 rfl wz (fun n_9 => h_str 0 (.inl rfl) (fun _ _ _ => trivial) 2 sz58 rfl rfl [(vS (⟨#[119]⟩ : ByteArray)), (vI r_3.1), (vI r_6.1), .nil] rfl wz (h_nil (wH_seq (wH_seq (wH_region (h_lit (([(⟨#[115, 97]⟩ : ByteArray), (⟨#[115, 98]⟩ : ByteArray), (⟨#[115, 99]⟩ : ByteArray), (⟨#[115, 100]⟩ : ByteArray)] : List ByteArray).map eS) es38 ez38 rfl rfl rfl rfl rfl wz (h_len un38 rfl wz (h_op (vI 0) wz rfl (h_nil (wH_coc0 2 [(vS (⟨#[119]⟩ : ByteArray)), (vI r_3.1), (vI r_6.1), (vL Screen.enc ([] : List Screen))] rfl (fun S => cons_eq (rfl) (cons_eq (rfl) (cons_eq (rfl) (cons_eq (rfl) (rfl))))) ?_))))))))))))
 obtain ⟨o_18, hj_19, hF⟩ := bind_some hF
 obtain ⟨hn_14, hj_19⟩ := forL_some hj_19
 refine wH_join (β := ((List Int) × Int × (List Screen))) (fun (s_15 : (List Int) × Int × (List Screen)) => ([(2, (.ref n_2 0 0)), (3, (.ref n_9 0 0))] : List (Nat × V))) (fun (s_15 : (List Int) × Int × (List Screen)) => ([((extN 0), some (.cells 2 [(vL eI s_15.1), (vI s_15.2.1)])), (n_2, some (.cells 4 [(vS (⟨#[]⟩ : ByteArray)), (vI 0), (vI 0), .nil])), (n_9, some (.cells 4 [(vS (⟨#[119]⟩ : ByteArray)), (vI r_3.1), (vI r_6.1), (vL Screen.enc s_15.2.2)]))] : Hp)) (fun p => o_18 = .go p) ?_ ?_
 ·refine wH_block (wH_loop (β := Nat × (List ByteArray) × ((List Int) × Int × (List Screen))) (fun p => (fun (k_10 : Nat) (l_11 : List ByteArray) (s_15 : (List Int) × Int × (List Screen)) => ([(0, (.ref (extN 0) 0 0)), (2, (.ref n_2 0 0)), (3, (.ref n_9 0 0)), (16, (vL eS ([(⟨#[115, 97]⟩ : ByteArray), (⟨#[115, 98]⟩ : ByteArray), (⟨#[115, 99]⟩ : ByteArray), (⟨#[115, 100]⟩ : ByteArray)] : List ByteArray))), (17, (vI (([(⟨#[115, 97]⟩ : ByteArray), (⟨#[115, 98]⟩ : ByteArray), (⟨#[115, 99]⟩ : ByteArray), (⟨#[115, 100]⟩ : ByteArray)] : List ByteArray).length : Int))), (18, (vI (k_10 : Int)))] : List (Nat × V))) p.1 p.2.1 p.2.2) (fun p => (fun (k_10 : Nat) (l_11 : List ByteArray) (s_15 : (List Int) × Int × (List Screen)) => ([((extN 0), some (.cells 2 [(vL eI s_15.1), (vI s_15.2.1)])), (n_2, some (.cells 4 [(vS (⟨#[]⟩ : ByteArray)), (vI 0), (vI 0), .nil])), (n_9, some (.cells 4 [(vS (⟨#[119]⟩ : ByteArray)), (vI r_3.1), (vI r_6.1), (vL Screen.enc s_15.2.2)]))] : Hp)) p.1 p.2.1 p.2.2) (fun p => forR (fun k x s => mk_Stream_RightWall_L1 r_3 r_6 k x s) p.2.1 p.1 p.2.2 = some o_18 ∧ (([(⟨#[115, 97]⟩ : ByteArray), (⟨#[115, 98]⟩ : ByteArray), (⟨#[115, 99]⟩ : ByteArray), (⟨#[115, 100]⟩ : ByteArray)] : List ByteArray)).drop p.1 = p.2.1) (fun p => p.2.1.length) (0, ([(⟨#[115, 97]⟩ : ByteArray), (⟨#[115, 98]⟩ : ByteArray), (⟨#[115, 99]⟩ : ByteArray), (⟨#[115, 100]⟩ : ByteArray)] : List ByteArray), (r_6.2.L, r_6.2.f_at, ([] : List Screen))) ⟨hj_19, rfl⟩ rfl (pre_r rfl) ?_)
  rintro ⟨k_10, l_11, s_15⟩ ⟨hL_17, hD_13⟩
  dsimp only at hL_17 hD_13
  cases l_11 with
  | nil =>
   obtain rfl := some_inj hL_17
   refine wH_seq (wH_region (h_op (vB (decide ((k_10 : Int) < (([(⟨#[115, 97]⟩ : ByteArray), (⟨#[115, 98]⟩ : ByteArray), (⟨#[115, 99]⟩ : ByteArray), (⟨#[115, 100]⟩ : ByteArray)] : List ByteArray).length : Int)))) wz rfl (h_nil ?_)))
   refine wH_seq (wH_iff rfl (drop_nil hD_13) (wH_exit ?_))
   exact cut_mk (s_15) rfl rfl (pre_r rfl)
  | cons x_12 l_11 =>
   obtain ⟨c_, hc_16, hL_17⟩ := bind_some hL_17
   refine wH_seq (wH_region (h_op (vB (decide ((k_10 : Int) < (([(⟨#[115, 97]⟩ : ByteArray), (⟨#[115, 98]⟩ : ByteArray), (⟨#[115, 99]⟩ : ByteArray), (⟨#[115, 100]⟩ : ByteArray)] : List ByteArray).length : Int)))) wz rfl (h_nil ?_)))
   refine wH_seq (wH_ift rfl (drop_cons hD_13) (wH_skip ?_))
   unfold mk_Stream_RightWall_L1 at hc_16
   refine wH_seq (wH_block (wH_seq (wH_region (h_ia es38 rfl rfl (drop_idx hD_13) rfl wz (h_ldc sz9 ag9 rfl (vS x_12) rfl wz (h_op (vS x_12) wz rfl (h_nil (wH_seq (wH_draws (h_op (vS x_12) wz rfl (h_op (.ref (extN 0) 0 0) wz rfl (h_far pl58_1 rfl 1 rfl wz (h_ldr 3 2 (.inr (by kernel_rfl)) (fun _ _ ag => trivial) sz3 ag3 rfl rfl (vI r_3.1) rfl wz (h_op (vI (w64 (r_3.1 - 1))) wz rfl ?_))))))))))))))
   obtain ⟨r_20, hr_21, hc_16⟩ := bind_some hc_16
   refine h_callq 5 [0] (.inr (by kernel_rfl)) (fun _ _ ag => by exact ⟨.inr (.inr (by kernel_rfl)), trivial⟩) (mk_Stream_Range_ok hr_21) rfl hb8 rfl (by kernel_rfl) (by kernel_rfl) (by kernel_rfl) (by kernel_rfl) (by kernel_rfl) (by kernel_rfl) (by kernel_rfl) (by decide) (by kernel_rfl) wz (vI r_20.1) (by kernel_rfl) ([((extN 0), some (.cells 2 [(vL eI r_20.2.L), (vI r_20.2.f_at)])), (n_2, some (.cells 4 [(vS (⟨#[]⟩ : ByteArray)), (vI 0), (vI 0), .nil])), (n_9, some (.cells 4 [(vS (⟨#[119]⟩ : ByteArray)), (vI r_3.1), (vI r_6.1), (vL Screen.enc s_15.2.2)]))] : Hp) (by kernel_rfl) (h_op (.ref (extN 0) 0 0) wz rfl (h_far pl58_2 rfl 2 rfl wz (h_ldr 8 2 (.inr (by kernel_rfl)) (fun _ _ ag => ⟨.inl ⟨rfl, rfl⟩, ⟨.inr (.inl (dis1 (ag_ne ag (i := 2) (j := 0) rfl rfl (by decide)))), trivial⟩⟩) sz3 ag3 rfl rfl (vI r_6.1) rfl wz (h_op (vI (w64 (r_6.1 - 1))) wz rfl ?_))))
   obtain ⟨r_23, hr_24, hc_16⟩ := bind_some hc_16
   refine h_callq 10 [0] (.inr (by kernel_rfl)) (fun _ _ ag => by exact ⟨.inr (.inr (by kernel_rfl)), ⟨.inr (.inr (by kernel_rfl)), ⟨.inr (.inr (by kernel_rfl)), trivial⟩⟩⟩) (mk_Stream_Range_ok hr_24) rfl hb8 rfl (by kernel_rfl) (by kernel_rfl) (by kernel_rfl) (by kernel_rfl) (by kernel_rfl) (by kernel_rfl) (by kernel_rfl) (by decide) (by kernel_rfl) wz (vI r_23.1) (by kernel_rfl) ([((extN 0), some (.cells 2 [(vL eI r_23.2.L), (vI r_23.2.f_at)])), (n_2, some (.cells 4 [(vS (⟨#[]⟩ : ByteArray)), (vI 0), (vI 0), .nil])), (n_9, some (.cells 4 [(vS (⟨#[119]⟩ : ByteArray)), (vI r_3.1), (vI r_6.1), (vL Screen.enc s_15.2.2)]))] : Hp) (by kernel_rfl) (h_op (.d (.agg (Rect.enc (⟨r_20.1, r_23.1, 0, 0⟩ : Rect)))) wz (by kernel_rfl) (h_op (.d (.agg (Screen.enc (⟨x_12, (⟨r_20.1, r_23.1, 0, 0⟩ : Rect)⟩ : Screen)))) wz (by kernel_rfl) (h_alloc 13 (.inr (by kernel_rfl)) z123 rfl wz (fun n_26 => h_str 14 (.inr (by kernel_rfl)) (fun _ _ ag => ⟨.inr (.inr (by kernel_rfl)), ⟨.inr (.inr (by kernel_rfl)), ⟨.inr (.inr (by kernel_rfl)), ⟨.inr (.inr (by kernel_rfl)), ⟨.inr (.inr (by kernel_rfl)), trivial⟩⟩⟩⟩⟩) 3 sz123 rfl rfl [(vS x_12), (vI r_20.1), (vI r_23.1), (vI 0), (vI 0)] rfl wz (h_nil (wH_seq (wH_draws (h_op (.ref (extN 0) 0 0) wz rfl (h_far pl58_1 rfl 1 rfl wz (h_ldr 2 2 (.inr (by kernel_rfl)) (fun _ _ ag => trivial) sz3 ag3 rfl rfl (vI r_3.1) rfl wz (h_far pl123_1 rfl 1 rfl wz (h_far pl49_0 rfl 1 rfl wz (h_ldr 5 3 (.inr (by kernel_rfl)) (fun _ _ ag => ⟨.inl ⟨rfl, rfl⟩, trivial⟩) sz3 ag3 rfl rfl (vI r_20.1) rfl wz (h_op (vI (w64 (r_3.1 - r_20.1))) wz rfl ?_))))))))))))))
   obtain ⟨r_27, hr_28, hc_16⟩ := bind_some hc_16
   refine h_callq 7 [0] (.inr (by kernel_rfl)) (fun _ _ ag => by exact ⟨.inr (.inr (by kernel_rfl)), ⟨.inr (.inr (by kernel_rfl)), trivial⟩⟩) (mk_Stream_Range_ok hr_28) rfl hb8 rfl (by kernel_rfl) (by kernel_rfl) (by kernel_rfl) (by kernel_rfl) (by kernel_rfl) (by kernel_rfl) (by kernel_rfl) (by decide) (by kernel_rfl) wz (vI r_27.1) (by kernel_rfl) ([((extN 0), some (.cells 2 [(vL eI r_27.2.L), (vI r_27.2.f_at)])), (n_2, some (.cells 4 [(vS (⟨#[]⟩ : ByteArray)), (vI 0), (vI 0), .nil])), (n_9, some (.cells 4 [(vS (⟨#[119]⟩ : ByteArray)), (vI r_3.1), (vI r_6.1), (vL Screen.enc s_15.2.2)])), (n_26, some (.cells 5 [(vS x_12), (vI r_20.1), (vI r_23.1), (vI 0), (vI 0)]))] : Hp) (by kernel_rfl) (h_op (.ref (extN 0) 0 0) wz rfl (h_far pl58_2 rfl 2 rfl wz (h_ldr 10 2 (.inr (by kernel_rfl)) (fun _ _ ag => ⟨.inl ⟨rfl, rfl⟩, ⟨.inl ⟨rfl, rfl⟩, ⟨.inr (.inl (dis1 (ag_ne ag (i := 2) (j := 0) rfl rfl (by decide)))), trivial⟩⟩⟩) sz3 ag3 rfl rfl (vI r_6.1) rfl wz (h_far pl123_1 rfl 1 rfl wz (h_far pl49_1 rfl 2 rfl wz (h_ldr 13 3 (.inr (by kernel_rfl)) (fun _ _ ag => ⟨.inl ⟨rfl, rfl⟩, ⟨.inl ⟨rfl, rfl⟩, ⟨.inr (.inl (dis1 (ag_ne ag (i := 3) (j := 0) rfl rfl (by decide)))), ⟨.inl ⟨rfl, rfl⟩, trivial⟩⟩⟩⟩) sz3 ag3 rfl rfl (vI r_23.1) rfl wz (h_op (vI (w64 (r_6.1 - r_23.1))) wz rfl ?_)))))))
   obtain ⟨r_30, hr_31, hc_16⟩ := bind_some hc_16
   refine h_callq 15 [0] (.inr (by kernel_rfl)) (fun _ _ ag => by exact ⟨.inr (.inr (by kernel_rfl)), ⟨.inr (.inr (by kernel_rfl)), ⟨.inr (.inr (by kernel_rfl)), ⟨.inr (.inr (by kernel_rfl)), ⟨.inr (.inr (by kernel_rfl)), trivial⟩⟩⟩⟩⟩) (mk_Stream_Range_ok hr_31) rfl hb8 rfl (by kernel_rfl) (by kernel_rfl) (by kernel_rfl) (by kernel_rfl) (by kernel_rfl) (by kernel_rfl) (by kernel_rfl) (by decide) (by kernel_rfl) wz (vI r_30.1) (by kernel_rfl) ([((extN 0), some (.cells 2 [(vL eI r_30.2.L), (vI r_30.2.f_at)])), (n_2, some (.cells 4 [(vS (⟨#[]⟩ : ByteArray)), (vI 0), (vI 0), .nil])), (n_9, some (.cells 4 [(vS (⟨#[119]⟩ : ByteArray)), (vI r_3.1), (vI r_6.1), (vL Screen.enc s_15.2.2)])), (n_26, some (.cells 5 [(vS x_12), (vI r_20.1), (vI r_23.1), (vI 0), (vI 0)]))] : Hp) (by kernel_rfl) (h_far pl123_1 rfl 1 rfl wz (h_far pl49_2 rfl 3 rfl wz (h_str 18 (.inr (by kernel_rfl)) (fun _ _ ag => ⟨.inr (.inr (by kernel_rfl)), ⟨.inr (.inr (by kernel_rfl)), ⟨.inr (.inr (by kernel_rfl)), ⟨.inr (.inr (by kernel_rfl)), ⟨.inr (.inr (by kernel_rfl)), ⟨.inr (.inr (by kernel_rfl)), trivial⟩⟩⟩⟩⟩⟩) 3 sz3 rfl rfl [(vS x_12), (vI r_20.1), (vI r_23.1), (vI r_27.1), (vI 0)] rfl wz (h_far pl123_1 rfl 1 rfl wz (h_far pl49_3 rfl 4 rfl wz (h_str 21 (.inr (by kernel_rfl)) (fun _ _ ag => ⟨.inr (.inr (by kernel_rfl)), ⟨.inr (.inr (by kernel_rfl)), ⟨.inr (.inr (by kernel_rfl)), ⟨.inr (.inr (by kernel_rfl)), ⟨.inr (.inr (by kernel_rfl)), ⟨.inr (.inr (by kernel_rfl)), ⟨.inr (.inr (by kernel_rfl)), trivial⟩⟩⟩⟩⟩⟩⟩) 3 sz3 rfl rfl [(vS x_12), (vI r_20.1), (vI r_23.1), (vI r_27.1), (vI r_30.1)] rfl wz (h_nil (wH_at (H0 := ([((extN 0), some (.cells 2 [(vL eI r_30.2.L), (vI r_30.2.f_at)])), (n_2, some (.cells 4 [(vS (⟨#[]⟩ : ByteArray)), (vI 0), (vI 0), .nil])), (n_9, some (.cells 4 [(vS (⟨#[119]⟩ : ByteArray)), (vI r_3.1), (vI r_6.1), (vL Screen.enc s_15.2.2)])), (n_26, some (.cells 5 [(vS x_12), (vI r_20.1), (vI r_23.1), (vI r_27.1), (vI r_30.1)]))] : Hp)) ([(0, (.ref (extN 0) 0 0)), (2, (.ref n_2 0 0)), (3, (.ref n_9 0 0)), (6, (.ref n_26 0 0)), (16, (vL eS ([(⟨#[115, 97]⟩ : ByteArray), (⟨#[115, 98]⟩ : ByteArray), (⟨#[115, 99]⟩ : ByteArray), (⟨#[115, 100]⟩ : ByteArray)] : List ByteArray))), (17, (vI (([(⟨#[115, 97]⟩ : ByteArray), (⟨#[115, 98]⟩ : ByteArray), (⟨#[115, 99]⟩ : ByteArray), (⟨#[115, 100]⟩ : ByteArray)] : List ByteArray).length : Int))), (18, (vI (k_10 : Int)))] : List (Nat × V)) (by kernel_rfl) (pre_mk (by kernel_rfl)) (wH_seq (wH_draws (h_far pl58_3 rfl 3 rfl wz (h_ldr 1 2 (.inr (by kernel_rfl)) (fun _ _ ag => trivial) sz56 ag56 rfl rfl (vL Screen.enc s_15.2.2) rfl wz ?_))))))))))))
   obtain ⟨r_33, hr_34, hc_16⟩ := bind_some hc_16
   refine h_callgq 2 (.inr (by kernel_rfl)) (slices_Clone_api_Screen_api_Screen_okb hr_34) rfl hb81 (by kernel_rfl) (by kernel_rfl) (by kernel_rfl) wz (fun n_35 => h_ldr 3 3 (.inr (by kernel_rfl)) (fun _ _ ag => ⟨.inl ⟨rfl, rfl⟩, ⟨.inr (.inl (dis1 (ag_ne ag (i := 3) (j := 4) rfl rfl (by decide)))), trivial⟩⟩) sz123 ag123 rfl rfl (.d (.agg (Screen.enc (⟨x_12, (⟨r_20.1, r_23.1, r_27.1, r_30.1⟩ : Rect)⟩ : Screen)))) rfl wz (h_lit (([(⟨x_12, (⟨r_20.1, r_23.1, r_27.1, r_30.1⟩ : Rect)⟩ : Screen)] : List Screen).map Screen.enc) es56 ez56 rfl rfl rfl rfl rfl wz ?_))
   obtain ⟨a_36, hz_37, hc_16⟩ := bind_some hc_16
   refine h_appg 5 (.inr (by kernel_rfl)) (fun _ _ ag => ⟨.inr (.inr (by kernel_rfl)), ⟨.inr (.inr (by kernel_rfl)), ⟨.inr (.inr (by kernel_rfl)), trivial⟩⟩⟩) (i := 4) el56 el56 sz123 z123 rfl (by decide) by123 (by decide) (fun _ => rfl) rfl rfl rfl hz_37 wz (fun n_38 => h_op (gV n_38 5 a_36) wz rfl (h_nil (wH_seq (wH_region (h_ldr 0 2 (.inl rfl) (fun _ _ _ => trivial) sz58 ag58 rfl rfl (.d (.agg (Wall.enc (⟨(⟨#[119]⟩ : ByteArray), r_3.1, r_6.1, s_15.2.2⟩ : Wall)))) rfl wz (h_alloc 0 (.inl rfl) z58 rfl wz (fun n_39 => h_str 0 (.inl rfl) (fun _ _ _ => trivial) 5 sz58 rfl rfl [(vS (⟨#[119]⟩ : ByteArray)), (vI r_3.1), (vI r_6.1), (vL Screen.enc s_15.2.2)] rfl wz (h_nil (wH_seq (wH_region (h_op (.ref (extN 0) 0 0) wz rfl ?_)))))))))))
   obtain ⟨r_40, hr_41, hc_16⟩ := bind_some hc_16
   refine h_callq 0 [0] (.inl rfl) (fun _ _ _ => trivial) (mk_Stream_Flip_ok hr_41) rfl hb9 rfl (by kernel_rfl) (by kernel_rfl) (by kernel_rfl) (by kernel_rfl) (by kernel_rfl) (by kernel_rfl) (by kernel_rfl) (by decide) (by kernel_rfl) wz (vB r_40.1) (by kernel_rfl) ([((extN 0), some (.cells 2 [(vL eI r_40.2.L), (vI r_40.2.f_at)])), (n_2, some (.cells 4 [(vS (⟨#[]⟩ : ByteArray)), (vI 0), (vI 0), .nil])), (n_9, some (.cells 4 [(vS (⟨#[119]⟩ : ByteArray)), (vI r_3.1), (vI r_6.1), (vL Screen.enc s_15.2.2)])), (n_26, some (.cells 5 [(vS x_12), (vI r_20.1), (vI r_23.1), (vI r_27.1), (vI r_30.1)])), (n_38, gB 5 Screen.enc a_36), (n_39, some (.cells 4 [(vS (⟨#[119]⟩ : ByteArray)), (vI r_3.1), (vI r_6.1), (vL Screen.enc s_15.2.2)]))] : Hp) (by kernel_rfl) (h_op (vB (!r_40.1)) wz rfl (h_nil ?_))
   obtain ⟨v_43, h_44, hc_16⟩ := bind_some hc_16
   refine wH_join (β := Unit) (fun _ => ([(0, (.ref (extN 0) 0 0)), (2, (.ref n_2 0 0)), (3, (.ref n_9 0 0)), (16, (vL eS ([(⟨#[115, 97]⟩ : ByteArray), (⟨#[115, 98]⟩ : ByteArray), (⟨#[115, 99]⟩ : ByteArray), (⟨#[115, 100]⟩ : ByteArray)] : List ByteArray))), (17, (vI (([(⟨#[115, 97]⟩ : ByteArray), (⟨#[115, 98]⟩ : ByteArray), (⟨#[115, 99]⟩ : ByteArray), (⟨#[115, 100]⟩ : ByteArray)] : List ByteArray).length : Int))), (18, (vI (k_10 : Int)))] : List (Nat × V))) (fun _ => ([((extN 0), some (.cells 2 [(vL eI r_40.2.L), (vI r_40.2.f_at)])), (n_2, some (.cells 4 [(vS (⟨#[]⟩ : ByteArray)), (vI 0), (vI 0), .nil])), (n_9, some (.cells 4 [(vS (⟨#[119]⟩ : ByteArray)), (vI r_3.1), (vI r_6.1), (vL Screen.enc v_43.1)])), (n_26, some (.cells 5 [(vS x_12), (vI r_20.1), (vI r_23.1), (vI r_27.1), (vI r_30.1)])), (n_39, some (.cells 4 [(vS (⟨#[119]⟩ : ByteArray)), (vI r_3.1), (vI r_6.1), (vL Screen.enc v_43.2)]))] : Hp)) (fun _ => True) ?_ ?_
   ·rcases cond_some h_44 with ⟨hc_45, h_44⟩ | ⟨hc_45, h_44⟩
    ·refine wH_ift rfl hc_45 (wH_seq (wH_region (h_op (gV n_38 5 a_36) wz rfl (h_far pl58_3 rfl 3 rfl wz (h_str 0 (.inl rfl) (fun _ _ _ => trivial) 5 sz56 rfl rfl [(vS (⟨#[119]⟩ : ByteArray)), (vI r_3.1), (vI r_6.1), (gV n_38 5 a_36)] (stC_g rfl) wz (h_nil (wH_seq (wH_frozg 4 rfl (wH_cog 7 4 rfl rfl (wH_cog 60 4 rfl rfl (wH_cog 65 4 rfl rfl (wH_coc 4 5 [(vS (⟨#[119]⟩ : ByteArray)), (vI r_3.1), (vI r_6.1), (vL Screen.enc a_36)] rfl rfl (fun S hS => cons_eq (rfl) (cons_eq (rfl) (cons_eq (rfl) (cons_eq (hS) (rfl))))) (wH_region (h_ldr 0 5 (.inl rfl) (fun _ _ _ => trivial) sz58 ag58 rfl rfl (.d (.agg (Wall.enc (⟨(⟨#[119]⟩ : ByteArray), r_3.1, r_6.1, a_36⟩ : Wall)))) rfl wz ?_))))))))))))))
     obtain ⟨r_46, hr_47, h_44⟩ := bind_some h_44
     refine h_call0 (ref_WallFault_ok hr_47) rfl hb29 rfl rfl rfl rfl wz (h_op (vB (r_46 == 0)) wz rfl (h_nil ?_))
     rcases cond_some h_44 with ⟨hc_48, h_44⟩ | ⟨hc_48, h_44⟩
     ·refine wH_ift rfl hc_48 (wH_region (h_ldr 0 5 (.inl rfl) (fun _ _ _ => trivial) sz58 ag58 rfl rfl (.d (.agg (Wall.enc (⟨(⟨#[119]⟩ : ByteArray), r_3.1, r_6.1, a_36⟩ : Wall)))) rfl wz (h_str 0 (.inl rfl) (fun _ _ _ => trivial) 2 sz58 rfl rfl [(vS (⟨#[119]⟩ : ByteArray)), (vI r_3.1), (vI r_6.1), (vL Screen.enc a_36)] rfl wz (h_nil ?_))))
      obtain rfl := some_inj h_44
      exact cut_mk () trivial rfl (pre_is [0, 1, 2, 3, 5] (by decide) rfl)
     ·refine wH_iff rfl hc_48 (wH_skip ?_)
      obtain rfl := some_inj h_44
      exact cut_mk () trivial rfl (pre_is [0, 1, 2, 3, 5] (by decide) rfl)
    ·refine wH_iff rfl hc_45 (wH_skip ?_)
     obtain rfl := some_inj h_44
     exact cut_mk () trivial rfl (pre_is [0, 1, 2, 3, 5] (by decide) rfl)
   ·rintro ⟨⟩ _ sl_ H_ hp_ hq_
    refine wH_at _ hp_ hq_ (wH_region (h_opw (w64_next hD_13 hn_14) wz rfl (h_op (vI ((k_10 + 1 : Nat) : Int)) wz rfl (h_nil ?_))))
    obtain rfl := some_inj hc_16
    exact loop_mk (k_10 + 1, l_11, (r_40.2.L, r_40.2.f_at, v_43.1)) ⟨hL_17, drop_next hD_13⟩ (Nat.lt_succ_self _) rfl (pre_r rfl)
 ·rintro s_15 ho_ sl_ H_ hp_ hq_
  subst ho_
  refine wH_at _ hp_ hq_ (wH_seq (wH_region (h_ldr 0 2 (.inl rfl) (fun _ _ _ => trivial) sz58 ag58 rfl rfl (.d (.agg (Wall.enc (⟨(⟨#[119]⟩ : ByteArray), r_3.1, r_6.1, s_15.2.2⟩ : Wall)))) rfl wz (h_str 0 (.inl rfl) (fun _ _ _ => trivial) 1 sz58 rfl rfl [(vS (⟨#[119]⟩ : ByteArray)), (vI r_3.1), (vI r_6.1), (vL Screen.enc s_15.2.2)] rfl wz (h_nil ?_)))))
  obtain rfl := some_inj hF
  exact wH_ret (finB (.inr rfl) [(.d (.agg (Wall.enc (⟨(⟨#[119]⟩ : ByteArray), r_3.1, r_6.1, s_15.2.2⟩ : Wall))))] _ [0] [extN 0] ⟨⟨1, _, _, _, _, _, _, _, rfl, rfl, sz58, ag58, rfl⟩, trivial⟩ (.cons (co_data rfl rfl) (.nil)) (by kernel_rfl) ⟨(by kernel_rfl), trivial⟩ (by decide) (by kernel_rfl))
theorem mk_Stream_Wall_ok {s_1 : Stream} {r : Wall × Stream} (hF : mk_Stream_Wall s_1 = some r) :
  FnM Tryz.prog 24 [(.ref (extN 0) 0 0)] [(.cells 2 [(vL eI s_1.L), (vI s_1.f_at)])] (.d (.agg (Wall.enc r.1))) [some (.cells 2 [(vL eI r.2.L), (vI r.2.f_at)])] := by
 refine FnM.of_wH ⟨Tryz.prog, 34, [], []⟩ rfl Tryz.func24 rfl rfl (Nat.le_of_ble_eq_true rfl) (by kernel_rfl) ?_
 unfold mk_Stream_Wall at hF
 refine wH_seq (wH_region (h_alloc 0 (.inl rfl) z58 rfl wz (fun n_2 => h_nil (wH_seq (wH_region (h_op (.ref (extN 0) 0 0) wz rfl ?_))))))
 obtain ⟨r_3, hr_4, hF⟩ := bind_some hF
 refine h_callq 0 [0] (.inl rfl) (fun _ _ _ => trivial) (mk_Stream_RightWall_ok hr_4) rfl hb80 rfl (by kernel_rfl) (by kernel_rfl) (by kernel_rfl) (by kernel_rfl) (by kernel_rfl) (by kernel_rfl) (by kernel_rfl) (by decide) (by kernel_rfl) wz (.d (.agg (Wall.enc r_3.1))) (by kernel_rfl) ([((extN 0), some (.cells 2 [(vL eI r_3.2.L), (vI r_3.2.f_at)])), (n_2, some (.cells 4 [(vS (⟨#[]⟩ : ByteArray)), (vI 0), (vI 0), .nil]))] : Hp) (by kernel_rfl) (h_alloc 0 (.inl rfl) z58 rfl wz (fun n_6 => h_str 0 (.inl rfl) (fun _ _ _ => trivial) 2 sz58 rfl rfl [(vS r_3.1.Key), (vI r_3.1.W), (vI r_3.1.H), (vL Screen.enc r_3.1.Screens)] rfl wz (h_nil (wH_seq (wH_seq (wH_region (h_op (.ref (extN 0) 0 0) wz rfl ?_)))))))
 obtain ⟨r_7, hr_8, hF⟩ := bind_some hF
 refine h_callq 0 [0] (.inl rfl) (fun _ _ _ => trivial) (mk_Stream_Flip_ok hr_8) rfl hb9 rfl (by kernel_rfl) (by kernel_rfl) (by kernel_rfl) (by kernel_rfl) (by kernel_rfl) (by kernel_rfl) (by kernel_rfl) (by decide) (by kernel_rfl) wz (vB r_7.1) (by kernel_rfl) ([((extN 0), some (.cells 2 [(vL eI r_7.2.L), (vI r_7.2.f_at)])), (n_2, some (.cells 4 [(vS (⟨#[]⟩ : ByteArray)), (vI 0), (vI 0), .nil])), (n_6, some (.cells 4 [(vS r_3.1.Key), (vI r_3.1.W), (vI r_3.1.H), (vL Screen.enc r_3.1.Screens)]))] : Hp) (by kernel_rfl) (h_nil ?_)
 obtain ⟨v_12, h_13, hF⟩ := bind_some hF
 refine wH_join (β := Unit) (fun _ => ([(2, (.ref n_2 0 0)), (3, (.ref n_6 0 0))] : List (Nat × V))) (fun _ => ([((extN 0), some (.cells 2 [(vL eI v_12.1), (vI v_12.2.1)])), (n_2, some (.cells 4 [(vS (⟨#[]⟩ : ByteArray)), (vI 0), (vI 0), .nil])), (n_6, some (.cells 4 [(vS v_12.2.2.1), (vI v_12.2.2.2.1), (vI r_3.1.H), (vL Screen.enc v_12.2.2.2.2)]))] : Hp)) (fun _ => True) ?_ ?_
 ·rcases cond_some h_13 with ⟨hc_14, h_13⟩ | ⟨hc_14, h_13⟩
  ·refine wH_ift rfl hc_14 (wH_seq (wH_region (h_op (.ref (extN 0) 0 0) wz rfl ?_)))
   obtain ⟨r_15, hr_16, h_13⟩ := bind_some h_13
   refine h_callq 0 [0] (.inl rfl) (fun _ _ _ => trivial) (mk_Stream_Next_ok hr_16) rfl hb57 rfl (by kernel_rfl) (by kernel_rfl) (by kernel_rfl) (by kernel_rfl) (by kernel_rfl) (by kernel_rfl) (by kernel_rfl) (by decide) (by kernel_rfl) wz (vI r_15.1) (by kernel_rfl) ([((extN 0), some (.cells 2 [(vL eI r_15.2.L), (vI r_15.2.f_at)])), (n_2, some (.cells 4 [(vS (⟨#[]⟩ : ByteArray)), (vI 0), (vI 0), .nil])), (n_6, some (.cells 4 [(vS r_3.1.Key), (vI r_3.1.W), (vI r_3.1.H), (vL Screen.enc r_3.1.Screens)]))] : Hp) (by kernel_rfl) (h_nil (wH_block (wH_seq (wH_region (h_op (vB (r_15.1 == 0)) wz rfl (h_op (vB (r_15.1 == 0)) wz rfl (h_nil ?_)))))))
   rcases cond_some h_13 with ⟨hc_18, h_13⟩ | ⟨hc_18, h_13⟩
   ·refine wH_ift rfl hc_18 (wH_region (h_op (.ref (extN 0) 0 0) wz rfl (h_lit (([(⟨#[]⟩ : ByteArray), (⟨#[65]⟩ : ByteArray)] : List ByteArray).map eS) es38 ez38 rfl rfl rfl rfl rfl wz ?_)))
    obtain ⟨r_19, hr_20, h_13⟩ := bind_some h_13
    refine h_callq 0 [0] (.inl rfl) (fun _ _ _ => trivial) (mk_Stream_Some_ok hr_20) rfl hb58 rfl (by kernel_rfl) (by kernel_rfl) (by kernel_rfl) (by kernel_rfl) (by kernel_rfl) (by kernel_rfl) (by kernel_rfl) (by decide) (by kernel_rfl) wz (vS r_19.1) (by kernel_rfl) ([((extN 0), some (.cells 2 [(vL eI r_19.2.L), (vI r_19.2.f_at)])), (n_2, some (.cells 4 [(vS (⟨#[]⟩ : ByteArray)), (vI 0), (vI 0), .nil])), (n_6, some (.cells 4 [(vS r_3.1.Key), (vI r_3.1.W), (vI r_3.1.H), (vL Screen.enc r_3.1.Screens)]))] : Hp) (by kernel_rfl) (h_far pl58_0 rfl 0 rfl wz (h_str 0 (.inl rfl) (fun _ _ _ => trivial) 2 sz9 rfl rfl [(vS r_19.1), (vI r_3.1.W), (vI r_3.1.H), (vL Screen.enc r_3.1.Screens)] rfl wz (h_nil ?_)))
    obtain rfl := some_inj h_13
    exact cut_mk () trivial rfl (pre_r rfl)
   ·refine wH_iff rfl hc_18 (wH_seq (wH_region (h_op (vB (r_15.1 == 1)) wz rfl (h_op (vB (r_15.1 == 1)) wz rfl (h_nil ?_)))))
    rcases cond_some h_13 with ⟨hc_22, h_13⟩ | ⟨hc_22, h_13⟩
    ·refine wH_ift rfl hc_22 (wH_region (h_op (.ref (extN 0) 0 0) wz rfl ?_))
     obtain ⟨r_23, hr_24, h_13⟩ := bind_some h_13
     refine h_callq 0 [0] (.inl rfl) (fun _ _ _ => trivial) (mk_Stream_Odd_ok hr_24) rfl hb10 rfl (by kernel_rfl) (by kernel_rfl) (by kernel_rfl) (by kernel_rfl) (by kernel_rfl) (by kernel_rfl) (by kernel_rfl) (by decide) (by kernel_rfl) wz (vI r_23.1) (by kernel_rfl) ([((extN 0), some (.cells 2 [(vL eI r_23.2.L), (vI r_23.2.f_at)])), (n_2, some (.cells 4 [(vS (⟨#[]⟩ : ByteArray)), (vI 0), (vI 0), .nil])), (n_6, some (.cells 4 [(vS r_3.1.Key), (vI r_3.1.W), (vI r_3.1.H), (vL Screen.enc r_3.1.Screens)]))] : Hp) (by kernel_rfl) (h_far pl58_1 rfl 1 rfl wz (h_str 0 (.inl rfl) (fun _ _ _ => trivial) 2 sz3 rfl rfl [(vS r_3.1.Key), (vI r_23.1), (vI r_3.1.H), (vL Screen.enc r_3.1.Screens)] rfl wz (h_nil ?_)))
     obtain rfl := some_inj h_13
     exact cut_mk () trivial rfl (pre_r rfl)
    ·refine wH_iff rfl hc_22 (wH_region (h_far pl58_3 rfl 3 rfl wz (h_ldr 0 2 (.inl rfl) (fun _ _ _ => trivial) sz56 ag56 rfl rfl (vL Screen.enc r_3.1.Screens) rfl wz ?_)))
     obtain ⟨r_26, hr_27, h_13⟩ := bind_some h_13
     refine h_callg [] (slices_Clone_api_Screen_api_Screen_okb hr_27) rfl hb81 rfl (by kernel_rfl) (by kernel_rfl) (by kernel_rfl) (by kernel_rfl) (by kernel_rfl) rfl (by decide) (by kernel_rfl) wz ([((extN 0), some (.cells 2 [(vL eI r_15.2.L), (vI r_15.2.f_at)])), (n_2, some (.cells 4 [(vS (⟨#[]⟩ : ByteArray)), (vI 0), (vI 0), .nil])), (n_6, some (.cells 4 [(vS r_3.1.Key), (vI r_3.1.W), (vI r_3.1.H), (vL Screen.enc r_3.1.Screens)]))] : Hp) (fun _ => by kernel_rfl) (fun n_29 => h_op (.ref (extN 0) 0 0) wz rfl (h_lit (([(⟨#[]⟩ : ByteArray), (⟨#[115, 97]⟩ : ByteArray), (⟨#[115, 122]⟩ : ByteArray)] : List ByteArray).map eS) es38 ez38 rfl rfl rfl rfl rfl wz ?_))
     obtain ⟨r_30, hr_31, h_13⟩ := bind_some h_13
     refine h_callq 0 [0] (.inl rfl) (fun _ _ _ => trivial) (mk_Stream_Some_ok hr_31) rfl hb58 rfl (by kernel_rfl) (by kernel_rfl) (by kernel_rfl) (by kernel_rfl) (by kernel_rfl) (by kernel_rfl) (by kernel_rfl) (by decide) (by kernel_rfl) wz (vS r_30.1) (by kernel_rfl) ([((extN 0), some (.cells 2 [(vL eI r_30.2.L), (vI r_30.2.f_at)])), (n_2, some (.cells 4 [(vS (⟨#[]⟩ : ByteArray)), (vI 0), (vI 0), .nil])), (n_6, some (.cells 4 [(vS r_3.1.Key), (vI r_3.1.W), (vI r_3.1.H), (vL Screen.enc r_3.1.Screens)])), (n_29, gB 5 Screen.enc r_26)] : Hp) (by kernel_rfl) (h_op (.ref (extN 0) 0 0) wz rfl ?_)
     obtain ⟨r_33, hr_34, h_13⟩ := bind_some h_13
     refine h_callq 0 [0] (.inl rfl) (fun _ _ _ => trivial) (mk_Stream_Rect_ok hr_34) rfl hb25 rfl (by kernel_rfl) (by kernel_rfl) (by kernel_rfl) (by kernel_rfl) (by kernel_rfl) (by kernel_rfl) (by kernel_rfl) (by decide) (by kernel_rfl) wz (.d (.agg (Rect.enc r_33.1))) (by kernel_rfl) ([((extN 0), some (.cells 2 [(vL eI r_33.2.L), (vI r_33.2.f_at)])), (n_2, some (.cells 4 [(vS (⟨#[]⟩ : ByteArray)), (vI 0), (vI 0), .nil])), (n_6, some (.cells 4 [(vS r_3.1.Key), (vI r_3.1.W), (vI r_3.1.H), (vL Screen.enc r_3.1.Screens)])), (n_29, gB 5 Screen.enc r_26)] : Hp) (by kernel_rfl) (h_op (.d (.agg (Screen.enc (⟨r_30.1, r_33.1⟩ : Screen)))) wz (by kernel_rfl) (h_lit (([(⟨r_30.1, r_33.1⟩ : Screen)] : List Screen).map Screen.enc) es56 ez56 rfl rfl rfl rfl rfl wz ?_))
     obtain ⟨a_36, hz_37, h_13⟩ := bind_some h_13
     refine h_appg 0 (.inl rfl) (fun _ _ _ => trivial) (i := 3) el56 el56 sz123 z123 rfl (by decide) by123 (by decide) (fun _ => rfl) rfl rfl rfl hz_37 wz (fun n_38 => h_far pl58_3 rfl 3 rfl wz (h_ghost (fun hw => wH_frozg 3 rfl hw) (by kernel_rfl) (h_ghost (fun hw => wH_cog 20 3 rfl rfl hw) (by kernel_rfl) (h_str 0 (.inl rfl) (fun _ _ _ => trivial) 2 sz56 rfl rfl [(vS r_3.1.Key), (vI r_3.1.W), (vI r_3.1.H), (vL Screen.enc a_36)] rfl wz (h_nil ?_)))))
     obtain rfl := some_inj h_13
     exact cut_mk () trivial rfl (pre_r rfl)
  ·refine wH_iff rfl hc_14 (wH_skip ?_)
   obtain rfl := some_inj h_13
   exact cut_mk () trivial rfl (pre_r rfl)
 ·rintro ⟨⟩ _ sl_ H_ hp_ hq_
  refine wH_at _ hp_ hq_ (wH_seq (wH_region (h_ldr 0 2 (.inl rfl) (fun _ _ _ => trivial) sz58 ag58 rfl rfl (.d (.agg (Wall.enc (⟨v_12.2.2.1, v_12.2.2.2.1, r_3.1.H, v_12.2.2.2.2⟩ : Wall)))) rfl wz (h_str 0 (.inl rfl) (fun _ _ _ => trivial) 1 sz58 rfl rfl [(vS v_12.2.2.1), (vI v_12.2.2.2.1), (vI r_3.1.H), (vL Screen.enc v_12.2.2.2.2)] rfl wz (h_nil ?_)))))
  obtain rfl := some_inj hF
  exact wH_ret (finB (.inr rfl) [(.d (.agg (Wall.enc (⟨v_12.2.2.1, v_12.2.2.2.1, r_3.1.H, v_12.2.2.2.2⟩ : Wall))))] _ [0] [extN 0] ⟨⟨1, _, _, _, _, _, _, _, rfl, rfl, sz58, ag58, rfl⟩, trivial⟩ (.cons (co_data rfl rfl) (.nil)) (by kernel_rfl) ⟨(by kernel_rfl), trivial⟩ (by decide) (by kernel_rfl))
theorem screen_meet_ok {a_1 : Rect} {b_2 : Rect} {r : Rect × Bool} (hF : screen_meet a_1 b_2 = some r) :
  FnM Tryz.prog 86 [(.d (.agg (Rect.enc a_1))), (.d (.agg (Rect.enc b_2)))] [] (.tup [(.d (.agg (Rect.enc r.1))), (vB r.2)]) [] := by
 refine FnM.of_wH ⟨Tryz.prog, 58, [], []⟩ rfl Tryz.func86 rfl rfl (Nat.le_of_ble_eq_true rfl) (by kernel_rfl) ?_
 unfold screen_meet at hF
 refine wH_seq (wH_region (h_box 0 (.inl rfl) [(vI a_1.X), (vI a_1.Y), (vI a_1.W), (vI a_1.H)] rfl rfl wz (fun n_3 => h_box 0 (.inl rfl) [(vI b_2.X), (vI b_2.Y), (vI b_2.W), (vI b_2.H)] rfl rfl wz (fun n_4 => h_alloc 0 (.inl rfl) z49 rfl wz (fun n_5 => h_op (vB false) wz rfl (h_nil (wH_seq (wH_draws (h_far pl49_0 rfl 0 rfl wz (h_ldr 1 0 (.inr (by kernel_rfl)) (fun _ _ ag => trivial) sz3 ag3 rfl rfl (vI a_1.X) rfl wz (h_far pl49_0 rfl 0 rfl wz (h_ldr 3 1 (.inr (by kernel_rfl)) (fun _ _ ag => ⟨.inl ⟨rfl, rfl⟩, trivial⟩) sz3 ag3 rfl rfl (vI b_2.X) rfl wz (h_minmax (vI (maxI a_1.X b_2.X)) rfl (.inr rfl) wz (h_far pl49_1 rfl 1 rfl wz (h_ldr 6 0 (.inr (by kernel_rfl)) (fun _ _ ag => ⟨.inl ⟨rfl, rfl⟩, ⟨.inl ⟨rfl, rfl⟩, trivial⟩⟩) sz3 ag3 rfl rfl (vI a_1.Y) rfl wz (h_far pl49_1 rfl 1 rfl wz (h_ldr 8 1 (.inr (by kernel_rfl)) (fun _ _ ag => ⟨.inl ⟨rfl, rfl⟩, ⟨.inl ⟨rfl, rfl⟩, ⟨.inl ⟨rfl, rfl⟩, trivial⟩⟩⟩) sz3 ag3 rfl rfl (vI b_2.Y) rfl wz (h_minmax (vI (maxI a_1.Y b_2.Y)) rfl (.inr rfl) wz (h_op (vI (maxI a_1.X b_2.X)) wz rfl (h_op (vI (maxI a_1.Y b_2.Y)) wz rfl (h_nil (wH_seq (wH_draws ?_)))))))))))))))))))))))
 refine h_far pl49_0 rfl 0 rfl wz (h_ldr 1 0 (.inr (by kernel_rfl)) (fun _ _ ag => trivial) sz3 ag3 rfl rfl (vI a_1.X) rfl wz (h_far pl49_2 rfl 2 rfl wz (h_ldr 3 0 (.inr (by kernel_rfl)) (fun _ _ ag => ⟨.inl ⟨rfl, rfl⟩, trivial⟩) sz3 ag3 rfl rfl (vI a_1.W) rfl wz (h_op (vI (w64 (a_1.X + a_1.W))) wz rfl (h_far pl49_0 rfl 0 rfl wz (h_ldr 6 1 (.inr (by kernel_rfl)) (fun _ _ ag => ⟨.inl ⟨rfl, rfl⟩, ⟨.inl ⟨rfl, rfl⟩, trivial⟩⟩) sz3 ag3 rfl rfl (vI b_2.X) rfl wz (h_far pl49_2 rfl 2 rfl wz (h_ldr 8 1 (.inr (by kernel_rfl)) (fun _ _ ag => ⟨.inl ⟨rfl, rfl⟩, ⟨.inl ⟨rfl, rfl⟩, ⟨.inl ⟨rfl, rfl⟩, trivial⟩⟩⟩) sz3 ag3 rfl rfl (vI b_2.W) rfl wz (h_op (vI (w64 (b_2.X + b_2.W))) wz rfl (h_minmax (vI (minI (w64 (a_1.X + a_1.W)) (w64 (b_2.X + b_2.W)))) rfl (.inl rfl) wz (h_op (vI (maxI a_1.X b_2.X)) wz rfl (h_op (vI (w64 ((minI (w64 (a_1.X + a_1.W)) (w64 (b_2.X + b_2.W))) - (maxI a_1.X b_2.X)))) wz rfl (h_far pl49_1 rfl 1 rfl wz (h_ldr 14 0 (.inr (by kernel_rfl)) (fun _ _ ag => ⟨.inl ⟨rfl, rfl⟩, ⟨.inl ⟨rfl, rfl⟩, ⟨.inl ⟨rfl, rfl⟩, ⟨.inl ⟨rfl, rfl⟩, trivial⟩⟩⟩⟩) sz3 ag3 rfl rfl (vI a_1.Y) rfl wz (h_far pl49_3 rfl 3 rfl wz (h_ldr 16 0 (.inr (by kernel_rfl)) (fun _ _ ag => ⟨.inl ⟨rfl, rfl⟩, ⟨.inl ⟨rfl, rfl⟩, ⟨.inl ⟨rfl, rfl⟩, ⟨.inl ⟨rfl, rfl⟩, ⟨.inl ⟨rfl, rfl⟩, trivial⟩⟩⟩⟩⟩) sz3 ag3 rfl rfl (vI a_1.H) rfl wz (h_op (vI (w64 (a_1.Y + a_1.H))) wz rfl (h_far pl49_1 rfl 1 rfl wz (h_ldr 19 1 (.inr (by kernel_rfl)) (fun _ _ ag => ⟨.inl ⟨rfl, rfl⟩, ⟨.inl ⟨rfl, rfl⟩, ⟨.inl ⟨rfl, rfl⟩, ⟨.inl ⟨rfl, rfl⟩, ⟨.inl ⟨rfl, rfl⟩, ⟨.inl ⟨rfl, rfl⟩, trivial⟩⟩⟩⟩⟩⟩) sz3 ag3 rfl rfl (vI b_2.Y) rfl wz (h_far pl49_3 rfl 3 rfl wz (h_ldr 21 1 (.inr (by kernel_rfl)) (fun _ _ ag => ⟨.inl ⟨rfl, rfl⟩, ⟨.inl ⟨rfl, rfl⟩, ⟨.inl ⟨rfl, rfl⟩, ⟨.inl ⟨rfl, rfl⟩, ⟨.inl ⟨rfl, rfl⟩, ⟨.inl ⟨rfl, rfl⟩, ⟨.inl ⟨rfl, rfl⟩, trivial⟩⟩⟩⟩⟩⟩⟩) sz3 ag3 rfl rfl (vI b_2.H) rfl wz (h_op (vI (w64 (b_2.Y + b_2.H))) wz rfl (h_minmax (vI (minI (w64 (a_1.Y + a_1.H)) (w64 (b_2.Y + b_2.H)))) rfl (.inl rfl) wz ?_)))))))))))))))))))))))
 refine h_op (vI (maxI a_1.Y b_2.Y)) wz rfl (h_op (vI (w64 ((minI (w64 (a_1.Y + a_1.H)) (w64 (b_2.Y + b_2.H))) - (maxI a_1.Y b_2.Y)))) wz rfl (h_op (vI (w64 ((minI (w64 (a_1.X + a_1.W)) (w64 (b_2.X + b_2.W))) - (maxI a_1.X b_2.X)))) wz rfl (h_op (vI (w64 ((minI (w64 (a_1.Y + a_1.H)) (w64 (b_2.Y + b_2.H))) - (maxI a_1.Y b_2.Y)))) wz rfl (h_nil (wH_at (H0 := ([(n_3, some (.cells 4 [(vI a_1.X), (vI a_1.Y), (vI a_1.W), (vI a_1.H)])), (n_4, some (.cells 4 [(vI b_2.X), (vI b_2.Y), (vI b_2.W), (vI b_2.H)])), (n_5, some (.cells 4 [(vI 0), (vI 0), (vI 0), (vI 0)]))] : Hp)) ([(4, (.ref n_5 0 0)), (6, (vI (maxI a_1.X b_2.X))), (7, (vI (maxI a_1.Y b_2.Y))), (8, (vI (w64 ((minI (w64 (a_1.X + a_1.W)) (w64 (b_2.X + b_2.W))) - (maxI a_1.X b_2.X))))), (9, (vI (w64 ((minI (w64 (a_1.Y + a_1.H)) (w64 (b_2.Y + b_2.H))) - (maxI a_1.Y b_2.Y)))))] : List (Nat × V)) (by kernel_rfl) (pre_mk (by kernel_rfl)) (wH_seq (wH_seq ?_)))))))
 obtain ⟨v_6, h_7, hF⟩ := bind_some hF
 refine wH_join (β := Unit) (fun _ => ([(4, (.ref n_5 0 0)), (6, (vI (maxI a_1.X b_2.X))), (7, (vI (maxI a_1.Y b_2.Y))), (8, (vI (w64 ((minI (w64 (a_1.X + a_1.W)) (w64 (b_2.X + b_2.W))) - (maxI a_1.X b_2.X))))), (9, (vI (w64 ((minI (w64 (a_1.Y + a_1.H)) (w64 (b_2.Y + b_2.H))) - (maxI a_1.Y b_2.Y))))), (51, (vB v_6))] : List (Nat × V))) (fun _ => ([(n_3, some (.cells 4 [(vI a_1.X), (vI a_1.Y), (vI a_1.W), (vI a_1.H)])), (n_4, some (.cells 4 [(vI b_2.X), (vI b_2.Y), (vI b_2.W), (vI b_2.H)])), (n_5, some (.cells 4 [(vI 0), (vI 0), (vI 0), (vI 0)]))] : Hp)) (fun _ => True) ?_ ?_
 ·refine wH_region (h_op (vI (w64 ((minI (w64 (a_1.X + a_1.W)) (w64 (b_2.X + b_2.W))) - (maxI a_1.X b_2.X)))) wz rfl (h_op (vB (decide ((w64 ((minI (w64 (a_1.X + a_1.W)) (w64 (b_2.X + b_2.W))) - (maxI a_1.X b_2.X))) ≤ 0))) wz rfl ?_))
  rcases cond_some h_7 with ⟨hc_8, h_7⟩ | ⟨hc_8, h_7⟩
  ·refine h_movb rfl hc_8 wz (h_skip (wg rfl rfl rfl) (h_skip (wg rfl rfl rfl) (h_op (vB true) wz rfl (h_nil ?_))))
   obtain rfl := some_inj h_7
   exact cut_mk () trivial rfl (pre_r rfl)
  ·refine h_movb rfl hc_8 wz (h_op (vI (w64 ((minI (w64 (a_1.Y + a_1.H)) (w64 (b_2.Y + b_2.H))) - (maxI a_1.Y b_2.Y)))) (wg rfl rfl rfl) rfl (h_op (vB (decide ((w64 ((minI (w64 (a_1.Y + a_1.H)) (w64 (b_2.Y + b_2.H))) - (maxI a_1.Y b_2.Y))) ≤ 0))) (wg rfl rfl rfl) rfl (h_op (vB (decide ((w64 ((minI (w64 (a_1.Y + a_1.H)) (w64 (b_2.Y + b_2.H))) - (maxI a_1.Y b_2.Y))) ≤ 0))) wz rfl (h_nil ?_))))
   obtain rfl := some_inj h_7
   exact cut_mk () trivial rfl (pre_r rfl)
 ·rintro ⟨⟩ _ sl_ H_ hp_ hq_
  refine wH_at _ hp_ hq_ ?_
  rcases cond_some hF with ⟨hc_9, hF⟩ | ⟨hc_9, hF⟩
  ·refine wH_ift rfl hc_9 (wH_seq (wH_region (h_op (.d (.agg (Rect.enc (⟨0, 0, 0, 0⟩ : Rect)))) wz (by kernel_rfl) (h_str 0 (.inl rfl) (fun _ _ _ => trivial) 2 sz49 rfl rfl [(vI 0), (vI 0), (vI 0), (vI 0)] rfl wz (h_op (vB false) wz rfl (h_nil ?_))))))
   obtain rfl := some_inj hF
   exact wH_ret (fin0 (.inr rfl) [(.d (.agg (Rect.enc (⟨0, 0, 0, 0⟩ : Rect)))), (vB false)] ⟨⟨2, _, _, _, _, _, _, _, rfl, rfl, sz49, ag49, rfl⟩, ⟨rfl, trivial⟩⟩ rfl rfl rfl)
  ·refine wH_iff rfl hc_9 (wH_skip (wH_seq (wH_region (h_op (vI (maxI a_1.X b_2.X)) wz rfl (h_op (vI (maxI a_1.Y b_2.Y)) wz rfl (h_op (vI (w64 ((minI (w64 (a_1.X + a_1.W)) (w64 (b_2.X + b_2.W))) - (maxI a_1.X b_2.X)))) wz rfl (h_op (vI (w64 ((minI (w64 (a_1.Y + a_1.H)) (w64 (b_2.Y + b_2.H))) - (maxI a_1.Y b_2.Y)))) wz rfl (h_op (.d (.agg (Rect.enc (⟨(maxI a_1.X b_2.X), (maxI a_1.Y b_2.Y), (w64 ((minI (w64 (a_1.X + a_1.W)) (w64 (b_2.X + b_2.W))) - (maxI a_1.X b_2.X))), (w64 ((minI (w64 (a_1.Y + a_1.H)) (w64 (b_2.Y + b_2.H))) - (maxI a_1.Y b_2.Y)))⟩ : Rect)))) wz (by kernel_rfl) (h_str 0 (.inl rfl) (fun _ _ _ => trivial) 2 sz49 rfl rfl [(vI (maxI a_1.X b_2.X)), (vI (maxI a_1.Y b_2.Y)), (vI (w64 ((minI (w64 (a_1.X + a_1.W)) (w64 (b_2.X + b_2.W))) - (maxI a_1.X b_2.X)))), (vI (w64 ((minI (w64 (a_1.Y + a_1.H)) (w64 (b_2.Y + b_2.H))) - (maxI a_1.Y b_2.Y))))] rfl wz (h_op (vB true) wz rfl (h_nil ?_)))))))))))
   obtain rfl := some_inj hF
   exact wH_ret (fin0 (.inr rfl) [(.d (.agg (Rect.enc (⟨(maxI a_1.X b_2.X), (maxI a_1.Y b_2.Y), (w64 ((minI (w64 (a_1.X + a_1.W)) (w64 (b_2.X + b_2.W))) - (maxI a_1.X b_2.X))), (w64 ((minI (w64 (a_1.Y + a_1.H)) (w64 (b_2.Y + b_2.H))) - (maxI a_1.Y b_2.Y)))⟩ : Rect)))), (vB true)] ⟨⟨2, _, _, _, _, _, _, _, rfl, rfl, sz49, ag49, rfl⟩, ⟨rfl, trivial⟩⟩ rfl rfl rfl)
end Go.Proofs.YtiekkaelpgahoaaGreat.Law

