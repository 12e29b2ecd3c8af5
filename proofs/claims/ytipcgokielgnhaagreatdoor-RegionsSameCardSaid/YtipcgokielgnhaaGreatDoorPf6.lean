/-
 The machine computes these plain functions (written by a program of ours).
-/
import Derived.Test.YtipcgokielgnhaaGreatDoorFacts
import Derived.Test.YtipcgokielgnhaaGreatDoorDefs
import Derived.Test.YtipcgokielgnhaaGreatDoorPf5
open Go Go.Eng Go.Proofs
namespace Go.Proofs.YtipcgokielgnhaaGreatDoor.Law
set_option maxRecDepth 100000
set_option linter.unusedVariables false
set_option maxHeartbeats 1000000
theorem keep_RegionsSame_ok {l_1 : (List Int)} {r : Bool} (hF : keep_RegionsSame l_1 = some r) :
  FnM Tryz.prog 4 [(vL eI l_1)] [] (vB r) [] := by
 refine FnM.of_wH ⟨Tryz.prog, 210, [], []⟩ rfl Tryz.func4 rfl rfl (Nat.le_of_ble_eq_true rfl) (by kernel_rfl) ?_
 unfold keep_RegionsSame at hF
 refine wH_seq (wH_region (h_op (vB false) wz rfl (h_nil (wH_seq (wH_region (h_op (vL eI l_1) wz rfl (h_op (.d (.agg (Stream.enc (⟨l_1, 0⟩ : Stream)))) wz (by kernel_rfl) (h_box 0 (.inl rfl) [(vL eI l_1), (vI 0)] rfl rfl wz (fun n_2 => h_op (.ref n_2 0 0) wz rfl (h_nil (wH_seq (wH_region (h_op .nil wz rfl (h_op .nil wz rfl (h_nil (wH_seq (wH_seq (wH_region (h_op (.ref n_2 0 0) wz rfl ?_)))))))))))))))))))
 obtain ⟨r_3, hr_4, hF⟩ := bind_some hF
 refine h_callq 0 [0] (.inl rfl) (fun _ _ _ => trivial) (mk_Stream_Range_ok hr_4) rfl hb10 rfl (by kernel_rfl) (by kernel_rfl) (by kernel_rfl) (by kernel_rfl) (by kernel_rfl) (by kernel_rfl) (by kernel_rfl) (by decide) (by kernel_rfl) wz (vI r_3.1) (by kernel_rfl) ([(n_2, some (.cells 2 [(vL eI r_3.2.L), (vI r_3.2.f_at)]))] : Hp) (by kernel_rfl) (h_op (vI 0) wz rfl (h_nil (wH_new (fun n_12 => ?_))))
 obtain ⟨o_17, hj_18, hF⟩ := bind_some hF
 obtain ⟨hn_10, hj_18⟩ := forL_some hj_18
 refine wH_join (β := ((List Rect) × (List Int) × Int) × Nm) (fun p => (fun (s_11 : (List Rect) × (List Int) × Int) (n_14 : Nm) => ([(3, (.ref n_2 0 0)), (4, (gV n_14 4 s_11.1)), (5, .nil)] : List (Nat × V))) p.1 p.2) (fun p => (fun (s_11 : (List Rect) × (List Int) × Int) (n_14 : Nm) => ([(n_2, some (.cells 2 [(vL eI s_11.2.1), (vI s_11.2.2)])), (n_14, gB 4 Rect.enc s_11.1)] : Hp)) p.1 p.2) (fun p => o_17 = .go p.1) ?_ ?_
 ·refine wH_block (wH_loop (β := Nat × (List Nat) × ((List Rect) × (List Int) × Int) × Nm) (fun p => (fun (k_6 : Nat) (l_7 : List Nat) (s_11 : (List Rect) × (List Int) × Int) (n_14 : Nm) => ([(3, (.ref n_2 0 0)), (4, (gV n_14 4 s_11.1)), (5, .nil), (37, (vI r_3.1)), (38, (vI (k_6 : Int)))] : List (Nat × V))) p.1 p.2.1 p.2.2.1 p.2.2.2) (fun p => (fun (k_6 : Nat) (l_7 : List Nat) (s_11 : (List Rect) × (List Int) × Int) (n_14 : Nm) => ([(n_2, some (.cells 2 [(vL eI s_11.2.1), (vI s_11.2.2)])), (n_14, gB 4 Rect.enc s_11.1)] : Hp)) p.1 p.2.1 p.2.2.1 p.2.2.2) (fun p => forR (fun k x s => keep_RegionsSame_L1 k x s) p.2.1 p.1 p.2.2.1 = some o_17 ∧ ((List.range (r_3.1).toNat)).drop p.1 = p.2.1) (fun p => p.2.1.length) (0, (List.range (r_3.1).toNat), (([] : List Rect), r_3.2.L, r_3.2.f_at), n_12) ⟨hj_18, rfl⟩ rfl (pre_r rfl) ?_)
  rintro ⟨k_6, l_7, s_11, n_14⟩ ⟨hL_16, hD_9⟩
  dsimp only at hL_16 hD_9
  cases l_7 with
  | nil =>
   obtain rfl := some_inj hL_16
   refine wH_seq (wH_region (h_op (vB (decide ((k_6 : Int) < r_3.1))) wz rfl (h_nil ?_)))
   refine wH_seq (wH_iff rfl (range_nil hD_9) (wH_exit ?_))
   exact cut_mk (s_11, n_14) rfl rfl (pre_r rfl)
  | cons x_8 l_7 =>
   obtain ⟨c_, hc_15, hL_16⟩ := bind_some hL_16
   refine wH_seq (wH_region (h_op (vB (decide ((k_6 : Int) < r_3.1))) wz rfl (h_nil ?_)))
   refine wH_seq (wH_ift rfl (range_cons hD_9) (wH_skip ?_))
   unfold keep_RegionsSame_L1 at hc_15
   refine wH_seq (wH_block (wH_region (h_op (gV n_14 4 s_11.1) wz rfl (h_op (.ref n_2 0 0) wz rfl ?_))))
   obtain ⟨r_19, hr_20, hc_15⟩ := bind_some hc_15
   refine h_callq 0 [0] (.inl rfl) (fun _ _ _ => trivial) (mk_Stream_RightRect_ok hr_20) rfl hb15 rfl (by kernel_rfl) (by kernel_rfl) (by kernel_rfl) (by kernel_rfl) (by kernel_rfl) (by kernel_rfl) (by kernel_rfl) (by decide) (by kernel_rfl) wz (.d (.agg (Rect.enc r_19.1))) (by kernel_rfl) ([(n_2, some (.cells 2 [(vL eI r_19.2.L), (vI r_19.2.f_at)])), (n_14, gB 4 Rect.enc s_11.1)] : Hp) (by kernel_rfl) (h_lit (([r_19.1] : List Rect).map Rect.enc) es27 ez27 rfl rfl rfl rfl rfl wz ?_)
   obtain ⟨a_22, hz_23, hc_15⟩ := bind_some hc_15
   refine h_appg 0 (.inl rfl) (fun _ _ _ => trivial) (i := 1) el27 el27 sz29 z29 rfl (by decide) by29 (by decide) (fun _ => rfl) rfl rfl rfl hz_23 wz (fun n_24 => h_op (gV n_24 4 a_22) wz rfl (h_nil (wH_region (h_opw (w64_nextr hD_9 hn_10) wz rfl (h_op (vI ((k_6 + 1 : Nat) : Int)) wz rfl (h_nil ?_))))))
   obtain rfl := some_inj hc_15
   exact loop_mk (k_6 + 1, l_7, (a_22, r_19.2.L, r_19.2.f_at), n_24) ⟨hL_16, drop_next hD_9⟩ (Nat.lt_succ_self _) rfl (pre_r rfl)
 ·rintro ⟨s_11, n_14⟩ ho_ sl_ H_ hp_ hq_
  subst ho_
  refine wH_at _ hp_ hq_ (wH_seq (wH_seq (wH_region (h_op (.ref n_2 0 0) wz rfl ?_))))
  obtain ⟨r_25, hr_26, hF⟩ := bind_some hF
  refine h_callq 0 [0] (.inl rfl) (fun _ _ _ => trivial) (mk_Stream_Range_ok hr_26) rfl hb10 rfl (by kernel_rfl) (by kernel_rfl) (by kernel_rfl) (by kernel_rfl) (by kernel_rfl) (by kernel_rfl) (by kernel_rfl) (by decide) (by kernel_rfl) wz (vI r_25.1) (by kernel_rfl) ([(n_2, some (.cells 2 [(vL eI r_25.2.L), (vI r_25.2.f_at)])), (n_14, gB 4 Rect.enc s_11.1)] : Hp) (by kernel_rfl) (h_op (vI 0) wz rfl (h_nil (wH_new (fun n_34 => ?_))))
  obtain ⟨o_39, hj_40, hF⟩ := bind_some hF
  obtain ⟨hn_32, hj_40⟩ := forL_some hj_40
  refine wH_join (β := ((List Rect) × (List Int) × Int) × Nm) (fun p => (fun (s_33 : (List Rect) × (List Int) × Int) (n_36 : Nm) => ([(3, (.ref n_2 0 0)), (4, (gV n_14 4 s_11.1)), (5, (gV n_36 4 s_33.1))] : List (Nat × V))) p.1 p.2) (fun p => (fun (s_33 : (List Rect) × (List Int) × Int) (n_36 : Nm) => ([(n_2, some (.cells 2 [(vL eI s_33.2.1), (vI s_33.2.2)])), (n_14, gB 4 Rect.enc s_11.1), (n_36, gB 4 Rect.enc s_33.1)] : Hp)) p.1 p.2) (fun p => o_39 = .go p.1) ?_ ?_
  ·refine wH_block (wH_loop (β := Nat × (List Nat) × ((List Rect) × (List Int) × Int) × Nm) (fun p => (fun (k_28 : Nat) (l_29 : List Nat) (s_33 : (List Rect) × (List Int) × Int) (n_36 : Nm) => ([(3, (.ref n_2 0 0)), (4, (gV n_14 4 s_11.1)), (5, (gV n_36 4 s_33.1)), (47, (vI r_25.1)), (48, (vI (k_28 : Int)))] : List (Nat × V))) p.1 p.2.1 p.2.2.1 p.2.2.2) (fun p => (fun (k_28 : Nat) (l_29 : List Nat) (s_33 : (List Rect) × (List Int) × Int) (n_36 : Nm) => ([(n_2, some (.cells 2 [(vL eI s_33.2.1), (vI s_33.2.2)])), (n_14, gB 4 Rect.enc s_11.1), (n_36, gB 4 Rect.enc s_33.1)] : Hp)) p.1 p.2.1 p.2.2.1 p.2.2.2) (fun p => forR (fun k x s => keep_RegionsSame_L2 k x s) p.2.1 p.1 p.2.2.1 = some o_39 ∧ ((List.range (r_25.1).toNat)).drop p.1 = p.2.1) (fun p => p.2.1.length) (0, (List.range (r_25.1).toNat), (([] : List Rect), r_25.2.L, r_25.2.f_at), n_34) ⟨hj_40, rfl⟩ rfl (pre_r rfl) ?_)
   rintro ⟨k_28, l_29, s_33, n_36⟩ ⟨hL_38, hD_31⟩
   dsimp only at hL_38 hD_31
   cases l_29 with
   | nil =>
    obtain rfl := some_inj hL_38
    refine wH_seq (wH_region (h_op (vB (decide ((k_28 : Int) < r_25.1))) wz rfl (h_nil ?_)))
    refine wH_seq (wH_iff rfl (range_nil hD_31) (wH_exit ?_))
    exact cut_mk (s_33, n_36) rfl rfl (pre_r rfl)
   | cons x_30 l_29 =>
    obtain ⟨c_, hc_37, hL_38⟩ := bind_some hL_38
    refine wH_seq (wH_region (h_op (vB (decide ((k_28 : Int) < r_25.1))) wz rfl (h_nil ?_)))
    refine wH_seq (wH_ift rfl (range_cons hD_31) (wH_skip ?_))
    unfold keep_RegionsSame_L2 at hc_37
    refine wH_seq (wH_block (wH_region (h_op (gV n_36 4 s_33.1) wz rfl (h_op (.ref n_2 0 0) wz rfl ?_))))
    obtain ⟨r_41, hr_42, hc_37⟩ := bind_some hc_37
    refine h_callq 0 [0] (.inl rfl) (fun _ _ _ => trivial) (mk_Stream_RightRect_ok hr_42) rfl hb15 rfl (by kernel_rfl) (by kernel_rfl) (by kernel_rfl) (by kernel_rfl) (by kernel_rfl) (by kernel_rfl) (by kernel_rfl) (by decide) (by kernel_rfl) wz (.d (.agg (Rect.enc r_41.1))) (by kernel_rfl) ([(n_2, some (.cells 2 [(vL eI r_41.2.L), (vI r_41.2.f_at)])), (n_14, gB 4 Rect.enc s_11.1), (n_36, gB 4 Rect.enc s_33.1)] : Hp) (by kernel_rfl) (h_lit (([r_41.1] : List Rect).map Rect.enc) es27 ez27 rfl rfl rfl rfl rfl wz ?_)
    obtain ⟨a_44, hz_45, hc_37⟩ := bind_some hc_37
    refine h_appg 0 (.inl rfl) (fun _ _ _ => trivial) (i := 2) el27 el27 sz29 z29 rfl (by decide) by29 (by decide) (fun _ => rfl) rfl rfl rfl hz_45 wz (fun n_46 => h_op (gV n_46 4 a_44) wz rfl (h_nil (wH_region (h_opw (w64_nextr hD_31 hn_32) wz rfl (h_op (vI ((k_28 + 1 : Nat) : Int)) wz rfl (h_nil ?_))))))
    obtain rfl := some_inj hc_37
    exact loop_mk (k_28 + 1, l_29, (a_44, r_41.2.L, r_41.2.f_at), n_46) ⟨hL_38, drop_next hD_31⟩ (Nat.lt_succ_self _) rfl (pre_r rfl)
  ·rintro ⟨s_33, n_36⟩ ho_ sl_ H_ hp_ hq_
   subst ho_
   refine wH_at _ hp_ hq_ (wH_seq (wH_frozg 1 rfl (wH_cog 4 1 rfl rfl (wH_region (h_op (vL Rect.enc s_11.1) wz rfl ?_)))))
   obtain ⟨r_47, hr_48, hF⟩ := bind_some hF
   refine h_call0 (screen_Region_ok hr_48) rfl hb12 rfl rfl rfl rfl wz (h_op (.tup [(vL Rect.enc r_47.1), (vI r_47.2)]) wz rfl (h_op (vL Rect.enc r_47.1) wz rfl (h_op (vI r_47.2) wz rfl (h_op (vL Rect.enc r_47.1) wz rfl (h_op (vI r_47.2) wz rfl (h_nil (wH_seq (wH_region (h_op (vL Rect.enc s_11.1) wz rfl ?_)))))))))
   obtain ⟨r_49, hr_50, hF⟩ := bind_some hF
   refine h_callg [] (slices_Clone_api_Rect_api_Rect_okb hr_50) rfl hb16 rfl (by kernel_rfl) (by kernel_rfl) (by kernel_rfl) (by kernel_rfl) (by kernel_rfl) rfl (by decide) (by kernel_rfl) wz ([(n_2, some (.cells 2 [(vL eI s_33.2.1), (vI s_33.2.2)])), (n_14, gF 4 Rect.enc s_11.1), (n_36, gB 4 Rect.enc s_33.1)] : Hp) (fun _ => by kernel_rfl) (fun n_52 => h_op (gV n_52 4 r_49) wz rfl (h_nil (wH_seq (wH_region (h_op (gV n_52 4 r_49) wz rfl ?_)))))
   obtain ⟨r_53, hr_54, hF⟩ := bind_some hF
   obtain ⟨_, hs_55, hF⟩ := bind_some hF
   replace hs_55 := sameL_eq hs_55
   refine h_callv 0 [] 3 0 (.inl rfl) (fun _ _ _ => trivial) (slices_Reverse_api_Rect_api_Rect_v1_ok hr_54) rfl hb17 rfl rfl rfl (by kernel_rfl) rfl (.inl rfl) rfl (by kernel_rfl) (by kernel_rfl) (by kernel_rfl) (by kernel_rfl) rfl (by decide) (by kernel_rfl) gB_ok (gB_ho hs_55) wz ([(n_2, some (.cells 2 [(vL eI s_33.2.1), (vI s_33.2.2)])), (n_14, gF 4 Rect.enc s_11.1), (n_36, gB 4 Rect.enc s_33.1), (n_52, gB 4 Rect.enc r_53)] : Hp) (by kernel_rfl) (h_re (v' := (gV n_52 4 r_53)) 62 rfl (gV_len hs_55.symm) (h_re (v' := (gV n_52 4 r_53)) 63 rfl (gV_len hs_55.symm) (h_re (v' := (gV n_52 4 r_53)) 8 rfl (gV_len hs_55.symm) (h_nil (wH_seq (wH_frozg 3 rfl (wH_cog 8 3 rfl rfl (wH_cog 62 3 rfl rfl (wH_cog 63 3 rfl rfl (wH_region (h_op (vL Rect.enc r_53) wz rfl ?_)))))))))))
   obtain ⟨r_56, hr_57, hF⟩ := bind_some hF
   refine h_call0 (screen_Region_ok hr_57) rfl hb12 rfl rfl rfl rfl wz (h_op (.tup [(vL Rect.enc r_56.1), (vI r_56.2)]) wz rfl (h_op (vL Rect.enc r_56.1) wz rfl (h_op (vI r_56.2) wz rfl (h_op (vL Rect.enc r_56.1) wz rfl (h_op (vI r_56.2) wz rfl (h_nil (wH_seq (wH_region (h_op (vL Rect.enc r_47.1) wz rfl ?_)))))))))
   obtain ⟨r_58, hr_59, hF⟩ := bind_some hF
   refine h_call0 (screen_Region_ok hr_59) rfl hb12 rfl rfl rfl rfl wz (h_op (.tup [(vL Rect.enc r_58.1), (vI r_58.2)]) wz rfl (h_op (vL Rect.enc r_58.1) wz rfl (h_op (vI r_58.2) wz rfl (h_op (vL Rect.enc r_58.1) wz rfl (h_op (vI r_58.2) wz rfl (h_nil (wH_seq (wH_frozg 2 rfl (wH_cog 5 2 rfl rfl (wH_region (h_op (vL Rect.enc s_11.1) wz rfl (h_op (vL Rect.enc s_33.1) wz rfl ?_))))))))))))
   obtain ⟨r_60, hr_61, hF⟩ := bind_some hF
   refine h_call0 (screen_Without_ok hr_61) rfl hb18 rfl rfl rfl rfl wz (h_op (.tup [(vL Rect.enc r_60.1), (vI r_60.2)]) wz rfl (h_op (vL Rect.enc r_60.1) wz rfl (h_op (vI r_60.2) wz rfl (h_op (vL Rect.enc r_60.1) wz rfl (h_op (vI r_60.2) wz rfl (h_nil (wH_at (H0 := ([(n_2, some (.cells 2 [(vL eI s_33.2.1), (vI s_33.2.2)])), (n_14, gF 4 Rect.enc s_11.1), (n_36, gF 4 Rect.enc s_33.1), (n_52, gF 4 Rect.enc r_53)] : Hp)) ([(3, (.ref n_2 0 0)), (4, (vL Rect.enc s_11.1)), (5, (vL Rect.enc s_33.1)), (6, (vL Rect.enc r_47.1)), (7, (vI r_47.2)), (9, (vL Rect.enc r_56.1)), (10, (vI r_56.2)), (11, (vL Rect.enc r_58.1)), (12, (vI r_58.2)), (13, (vL Rect.enc r_60.1)), (14, (vI r_60.2))] : List (Nat × V)) (by kernel_rfl) (pre_mk (by kernel_rfl)) (wH_seq (wH_region (h_op (vL Rect.enc s_11.1) wz rfl ?_))))))))))
   obtain ⟨r_62, hr_63, hF⟩ := bind_some hF
   refine h_call0 (screen_Area_ok hr_63) rfl hb19 rfl rfl rfl rfl wz (h_op (.tup [(vI r_62.1), (vI r_62.2)]) wz rfl (h_op (vI r_62.1) wz rfl (h_op (vI r_62.2) wz rfl (h_op (vI r_62.1) wz rfl (h_op (vI r_62.2) wz rfl (h_nil (wH_seq (wH_region (h_op (vL Rect.enc r_60.1) wz rfl ?_)))))))))
   obtain ⟨r_64, hr_65, hF⟩ := bind_some hF
   refine h_call0 (screen_Area_ok hr_65) rfl hb19 rfl rfl rfl rfl wz (h_op (.tup [(vI r_64.1), (vI r_64.2)]) wz rfl (h_op (vI r_64.1) wz rfl (h_op (vI r_64.2) wz rfl (h_op (vI r_64.1) wz rfl (h_op (vI r_64.2) wz rfl (h_nil (wH_seq (wH_region (h_op (vL Rect.enc s_11.1) wz rfl (h_op (vL Rect.enc s_33.1) wz rfl (h_lit (([s_11.1, s_33.1] : List (List Rect)).map (eL Rect.enc)) es121 ez121 rfl rfl rfl rfl rfl wz ?_)))))))))))
   obtain ⟨r_66, hr_67, hF⟩ := bind_some hF
   refine h_call0 (slices_Concat_api_Rect_api_Rect_ok hr_67) rfl hb20 rfl rfl rfl rfl wz ?_
   obtain ⟨r_68, hr_69, hF⟩ := bind_some hF
   refine h_call0 (screen_Area_ok hr_69) rfl hb19 rfl rfl rfl rfl wz (h_op (.tup [(vI r_68.1), (vI r_68.2)]) wz rfl (h_op (vI r_68.1) wz rfl (h_op (vI r_68.2) wz rfl (h_op (vI r_68.1) wz rfl (h_op (vI r_68.2) wz rfl (h_nil (wH_seq (wH_region (h_op (vL Rect.enc s_33.1) wz rfl ?_)))))))))
   obtain ⟨r_70, hr_71, hF⟩ := bind_some hF
   refine h_call0 (screen_Area_ok hr_71) rfl hb19 rfl rfl rfl rfl wz (h_op (.tup [(vI r_70.1), (vI r_70.2)]) wz rfl (h_op (vI r_70.1) wz rfl (h_op (vI r_70.2) wz rfl (h_op (vI r_70.1) wz rfl (h_op (vI r_70.2) wz rfl (h_nil (wH_at (H0 := ([(n_2, some (.cells 2 [(vL eI s_33.2.1), (vI s_33.2.2)])), (n_14, gF 4 Rect.enc s_11.1), (n_36, gF 4 Rect.enc s_33.1), (n_52, gF 4 Rect.enc r_53)] : Hp)) ([(3, (.ref n_2 0 0)), (4, (vL Rect.enc s_11.1)), (5, (vL Rect.enc s_33.1)), (6, (vL Rect.enc r_47.1)), (7, (vI r_47.2)), (9, (vL Rect.enc r_56.1)), (10, (vI r_56.2)), (11, (vL Rect.enc r_58.1)), (12, (vI r_58.2)), (13, (vL Rect.enc r_60.1)), (14, (vI r_60.2)), (15, (vI r_62.1)), (16, (vI r_62.2)), (17, (vI r_64.1)), (18, (vI r_64.2)), (19, (vI r_68.1)), (20, (vI r_68.2)), (21, (vI r_70.1)), (22, (vI r_70.2))] : List (Nat × V)) (by kernel_rfl) (pre_mk (by kernel_rfl)) (wH_seq (wH_seq ?_)))))))))
   obtain ⟨v_72, h_73, hF⟩ := bind_some hF
   refine wH_join (β := Unit) (fun _ => ([(3, (.ref n_2 0 0)), (4, (vL Rect.enc s_11.1)), (5, (vL Rect.enc s_33.1)), (6, (vL Rect.enc r_47.1)), (13, (vL Rect.enc r_60.1)), (15, (vI r_62.1)), (133, (vB v_72))] : List (Nat × V))) (fun _ => ([(n_2, some (.cells 2 [(vL eI s_33.2.1), (vI s_33.2.2)])), (n_14, gF 4 Rect.enc s_11.1), (n_36, gF 4 Rect.enc s_33.1), (n_52, gF 4 Rect.enc r_53)] : Hp)) (fun _ => True) ?_ ?_
   ·refine wH_region (h_op (vI r_47.2) wz rfl (h_op (vI r_56.2) wz rfl (h_op (vI r_58.2) wz rfl (h_op (vI r_60.2) wz rfl (h_op (vI r_62.2) wz rfl (h_op (vI r_64.2) wz rfl (h_op (vI r_68.2) wz rfl (h_op (vI r_70.2) wz rfl (h_lit (([r_47.2, r_56.2, r_58.2, r_60.2, r_62.2, r_64.2, r_68.2, r_70.2] : List Int).map eI) es123 ez123 rfl rfl rfl rfl rfl wz ?_)))))))))
    obtain ⟨r_74, hr_75, h_73⟩ := bind_some h_73
    refine h_call0 (keep_errs_ok hr_75) rfl hb21 rfl rfl rfl rfl wz (h_op (vB (r_74 != 0)) wz rfl ?_)
    rcases cond_some h_73 with ⟨hc_76, h_73⟩ | ⟨hc_76, h_73⟩
    ·refine h_movb rfl hc_76 wz (h_skip (wg rfl rfl rfl) (h_skip (wg rfl rfl rfl) (h_skip (wg rfl rfl rfl) (h_skip (wg rfl rfl rfl) (h_op (vB true) wz rfl (h_op (vB true) wz rfl (h_skip (wg rfl rfl rfl) (h_skip (wg rfl rfl rfl) (h_skip (wg rfl rfl rfl) (h_skip (wg rfl rfl rfl) (h_op (vB true) wz rfl (h_op (vB true) wz rfl (h_skip (wg rfl rfl rfl) (h_skip (wg rfl rfl rfl) (h_skip (wg rfl rfl rfl) (h_skip (wg rfl rfl rfl) (h_skip (wg rfl rfl rfl) (h_op (vB true) wz rfl (h_nil ?_)))))))))))))))))))
     obtain rfl := some_inj h_73
     exact cut_mk () trivial rfl (pre_r rfl)
    ·refine h_movb rfl hc_76 wz (h_op (vL Rect.enc r_47.1) (wg rfl rfl rfl) rfl (h_op (vL Rect.enc r_56.1) (wg rfl rfl rfl) rfl ?_))
     obtain ⟨r_77, hr_78, h_73⟩ := bind_some h_73
     refine h_call0 (slices_Equal_api_Rect_api_Rect_ok hr_78) rfl hb13 rfl rfl rfl rfl (wg rfl rfl rfl) (h_op (vB (!r_77)) (wg rfl rfl rfl) rfl (h_op (vB (!r_77)) wz rfl ?_))
     rcases cond_some h_73 with ⟨hc_79, h_73⟩ | ⟨hc_79, h_73⟩
     ·refine h_movb rfl hc_79 wz (h_skip (wg rfl rfl rfl) (h_skip (wg rfl rfl rfl) (h_skip (wg rfl rfl rfl) (h_skip (wg rfl rfl rfl) (h_op (vB true) wz rfl (h_op (vB true) wz rfl (h_skip (wg rfl rfl rfl) (h_skip (wg rfl rfl rfl) (h_skip (wg rfl rfl rfl) (h_skip (wg rfl rfl rfl) (h_skip (wg rfl rfl rfl) (h_op (vB true) wz rfl (h_nil ?_)))))))))))))
      obtain rfl := some_inj h_73
      exact cut_mk () trivial rfl (pre_r rfl)
     ·refine h_movb rfl hc_79 wz (h_op (vL Rect.enc r_47.1) (wg rfl rfl rfl) rfl (h_op (vL Rect.enc r_58.1) (wg rfl rfl rfl) rfl ?_))
      obtain ⟨r_80, hr_81, h_73⟩ := bind_some h_73
      refine h_call0 (slices_Equal_api_Rect_api_Rect_ok hr_81) rfl hb13 rfl rfl rfl rfl (wg rfl rfl rfl) (h_op (vB (!r_80)) (wg rfl rfl rfl) rfl (h_op (vB (!r_80)) wz rfl ?_))
      rcases cond_some h_73 with ⟨hc_82, h_73⟩ | ⟨hc_82, h_73⟩
      ·refine h_movb rfl hc_82 wz (h_skip (wg rfl rfl rfl) (h_skip (wg rfl rfl rfl) (h_skip (wg rfl rfl rfl) (h_skip (wg rfl rfl rfl) (h_skip (wg rfl rfl rfl) (h_op (vB true) wz rfl (h_nil ?_)))))))
       obtain rfl := some_inj h_73
       exact cut_mk () trivial rfl (pre_r rfl)
      ·refine h_movb rfl hc_82 wz (h_op (vI r_64.1) (wg rfl rfl rfl) rfl (h_op (vI r_68.1) (wg rfl rfl rfl) rfl (h_op (vI r_70.1) (wg rfl rfl rfl) rfl (h_op (vI (w64 (r_68.1 - r_70.1))) (wg rfl rfl rfl) rfl (h_op (vB (r_64.1 != (w64 (r_68.1 - r_70.1)))) (wg rfl rfl rfl) rfl (h_op (vB (r_64.1 != (w64 (r_68.1 - r_70.1)))) wz rfl (h_nil ?_)))))))
       obtain rfl := some_inj h_73
       exact cut_mk () trivial rfl (pre_r rfl)
   ·rintro ⟨⟩ _ sl_ H_ hp_ hq_
    refine wH_at _ hp_ hq_ ?_
    rcases cond_some hF with ⟨hc_83, hF⟩ | ⟨hc_83, hF⟩
    ·refine wH_ift rfl hc_83 (wH_seq (wH_region (h_op (vB false) wz rfl (h_nil ?_))))
     obtain rfl := some_inj hF
     exact wH_ret (fin0 (.inr rfl) [(vB false)] ⟨rfl, trivial⟩ rfl rfl rfl)
    ·refine wH_iff rfl hc_83 (wH_skip (wH_seq (wH_region (h_op (vI 0) wz rfl (h_nil (wH_seq (wH_seq (wH_region (h_op (vL Rect.enc r_47.1) wz rfl (h_len un27 rfl wz (h_op (vI 0) wz rfl (h_nil ?_))))))))))))
     obtain ⟨o_92, hj_93, hF⟩ := bind_some hF
     obtain ⟨hn_88, hj_93⟩ := forL_some hj_93
     refine wH_join (β := (Int)) (fun (s_89 : Int) => ([(3, (.ref n_2 0 0)), (4, (vL Rect.enc s_11.1)), (5, (vL Rect.enc s_33.1)), (6, (vL Rect.enc r_47.1)), (13, (vL Rect.enc r_60.1)), (15, (vI r_62.1)), (23, (vI s_89))] : List (Nat × V))) (fun (s_89 : Int) => ([(n_2, some (.cells 2 [(vL eI s_33.2.1), (vI s_33.2.2)])), (n_14, gF 4 Rect.enc s_11.1), (n_36, gF 4 Rect.enc s_33.1), (n_52, gF 4 Rect.enc r_53)] : Hp)) (fun p => o_92 = .go p) ?_ ?_
     ·refine wH_block (wH_loop (β := Nat × (List Rect) × (Int)) (fun p => (fun (k_84 : Nat) (l_85 : List Rect) (s_89 : Int) => ([(3, (.ref n_2 0 0)), (4, (vL Rect.enc s_11.1)), (5, (vL Rect.enc s_33.1)), (6, (vL Rect.enc r_47.1)), (13, (vL Rect.enc r_60.1)), (15, (vI r_62.1)), (23, (vI s_89)), (134, (vL Rect.enc r_47.1)), (135, (vI (r_47.1.length : Int))), (136, (vI (k_84 : Int)))] : List (Nat × V))) p.1 p.2.1 p.2.2) (fun p => (fun (k_84 : Nat) (l_85 : List Rect) (s_89 : Int) => ([(n_2, some (.cells 2 [(vL eI s_33.2.1), (vI s_33.2.2)])), (n_14, gF 4 Rect.enc s_11.1), (n_36, gF 4 Rect.enc s_33.1), (n_52, gF 4 Rect.enc r_53)] : Hp)) p.1 p.2.1 p.2.2) (fun p => forR (fun k x s => keep_RegionsSame_L4 r_47 k x s) p.2.1 p.1 p.2.2 = some o_92 ∧ (r_47.1).drop p.1 = p.2.1) (fun p => p.2.1.length) (0, r_47.1, 0) ⟨hj_93, rfl⟩ rfl (pre_r rfl) ?_)
      rintro ⟨k_84, l_85, s_89⟩ ⟨hL_91, hD_87⟩
      dsimp only at hL_91 hD_87
      cases l_85 with
      | nil =>
       obtain rfl := some_inj hL_91
       refine wH_seq (wH_region (h_op (vB (decide ((k_84 : Int) < (r_47.1.length : Int)))) wz rfl (h_nil ?_)))
       refine wH_seq (wH_iff rfl (drop_nil hD_87) (wH_exit ?_))
       exact cut_mk (s_89) rfl rfl (pre_r rfl)
      | cons x_86 l_85 =>
       obtain ⟨c_, hc_90, hL_91⟩ := bind_some hL_91
       refine wH_seq (wH_region (h_op (vB (decide ((k_84 : Int) < (r_47.1.length : Int)))) wz rfl (h_nil ?_)))
       refine wH_seq (wH_ift rfl (drop_cons hD_87) (wH_skip ?_))
       unfold keep_RegionsSame_L4 at hc_90
       refine wH_seq (wH_block (wH_seq (wH_region (h_op (vI (k_84 : Int)) wz rfl (h_ia es27 rfl rfl (drop_idx hD_87) rfl wz (h_ldc sz29 ag29 rfl (.d (.agg (Rect.enc x_86))) rfl wz (h_alloc 0 (.inl rfl) z29 rfl wz (fun n_94 => h_op (vI (k_84 : Int)) wz rfl (h_str 0 (.inl rfl) (fun _ _ _ => trivial) 4 sz29 rfl rfl [(vI x_86.X), (vI x_86.Y), (vI x_86.W), (vI x_86.H)] rfl wz (h_nil (wH_seq (wH_region (h_op (vI s_89) wz rfl (h_far pl29_2 rfl 2 rfl wz (h_ldr 0 4 (.inl rfl) (fun _ _ _ => trivial) sz3 ag3 rfl rfl (vI x_86.W) rfl wz (h_far pl29_3 rfl 3 rfl wz (h_ldr 0 4 (.inl rfl) (fun _ _ _ => trivial) sz3 ag3 rfl rfl (vI x_86.H) rfl wz (h_op (vI (w64 (x_86.W * x_86.H))) wz rfl (h_op (vI (w64 (s_89 + (w64 (x_86.W * x_86.H))))) wz rfl (h_op (vI (w64 (s_89 + (w64 (x_86.W * x_86.H))))) wz rfl (h_nil (wH_seq (wH_region ?_)))))))))))))))))))))))
       refine h_op (vL Rect.enc r_47.1) wz rfl (h_op (vI (k_84 : Int)) wz rfl ?_)
       obtain ⟨y_95, hy_96, hc_90⟩ := bind_some hc_90
       refine h_sublFalseTrue un27 sz29 (fun _ => rfl) rfl rfl hy_96 wz (h_len un27 rfl wz (h_op (vI 0) wz rfl (h_nil ?_)))
       obtain ⟨o_105, hj_106, hc_90⟩ := bind_some hc_90
       obtain ⟨hn_101, hj_106⟩ := forL_some hj_106
       refine wH_join (β := (Unit)) (fun (s_102 : Unit) => ([(3, (.ref n_2 0 0)), (4, (vL Rect.enc s_11.1)), (5, (vL Rect.enc s_33.1)), (6, (vL Rect.enc r_47.1)), (13, (vL Rect.enc r_60.1)), (15, (vI r_62.1)), (23, (vI (w64 (s_89 + (w64 (x_86.W * x_86.H)))))), (134, (vL Rect.enc r_47.1)), (135, (vI (r_47.1.length : Int))), (136, (vI (k_84 : Int)))] : List (Nat × V))) (fun (s_102 : Unit) => ([(n_2, some (.cells 2 [(vL eI s_33.2.1), (vI s_33.2.2)])), (n_14, gF 4 Rect.enc s_11.1), (n_36, gF 4 Rect.enc s_33.1), (n_52, gF 4 Rect.enc r_53), (n_94, some (.cells 4 [(vI x_86.X), (vI x_86.Y), (vI x_86.W), (vI x_86.H)]))] : Hp)) (fun p => o_105 = .go p) ?_ ?_
       ·refine wH_block (wH_loop (β := Nat × (List Rect) × (Unit)) (fun p => (fun (k_97 : Nat) (l_98 : List Rect) (s_102 : Unit) => ([(3, (.ref n_2 0 0)), (4, (vL Rect.enc s_11.1)), (5, (vL Rect.enc s_33.1)), (6, (vL Rect.enc r_47.1)), (13, (vL Rect.enc r_60.1)), (15, (vI r_62.1)), (23, (vI (w64 (s_89 + (w64 (x_86.W * x_86.H)))))), (25, (.ref n_94 0 0)), (134, (vL Rect.enc r_47.1)), (135, (vI (r_47.1.length : Int))), (136, (vI (k_84 : Int))), (150, (vL Rect.enc y_95)), (151, (vI (y_95.length : Int))), (152, (vI (k_97 : Int)))] : List (Nat × V))) p.1 p.2.1 p.2.2) (fun p => (fun (k_97 : Nat) (l_98 : List Rect) (s_102 : Unit) => ([(n_2, some (.cells 2 [(vL eI s_33.2.1), (vI s_33.2.2)])), (n_14, gF 4 Rect.enc s_11.1), (n_36, gF 4 Rect.enc s_33.1), (n_52, gF 4 Rect.enc r_53), (n_94, some (.cells 4 [(vI x_86.X), (vI x_86.Y), (vI x_86.W), (vI x_86.H)]))] : Hp)) p.1 p.2.1 p.2.2) (fun p => forR (fun k x s => keep_RegionsSame_L3 x_86 k x s) p.2.1 p.1 p.2.2 = some o_105 ∧ (y_95).drop p.1 = p.2.1) (fun p => p.2.1.length) (0, y_95, ()) ⟨hj_106, rfl⟩ rfl (pre_r rfl) ?_)
        rintro ⟨k_97, l_98, s_102⟩ ⟨hL_104, hD_100⟩
        dsimp only at hL_104 hD_100
        cases l_98 with
        | nil =>
         obtain rfl := some_inj hL_104
         refine wH_seq (wH_region (h_op (vB (decide ((k_97 : Int) < (y_95.length : Int)))) wz rfl (h_nil ?_)))
         refine wH_seq (wH_iff rfl (drop_nil hD_100) (wH_exit ?_))
         exact cut_mk (s_102) rfl rfl (pre_r rfl)
        | cons x_99 l_98 =>
         obtain ⟨c_, hc_103, hL_104⟩ := bind_some hL_104
         refine wH_seq (wH_region (h_op (vB (decide ((k_97 : Int) < (y_95.length : Int)))) wz rfl (h_nil ?_)))
         refine wH_seq (wH_ift rfl (drop_cons hD_100) (wH_skip ?_))
         unfold keep_RegionsSame_L3 at hc_103
         refine wH_seq (wH_block (wH_seq (wH_region (h_ia es27 rfl rfl (drop_idx hD_100) rfl wz (h_ldc sz29 ag29 rfl (.d (.agg (Rect.enc x_99))) rfl wz (h_alloc 0 (.inl rfl) z29 rfl wz (fun n_107 => h_str 0 (.inl rfl) (fun _ _ _ => trivial) 5 sz29 rfl rfl [(vI x_99.X), (vI x_99.Y), (vI x_99.W), (vI x_99.H)] rfl wz (h_nil (wH_seq (wH_region (h_ldr 0 4 (.inl rfl) (fun _ _ _ => trivial) sz29 ag29 rfl rfl (.d (.agg (Rect.enc x_86))) rfl wz (h_ldr 0 5 (.inl rfl) (fun _ _ _ => trivial) sz29 ag29 rfl rfl (.d (.agg (Rect.enc x_99))) rfl wz ?_))))))))))))
         obtain ⟨r_108, hr_109, hc_103⟩ := bind_some hc_103
         refine h_call0 (screen_Meet_ok hr_109) rfl hb22 rfl rfl rfl rfl wz (h_op (.tup [(.d (.agg (Rect.enc r_108.1))), (vB r_108.2.1), (vI r_108.2.2)]) wz rfl (h_op (.d (.agg (Rect.enc r_108.1))) wz rfl (h_op (vB r_108.2.1) wz rfl (h_op (vI r_108.2.2) wz rfl (h_alloc 0 (.inl rfl) z29 rfl wz (fun n_110 => h_str 0 (.inl rfl) (fun _ _ _ => trivial) 6 sz29 rfl rfl [(vI r_108.1.X), (vI r_108.1.Y), (vI r_108.1.W), (vI r_108.1.H)] rfl wz (h_op (vB r_108.2.1) wz rfl (h_op (vI r_108.2.2) wz rfl (h_nil (wH_seq ?_))))))))))
         obtain ⟨v_111, h_112, hc_103⟩ := bind_some hc_103
         refine wH_join (β := Unit) (fun _ => ([(3, (.ref n_2 0 0)), (4, (vL Rect.enc s_11.1)), (5, (vL Rect.enc s_33.1)), (6, (vL Rect.enc r_47.1)), (13, (vL Rect.enc r_60.1)), (15, (vI r_62.1)), (23, (vI (w64 (s_89 + (w64 (x_86.W * x_86.H)))))), (25, (.ref n_94 0 0)), (134, (vL Rect.enc r_47.1)), (135, (vI (r_47.1.length : Int))), (136, (vI (k_84 : Int))), (150, (vL Rect.enc y_95)), (151, (vI (y_95.length : Int))), (152, (vI (k_97 : Int))), (167, (vB v_111))] : List (Nat × V))) (fun _ => ([(n_2, some (.cells 2 [(vL eI s_33.2.1), (vI s_33.2.2)])), (n_14, gF 4 Rect.enc s_11.1), (n_36, gF 4 Rect.enc s_33.1), (n_52, gF 4 Rect.enc r_53), (n_94, some (.cells 4 [(vI x_86.X), (vI x_86.Y), (vI x_86.W), (vI x_86.H)])), (n_107, some (.cells 4 [(vI x_99.X), (vI x_99.Y), (vI x_99.W), (vI x_99.H)])), (n_110, some (.cells 4 [(vI r_108.1.X), (vI r_108.1.Y), (vI r_108.1.W), (vI r_108.1.H)]))] : Hp)) (fun _ => True) ?_ ?_
         ·refine wH_region (h_op (vI r_108.2.2) wz rfl (h_op (vB (r_108.2.2 != 0)) wz rfl ?_))
          rcases cond_some h_112 with ⟨hc_113, h_112⟩ | ⟨hc_113, h_112⟩
          ·refine h_movb rfl hc_113 wz (h_skip (wg rfl rfl rfl) (h_op (vB true) wz rfl (h_nil ?_)))
           obtain rfl := some_inj h_112
           exact cut_mk () trivial rfl (pre_r rfl)
          ·refine h_movb rfl hc_113 wz (h_op (vB r_108.2.1) (wg rfl rfl rfl) rfl (h_op (vB r_108.2.1) wz rfl (h_nil ?_)))
           obtain rfl := some_inj h_112
           exact cut_mk () trivial rfl (pre_r rfl)
         ·rintro ⟨⟩ _ sl_ H_ hp_ hq_
          refine wH_at _ hp_ hq_ ?_
          rcases cond_some hc_103 with ⟨hc_114, hc_103⟩ | ⟨hc_114, hc_103⟩
          ·refine wH_ift rfl hc_114 (wH_seq (wH_region (h_op (vB false) wz rfl (h_nil ?_))))
           obtain rfl := some_inj hc_103
           obtain rfl := some_inj hL_104
           obtain rfl := some_inj hc_90
           obtain rfl := some_inj hL_91
           obtain rfl := some_inj hF
           exact wH_ret (fin0 (.inr rfl) [(vB false)] ⟨rfl, trivial⟩ rfl rfl rfl)
          ·refine wH_iff rfl hc_114 (wH_skip (wH_region (h_opw (w64_next hD_100 hn_101) wz rfl (h_op (vI ((k_97 + 1 : Nat) : Int)) wz rfl (h_nil ?_)))))
           obtain rfl := some_inj hc_103
           exact loop_mk (k_97 + 1, l_98, ()) ⟨hL_104, drop_next hD_100⟩ (Nat.lt_succ_self _) rfl (pre_r rfl)
       ·rintro s_102 ho_ sl_ H_ hp_ hq_
        subst ho_
        refine wH_at _ hp_ hq_ (wH_region (h_opw (w64_next hD_87 hn_88) wz rfl (h_op (vI ((k_84 + 1 : Nat) : Int)) wz rfl (h_nil ?_))))
        obtain rfl := some_inj hc_90
        exact loop_mk (k_84 + 1, l_85, (w64 (s_89 + (w64 (x_86.W * x_86.H))))) ⟨hL_91, drop_next hD_87⟩ (Nat.lt_succ_self _) rfl (pre_r rfl)
     ·rintro s_89 ho_ sl_ H_ hp_ hq_
      subst ho_
      refine wH_at _ hp_ hq_ (wH_seq (wH_seq (wH_region (h_op (vI 0) wz rfl (h_nil ?_)))))
      obtain ⟨o_123, hj_124, hF⟩ := bind_some hF
      obtain ⟨hn_119, hj_124⟩ := forL_some hj_124
      refine wH_join (β := ((List Int) × Int)) (fun (s_120 : (List Int) × Int) => ([(15, (vI r_62.1)), (23, (vI s_89))] : List (Nat × V))) (fun (s_120 : (List Int) × Int) => ([(n_2, some (.cells 2 [(vL eI s_120.1), (vI s_120.2)])), (n_14, gF 4 Rect.enc s_11.1), (n_36, gF 4 Rect.enc s_33.1), (n_52, gF 4 Rect.enc r_53)] : Hp)) (fun p => o_123 = .go p) ?_ ?_
      ·refine wH_block (wH_loop (β := Nat × (List Nat) × ((List Int) × Int)) (fun p => (fun (k_115 : Nat) (l_116 : List Nat) (s_120 : (List Int) × Int) => ([(3, (.ref n_2 0 0)), (4, (vL Rect.enc s_11.1)), (5, (vL Rect.enc s_33.1)), (6, (vL Rect.enc r_47.1)), (13, (vL Rect.enc r_60.1)), (15, (vI r_62.1)), (23, (vI s_89)), (170, (vI (k_115 : Int)))] : List (Nat × V))) p.1 p.2.1 p.2.2) (fun p => (fun (k_115 : Nat) (l_116 : List Nat) (s_120 : (List Int) × Int) => ([(n_2, some (.cells 2 [(vL eI s_120.1), (vI s_120.2)])), (n_14, gF 4 Rect.enc s_11.1), (n_36, gF 4 Rect.enc s_33.1), (n_52, gF 4 Rect.enc r_53)] : Hp)) p.1 p.2.1 p.2.2) (fun p => forR (fun k x s => keep_RegionsSame_L5 r_47 s_11 r_60 s_33 k x s) p.2.1 p.1 p.2.2 = some o_123 ∧ ((List.range (5 : Int).toNat)).drop p.1 = p.2.1) (fun p => p.2.1.length) (0, (List.range (5 : Int).toNat), (s_33.2.1, s_33.2.2)) ⟨hj_124, rfl⟩ rfl (pre_r rfl) ?_)
       rintro ⟨k_115, l_116, s_120⟩ ⟨hL_122, hD_118⟩
       dsimp only at hL_122 hD_118
       cases l_116 with
       | nil =>
        obtain rfl := some_inj hL_122
        refine wH_seq (wH_region (h_op (vB (decide ((k_115 : Int) < 5))) wz rfl (h_nil ?_)))
        refine wH_seq (wH_iff rfl (range_nil hD_118) (wH_exit ?_))
        exact cut_mk (s_120) rfl rfl (pre_r rfl)
       | cons x_117 l_116 =>
        obtain ⟨c_, hc_121, hL_122⟩ := bind_some hL_122
        refine wH_seq (wH_region (h_op (vB (decide ((k_115 : Int) < 5))) wz rfl (h_nil ?_)))
        refine wH_seq (wH_ift rfl (range_cons hD_118) (wH_skip ?_))
        unfold keep_RegionsSame_L5 at hc_121
        refine wH_seq (wH_block (wH_seq (wH_region (h_op (.ref n_2 0 0) wz rfl ?_))))
        obtain ⟨r_125, hr_126, hc_121⟩ := bind_some hc_121
        refine h_callq 0 [0] (.inl rfl) (fun _ _ _ => trivial) (mk_Stream_Range_ok hr_126) rfl hb10 rfl (by kernel_rfl) (by kernel_rfl) (by kernel_rfl) (by kernel_rfl) (by kernel_rfl) (by kernel_rfl) (by kernel_rfl) (by decide) (by kernel_rfl) wz (vI r_125.1) (by kernel_rfl) ([(n_2, some (.cells 2 [(vL eI r_125.2.L), (vI r_125.2.f_at)])), (n_14, gF 4 Rect.enc s_11.1), (n_36, gF 4 Rect.enc s_33.1), (n_52, gF 4 Rect.enc r_53)] : Hp) (by kernel_rfl) (h_op (.ref n_2 0 0) wz rfl ?_)
        obtain ⟨r_128, hr_129, hc_121⟩ := bind_some hc_121
        refine h_callq 0 [0] (.inl rfl) (fun _ _ _ => trivial) (mk_Stream_Range_ok hr_129) rfl hb10 rfl (by kernel_rfl) (by kernel_rfl) (by kernel_rfl) (by kernel_rfl) (by kernel_rfl) (by kernel_rfl) (by kernel_rfl) (by decide) (by kernel_rfl) wz (vI r_128.1) (by kernel_rfl) ([(n_2, some (.cells 2 [(vL eI r_128.2.L), (vI r_128.2.f_at)])), (n_14, gF 4 Rect.enc s_11.1), (n_36, gF 4 Rect.enc s_33.1), (n_52, gF 4 Rect.enc r_53)] : Hp) (by kernel_rfl) (h_op (vI r_125.1) wz rfl (h_op (vI r_128.1) wz rfl (h_nil (wH_seq ?_))))
        obtain ⟨v_131, h_132, hc_121⟩ := bind_some hc_121
        refine wH_join (β := Unit) (fun _ => ([(3, (.ref n_2 0 0)), (4, (vL Rect.enc s_11.1)), (5, (vL Rect.enc s_33.1)), (6, (vL Rect.enc r_47.1)), (13, (vL Rect.enc r_60.1)), (15, (vI r_62.1)), (23, (vI s_89)), (170, (vI (k_115 : Int))), (202, (vB v_131))] : List (Nat × V))) (fun _ => ([(n_2, some (.cells 2 [(vL eI r_128.2.L), (vI r_128.2.f_at)])), (n_14, gF 4 Rect.enc s_11.1), (n_36, gF 4 Rect.enc s_33.1), (n_52, gF 4 Rect.enc r_53)] : Hp)) (fun _ => True) ?_ ?_
        ·refine wH_region (h_op (vL Rect.enc r_47.1) wz rfl (h_op (vI r_125.1) wz rfl (h_op (vI r_128.1) wz rfl ?_)))
         obtain ⟨r_133, hr_134, h_132⟩ := bind_some h_132
         refine h_call0 (keep_one_ok hr_134) rfl hb23 rfl rfl rfl rfl wz (h_op (vL Rect.enc s_11.1) wz rfl (h_op (vI r_125.1) wz rfl (h_op (vI r_128.1) wz rfl ?_)))
         obtain ⟨r_135, hr_136, h_132⟩ := bind_some h_132
         refine h_call0 (keep_one_ok hr_136) rfl hb23 rfl rfl rfl rfl wz (h_bneq un4 rfl rfl wz ?_)
         rcases cond_some h_132 with ⟨hc_137, h_132⟩ | ⟨hc_137, h_132⟩
         ·refine h_movb rfl hc_137 wz (h_skip (wg rfl rfl rfl) (h_skip (wg rfl rfl rfl) (h_skip (wg rfl rfl rfl) (h_skip (wg rfl rfl rfl) (h_skip (wg rfl rfl rfl) (h_skip (wg rfl rfl rfl) (h_skip (wg rfl rfl rfl) (h_skip (wg rfl rfl rfl) (h_skip (wg rfl rfl rfl) (h_skip (wn rfl rfl) (h_skip (wn rfl rfl) (h_skip (wn rfl rfl) (h_skip (wn rfl rfl) (h_skip (wn rfl rfl) (h_skip (wg rfl rfl rfl) (h_skip (wg rfl rfl rfl) (h_op (vB true) wz rfl (h_nil ?_))))))))))))))))))
          obtain rfl := some_inj h_132
          exact cut_mk () trivial rfl (pre_r rfl)
         ·refine h_movb rfl hc_137 wz (h_op (vL Rect.enc r_60.1) (wg rfl rfl rfl) rfl (h_op (vI r_125.1) (wg rfl rfl rfl) rfl (h_op (vI r_128.1) (wg rfl rfl rfl) rfl ?_)))
          obtain ⟨r_138, hr_139, h_132⟩ := bind_some h_132
          refine h_call0 (keep_one_ok hr_139) rfl hb23 rfl rfl rfl rfl (wg rfl rfl rfl) (h_op (vL Rect.enc s_11.1) (wg rfl rfl rfl) rfl (h_op (vI r_125.1) (wg rfl rfl rfl) rfl (h_op (vI r_128.1) (wg rfl rfl rfl) rfl ?_)))
          obtain ⟨r_140, hr_141, h_132⟩ := bind_some h_132
          refine h_call0 (keep_one_ok hr_141) rfl hb23 rfl rfl rfl rfl (wg rfl rfl rfl) ?_
          rcases cond_some h_132 with ⟨hc_142, h_132⟩ | ⟨hc_142, h_132⟩
          ·refine h_movb rfl hc_142 (wg rfl rfl rfl) (h_op (vL Rect.enc s_33.1) (wg rfl rfl rfl) rfl (h_op (vI r_125.1) (wg rfl rfl rfl) rfl (h_op (vI r_128.1) (wg rfl rfl rfl) rfl ?_)))
           obtain ⟨r_143, hr_144, h_132⟩ := bind_some h_132
           refine h_call0 (keep_one_ok hr_144) rfl hb23 rfl rfl rfl rfl (wg rfl rfl rfl) (h_op (vB (!r_143)) (wg rfl rfl rfl) rfl (h_op (vB (!r_143)) (wg rfl rfl rfl) rfl (h_bneq un4 rfl rfl (wg rfl rfl rfl) (h_op (vB (!(r_138 == (!r_143)))) wz rfl (h_nil ?_)))))
           obtain rfl := some_inj h_132
           exact cut_mk () trivial rfl (pre_r rfl)
          ·refine h_movb rfl hc_142 (wg rfl rfl rfl) (h_skip (wg rfl rfl rfl) (h_skip (wg rfl rfl rfl) (h_skip (wg rfl rfl rfl) (h_skip (wg rfl rfl rfl) (h_skip (wg rfl rfl rfl) (h_op (vB false) (wg rfl rfl rfl) rfl (h_bneq un4 rfl rfl (wg rfl rfl rfl) (h_op (vB (!(r_138 == false))) wz rfl (h_nil ?_)))))))))
           obtain rfl := some_inj h_132
           exact cut_mk () trivial rfl (pre_r rfl)
        ·rintro ⟨⟩ _ sl_ H_ hp_ hq_
         refine wH_at _ hp_ hq_ ?_
         rcases cond_some hc_121 with ⟨hc_145, hc_121⟩ | ⟨hc_145, hc_121⟩
         ·refine wH_ift rfl hc_145 (wH_seq (wH_region (h_op (vB false) wz rfl (h_nil ?_))))
          obtain rfl := some_inj hc_121
          obtain rfl := some_inj hL_122
          obtain rfl := some_inj hF
          exact wH_ret (fin0 (.inr rfl) [(vB false)] ⟨rfl, trivial⟩ rfl rfl rfl)
         ·refine wH_iff rfl hc_145 (wH_skip (wH_region (h_opw (w64_nextr hD_118 hn_119) wz rfl (h_op (vI ((k_115 + 1 : Nat) : Int)) wz rfl (h_nil ?_)))))
          obtain rfl := some_inj hc_121
          exact loop_mk (k_115 + 1, l_116, (r_128.2.L, r_128.2.f_at)) ⟨hL_122, drop_next hD_118⟩ (Nat.lt_succ_self _) rfl (pre_r rfl)
      ·rintro s_120 ho_ sl_ H_ hp_ hq_
       subst ho_
       refine wH_at _ hp_ hq_ (wH_seq ?_)
       obtain ⟨v_146, h_147, hF⟩ := bind_some hF
       refine wH_join (β := Unit) (fun _ => ([(2, (vB v_146))] : List (Nat × V))) (fun _ => ([(n_2, some (.cells 2 [(vL eI s_120.1), (vI s_120.2)])), (n_14, gF 4 Rect.enc s_11.1), (n_36, gF 4 Rect.enc s_33.1), (n_52, gF 4 Rect.enc r_53)] : Hp)) (fun _ => True) ?_ ?_
       ·refine wH_region (h_op (vI s_89) wz rfl (h_op (vI r_62.1) wz rfl (h_op (vB (s_89 == r_62.1)) wz rfl ?_)))
        rcases cond_some h_147 with ⟨hc_148, h_147⟩ | ⟨hc_148, h_147⟩
        ·refine h_movb rfl hc_148 wz ?_
         obtain ⟨r_149, hr_150, h_147⟩ := bind_some h_147
         refine h_call0 (keep_ready_ok hr_150) rfl hb14 rfl rfl rfl rfl (wg rfl rfl rfl) (h_op (vB r_149) wz rfl (h_op (vB r_149) wz rfl (h_nil ?_)))
         obtain rfl := some_inj h_147
         exact cut_mk () trivial rfl (pre_r rfl)
        ·refine h_movb rfl hc_148 wz (h_skip (wg rfl rfl rfl) (h_op (vB false) wz rfl (h_op (vB false) wz rfl (h_nil ?_))))
         obtain rfl := some_inj h_147
         exact cut_mk () trivial rfl (pre_r rfl)
       ·rintro ⟨⟩ _ sl_ H_ hp_ hq_
        refine wH_at _ hp_ hq_ ?_
        obtain rfl := some_inj hF
        exact wH_ret (fin0 (.inr rfl) [(vB v_146)] ⟨rfl, trivial⟩ rfl rfl rfl)
end Go.Proofs.YtipcgokielgnhaaGreatDoor.Law

