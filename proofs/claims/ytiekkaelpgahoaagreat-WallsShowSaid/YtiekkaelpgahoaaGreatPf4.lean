/-
 The machine computes these plain functions (written by a program of ours).
-/
import Derived.Test.YtiekkaelpgahoaaGreatFacts
import Derived.Test.YtiekkaelpgahoaaGreatDefs
import Derived.Test.YtiekkaelpgahoaaGreatPf3
open Go Go.Eng Go.Proofs
namespace Go.Proofs.YtiekkaelpgahoaaGreat.Law
set_option maxRecDepth 100000
set_option linter.unusedVariables false
set_option maxHeartbeats 1000000
theorem ref_cuts_v2_ok {l_1 : (List Rect)} {r : (List Int)} (hF : ref_cuts_v2 l_1 = some r) :
  FnM Tryz.prog 112 [(vL Rect.enc l_1), (.fn 114 [])] [] (vL eI r) [] := by
 refine FnM.of_wH ⟨Tryz.prog, 32, [], []⟩ rfl Tryz.func112 rfl rfl (Nat.le_of_ble_eq_true rfl) (by kernel_rfl) ?_
 unfold ref_cuts_v2 at hF
 refine wH_seq (wH_region (h_op .nil wz rfl (h_nil (wH_seq (wH_region (h_op .nil wz rfl (h_nil (wH_seq (wH_seq (wH_region (h_op (vL Rect.enc l_1) wz rfl (h_len un62 rfl wz (h_op (vI 0) wz rfl (h_nil (wH_new (fun n_9 => ?_))))))))))))))))
 obtain ⟨o_14, hj_15, hF⟩ := bind_some hF
 obtain ⟨hn_7, hj_15⟩ := forL_some hj_15
 refine wH_join (β := ((List Int)) × Nm) (fun p => (fun (s_8 : (List Int)) (n_11 : Nm) => ([(5, (gV n_11 1 s_8))] : List (Nat × V))) p.1 p.2) (fun p => (fun (s_8 : (List Int)) (n_11 : Nm) => ([(n_11, gB 1 eI s_8)] : Hp)) p.1 p.2) (fun p => o_14 = .go p.1) ?_ ?_
 ·refine wH_block (wH_loop (β := Nat × (List Rect) × ((List Int)) × Nm) (fun p => (fun (k_3 : Nat) (l_4 : List Rect) (s_8 : (List Int)) (n_11 : Nm) => ([(1, (.fn 114 [])), (5, (gV n_11 1 s_8)), (10, (vL Rect.enc l_1)), (11, (vI (l_1.length : Int))), (12, (vI (k_3 : Int)))] : List (Nat × V))) p.1 p.2.1 p.2.2.1 p.2.2.2) (fun p => (fun (k_3 : Nat) (l_4 : List Rect) (s_8 : (List Int)) (n_11 : Nm) => ([(n_11, gB 1 eI s_8)] : Hp)) p.1 p.2.1 p.2.2.1 p.2.2.2) (fun p => forR (fun k x s => ref_cuts_v2_L1 k x s) p.2.1 p.1 p.2.2.1 = some o_14 ∧ (l_1).drop p.1 = p.2.1) (fun p => p.2.1.length) (0, l_1, ([] : List Int), n_9) ⟨hj_15, rfl⟩ rfl (pre_r rfl) ?_)
  rintro ⟨k_3, l_4, s_8, n_11⟩ ⟨hL_13, hD_6⟩
  dsimp only at hL_13 hD_6
  cases l_4 with
  | nil =>
   obtain rfl := some_inj hL_13
   refine wH_seq (wH_region (h_op (vB (decide ((k_3 : Int) < (l_1.length : Int)))) wz rfl (h_nil ?_)))
   refine wH_seq (wH_iff rfl (drop_nil hD_6) (wH_exit ?_))
   exact cut_mk (s_8, n_11) rfl rfl (pre_r rfl)
  | cons x_5 l_4 =>
   obtain ⟨c_, hc_12, hL_13⟩ := bind_some hL_13
   refine wH_seq (wH_region (h_op (vB (decide ((k_3 : Int) < (l_1.length : Int)))) wz rfl (h_nil ?_)))
   refine wH_seq (wH_ift rfl (drop_cons hD_6) (wH_skip ?_))
   unfold ref_cuts_v2_L1 at hc_12
   refine wH_seq (wH_block (wH_seq (wH_region (h_ia es62 rfl rfl (drop_idx hD_6) rfl wz (h_ldc sz49 ag49 rfl (.d (.agg (Rect.enc x_5))) rfl wz (h_alloc 0 (.inl rfl) z49 rfl wz (fun n_16 => h_str 0 (.inl rfl) (fun _ _ _ => trivial) 1 sz49 rfl rfl [(vI x_5.X), (vI x_5.Y), (vI x_5.W), (vI x_5.H)] rfl wz (h_nil (wH_seq (wH_region (h_op (.fn 114 []) wz rfl (h_ldr 0 1 (.inl rfl) (fun _ _ _ => trivial) sz49 ag49 rfl rfl (.d (.agg (Rect.enc x_5))) rfl wz ?_))))))))))))
   obtain ⟨r_17, hr_18, hc_12⟩ := bind_some hc_12
   refine h_call0 (ref_regionOf_2_ok hr_18) rfl hb114 rfl rfl rfl rfl wz (h_op (.tup [(vI r_17.1), (vI r_17.2)]) wz rfl (h_op (vI r_17.1) wz rfl (h_op (vI r_17.2) wz rfl (h_op (vI r_17.1) wz rfl (h_op (vI r_17.2) wz rfl (h_nil (wH_region (h_op (gV n_11 1 s_8) wz rfl (h_op (vI r_17.1) wz rfl (h_op (vI r_17.2) wz rfl (h_lit (([r_17.1, r_17.2] : List Int).map eI) es22 ez22 rfl rfl rfl rfl rfl wz ?_)))))))))))
   obtain ⟨a_19, hz_20, hc_12⟩ := bind_some hc_12
   refine h_appg 0 (.inl rfl) (fun _ _ _ => trivial) (i := 0) el22 el22 sz3 z3 rfl (by decide) by3 (by decide) (fun _ => rfl) rfl rfl rfl hz_20 wz (fun n_21 => h_op (gV n_21 1 a_19) wz rfl (h_nil (wH_region (h_opw (w64_next hD_6 hn_7) wz rfl (h_op (vI ((k_3 + 1 : Nat) : Int)) wz rfl (h_nil ?_))))))
   obtain rfl := some_inj hc_12
   exact loop_mk (k_3 + 1, l_4, a_19, n_21) ⟨hL_13, drop_next hD_6⟩ (Nat.lt_succ_self _) rfl (pre_r rfl)
 ·rintro ⟨s_8, n_11⟩ ho_ sl_ H_ hp_ hq_
  subst ho_
  refine wH_at _ hp_ hq_ (wH_seq (wH_region (h_op (gV n_11 1 s_8) wz rfl ?_)))
  obtain ⟨r_22, hr_23, hF⟩ := bind_some hF
  obtain ⟨_, hs_24, hF⟩ := bind_some hF
  replace hs_24 := sameL_eq hs_24
  refine h_callv 0 [] 0 0 (.inl rfl) (fun _ _ _ => trivial) (slices_Sort_int_int_v1_ok hr_23) rfl hb119 rfl rfl rfl (by kernel_rfl) rfl (.inl rfl) rfl (by kernel_rfl) (by kernel_rfl) (by kernel_rfl) (by kernel_rfl) rfl (by decide) (by kernel_rfl) gB_ok (gB_ho hs_24) wz ([(n_11, gB 1 eI r_22)] : Hp) (by kernel_rfl) (h_re (v' := (gV n_11 1 r_22)) 28 rfl (gV_len hs_24.symm) (h_re (v' := (gV n_11 1 r_22)) 5 rfl (gV_len hs_24.symm) (h_nil (wH_seq (wH_region (h_op (gV n_11 1 r_22) wz rfl ?_))))))
  obtain ⟨r_25, hr_26, hF⟩ := bind_some hF
  refine h_callv 0 [] 0 0 (.inl rfl) (fun _ _ _ => trivial) (slices_Compact_int_int_v1_ok hr_26) rfl hb120 rfl rfl rfl (by kernel_rfl) rfl (.inl rfl) rfl (by kernel_rfl) (by kernel_rfl) (by kernel_rfl) (by kernel_rfl) rfl (by decide) (by kernel_rfl) none_ok (fun _ => rfl) wz ([(n_11, none)] : Hp) (by kernel_rfl) (h_op (vL eI r_25) wz rfl (h_nil ?_))
  obtain rfl := some_inj hF
  exact wH_ret (fin0 (.inr rfl) [(vL eI r_25)] ⟨rfl, trivial⟩ rfl rfl rfl)
theorem ref_regionOf_3_ok {a_1 : Rect} {b_2 : Rect} {r : Bool} (hF : ref_regionOf_3 a_1 b_2 = some r) :
  FnM Tryz.prog 116 [(.d (.agg (Rect.enc a_1))), (.d (.agg (Rect.enc b_2)))] [] (vB r) [] := by
 refine FnM.of_wH ⟨Tryz.prog, 27, [], []⟩ rfl Tryz.func116 rfl rfl (Nat.le_of_ble_eq_true rfl) (by kernel_rfl) ?_
 unfold ref_regionOf_3 at hF
 refine wH_seq (wH_region (h_box 0 (.inl rfl) [(vI a_1.X), (vI a_1.Y), (vI a_1.W), (vI a_1.H)] rfl rfl wz (fun n_3 => h_box 0 (.inl rfl) [(vI b_2.X), (vI b_2.Y), (vI b_2.W), (vI b_2.H)] rfl rfl wz (fun n_4 => h_op (vB false) wz rfl (h_nil (wH_seq ?_))))))
 obtain ⟨v_5, h_6, hF⟩ := bind_some hF
 refine wH_join (β := Unit) (fun _ => ([(4, (vB v_5))] : List (Nat × V))) (fun _ => ([(n_3, some (.cells 4 [(vI a_1.X), (vI a_1.Y), (vI a_1.W), (vI a_1.H)])), (n_4, some (.cells 4 [(vI b_2.X), (vI b_2.Y), (vI b_2.W), (vI b_2.H)]))] : Hp)) (fun _ => True) ?_ ?_
 ·refine wH_region (h_far pl49_0 rfl 0 rfl wz (h_ldr 0 0 (.inl rfl) (fun _ _ _ => trivial) sz3 ag3 rfl rfl (vI a_1.X) rfl wz (h_far pl49_0 rfl 0 rfl wz (h_ldr 0 1 (.inl rfl) (fun _ _ _ => trivial) sz3 ag3 rfl rfl (vI b_2.X) rfl wz (h_op (vB (a_1.X == b_2.X)) wz rfl ?_)))))
  rcases cond_some h_6 with ⟨hc_7, h_6⟩ | ⟨hc_7, h_6⟩
  ·refine h_movb rfl hc_7 wz (h_far pl49_2 rfl 2 rfl (wg rfl rfl rfl) (h_ldr 0 0 (.inl rfl) (fun _ _ _ => trivial) sz3 ag3 rfl rfl (vI a_1.W) rfl (wg rfl rfl rfl) (h_far pl49_2 rfl 2 rfl (wg rfl rfl rfl) (h_ldr 0 1 (.inl rfl) (fun _ _ _ => trivial) sz3 ag3 rfl rfl (vI b_2.W) rfl (wg rfl rfl rfl) (h_op (vB (a_1.W == b_2.W)) (wg rfl rfl rfl) rfl (h_op (vB (a_1.W == b_2.W)) wz rfl ?_))))))
   rcases cond_some h_6 with ⟨hc_8, h_6⟩ | ⟨hc_8, h_6⟩
   ·refine h_movb rfl hc_8 wz (h_far pl49_1 rfl 1 rfl (wg rfl rfl rfl) (h_ldr 0 0 (.inl rfl) (fun _ _ _ => trivial) sz3 ag3 rfl rfl (vI a_1.Y) rfl (wg rfl rfl rfl) (h_far pl49_1 rfl 1 rfl (wg rfl rfl rfl) (h_ldr 0 1 (.inl rfl) (fun _ _ _ => trivial) sz3 ag3 rfl rfl (vI b_2.Y) rfl (wg rfl rfl rfl) (h_far pl49_3 rfl 3 rfl (wg rfl rfl rfl) (h_ldr 0 1 (.inl rfl) (fun _ _ _ => trivial) sz3 ag3 rfl rfl (vI b_2.H) rfl (wg rfl rfl rfl) (h_op (vI (w64 (b_2.Y + b_2.H))) (wg rfl rfl rfl) rfl (h_op (vB (a_1.Y == (w64 (b_2.Y + b_2.H)))) (wg rfl rfl rfl) rfl (h_op (vB (a_1.Y == (w64 (b_2.Y + b_2.H)))) wz rfl (h_op (vB (a_1.Y == (w64 (b_2.Y + b_2.H)))) wz rfl (h_nil ?_)))))))))))
    obtain rfl := some_inj h_6
    exact cut_mk () trivial rfl (pre_r rfl)
   ·refine h_movb rfl hc_8 wz (h_skip (wg rfl rfl rfl) (h_skip (wg rfl rfl rfl) (h_skip (wg rfl rfl rfl) (h_skip (wg rfl rfl rfl) (h_skip (wg rfl rfl rfl) (h_skip (wg rfl rfl rfl) (h_skip (wg rfl rfl rfl) (h_skip (wg rfl rfl rfl) (h_op (vB false) wz rfl (h_op (vB false) wz rfl (h_nil ?_)))))))))))
    obtain rfl := some_inj h_6
    exact cut_mk () trivial rfl (pre_r rfl)
  ·refine h_movb rfl hc_7 wz (h_skip (wg rfl rfl rfl) (h_skip (wg rfl rfl rfl) (h_skip (wg rfl rfl rfl) (h_skip (wg rfl rfl rfl) (h_skip (wg rfl rfl rfl) (h_op (vB false) wz rfl (h_op (vB false) wz rfl (h_skip (wg rfl rfl rfl) (h_skip (wg rfl rfl rfl) (h_skip (wg rfl rfl rfl) (h_skip (wg rfl rfl rfl) (h_skip (wg rfl rfl rfl) (h_skip (wg rfl rfl rfl) (h_skip (wg rfl rfl rfl) (h_skip (wg rfl rfl rfl) (h_op (vB false) wz rfl (h_op (vB false) wz rfl (h_nil ?_))))))))))))))))))
   obtain rfl := some_inj h_6
   exact cut_mk () trivial rfl (pre_r rfl)
 ·rintro ⟨⟩ _ sl_ H_ hp_ hq_
  refine wH_at _ hp_ hq_ ?_
  obtain rfl := some_inj hF
  exact wH_ret (fin0 (.inr rfl) [(vB v_5)] ⟨rfl, trivial⟩ rfl rfl rfl)
theorem slices_EqualFunc_api_Rect_api_Rect_api_Rect_api_Rect_v3_ok {s1_1 : (List Rect)} {s2_2 : (List Rect)} {r : Bool} (hF : slices_EqualFunc_api_Rect_api_Rect_api_Rect_api_Rect_v3 s1_1 s2_2 = some r) :
  FnM Tryz.prog 115 [(dV (exA s1_1 0) 4 s1_1), (dV (exB s1_1 0) 4 s2_2), (.fn 116 [])] (([] : List Box) ++ gI 4 Rect.enc s1_1 ++ gI 4 Rect.enc s2_2) (vB r) (([] : List Box).map some ++ gT s1_1 (gB 4 Rect.enc s1_1) ++ gT s2_2 (gB 4 Rect.enc s2_2)) := by
 refine FnM.of_wHv2 ⟨Tryz.prog, 32, [], []⟩ rfl Tryz.func115 rfl rfl (Nat.le_of_ble_eq_true rfl) (by kernel_rfl) ?_
 unfold slices_EqualFunc_api_Rect_api_Rect_api_Rect_api_Rect_v3 at hF
 refine wH_seq (wH_region (h_op (vB false) wz rfl (h_nil (wH_seq (wH_seq (wH_region (h_op (dV (exA s1_1 0) 4 s1_1) wz rfl (h_lend un62 rfl wz (h_op (dV (exB s1_1 0) 4 s2_2) wz rfl (h_lend un62 rfl wz (h_op (vB ((s1_1.length : Int) != (s2_2.length : Int))) wz rfl (h_nil ?_))))))))))))
 rcases cond_some hF with ⟨hc_4, hF⟩ | ⟨hc_4, hF⟩
 ·refine wH_ift rfl hc_4 (wH_seq (wH_region (h_op (vB false) wz rfl (h_nil ?_))))
  obtain rfl := some_inj hF
  exact wH_ret (finV2 (bs := ([] : List Box)) (os := ([] : List Box)) (xs := s1_1) (ys := s2_2) (o := gB 4 Rect.enc s1_1) (o2 := gB 4 Rect.enc s2_2) (.inr rfl) [(vB false)] ⟨rfl, trivial⟩ rfl rfl rfl rfl rfl rfl (by kernel_rfl) gB_ok gB_ok rfl)
 ·refine wH_iff rfl hc_4 (wH_skip (wH_seq (wH_seq (wH_region (h_op (dV (exA s1_1 0) 4 s1_1) wz rfl (h_lend un62 rfl wz (h_op (vI 0) wz rfl (h_nil ?_))))))))
  obtain ⟨o_13, hj_14, hF⟩ := bind_some hF
  obtain ⟨hn_9, hj_14⟩ := forL_some hj_14
  refine wH_join (β := (Unit)) (fun (s_10 : Unit) => ([] : List (Nat × V))) (fun (s_10 : Unit) => ([((exA s1_1 0), gB 4 Rect.enc s1_1), ((exB s1_1 0), gB 4 Rect.enc s2_2)] : Hp)) (fun p => o_13 = .go p) ?_ ?_
  ·refine wH_block (wH_loop (β := Nat × (List Nat) × (Unit)) (fun p => (fun (k_5 : Nat) (l_6 : List Nat) (s_10 : Unit) => ([(1, (dV (exB s1_1 0) 4 s2_2)), (2, (.fn 116 [])), (15, (dV (exA s1_1 0) 4 s1_1)), (16, (vI (s1_1.length : Int))), (17, (vI (k_5 : Int)))] : List (Nat × V))) p.1 p.2.1 p.2.2) (fun p => (fun (k_5 : Nat) (l_6 : List Nat) (s_10 : Unit) => ([((exA s1_1 0), gB 4 Rect.enc s1_1), ((exB s1_1 0), gB 4 Rect.enc s2_2)] : Hp)) p.1 p.2.1 p.2.2) (fun p => forR (fun k x s => slices_EqualFunc_api_Rect_api_Rect_api_Rect_api_Rect_v3_L1 s1_1 s2_2 k x s) p.2.1 p.1 p.2.2 = some o_13 ∧ ((List.range ((s1_1.length : Int)).toNat)).drop p.1 = p.2.1) (fun p => p.2.1.length) (0, (List.range ((s1_1.length : Int)).toNat), ()) ⟨hj_14, rfl⟩ rfl (pre_r rfl) ?_)
   rintro ⟨k_5, l_6, s_10⟩ ⟨hL_12, hD_8⟩
   dsimp only at hL_12 hD_8
   cases l_6 with
   | nil =>
    obtain rfl := some_inj hL_12
    refine wH_seq (wH_region (h_op (vB (decide ((k_5 : Int) < (s1_1.length : Int)))) wz rfl (h_nil ?_)))
    refine wH_seq (wH_iff rfl (range_nil hD_8) (wH_exit ?_))
    exact cut_mk (s_10) rfl rfl (pre_r rfl)
   | cons x_7 l_6 =>
    obtain ⟨c_, hc_11, hL_12⟩ := bind_some hL_12
    refine wH_seq (wH_region (h_op (vB (decide ((k_5 : Int) < (s1_1.length : Int)))) wz rfl (h_nil ?_)))
    refine wH_seq (wH_ift rfl (range_cons hD_8) (wH_skip ?_))
    unfold slices_EqualFunc_api_Rect_api_Rect_api_Rect_api_Rect_v3_L1 at hc_11
    refine wH_seq (wH_block (wH_seq (wH_region (h_op (vI (k_5 : Int)) wz rfl ?_))))
    obtain ⟨_, hi_15, hc_11⟩ := bind_some hc_11
    refine h_iavd es62 rfl rfl (inR_0 hi_15) (inR_lt hi_15) wz ?_
    obtain ⟨e_16, hy_17, hc_11⟩ := bind_some hc_11
    refine h_ldvg 0 0 (.inl rfl) (fun _ _ _ => trivial) sz49 ag49 rfl rfl hy_17 (.d (.agg (Rect.enc e_16))) rfl wz (h_alloc 0 (.inl rfl) z49 rfl wz (fun n_18 => h_op (vI (k_5 : Int)) wz rfl (h_str 0 (.inl rfl) (fun _ _ _ => trivial) 2 sz49 rfl rfl [(vI e_16.X), (vI e_16.Y), (vI e_16.W), (vI e_16.H)] rfl wz (h_nil (wH_seq (wH_region (h_op (dV (exB s1_1 0) 4 s2_2) wz rfl (h_op (vI (k_5 : Int)) wz rfl ?_))))))))
    obtain ⟨_, hi_19, hc_11⟩ := bind_some hc_11
    refine h_iavd es62 rfl rfl (inR_0 hi_19) (inR_lt hi_19) wz ?_
    obtain ⟨e_20, hy_21, hc_11⟩ := bind_some hc_11
    refine h_ldvg 0 1 (.inl rfl) (fun _ _ _ => trivial) sz49 ag49 rfl rfl hy_21 (.d (.agg (Rect.enc e_20))) rfl wz (h_alloc 0 (.inl rfl) z49 rfl wz (fun n_22 => h_str 0 (.inl rfl) (fun _ _ _ => trivial) 3 sz49 rfl rfl [(vI e_20.X), (vI e_20.Y), (vI e_20.W), (vI e_20.H)] rfl wz (h_nil (wH_seq (wH_region (h_op (.fn 116 []) wz rfl (h_ldr 0 2 (.inl rfl) (fun _ _ _ => trivial) sz49 ag49 rfl rfl (.d (.agg (Rect.enc e_16))) rfl wz (h_ldr 0 3 (.inl rfl) (fun _ _ _ => trivial) sz49 ag49 rfl rfl (.d (.agg (Rect.enc e_20))) rfl wz ?_))))))))
    obtain ⟨r_23, hr_24, hc_11⟩ := bind_some hc_11
    refine h_call0 (ref_regionOf_3_ok hr_24) rfl hb116 rfl rfl rfl rfl wz (h_op (vB (!r_23)) wz rfl (h_nil ?_))
    rcases cond_some hc_11 with ⟨hc_25, hc_11⟩ | ⟨hc_25, hc_11⟩
    ·refine wH_ift rfl hc_25 (wH_seq (wH_region (h_op (vB false) wz rfl (h_nil ?_))))
     obtain rfl := some_inj hc_11
     obtain rfl := some_inj hL_12
     obtain rfl := some_inj hF
     exact wH_ret (finV2 (bs := ([] : List Box)) (os := ([] : List Box)) (xs := s1_1) (ys := s2_2) (o := gB 4 Rect.enc s1_1) (o2 := gB 4 Rect.enc s2_2) (.inr rfl) [(vB false)] ⟨rfl, trivial⟩ rfl rfl rfl rfl rfl rfl (by kernel_rfl) gB_ok gB_ok rfl)
    ·refine wH_iff rfl hc_25 (wH_skip (wH_region (h_opw (w64_nextr hD_8 hn_9) wz rfl (h_op (vI ((k_5 + 1 : Nat) : Int)) wz rfl (h_nil ?_)))))
     obtain rfl := some_inj hc_11
     exact loop_mk (k_5 + 1, l_6, ()) ⟨hL_12, drop_next hD_8⟩ (Nat.lt_succ_self _) rfl (pre_r rfl)
  ·rintro s_10 ho_ sl_ H_ hp_ hq_
   subst ho_
   refine wH_at _ hp_ hq_ (wH_seq (wH_region (h_op (vB true) wz rfl (h_nil ?_))))
   obtain rfl := some_inj hF
   exact wH_ret (finV2 (bs := ([] : List Box)) (os := ([] : List Box)) (xs := s1_1) (ys := s2_2) (o := gB 4 Rect.enc s1_1) (o2 := gB 4 Rect.enc s2_2) (.inr rfl) [(vB true)] ⟨rfl, trivial⟩ rfl rfl rfl rfl rfl rfl (by kernel_rfl) gB_ok gB_ok rfl)
theorem ref_regionOf_v1_ok {l_1 : (List Rect)} {is2_3 : Layout} {is2_4 : Zone} {r : (List Rect)} (hF : ref_regionOf_v1 l_1 is2_3 is2_4 = some r) :
  FnM Tryz.prog 76 [(vL Rect.enc l_1), (.fn 77 [(.ref (extN 0) 0 0), (.ref (extN 1) 0 0)])] [(.cells 4 [(vS is2_3.Key), (vI is2_3.W), (vI is2_3.H), (vL Zone.enc is2_3.Zones)]), (.cells 6 [(vS is2_4.Key), (vI is2_4.On.X), (vI is2_4.On.Y), (vI is2_4.On.W), (vI is2_4.On.H), (vI is2_4.Order)])] (vL Rect.enc r) [some (.cells 4 [(vS is2_3.Key), (vI is2_3.W), (vI is2_3.H), (vL Zone.enc is2_3.Zones)]), some (.cells 6 [(vS is2_4.Key), (vI is2_4.On.X), (vI is2_4.On.Y), (vI is2_4.On.W), (vI is2_4.On.H), (vI is2_4.Order)])] := by
 refine FnM.of_wH ⟨Tryz.prog, 149, [], []⟩ rfl Tryz.func76 rfl rfl (Nat.le_of_ble_eq_true rfl) (by kernel_rfl) ?_
 unfold ref_regionOf_v1 at hF
 refine wH_seq (wH_region (h_op .nil wz rfl (h_nil (wH_seq (wH_region (h_op (vL Rect.enc l_1) wz rfl ?_))))))
 obtain ⟨r_5, hr_6, hF⟩ := bind_some hF
 refine h_call0 (ref_cuts_v1_ok hr_6) rfl hb112 rfl rfl rfl rfl wz (h_op (vL eI r_5) wz rfl (h_nil (wH_seq (wH_region (h_op (vL Rect.enc l_1) wz rfl ?_)))))
 obtain ⟨r_7, hr_8, hF⟩ := bind_some hF
 refine h_call0 (ref_cuts_v2_ok hr_8) rfl hb112 rfl rfl rfl rfl wz (h_op (vL eI r_7) wz rfl (h_nil (wH_seq (wH_region (h_op .nil wz rfl (h_op .nil wz rfl (h_nil (wH_seq (wH_seq (wH_region (h_op (vI 0) wz rfl (h_nil (wH_new (fun n_15 => wH_new (fun n_16 => ?_)))))))))))))))
 obtain ⟨o_23, hj_24, hF⟩ := bind_some hF
 obtain ⟨nq_118, hj_24⟩ := loopO_iter hj_24
 refine wH_join (β := ((List Rect) × (List Rect) × Int) × Nm × Nm) (fun p => (fun (s_14 : (List Rect) × (List Rect) × Int) (n_19 : Nm) (n_20 : Nm) => ([(7, (gV n_19 4 s_14.1)), (8, (gV n_20 4 s_14.2.1))] : List (Nat × V))) p.1 p.2.1 p.2.2) (fun p => (fun (s_14 : (List Rect) × (List Rect) × Int) (n_19 : Nm) (n_20 : Nm) => ([((extN 0), some (.cells 4 [(vS is2_3.Key), (vI is2_3.W), (vI is2_3.H), (vL Zone.enc is2_3.Zones)])), ((extN 1), some (.cells 6 [(vS is2_4.Key), (vI is2_4.On.X), (vI is2_4.On.Y), (vI is2_4.On.W), (vI is2_4.On.H), (vI is2_4.Order)])), (n_19, gB 4 Rect.enc s_14.1), (n_20, gB 4 Rect.enc s_14.2.1)] : Hp)) p.1 p.2.1 p.2.2) (fun p => o_23 = .go p.1) ?_ ?_
 ·refine wH_block (wH_loop (β := Nat × ((List Rect) × (List Rect) × Int) × Nm × Nm) (fun p => (fun (k_9 : Nat) (s_14 : (List Rect) × (List Rect) × Int) (n_19 : Nm) (n_20 : Nm) => ([(1, (.fn 77 [(.ref (extN 0) 0 0), (.ref (extN 1) 0 0)])), (5, (vL eI r_5)), (6, (vL eI r_7)), (7, (gV n_19 4 s_14.1)), (8, (gV n_20 4 s_14.2.1)), (9, (vI s_14.2.2))] : List (Nat × V))) p.1 p.2.1 p.2.2.1 p.2.2.2) (fun p => (fun (k_9 : Nat) (s_14 : (List Rect) × (List Rect) × Int) (n_19 : Nm) (n_20 : Nm) => ([((extN 0), some (.cells 4 [(vS is2_3.Key), (vI is2_3.W), (vI is2_3.H), (vL Zone.enc is2_3.Zones)])), ((extN 1), some (.cells 6 [(vS is2_4.Key), (vI is2_4.On.X), (vI is2_4.On.Y), (vI is2_4.On.W), (vI is2_4.On.H), (vI is2_4.Order)])), (n_19, gB 4 Rect.enc s_14.1), (n_20, gB 4 Rect.enc s_14.2.1)] : Hp)) p.1 p.2.1 p.2.2.1 p.2.2.2) (fun p => iterN (fun s => ref_regionOf_v1_L3 r_7 r_5 is2_3 is2_4 s) p.1 p.2.1 = some o_23) (fun p => p.1) (nq_118, (([] : List Rect), ([] : List Rect), 0), n_15, n_16) hj_24 rfl (pre_r rfl) ?_)
  rintro ⟨k_9, s_14, n_19, n_20⟩ hL_22
  dsimp only at hL_22
  cases k_9 with
  | zero => cases hL_22
  | succ k_9 =>
   obtain ⟨c_, hc_21, hL_22⟩ := bind_some hL_22
   unfold ref_regionOf_v1_L3 at hc_21
   refine wH_seq (wH_seq (wH_region (h_op (vI s_14.2.2) wz rfl (h_op (vI (w64 (s_14.2.2 + 1))) wz rfl (h_op (vL eI r_7) wz rfl (h_len un22 rfl wz (h_op (vB (decide ((w64 (s_14.2.2 + 1)) < (r_7.length : Int)))) wz rfl (h_nil ?_))))))))
   rcases cond_some hc_21 with ⟨hc_25, hc_21⟩ | ⟨hc_25, hc_21⟩
   ·refine wH_ift rfl hc_25 (wH_skip (wH_seq (wH_block (wH_seq (wH_region (h_op .nil wz rfl (h_nil (wH_seq (wH_seq (wH_region (h_op (vI 0) wz rfl (h_nil (wH_new (fun n_32 => ?_))))))))))))))
    obtain ⟨o_37, hj_38, hc_21⟩ := bind_some hc_21
    obtain ⟨nq_114, hj_38⟩ := loopO_iter hj_38
    refine wH_join (β := ((List Rect) × Int) × Nm) (fun p => (fun (s_31 : (List Rect) × Int) (n_34 : Nm) => ([(1, (.fn 77 [(.ref (extN 0) 0 0), (.ref (extN 1) 0 0)])), (5, (vL eI r_5)), (6, (vL eI r_7)), (7, (gV n_19 4 s_14.1)), (8, (gV n_20 4 s_14.2.1)), (9, (vI s_14.2.2)), (10, (gV n_34 4 s_31.1))] : List (Nat × V))) p.1 p.2) (fun p => (fun (s_31 : (List Rect) × Int) (n_34 : Nm) => ([((extN 0), some (.cells 4 [(vS is2_3.Key), (vI is2_3.W), (vI is2_3.H), (vL Zone.enc is2_3.Zones)])), ((extN 1), some (.cells 6 [(vS is2_4.Key), (vI is2_4.On.X), (vI is2_4.On.Y), (vI is2_4.On.W), (vI is2_4.On.H), (vI is2_4.Order)])), (n_19, gB 4 Rect.enc s_14.1), (n_20, gB 4 Rect.enc s_14.2.1), (n_34, gB 4 Rect.enc s_31.1)] : Hp)) p.1 p.2) (fun p => o_37 = .go p.1) ?_ ?_
    ·refine wH_block (wH_loop (β := Nat × ((List Rect) × Int) × Nm) (fun p => (fun (k_26 : Nat) (s_31 : (List Rect) × Int) (n_34 : Nm) => ([(1, (.fn 77 [(.ref (extN 0) 0 0), (.ref (extN 1) 0 0)])), (5, (vL eI r_5)), (6, (vL eI r_7)), (7, (gV n_19 4 s_14.1)), (8, (gV n_20 4 s_14.2.1)), (9, (vI s_14.2.2)), (10, (gV n_34 4 s_31.1)), (11, (vI s_31.2))] : List (Nat × V))) p.1 p.2.1 p.2.2) (fun p => (fun (k_26 : Nat) (s_31 : (List Rect) × Int) (n_34 : Nm) => ([((extN 0), some (.cells 4 [(vS is2_3.Key), (vI is2_3.W), (vI is2_3.H), (vL Zone.enc is2_3.Zones)])), ((extN 1), some (.cells 6 [(vS is2_4.Key), (vI is2_4.On.X), (vI is2_4.On.Y), (vI is2_4.On.W), (vI is2_4.On.H), (vI is2_4.Order)])), (n_19, gB 4 Rect.enc s_14.1), (n_20, gB 4 Rect.enc s_14.2.1), (n_34, gB 4 Rect.enc s_31.1)] : Hp)) p.1 p.2.1 p.2.2) (fun p => iterN (fun s => ref_regionOf_v1_L1 r_5 r_7 s_14 is2_3 is2_4 s) p.1 p.2.1 = some o_37) (fun p => p.1) (nq_114, (([] : List Rect), 0), n_32) hj_38 rfl (pre_r rfl) ?_)
     rintro ⟨k_26, s_31, n_34⟩ hL_36
     dsimp only at hL_36
     cases k_26 with
     | zero => cases hL_36
     | succ k_26 =>
      obtain ⟨c_, hc_35, hL_36⟩ := bind_some hL_36
      unfold ref_regionOf_v1_L1 at hc_35
      refine wH_seq (wH_seq (wH_region (h_op (vI s_31.2) wz rfl (h_op (vI (w64 (s_31.2 + 1))) wz rfl (h_op (vL eI r_5) wz rfl (h_len un22 rfl wz (h_op (vB (decide ((w64 (s_31.2 + 1)) < (r_5.length : Int)))) wz rfl (h_nil ?_))))))))
      rcases cond_some hc_35 with ⟨hc_39, hc_35⟩ | ⟨hc_39, hc_35⟩
      ·refine wH_ift rfl hc_39 (wH_skip (wH_seq (wH_block (wH_seq (wH_seq (wH_draws (h_op (.fn 77 [(.ref (extN 0) 0 0), (.ref (extN 1) 0 0)]) wz rfl (h_op (vL eI r_5) wz rfl (h_op (vI s_31.2) wz rfl ?_)))))))))
       obtain ⟨y_40, hy_41, hc_35⟩ := bind_some hc_35
       refine h_ia es22 rfl rfl hy_41 rfl wz (h_ldc sz3 ag3 rfl (vI y_40) rfl wz (h_op (vL eI r_7) wz rfl (h_op (vI s_14.2.2) wz rfl ?_)))
       obtain ⟨y_42, hy_43, hc_35⟩ := bind_some hc_35
       refine h_ia es22 rfl rfl hy_43 rfl wz (h_ldc sz3 ag3 rfl (vI y_42) rfl wz ?_)
       obtain ⟨r_44, hr_45, hc_35⟩ := bind_some hc_35
       refine h_callq 9 [0, 1] (.inr (by kernel_rfl)) (fun _ _ ag => by exact trivial) (ref_SeenOf_1_ok hr_45) rfl hb77 rfl (by kernel_rfl) (by kernel_rfl) (by kernel_rfl) (by kernel_rfl) (by kernel_rfl) (by kernel_rfl) (by kernel_rfl) (by decide) (by kernel_rfl) wz (vB r_44) (by kernel_rfl) ([((extN 0), some (.cells 4 [(vS is2_3.Key), (vI is2_3.W), (vI is2_3.H), (vL Zone.enc is2_3.Zones)])), ((extN 1), some (.cells 6 [(vS is2_4.Key), (vI is2_4.On.X), (vI is2_4.On.Y), (vI is2_4.On.W), (vI is2_4.On.H), (vI is2_4.Order)])), (n_19, gB 4 Rect.enc s_14.1), (n_20, gB 4 Rect.enc s_14.2.1), (n_34, gB 4 Rect.enc s_31.1)] : Hp) (by kernel_rfl) (h_op (vB (!r_44)) wz rfl (h_nil ?_))
       rcases cond_some hc_35 with ⟨hc_47, hc_35⟩ | ⟨hc_47, hc_35⟩
       ·refine wH_ift rfl hc_47 (wH_exit (wH_region (h_op (vI s_31.2) wz rfl (h_op (vI (w64 (s_31.2 + 1))) wz rfl (h_op (vI (w64 (s_31.2 + 1))) wz rfl (h_nil ?_))))))
        obtain rfl := some_inj hc_35
        exact loop_mk (k_26, (s_31.1, (w64 (s_31.2 + 1))), n_34) hL_36 (Nat.lt_succ_self _) rfl (pre_r rfl)
       ·refine wH_iff rfl hc_47 (wH_skip (wH_seq (wH_region (h_op (gV n_34 4 s_31.1) wz rfl (h_leng un62 rfl wz (h_op (vI (w64 ((s_31.1.length : Int) - 1))) wz rfl (h_op (vI (w64 ((s_31.1.length : Int) - 1))) wz rfl (h_nil (wH_seq ?_)))))))))
        obtain ⟨v_48, h_49, hc_35⟩ := bind_some hc_35
        refine wH_join (β := Unit) (fun _ => ([(1, (.fn 77 [(.ref (extN 0) 0 0), (.ref (extN 1) 0 0)])), (5, (vL eI r_5)), (6, (vL eI r_7)), (7, (gV n_19 4 s_14.1)), (8, (gV n_20 4 s_14.2.1)), (9, (vI s_14.2.2)), (10, (gV n_34 4 s_31.1)), (11, (vI s_31.2)), (12, (vI (w64 ((s_31.1.length : Int) - 1)))), (66, (vB v_48))] : List (Nat × V))) (fun _ => ([((extN 0), some (.cells 4 [(vS is2_3.Key), (vI is2_3.W), (vI is2_3.H), (vL Zone.enc is2_3.Zones)])), ((extN 1), some (.cells 6 [(vS is2_4.Key), (vI is2_4.On.X), (vI is2_4.On.Y), (vI is2_4.On.W), (vI is2_4.On.H), (vI is2_4.Order)])), (n_19, gB 4 Rect.enc s_14.1), (n_20, gB 4 Rect.enc s_14.2.1), (n_34, gB 4 Rect.enc s_31.1)] : Hp)) (fun _ => True) ?_ ?_
        ·refine wH_draws (h_op (vI (w64 ((s_31.1.length : Int) - 1))) wz rfl (h_op (vB (decide ((w64 ((s_31.1.length : Int) - 1)) ≥ 0))) wz rfl ?_))
         rcases cond_some h_49 with ⟨hc_50, h_49⟩ | ⟨hc_50, h_49⟩
         ·refine h_movb rfl hc_50 wz (h_op (gV n_34 4 s_31.1) (wg rfl rfl rfl) rfl (h_op (vI (w64 ((s_31.1.length : Int) - 1))) (wg rfl rfl rfl) rfl ?_))
          obtain ⟨_, hi_51, h_49⟩ := bind_some h_49
          refine h_iavg es62 rfl rfl (inR_0 hi_51) (inR_lt hi_51) (wg rfl rfl rfl) (h_far pl49_0 rfl 0 rfl (wg rfl rfl rfl) ?_)
          obtain ⟨e_52, hy_53, h_49⟩ := bind_some h_49
          refine h_ldvg 7 4 (.inr (by kernel_rfl)) (fun _ _ ag => trivial) sz3 ag3 rfl rfl hy_53 (vI e_52.X) rfl (wg rfl rfl rfl) (h_op (gV n_34 4 s_31.1) (wg rfl rfl rfl) rfl (h_op (vI (w64 ((s_31.1.length : Int) - 1))) (wg rfl rfl rfl) rfl ?_))
          obtain ⟨_, hi_54, h_49⟩ := bind_some h_49
          refine h_iavg es62 rfl rfl (inR_0 hi_54) (inR_lt hi_54) (wg rfl rfl rfl) (h_far pl49_2 rfl 2 rfl (wg rfl rfl rfl) ?_)
          obtain ⟨e_55, hy_56, h_49⟩ := bind_some h_49
          refine h_ldvg 12 4 (.inr (by kernel_rfl)) (fun _ _ ag => ⟨.inl ⟨rfl, rfl⟩, trivial⟩) sz3 ag3 rfl rfl hy_56 (vI e_55.W) rfl (wg rfl rfl rfl) (h_op (vI (w64 (e_52.X + e_55.W))) (wg rfl rfl rfl) rfl (h_op (vL eI r_5) (wg rfl rfl rfl) rfl (h_op (vI s_31.2) (wg rfl rfl rfl) rfl ?_)))
          obtain ⟨y_57, hy_58, h_49⟩ := bind_some h_49
          refine h_ia es22 rfl rfl hy_58 rfl (wg rfl rfl rfl) (h_ldc sz3 ag3 rfl (vI y_57) rfl (wg rfl rfl rfl) (h_op (vB ((w64 (e_52.X + e_55.W)) == y_57)) (wg rfl rfl rfl) rfl (h_op (vB ((w64 (e_52.X + e_55.W)) == y_57)) wz rfl (h_nil ?_))))
          obtain rfl := some_inj h_49
          exact cut_mk () trivial rfl (pre_r rfl)
         ·refine h_movb rfl hc_50 wz (h_skip (wg rfl rfl rfl) (h_skip (wg rfl rfl rfl) (h_skip (wg rfl rfl rfl) (h_skip (wg rfl rfl rfl) (h_skip (wg rfl rfl rfl) (h_skip (wg rfl rfl rfl) (h_skip (wg rfl rfl rfl) (h_skip (wg rfl rfl rfl) (h_skip (wg rfl rfl rfl) (h_skip (wg rfl rfl rfl) (h_skip (wg rfl rfl rfl) (h_skip (wg rfl rfl rfl) (h_skip (wg rfl rfl rfl) (h_skip (wg rfl rfl rfl) (h_skip (wg rfl rfl rfl) (h_skip (wg rfl rfl rfl) (h_op (vB false) wz rfl (h_nil ?_))))))))))))))))))
          obtain rfl := some_inj h_49
          exact cut_mk () trivial rfl (pre_r rfl)
        ·rintro ⟨⟩ _ sl_ H_ hp_ hq_
         refine wH_at _ hp_ hq_ ?_
         obtain ⟨v_59, h_60, hc_35⟩ := bind_some hc_35
         refine wH_join (β := Nm) (fun (n_61 : Nm) => ([(1, (.fn 77 [(.ref (extN 0) 0 0), (.ref (extN 1) 0 0)])), (5, (vL eI r_5)), (6, (vL eI r_7)), (7, (gV n_19 4 s_14.1)), (8, (gV n_20 4 s_14.2.1)), (9, (vI s_14.2.2)), (10, (gV n_61 4 v_59)), (11, (vI s_31.2))] : List (Nat × V))) (fun (n_61 : Nm) => ([((extN 0), some (.cells 4 [(vS is2_3.Key), (vI is2_3.W), (vI is2_3.H), (vL Zone.enc is2_3.Zones)])), ((extN 1), some (.cells 6 [(vS is2_4.Key), (vI is2_4.On.X), (vI is2_4.On.Y), (vI is2_4.On.W), (vI is2_4.On.H), (vI is2_4.Order)])), (n_19, gB 4 Rect.enc s_14.1), (n_20, gB 4 Rect.enc s_14.2.1), (n_61, gB 4 Rect.enc v_59)] : Hp)) (fun _ => True) ?_ ?_
         ·rcases cond_some h_60 with ⟨hc_62, h_60⟩ | ⟨hc_62, h_60⟩
          ·refine wH_ift rfl hc_62 (wH_draws (h_op (gV n_34 4 s_31.1) wz rfl (h_op (vI (w64 ((s_31.1.length : Int) - 1))) wz rfl (h_op (vL eI r_5) wz rfl (h_op (vI s_31.2) wz rfl (h_op (vI (w64 (s_31.2 + 1))) wz rfl ?_))))))
           obtain ⟨y_63, hy_64, h_60⟩ := bind_some h_60
           refine h_ia es22 rfl rfl hy_64 rfl wz (h_ldc sz3 ag3 rfl (vI y_63) rfl wz (h_op (gV n_34 4 s_31.1) wz rfl (h_op (vI (w64 ((s_31.1.length : Int) - 1))) wz rfl ?_)))
           obtain ⟨_, hi_65, h_60⟩ := bind_some h_60
           refine h_iavg es62 rfl rfl (inR_0 hi_65) (inR_lt hi_65) wz (h_far pl49_0 rfl 0 rfl wz ?_)
           obtain ⟨e_66, hy_67, h_60⟩ := bind_some h_60
           refine h_ldvg 11 4 (.inr (by kernel_rfl)) (fun _ _ ag => trivial) sz3 ag3 rfl rfl hy_67 (vI e_66.X) rfl wz (h_op (vI (w64 (y_63 - e_66.X))) wz rfl ?_)
           obtain ⟨_, hi_68, h_60⟩ := bind_some h_60
           refine h_iavg es62 rfl rfl (inR_0 hi_68) (inR_lt hi_68) wz (h_far pl49_2 rfl 2 rfl wz ?_)
           obtain ⟨e_69, hy_70, h_60⟩ := bind_some h_60
           refine h_stvg 15 (.inr (by kernel_rfl)) (fun _ _ ag => ⟨.inr (.inr (by kernel_rfl)), trivial⟩) 4 sz3 rfl rfl hy_70 (⟨e_69.X, e_69.Y, (w64 (y_63 - e_66.X)), e_69.H⟩ : Rect) rfl wz (h_re (v' := (gV n_34 4 (s_31.1.set (0 + ((w64 ((s_31.1.length : Int) - 1))).toNat) (⟨e_69.X, e_69.Y, (w64 (y_63 - e_66.X)), e_69.H⟩ : Rect)))) 10 rfl (gV_len (by simp)) (h_re (v' := (gV n_34 4 (s_31.1.set (0 + ((w64 ((s_31.1.length : Int) - 1))).toNat) (⟨e_69.X, e_69.Y, (w64 (y_63 - e_66.X)), e_69.H⟩ : Rect)))) 67 rfl (gV_len (by simp)) (h_re (v' := (gV n_34 4 (s_31.1.set (0 + ((w64 ((s_31.1.length : Int) - 1))).toNat) (⟨e_69.X, e_69.Y, (w64 (y_63 - e_66.X)), e_69.H⟩ : Rect)))) 74 rfl (gV_len (by simp)) (h_nil ?_))))
           obtain rfl := some_inj h_60
           exact cut_mk n_34 trivial rfl (pre_r rfl)
          ·refine wH_iff rfl hc_62 (wH_draws (h_op (gV n_34 4 s_31.1) wz rfl (h_op (vL eI r_5) wz rfl (h_op (vI s_31.2) wz rfl ?_))))
           obtain ⟨y_71, hy_72, h_60⟩ := bind_some h_60
           refine h_ia es22 rfl rfl hy_72 rfl wz (h_ldc sz3 ag3 rfl (vI y_71) rfl wz (h_op (vL eI r_7) wz rfl (h_op (vI s_14.2.2) wz rfl ?_)))
           obtain ⟨y_73, hy_74, h_60⟩ := bind_some h_60
           refine h_ia es22 rfl rfl hy_74 rfl wz (h_ldc sz3 ag3 rfl (vI y_73) rfl wz (h_op (vL eI r_5) wz rfl (h_op (vI s_31.2) wz rfl (h_op (vI (w64 (s_31.2 + 1))) wz rfl ?_))))
           obtain ⟨y_75, hy_76, h_60⟩ := bind_some h_60
           refine h_ia es22 rfl rfl hy_76 rfl wz (h_ldc sz3 ag3 rfl (vI y_75) rfl wz (h_op (vL eI r_5) wz rfl (h_op (vI s_31.2) wz rfl ?_)))
           obtain ⟨y_77, hy_78, h_60⟩ := bind_some h_60
           refine h_ia es22 rfl rfl hy_78 rfl wz (h_ldc sz3 ag3 rfl (vI y_77) rfl wz (h_op (vI (w64 (y_75 - y_77))) wz rfl (h_op (vL eI r_7) wz rfl (h_op (vI s_14.2.2) wz rfl (h_op (vI (w64 (s_14.2.2 + 1))) wz rfl ?_)))))
           obtain ⟨y_79, hy_80, h_60⟩ := bind_some h_60
           refine h_ia es22 rfl rfl hy_80 rfl wz (h_ldc sz3 ag3 rfl (vI y_79) rfl wz (h_op (vL eI r_7) wz rfl (h_op (vI s_14.2.2) wz rfl ?_)))
           obtain ⟨y_81, hy_82, h_60⟩ := bind_some h_60
           refine h_ia es22 rfl rfl hy_82 rfl wz (h_ldc sz3 ag3 rfl (vI y_81) rfl wz (h_op (vI (w64 (y_79 - y_81))) wz rfl (h_op (.d (.agg (Rect.enc (⟨y_71, y_73, (w64 (y_75 - y_77)), (w64 (y_79 - y_81))⟩ : Rect)))) wz (by kernel_rfl) (h_lit (([(⟨y_71, y_73, (w64 (y_75 - y_77)), (w64 (y_79 - y_81))⟩ : Rect)] : List Rect).map Rect.enc) es62 ez62 rfl rfl rfl rfl rfl wz ?_))))
           obtain ⟨a_83, hz_84, h_60⟩ := bind_some h_60
           refine h_appg 31 (.inr (by kernel_rfl)) (fun _ _ ag => trivial) (i := 4) el62 el62 sz49 z49 rfl (by decide) by49 (by decide) (fun _ => rfl) rfl rfl rfl hz_84 wz (fun n_85 => h_op (gV n_85 4 a_83) wz rfl (h_nil ?_))
           obtain rfl := some_inj h_60
           exact cut_mk n_85 trivial rfl (pre_r rfl)
         ·rintro n_61 _ sl_ H_ hp_ hq_
          refine wH_at _ hp_ hq_ (wH_region (h_op (vI s_31.2) wz rfl (h_op (vI (w64 (s_31.2 + 1))) wz rfl (h_op (vI (w64 (s_31.2 + 1))) wz rfl (h_nil ?_)))))
          obtain rfl := some_inj hc_35
          exact loop_mk (k_26, (v_59, (w64 (s_31.2 + 1))), n_61) hL_36 (Nat.lt_succ_self _) rfl (pre_r rfl)
      ·refine wH_iff rfl hc_39 (wH_exit ?_)
       obtain rfl := some_inj hc_35
       obtain rfl := some_inj hL_36
       exact cut_mk ((s_31.1, s_31.2), n_34) rfl rfl (pre_r rfl)
    ·rintro ⟨s_31, n_34⟩ ho_ sl_ H_ hp_ hq_
     subst ho_
     refine wH_at _ hp_ hq_ (wH_seq (wH_region (h_op (gV n_34 4 s_31.1) wz rfl (h_op (gV n_20 4 s_14.2.1) wz rfl ?_))))
     obtain ⟨r_86, hr_87, hc_21⟩ := bind_some hc_21
     refine h_callv2 0 [] 4 3 0 1 (.inl rfl) (fun _ _ _ => trivial) (slices_EqualFunc_api_Rect_api_Rect_api_Rect_api_Rect_v3_ok hr_87) rfl hb115 rfl rfl rfl rfl (by kernel_rfl) rfl (.inl rfl) rfl rfl (.inl rfl) rfl (by decide) (by kernel_rfl) (by kernel_rfl) (by kernel_rfl) (by kernel_rfl) rfl (by decide) (by kernel_rfl) gB_ok (gB_ho rfl) gB_ok (gB_ho rfl) wz ([((extN 0), some (.cells 4 [(vS is2_3.Key), (vI is2_3.W), (vI is2_3.H), (vL Zone.enc is2_3.Zones)])), ((extN 1), some (.cells 6 [(vS is2_4.Key), (vI is2_4.On.X), (vI is2_4.On.Y), (vI is2_4.On.W), (vI is2_4.On.H), (vI is2_4.Order)])), (n_19, gB 4 Rect.enc s_14.1), (n_20, gB 4 Rect.enc s_14.2.1), (n_34, gB 4 Rect.enc s_31.1)] : Hp) (by kernel_rfl) (h_op (vB r_86) wz rfl (h_nil (wH_seq (wH_seq ?_))))
     obtain ⟨v_88, h_89, hc_21⟩ := bind_some hc_21
     refine wH_join (β := Unit) (fun _ => ([(1, (.fn 77 [(.ref (extN 0) 0 0), (.ref (extN 1) 0 0)])), (5, (vL eI r_5)), (6, (vL eI r_7)), (7, (gV n_19 4 s_14.1)), (8, (gV n_20 4 s_14.2.1)), (9, (vI s_14.2.2)), (10, (gV n_34 4 s_31.1)), (122, (vB v_88))] : List (Nat × V))) (fun _ => ([((extN 0), some (.cells 4 [(vS is2_3.Key), (vI is2_3.W), (vI is2_3.H), (vL Zone.enc is2_3.Zones)])), ((extN 1), some (.cells 6 [(vS is2_4.Key), (vI is2_4.On.X), (vI is2_4.On.Y), (vI is2_4.On.W), (vI is2_4.On.H), (vI is2_4.Order)])), (n_19, gB 4 Rect.enc s_14.1), (n_20, gB 4 Rect.enc s_14.2.1), (n_34, gB 4 Rect.enc s_31.1)] : Hp)) (fun _ => True) ?_ ?_
     ·refine wH_region (h_op (vB r_86) wz rfl ?_)
      rcases cond_some h_89 with ⟨hc_90, h_89⟩ | ⟨hc_90, h_89⟩
      ·refine h_movb rfl hc_90 wz (h_op (gV n_34 4 s_31.1) (wg rfl rfl rfl) rfl (h_leng un62 rfl (wg rfl rfl rfl) (h_op (vB (decide ((s_31.1.length : Int) > 0))) (wg rfl rfl rfl) rfl (h_op (vB (decide ((s_31.1.length : Int) > 0))) wz rfl (h_nil ?_)))))
       obtain rfl := some_inj h_89
       exact cut_mk () trivial rfl (pre_r rfl)
      ·refine h_movb rfl hc_90 wz (h_skip (wg rfl rfl rfl) (h_skip (wg rfl rfl rfl) (h_skip (wg rfl rfl rfl) (h_op (vB false) wz rfl (h_nil ?_)))))
       obtain rfl := some_inj h_89
       exact cut_mk () trivial rfl (pre_r rfl)
     ·rintro ⟨⟩ _ sl_ H_ hp_ hq_
      refine wH_at _ hp_ hq_ ?_
      rcases cond_some hc_21 with ⟨hc_91, hc_21⟩ | ⟨hc_91, hc_21⟩
      ·refine wH_ift rfl hc_91 (wH_seq (wH_seq (wH_region (h_op (gV n_20 4 s_14.2.1) wz rfl (h_leng un62 rfl wz (h_op (vI 0) wz rfl (h_nil ?_)))))))
       obtain ⟨o_100, hj_101, hc_21⟩ := bind_some hc_21
       obtain ⟨hn_96, hj_101⟩ := forL_some hj_101
       refine wH_join (β := ((List Rect))) (fun (s_97 : (List Rect)) => ([(1, (.fn 77 [(.ref (extN 0) 0 0), (.ref (extN 1) 0 0)])), (5, (vL eI r_5)), (6, (vL eI r_7)), (7, (gV n_19 4 s_14.1)), (8, (gV n_20 4 s_97)), (9, (vI s_14.2.2))] : List (Nat × V))) (fun (s_97 : (List Rect)) => ([((extN 0), some (.cells 4 [(vS is2_3.Key), (vI is2_3.W), (vI is2_3.H), (vL Zone.enc is2_3.Zones)])), ((extN 1), some (.cells 6 [(vS is2_4.Key), (vI is2_4.On.X), (vI is2_4.On.Y), (vI is2_4.On.W), (vI is2_4.On.H), (vI is2_4.Order)])), (n_19, gB 4 Rect.enc s_14.1), (n_20, gB 4 Rect.enc s_97), (n_34, gB 4 Rect.enc s_31.1)] : Hp)) (fun p => o_100 = .go p) ?_ ?_
       ·refine wH_block (wH_loop (β := Nat × (List Nat) × ((List Rect))) (fun p => (fun (k_92 : Nat) (l_93 : List Nat) (s_97 : (List Rect)) => ([(1, (.fn 77 [(.ref (extN 0) 0 0), (.ref (extN 1) 0 0)])), (5, (vL eI r_5)), (6, (vL eI r_7)), (7, (gV n_19 4 s_14.1)), (8, (gV n_20 4 s_97)), (9, (vI s_14.2.2)), (10, (gV n_34 4 s_31.1)), (124, (vI (s_14.2.1.length : Int))), (125, (vI (k_92 : Int)))] : List (Nat × V))) p.1 p.2.1 p.2.2) (fun p => (fun (k_92 : Nat) (l_93 : List Nat) (s_97 : (List Rect)) => ([((extN 0), some (.cells 4 [(vS is2_3.Key), (vI is2_3.W), (vI is2_3.H), (vL Zone.enc is2_3.Zones)])), ((extN 1), some (.cells 6 [(vS is2_4.Key), (vI is2_4.On.X), (vI is2_4.On.Y), (vI is2_4.On.W), (vI is2_4.On.H), (vI is2_4.Order)])), (n_19, gB 4 Rect.enc s_14.1), (n_20, gB 4 Rect.enc s_97), (n_34, gB 4 Rect.enc s_31.1)] : Hp)) p.1 p.2.1 p.2.2) (fun p => forR (fun k x s => ref_regionOf_v1_L2 s_31 k x s) p.2.1 p.1 p.2.2 = some o_100 ∧ ((List.range ((s_14.2.1.length : Int)).toNat)).drop p.1 = p.2.1) (fun p => p.2.1.length) (0, (List.range ((s_14.2.1.length : Int)).toNat), s_14.2.1) ⟨hj_101, rfl⟩ rfl (pre_r rfl) ?_)
        rintro ⟨k_92, l_93, s_97⟩ ⟨hL_99, hD_95⟩
        dsimp only at hL_99 hD_95
        cases l_93 with
        | nil =>
         obtain rfl := some_inj hL_99
         refine wH_seq (wH_region (h_op (vB (decide ((k_92 : Int) < (s_14.2.1.length : Int)))) wz rfl (h_nil ?_)))
         refine wH_seq (wH_iff rfl (range_nil hD_95) (wH_exit ?_))
         exact cut_mk (s_97) rfl rfl (pre_r rfl)
        | cons x_94 l_93 =>
         obtain ⟨c_, hc_98, hL_99⟩ := bind_some hL_99
         refine wH_seq (wH_region (h_op (vB (decide ((k_92 : Int) < (s_14.2.1.length : Int)))) wz rfl (h_nil ?_)))
         refine wH_seq (wH_ift rfl (range_cons hD_95) (wH_skip ?_))
         unfold ref_regionOf_v1_L2 at hc_98
         refine wH_seq (wH_block (wH_seq (wH_region (h_op (vI (k_92 : Int)) wz rfl (h_op (vI (k_92 : Int)) wz rfl (h_nil (wH_draws (h_op (gV n_20 4 s_97) wz rfl (h_op (vI (k_92 : Int)) wz rfl ?_)))))))))
         obtain ⟨_, hi_102, hc_98⟩ := bind_some hc_98
         refine h_iavg es62 rfl rfl (inR_0 hi_102) (inR_lt hi_102) wz (h_far pl49_3 rfl 3 rfl wz ?_)
         obtain ⟨e_103, hy_104, hc_98⟩ := bind_some hc_98
         refine h_ldvg 4 3 (.inr (by kernel_rfl)) (fun _ _ ag => trivial) sz3 ag3 rfl rfl hy_104 (vI e_103.H) rfl wz (h_op (gV n_34 4 s_31.1) wz rfl (h_op (vI (k_92 : Int)) wz rfl ?_))
         obtain ⟨_, hi_105, hc_98⟩ := bind_some hc_98
         refine h_iavg es62 rfl rfl (inR_0 hi_105) (inR_lt hi_105) wz (h_far pl49_3 rfl 3 rfl wz ?_)
         obtain ⟨e_106, hy_107, hc_98⟩ := bind_some hc_98
         refine h_ldvg 9 4 (.inr (by kernel_rfl)) (fun _ _ ag => ⟨.inl ⟨rfl, rfl⟩, trivial⟩) sz3 ag3 rfl rfl hy_107 (vI e_106.H) rfl wz (h_op (vI (w64 (e_103.H + e_106.H))) wz rfl ?_)
         obtain ⟨_, hi_108, hc_98⟩ := bind_some hc_98
         refine h_iavg es62 rfl rfl (inR_0 hi_108) (inR_lt hi_108) wz (h_far pl49_3 rfl 3 rfl wz ?_)
         obtain ⟨e_109, hy_110, hc_98⟩ := bind_some hc_98
         refine h_stvg 13 (.inr (by kernel_rfl)) (fun _ _ ag => ⟨.inr (.inr (by kernel_rfl)), ⟨.inr (.inr (by kernel_rfl)), trivial⟩⟩) 3 sz3 rfl rfl hy_110 (⟨e_109.X, e_109.Y, e_109.W, (w64 (e_103.H + e_106.H))⟩ : Rect) rfl wz (h_re (v' := (gV n_20 4 (s_97.set (0 + ((k_92 : Int)).toNat) (⟨e_109.X, e_109.Y, e_109.W, (w64 (e_103.H + e_106.H))⟩ : Rect)))) 8 rfl (gV_len (by simp)) (h_re (v' := (gV n_20 4 (s_97.set (0 + ((k_92 : Int)).toNat) (⟨e_109.X, e_109.Y, e_109.W, (w64 (e_103.H + e_106.H))⟩ : Rect)))) 128 rfl (gV_len (by simp)) (h_nil (wH_region (h_opw (w64_nextr hD_95 hn_96) wz rfl (h_op (vI ((k_92 + 1 : Nat) : Int)) wz rfl (h_nil ?_)))))))
         obtain rfl := some_inj hc_98
         exact loop_mk (k_92 + 1, l_93, (s_97.set (0 + ((k_92 : Int)).toNat) (⟨e_109.X, e_109.Y, e_109.W, (w64 (e_103.H + e_106.H))⟩ : Rect))) ⟨hL_99, drop_next hD_95⟩ (Nat.lt_succ_self _) rfl (pre_r rfl)
       ·rintro s_97 ho_ sl_ H_ hp_ hq_
        subst ho_
        refine wH_at _ hp_ hq_ (wH_exit (wH_region (h_op (vI s_14.2.2) wz rfl (h_op (vI (w64 (s_14.2.2 + 1))) wz rfl (h_op (vI (w64 (s_14.2.2 + 1))) wz rfl (h_nil ?_))))))
        obtain rfl := some_inj hc_21
        exact loop_mk (k_9, (s_14.1, s_97, (w64 (s_14.2.2 + 1))), n_19, n_20) hL_22 (Nat.lt_succ_self _) rfl (pre_r rfl)
      ·refine wH_iff rfl hc_91 (wH_skip (wH_frozg 3 rfl (wH_cog 8 3 rfl rfl (wH_region (h_op (gV n_19 4 s_14.1) wz rfl (h_op (vL Rect.enc s_14.2.1) wz rfl ?_))))))
       obtain ⟨a_111, hz_112, hc_21⟩ := bind_some hc_21
       refine h_appg 0 (.inl rfl) (fun _ _ _ => trivial) (i := 2) el62 el62 sz49 z49 rfl (by decide) by49 (by decide) (fun _ => rfl) rfl rfl rfl hz_112 wz (fun n_113 => h_op (gV n_34 4 s_31.1) wz rfl (h_op (gV n_113 4 a_111) wz rfl (h_op (gV n_34 4 s_31.1) wz rfl (h_nil (wH_region (h_op (vI s_14.2.2) wz rfl (h_op (vI (w64 (s_14.2.2 + 1))) wz rfl (h_op (vI (w64 (s_14.2.2 + 1))) wz rfl (h_nil ?_)))))))))
       obtain rfl := some_inj hc_21
       exact loop_mk (k_9, (a_111, s_31.1, (w64 (s_14.2.2 + 1))), n_113, n_34) hL_22 (Nat.lt_succ_self _) rfl (pre_is [0, 1, 2, 4] (by decide) rfl)
   ·refine wH_iff rfl hc_25 (wH_exit ?_)
    obtain rfl := some_inj hc_21
    obtain rfl := some_inj hL_22
    exact cut_mk ((s_14.1, s_14.2.1, s_14.2.2), n_19, n_20) rfl rfl (pre_r rfl)
 ·rintro ⟨s_14, n_19, n_20⟩ ho_ sl_ H_ hp_ hq_
  subst ho_
  refine wH_at _ hp_ hq_ (wH_seq (wH_frozg 3 rfl (wH_cog 8 3 rfl rfl (wH_region (h_op (gV n_19 4 s_14.1) wz rfl (h_op (vL Rect.enc s_14.2.1) wz rfl ?_))))))
  obtain ⟨a_115, hz_116, hF⟩ := bind_some hF
  refine h_appg 0 (.inl rfl) (fun _ _ _ => trivial) (i := 2) el62 el62 sz49 z49 rfl (by decide) by49 (by decide) (fun _ => rfl) rfl rfl rfl hz_116 wz (fun n_117 => h_op (gV n_117 4 a_115) wz rfl (h_nil (wH_frozg 2 rfl (wH_cog 4 2 rfl rfl (wH_cog 148 2 rfl rfl ?_)))))
  obtain rfl := some_inj hF
  exact wH_ret (finB (.inr rfl) [(vL Rect.enc a_115)] _ [0, 1] [extN 0, extN 1] ⟨rfl, trivial⟩ (.cons (co_data rfl rfl) (.nil)) (by kernel_rfl) ⟨(by kernel_rfl), ⟨(by kernel_rfl), trivial⟩⟩ (by decide) (by kernel_rfl))
theorem ref_SeenOf_ok {l_1 : Layout} {r : (List Piece)} (hF : ref_SeenOf l_1 = some r) :
  FnM Tryz.prog 21 [(.d (.agg (Layout.enc l_1)))] [] (vL Piece.enc r) [] := by
 refine FnM.of_wH ⟨Tryz.prog, 49, [], []⟩ rfl Tryz.func21 rfl rfl (Nat.le_of_ble_eq_true rfl) (by kernel_rfl) ?_
 unfold ref_SeenOf at hF
 refine wH_seq (wH_region (h_box 0 (.inl rfl) [(vS l_1.Key), (vI l_1.W), (vI l_1.H), (vL Zone.enc l_1.Zones)] rfl rfl wz (fun n_2 => h_op .nil wz rfl (h_nil (wH_seq (wH_region (h_op .nil wz rfl (h_nil (wH_seq (wH_seq (wH_region (h_far pl28_3 rfl 3 rfl wz (h_ldr 0 0 (.inl rfl) (fun _ _ _ => trivial) sz26 ag26 rfl rfl (vL Zone.enc l_1.Zones) rfl wz (h_len un26 rfl wz (h_op (vI 0) wz rfl (h_nil (wH_new (fun n_9 => ?_))))))))))))))))))
 obtain ⟨o_14, hj_15, hF⟩ := bind_some hF
 obtain ⟨hn_7, hj_15⟩ := forL_some hj_15
 refine wH_join (β := ((List Rect)) × Nm) (fun p => (fun (s_8 : (List Rect)) (n_11 : Nm) => ([(1, (.ref n_2 0 0)), (3, (gV n_11 4 s_8))] : List (Nat × V))) p.1 p.2) (fun p => (fun (s_8 : (List Rect)) (n_11 : Nm) => ([(n_2, some (.cells 4 [(vS l_1.Key), (vI l_1.W), (vI l_1.H), (vL Zone.enc l_1.Zones)])), (n_11, gB 4 Rect.enc s_8)] : Hp)) p.1 p.2) (fun p => o_14 = .go p.1) ?_ ?_
 ·refine wH_block (wH_loop (β := Nat × (List Zone) × ((List Rect)) × Nm) (fun p => (fun (k_3 : Nat) (l_4 : List Zone) (s_8 : (List Rect)) (n_11 : Nm) => ([(1, (.ref n_2 0 0)), (3, (gV n_11 4 s_8)), (12, (vL Zone.enc l_1.Zones)), (13, (vI (l_1.Zones.length : Int))), (14, (vI (k_3 : Int)))] : List (Nat × V))) p.1 p.2.1 p.2.2.1 p.2.2.2) (fun p => (fun (k_3 : Nat) (l_4 : List Zone) (s_8 : (List Rect)) (n_11 : Nm) => ([(n_2, some (.cells 4 [(vS l_1.Key), (vI l_1.W), (vI l_1.H), (vL Zone.enc l_1.Zones)])), (n_11, gB 4 Rect.enc s_8)] : Hp)) p.1 p.2.1 p.2.2.1 p.2.2.2) (fun p => forR (fun k x s => ref_SeenOf_L1 k x s) p.2.1 p.1 p.2.2.1 = some o_14 ∧ (l_1.Zones).drop p.1 = p.2.1) (fun p => p.2.1.length) (0, l_1.Zones, ([] : List Rect), n_9) ⟨hj_15, rfl⟩ rfl (pre_r rfl) ?_)
  rintro ⟨k_3, l_4, s_8, n_11⟩ ⟨hL_13, hD_6⟩
  dsimp only at hL_13 hD_6
  cases l_4 with
  | nil =>
   obtain rfl := some_inj hL_13
   refine wH_seq (wH_region (h_op (vB (decide ((k_3 : Int) < (l_1.Zones.length : Int)))) wz rfl (h_nil ?_)))
   refine wH_seq (wH_iff rfl (drop_nil hD_6) (wH_exit ?_))
   exact cut_mk (s_8, n_11) rfl rfl (pre_r rfl)
  | cons x_5 l_4 =>
   obtain ⟨c_, hc_12, hL_13⟩ := bind_some hL_13
   refine wH_seq (wH_region (h_op (vB (decide ((k_3 : Int) < (l_1.Zones.length : Int)))) wz rfl (h_nil ?_)))
   refine wH_seq (wH_ift rfl (drop_cons hD_6) (wH_skip ?_))
   unfold ref_SeenOf_L1 at hc_12
   refine wH_seq (wH_block (wH_seq (wH_region (h_ia es26 rfl rfl (drop_idx hD_6) rfl wz (h_ldc sz107 ag107 rfl (.d (.agg (Zone.enc x_5))) rfl wz (h_alloc 0 (.inl rfl) z107 rfl wz (fun n_16 => h_str 0 (.inl rfl) (fun _ _ _ => trivial) 2 sz107 rfl rfl [(vS x_5.Key), (vI x_5.On.X), (vI x_5.On.Y), (vI x_5.On.W), (vI x_5.On.H), (vI x_5.Order)] rfl wz (h_nil (wH_region (h_op (gV n_11 4 s_8) wz rfl (h_far pl107_1 rfl 1 rfl wz (h_ldr 0 2 (.inl rfl) (fun _ _ _ => trivial) sz49 ag49 rfl rfl (.d (.agg (Rect.enc x_5.On))) rfl wz (h_lit (([x_5.On] : List Rect).map Rect.enc) es62 ez62 rfl rfl rfl rfl rfl wz ?_)))))))))))))
   obtain ⟨a_17, hz_18, hc_12⟩ := bind_some hc_12
   refine h_appg 0 (.inl rfl) (fun _ _ _ => trivial) (i := 1) el62 el62 sz49 z49 rfl (by decide) by49 (by decide) (fun _ => rfl) rfl rfl rfl hz_18 wz (fun n_19 => h_op (gV n_19 4 a_17) wz rfl (h_nil (wH_region (h_opw (w64_next hD_6 hn_7) wz rfl (h_op (vI ((k_3 + 1 : Nat) : Int)) wz rfl (h_nil ?_))))))
   obtain rfl := some_inj hc_12
   exact loop_mk (k_3 + 1, l_4, a_17, n_19) ⟨hL_13, drop_next hD_6⟩ (Nat.lt_succ_self _) rfl (pre_r rfl)
 ·rintro ⟨s_8, n_11⟩ ho_ sl_ H_ hp_ hq_
  subst ho_
  refine wH_at _ hp_ hq_ (wH_seq (wH_region (h_op .nil wz rfl (h_nil (wH_seq (wH_seq (wH_frozg 1 rfl (wH_cog 3 1 rfl rfl (wH_region (h_far pl28_3 rfl 3 rfl wz (h_ldr 0 0 (.inl rfl) (fun _ _ _ => trivial) sz26 ag26 rfl rfl (vL Zone.enc l_1.Zones) rfl wz (h_len un26 rfl wz (h_op (vI 0) wz rfl (h_nil (wH_new (fun n_26 => ?_))))))))))))))))
  obtain ⟨o_31, hj_32, hF⟩ := bind_some hF
  obtain ⟨hn_24, hj_32⟩ := forL_some hj_32
  refine wH_join (β := ((List Piece)) × Nm) (fun p => (fun (s_25 : (List Piece)) (n_28 : Nm) => ([(6, (gV n_28 5 s_25))] : List (Nat × V))) p.1 p.2) (fun p => (fun (s_25 : (List Piece)) (n_28 : Nm) => ([(n_2, some (.cells 4 [(vS l_1.Key), (vI l_1.W), (vI l_1.H), (vL Zone.enc l_1.Zones)])), (n_11, gF 4 Rect.enc s_8), (n_28, gB 5 Piece.enc s_25)] : Hp)) p.1 p.2) (fun p => o_31 = .go p.1) ?_ ?_
  ·refine wH_block (wH_loop (β := Nat × (List Zone) × ((List Piece)) × Nm) (fun p => (fun (k_20 : Nat) (l_21 : List Zone) (s_25 : (List Piece)) (n_28 : Nm) => ([(1, (.ref n_2 0 0)), (3, (vL Rect.enc s_8)), (6, (gV n_28 5 s_25)), (25, (vL Zone.enc l_1.Zones)), (26, (vI (l_1.Zones.length : Int))), (27, (vI (k_20 : Int)))] : List (Nat × V))) p.1 p.2.1 p.2.2.1 p.2.2.2) (fun p => (fun (k_20 : Nat) (l_21 : List Zone) (s_25 : (List Piece)) (n_28 : Nm) => ([(n_2, some (.cells 4 [(vS l_1.Key), (vI l_1.W), (vI l_1.H), (vL Zone.enc l_1.Zones)])), (n_11, gF 4 Rect.enc s_8), (n_28, gB 5 Piece.enc s_25)] : Hp)) p.1 p.2.1 p.2.2.1 p.2.2.2) (fun p => forR (fun k x s => ref_SeenOf_L3 s_8 l_1 k x s) p.2.1 p.1 p.2.2.1 = some o_31 ∧ (l_1.Zones).drop p.1 = p.2.1) (fun p => p.2.1.length) (0, l_1.Zones, ([] : List Piece), n_26) ⟨hj_32, rfl⟩ rfl (pre_r rfl) ?_)
   rintro ⟨k_20, l_21, s_25, n_28⟩ ⟨hL_30, hD_23⟩
   dsimp only at hL_30 hD_23
   cases l_21 with
   | nil =>
    obtain rfl := some_inj hL_30
    refine wH_seq (wH_region (h_op (vB (decide ((k_20 : Int) < (l_1.Zones.length : Int)))) wz rfl (h_nil ?_)))
    refine wH_seq (wH_iff rfl (drop_nil hD_23) (wH_exit ?_))
    exact cut_mk (s_25, n_28) rfl rfl (pre_r rfl)
   | cons x_22 l_21 =>
    obtain ⟨c_, hc_29, hL_30⟩ := bind_some hL_30
    refine wH_seq (wH_region (h_op (vB (decide ((k_20 : Int) < (l_1.Zones.length : Int)))) wz rfl (h_nil ?_)))
    refine wH_seq (wH_ift rfl (drop_cons hD_23) (wH_skip ?_))
    unfold ref_SeenOf_L3 at hc_29
    refine wH_seq (wH_block (wH_seq (wH_region (h_ia es26 rfl rfl (drop_idx hD_23) rfl wz (h_ldc sz107 ag107 rfl (.d (.agg (Zone.enc x_22))) rfl wz (h_alloc 0 (.inl rfl) z107 rfl wz (fun n_33 => h_str 0 (.inl rfl) (fun _ _ _ => trivial) 3 sz107 rfl rfl [(vS x_22.Key), (vI x_22.On.X), (vI x_22.On.Y), (vI x_22.On.W), (vI x_22.On.H), (vI x_22.Order)] rfl wz (h_nil (wH_seq (wH_region (h_op (vL Rect.enc s_8) wz rfl (h_op (.fn 77 [(.ref n_2 0 0), (.ref n_33 0 0)]) wz rfl ?_))))))))))))
    obtain ⟨r_34, hr_35, hc_29⟩ := bind_some hc_29
    refine h_callq 0 [0, 3] (.inl rfl) (fun _ _ _ => trivial) (ref_regionOf_v1_ok hr_35) rfl hb76 rfl (by kernel_rfl) (by kernel_rfl) (by kernel_rfl) (by kernel_rfl) (by kernel_rfl) (by kernel_rfl) (by kernel_rfl) (by decide) (by kernel_rfl) wz (vL Rect.enc r_34) (by kernel_rfl) ([(n_2, some (.cells 4 [(vS l_1.Key), (vI l_1.W), (vI l_1.H), (vL Zone.enc l_1.Zones)])), (n_11, gF 4 Rect.enc s_8), (n_28, gB 5 Piece.enc s_25), (n_33, some (.cells 6 [(vS x_22.Key), (vI x_22.On.X), (vI x_22.On.Y), (vI x_22.On.W), (vI x_22.On.H), (vI x_22.Order)]))] : Hp) (by kernel_rfl) (h_len un62 rfl wz (h_op (vI 0) wz rfl (h_nil ?_)))
    obtain ⟨o_47, hj_48, hc_29⟩ := bind_some hc_29
    obtain ⟨hn_41, hj_48⟩ := forL_some hj_48
    refine wH_join (β := ((List Piece)) × Nm) (fun p => (fun (s_42 : (List Piece)) (n_44 : Nm) => ([(1, (.ref n_2 0 0)), (3, (vL Rect.enc s_8)), (6, (gV n_44 5 s_42)), (25, (vL Zone.enc l_1.Zones)), (26, (vI (l_1.Zones.length : Int))), (27, (vI (k_20 : Int)))] : List (Nat × V))) p.1 p.2) (fun p => (fun (s_42 : (List Piece)) (n_44 : Nm) => ([(n_2, some (.cells 4 [(vS l_1.Key), (vI l_1.W), (vI l_1.H), (vL Zone.enc l_1.Zones)])), (n_11, gF 4 Rect.enc s_8), (n_44, gB 5 Piece.enc s_42), (n_33, some (.cells 6 [(vS x_22.Key), (vI x_22.On.X), (vI x_22.On.Y), (vI x_22.On.W), (vI x_22.On.H), (vI x_22.Order)]))] : Hp)) p.1 p.2) (fun p => o_47 = .go p.1) ?_ ?_
    ·refine wH_block (wH_loop (β := Nat × (List Rect) × ((List Piece)) × Nm) (fun p => (fun (k_37 : Nat) (l_38 : List Rect) (s_42 : (List Piece)) (n_44 : Nm) => ([(1, (.ref n_2 0 0)), (3, (vL Rect.enc s_8)), (6, (gV n_44 5 s_42)), (8, (.ref n_33 0 0)), (25, (vL Zone.enc l_1.Zones)), (26, (vI (l_1.Zones.length : Int))), (27, (vI (k_20 : Int))), (33, (vL Rect.enc r_34)), (34, (vI (r_34.length : Int))), (35, (vI (k_37 : Int)))] : List (Nat × V))) p.1 p.2.1 p.2.2.1 p.2.2.2) (fun p => (fun (k_37 : Nat) (l_38 : List Rect) (s_42 : (List Piece)) (n_44 : Nm) => ([(n_2, some (.cells 4 [(vS l_1.Key), (vI l_1.W), (vI l_1.H), (vL Zone.enc l_1.Zones)])), (n_11, gF 4 Rect.enc s_8), (n_44, gB 5 Piece.enc s_42), (n_33, some (.cells 6 [(vS x_22.Key), (vI x_22.On.X), (vI x_22.On.Y), (vI x_22.On.W), (vI x_22.On.H), (vI x_22.Order)]))] : Hp)) p.1 p.2.1 p.2.2.1 p.2.2.2) (fun p => forR (fun k x s => ref_SeenOf_L2 x_22 k x s) p.2.1 p.1 p.2.2.1 = some o_47 ∧ (r_34).drop p.1 = p.2.1) (fun p => p.2.1.length) (0, r_34, s_25, n_28) ⟨hj_48, rfl⟩ rfl (pre_r rfl) ?_)
     rintro ⟨k_37, l_38, s_42, n_44⟩ ⟨hL_46, hD_40⟩
     dsimp only at hL_46 hD_40
     cases l_38 with
     | nil =>
      obtain rfl := some_inj hL_46
      refine wH_seq (wH_region (h_op (vB (decide ((k_37 : Int) < (r_34.length : Int)))) wz rfl (h_nil ?_)))
      refine wH_seq (wH_iff rfl (drop_nil hD_40) (wH_exit ?_))
      exact cut_mk (s_42, n_44) rfl rfl (pre_r rfl)
     | cons x_39 l_38 =>
      obtain ⟨c_, hc_45, hL_46⟩ := bind_some hL_46
      refine wH_seq (wH_region (h_op (vB (decide ((k_37 : Int) < (r_34.length : Int)))) wz rfl (h_nil ?_)))
      refine wH_seq (wH_ift rfl (drop_cons hD_40) (wH_skip ?_))
      unfold ref_SeenOf_L2 at hc_45
      refine wH_seq (wH_block (wH_seq (wH_region (h_ia es62 rfl rfl (drop_idx hD_40) rfl wz (h_ldc sz49 ag49 rfl (.d (.agg (Rect.enc x_39))) rfl wz (h_alloc 0 (.inl rfl) z49 rfl wz (fun n_49 => h_str 0 (.inl rfl) (fun _ _ _ => trivial) 4 sz49 rfl rfl [(vI x_39.X), (vI x_39.Y), (vI x_39.W), (vI x_39.H)] rfl wz (h_nil (wH_region (h_op (gV n_44 5 s_42) wz rfl (h_far pl107_0 rfl 0 rfl wz (h_ldr 0 3 (.inl rfl) (fun _ _ _ => trivial) sz9 ag9 rfl rfl (vS x_22.Key) rfl wz (h_ldr 0 4 (.inl rfl) (fun _ _ _ => trivial) sz49 ag49 rfl rfl (.d (.agg (Rect.enc x_39))) rfl wz (h_op (.d (.agg (Piece.enc (⟨x_22.Key, x_39⟩ : Piece)))) wz (by kernel_rfl) (h_lit (([(⟨x_22.Key, x_39⟩ : Piece)] : List Piece).map Piece.enc) es35 ez35 rfl rfl rfl rfl rfl wz ?_)))))))))))))))
      obtain ⟨a_50, hz_51, hc_45⟩ := bind_some hc_45
      refine h_appg 0 (.inl rfl) (fun _ _ _ => trivial) (i := 2) el35 el35 sz51 z51 rfl (by decide) by51 (by decide) (fun _ => rfl) rfl rfl rfl hz_51 wz (fun n_52 => h_op (gV n_52 5 a_50) wz rfl (h_nil (wH_region (h_opw (w64_next hD_40 hn_41) wz rfl (h_op (vI ((k_37 + 1 : Nat) : Int)) wz rfl (h_nil ?_))))))
      obtain rfl := some_inj hc_45
      exact loop_mk (k_37 + 1, l_38, a_50, n_52) ⟨hL_46, drop_next hD_40⟩ (Nat.lt_succ_self _) rfl (pre_r rfl)
    ·rintro ⟨s_42, n_44⟩ ho_ sl_ H_ hp_ hq_
     subst ho_
     refine wH_at _ hp_ hq_ (wH_region (h_opw (w64_next hD_23 hn_24) wz rfl (h_op (vI ((k_20 + 1 : Nat) : Int)) wz rfl (h_nil ?_))))
     obtain rfl := some_inj hc_29
     exact loop_mk (k_20 + 1, l_21, s_42, n_44) ⟨hL_30, drop_next hD_23⟩ (Nat.lt_succ_self _) rfl (pre_r rfl)
  ·rintro ⟨s_25, n_28⟩ ho_ sl_ H_ hp_ hq_
   subst ho_
   refine wH_at _ hp_ hq_ (wH_seq (wH_region (h_op (gV n_28 5 s_25) wz rfl (h_op (gV n_28 5 s_25) wz rfl (h_nil (wH_frozg 2 rfl (wH_cog 2 2 rfl rfl (wH_cog 6 2 rfl rfl (wH_cog 48 2 rfl rfl ?_)))))))))
   obtain rfl := some_inj hF
   exact wH_ret (fin0 (.inr rfl) [(vL Piece.enc s_25)] ⟨rfl, trivial⟩ rfl rfl rfl)
theorem slices_Clone_api_Screen_api_Screen_okb {s_1 : (List Screen)} {r : (List Screen)} (hF : slices_Clone_api_Screen_api_Screen s_1 = some r) :
  FnM Tryz.prog 81 [(vL Screen.enc s_1)] [] (gV (extN 0) 5 r) (([] : List Box).map some ++ gO 5 Screen.enc r) := by
 refine FnM.of_wH ⟨Tryz.prog, 8, [], []⟩ rfl Tryz.func81 rfl rfl (Nat.le_of_ble_eq_true rfl) (by kernel_rfl) ?_
 unfold slices_Clone_api_Screen_api_Screen at hF
 refine wH_seq (wH_region (h_op .nil wz rfl (h_nil (wH_seq (wH_seq (wH_region (h_op (vL Screen.enc s_1) wz rfl (h_nileq un56 rfl wz (fun b_2 hb_3 => h_nil ?_)))))))))
 cases b_2 with
 | true =>
  refine wH_ift rfl rfl ?_
  obtain rfl := hb_3 rfl
  replace hF := clone_nil hF
  refine wH_seq (wH_region (h_op .nil wz rfl (h_nil (wH_new (fun n_4 => ?_)))))
  obtain rfl := some_inj hF
  exact wH_ret (finG (outs := ([] : List Box)) (.inr rfl) 0 rfl rfl rfl (by kernel_rfl) (by kernel_rfl))
 | false =>
  refine wH_iff rfl rfl (wH_skip (wH_seq (wH_region (h_lit0 es56 ez56 rfl wz (h_op (vL Screen.enc s_1) wz rfl ?_)))))
  obtain ⟨a_5, hz_6, hF⟩ := bind_some hF
  refine h_appn 0 (.inl rfl) el56 el56 sz123 z123 rfl (by decide) by123 (by decide) (fun _ => rfl) rfl rfl hz_6 wz (fun n_7 => h_op (gV n_7 5 a_5) wz rfl (h_nil ?_))
  obtain rfl := some_inj hF
  exact wH_ret (finG (outs := ([] : List Box)) (.inr rfl) 0 rfl rfl rfl (by kernel_rfl) (by kernel_rfl))
theorem ref_MeetOf_ok {a_1 : Rect} {b_2 : Rect} {r : Rect × Bool} (hF : ref_MeetOf a_1 b_2 = some r) :
  FnM Tryz.prog 88 [(.d (.agg (Rect.enc a_1))), (.d (.agg (Rect.enc b_2)))] [] (.tup [(.d (.agg (Rect.enc r.1))), (vB r.2)]) [] := by
 refine FnM.of_wH ⟨Tryz.prog, 58, [], []⟩ rfl Tryz.func88 rfl rfl (Nat.le_of_ble_eq_true rfl) (by kernel_rfl) ?_
 unfold ref_MeetOf at hF
 refine wH_seq (wH_region (h_box 0 (.inl rfl) [(vI a_1.X), (vI a_1.Y), (vI a_1.W), (vI a_1.H)] rfl rfl wz (fun n_3 => h_box 0 (.inl rfl) [(vI b_2.X), (vI b_2.Y), (vI b_2.W), (vI b_2.H)] rfl rfl wz (fun n_4 => h_alloc 0 (.inl rfl) z49 rfl wz (fun n_5 => h_op (vB false) wz rfl (h_nil (wH_seq (wH_draws (h_far pl49_0 rfl 0 rfl wz (h_ldr 1 0 (.inr (by kernel_rfl)) (fun _ _ ag => trivial) sz3 ag3 rfl rfl (vI a_1.X) rfl wz (h_far pl49_0 rfl 0 rfl wz (h_ldr 3 1 (.inr (by kernel_rfl)) (fun _ _ ag => ⟨.inl ⟨rfl, rfl⟩, trivial⟩) sz3 ag3 rfl rfl (vI b_2.X) rfl wz (h_minmax (vI (maxI a_1.X b_2.X)) rfl (.inr rfl) wz (h_far pl49_1 rfl 1 rfl wz (h_ldr 6 0 (.inr (by kernel_rfl)) (fun _ _ ag => ⟨.inl ⟨rfl, rfl⟩, ⟨.inl ⟨rfl, rfl⟩, trivial⟩⟩) sz3 ag3 rfl rfl (vI a_1.Y) rfl wz (h_far pl49_1 rfl 1 rfl wz (h_ldr 8 1 (.inr (by kernel_rfl)) (fun _ _ ag => ⟨.inl ⟨rfl, rfl⟩, ⟨.inl ⟨rfl, rfl⟩, ⟨.inl ⟨rfl, rfl⟩, trivial⟩⟩⟩) sz3 ag3 rfl rfl (vI b_2.Y) rfl wz (h_minmax (vI (maxI a_1.Y b_2.Y)) rfl (.inr rfl) wz (h_op (vI (maxI a_1.X b_2.X)) wz rfl (h_op (vI (maxI a_1.Y b_2.Y)) wz rfl (h_nil (wH_seq (wH_draws ?_)))))))))))))))))))))))
 refine h_far pl49_0 rfl 0 rfl wz (h_ldr 1 0 (.inr (by kernel_rfl)) (fun _ _ ag => trivial) sz3 ag3 rfl rfl (vI a_1.X) rfl wz (h_far pl49_2 rfl 2 rfl wz (h_ldr 3 0 (.inr (by kernel_rfl)) (fun _ _ ag => ⟨.inl ⟨rfl, rfl⟩, trivial⟩) sz3 ag3 rfl rfl (vI a_1.W) rfl wz (h_op (vI (w64 (a_1.X + a_1.W))) wz rfl (h_far pl49_0 rfl 0 rfl wz (h_ldr 6 1 (.inr (by kernel_rfl)) (fun _ _ ag => ⟨.inl ⟨rfl, rfl⟩, ⟨.inl ⟨rfl, rfl⟩, trivial⟩⟩) sz3 ag3 rfl rfl (vI b_2.X) rfl wz (h_far pl49_2 rfl 2 rfl wz (h_ldr 8 1 (.inr (by kernel_rfl)) (fun _ _ ag => ⟨.inl ⟨rfl, rfl⟩, ⟨.inl ⟨rfl, rfl⟩, ⟨.inl ⟨rfl, rfl⟩, trivial⟩⟩⟩) sz3 ag3 rfl rfl (vI b_2.W) rfl wz (h_op (vI (w64 (b_2.X + b_2.W))) wz rfl (h_minmax (vI (minI (w64 (a_1.X + a_1.W)) (w64 (b_2.X + b_2.W)))) rfl (.inl rfl) wz (h_op (vI (maxI a_1.X b_2.X)) wz rfl (h_op (vI (w64 ((minI (w64 (a_1.X + a_1.W)) (w64 (b_2.X + b_2.W))) - (maxI a_1.X b_2.X)))) wz rfl (h_far pl49_1 rfl 1 rfl wz (h_ldr 14 0 (.inr (by kernel_rfl)) (fun _ _ ag => ⟨.inl ⟨rfl, rfl⟩, ⟨.inl ⟨rfl, rfl⟩, ⟨.inl ⟨rfl, rfl⟩, ⟨.inl ⟨rfl, rfl⟩, trivial⟩⟩⟩⟩) sz3 ag3 rfl rfl (vI a_1.Y) rfl wz (h_far pl49_3 rfl 3 rfl wz (h_ldr 16 0 (.inr (by kernel_rfl)) (fun _ _ ag => ⟨.inl ⟨rfl, rfl⟩, ⟨.inl ⟨rfl, rfl⟩, ⟨.inl ⟨rfl, rfl⟩, ⟨.inl ⟨rfl, rfl⟩, ⟨.inl ⟨rfl, rfl⟩, trivial⟩⟩⟩⟩⟩) sz3 ag3 rfl rfl (vI a_1.H) rfl wz (h_op (vI (w64 (a_1.Y + a_1.H))) wz rfl (h_far pl49_1 rfl 1 rfl wz (h_ldr 19 1 (.inr (by kernel_rfl)) (fun _ _ ag => ⟨.inl ⟨rfl, rfl⟩, ⟨.inl ⟨rfl, rfl⟩, ⟨.inl ⟨rfl, rfl⟩, ⟨.inl ⟨rfl, rfl⟩, ⟨.inl ⟨rfl, rfl⟩, ⟨.inl ⟨rfl, rfl⟩, trivial⟩⟩⟩⟩⟩⟩) sz3 ag3 rfl rfl (vI b_2.Y) rfl wz (h_far pl49_3 rfl 3 rfl wz (h_ldr 21 1 (.inr (by kernel_rfl)) (fun _ _ ag => ⟨.inl ⟨rfl, rfl⟩, ⟨.inl ⟨rfl, rfl⟩, ⟨.inl ⟨rfl, rfl⟩, ⟨.inl ⟨rfl, rfl⟩, ⟨.inl ⟨rfl, rfl⟩, ⟨.inl ⟨rfl, rfl⟩, ⟨.inl ⟨rfl, rfl⟩, trivial⟩⟩⟩⟩⟩⟩⟩) sz3 ag3 rfl rfl (vI b_2.H) rfl wz (h_op (vI (w64 (b_2.Y + b_2.H))) wz rfl (h_minmax (vI (minI (w64 (a_1.Y + a_1.H)) (w64 (b_2.Y + b_2.H)))) rfl (.inl rfl) wz ?_)))))))))))))))))))))))
 refine h_op (vI (maxI a_1.Y b_2.Y)) wz rfl (h_op (vI (w64 ((minI (w64 (a_1.Y + a_1.H)) (w64 (b_2.Y + b_2.H))) - (maxI a_1.Y b_2.Y)))) wz rfl (h_op (vI (w64 ((minI (w64 (a_1.X + a_1.W)) (w64 (b_2.X + b_2.W))) - (maxI a_1.X b_2.X)))) wz rfl (h_op (vI (w64 ((minI (w64 (a_1.Y + a_1.H)) (w64 (b_2.Y + b_2.H))) - (maxI a_1.Y b_2.Y)))) wz rfl (h_nil (wH_at (H0 := ([(n_3, some (.cells 4 [(vI a_1.X), (vI a_1.Y), (vI a_1.W), (vI a_1.H)])), (n_4, some (.cells 4 [(vI b_2.X), (vI b_2.Y), (vI b_2.W), (vI b_2.H)])), (n_5, some (.cells 4 [(vI 0), (vI 0), (vI 0), (vI 0)]))] : Hp)) ([(4, (.ref n_5 0 0)), (6, (vI (maxI a_1.X b_2.X))), (7, (vI (maxI a_1.Y b_2.Y))), (8, (vI (w64 ((minI (w64 (a_1.X + a_1.W)) (w64 (b_2.X + b_2.W))) - (maxI a_1.X b_2.X))))), (9, (vI (w64 ((minI (w64 (a_1.Y + a_1.H)) (w64 (b_2.Y + b_2.H))) - (maxI a_1.Y b_2.Y)))))] : List (Nat × V)) (by kernel_rfl) (pre_mk (by kernel_rfl)) (wH_seq (wH_seq ?_)))))))
 obtain ⟨v_6, h_7, hF⟩ := bind_some hF
 refine wH_join (β := Unit) (fun _ => ([(4, (.ref n_5 0 0)), (6, (vI (maxI a_1.X b_2.X))), (7, (vI (maxI a_1.Y b_2.Y))), (8, (vI (w64 ((minI (w64 (a_1.X + a_1.W)) (w64 (b_2.X + b_2.W))) - (maxI a_1.X b_2.X))))), (9, (vI (w64 ((minI (w64 (a_1.Y + a_1.H)) (w64 (b_2.Y + b_2.H))) - (maxI a_1.Y b_2.Y))))), (51, (vB v_6))] : List (Nat × V))) (fun _ => ([(n_3, some (.cells 4 [(vI a_1.X), (vI a_1.Y), (vI a_1.W), (vI a_1.H)])), (n_4, some (.cells 4 [(vI b_2.X), (vI b_2.Y), (vI b_2.W), (vI b_2.H)])), (n_5, some (.cells 4 [(vI 0), (vI 0), (vI 0), (vI 0)]))] : Hp)) (fun _ => True) ?_ ?_
 ·refine wH_region (h_op (vI (w64 ((minI (w64 (a_1.X + a_1.W)) (w64 (b_2.X + b_2.W))) - (maxI a_1.X b_2.X)))) wz rfl (h_op (vB (decide ((w64 ((minI (w64 (a_1.X + a_1.W)) (w64 (b_2.X + b_2.W))) - (maxI a_1.X b_2.X))) ≤ 0))) wz rfl ?_))
  rcases cond_some h_7 with ⟨hc_8, h_7⟩ | ⟨hc_8, h_7⟩
  ·refine h_movb rfl hc_8 wz (h_skip (wg rfl rfl rfl) (h_skip (wg rfl rfl rfl) (h_op (vB true) wz rfl (h_nil ?_))))
   obtain rfl := some_inj h_7
   exact cut_mk () trivial rfl (pre_r rfl)
  ·refine h_movb rfl hc_8 wz (h_op (vI (w64 ((minI (w64 (a_1.Y + a_1.H)) (w64 (b_2.Y + b_2.H))) - (maxI a_1.Y b_2.Y)))) (wg rfl rfl rfl) rfl (h_op (vB (decide ((w64 ((minI (w64 (a_1.Y + a_1.H)) (w64 (b_2.Y + b_2.H))) - (maxI a_1.Y b_2.Y))) ≤ 0))) (wg rfl rfl rfl) rfl (h_op (vB (decide ((w64 ((minI (w64 (a_1.Y + a_1.H)) (w64 (b_2.Y + b_2.H))) - (maxI a_1.Y b_2.Y))) ≤ 0))) wz rfl (h_nil ?_))))
   obtain rfl := some_inj h_7
   exact cut_mk () trivial rfl (pre_r rfl)
 ·rintro ⟨⟩ _ sl_ H_ hp_ hq_
  refine wH_at _ hp_ hq_ ?_
  rcases cond_some hF with ⟨hc_9, hF⟩ | ⟨hc_9, hF⟩
  ·refine wH_ift rfl hc_9 (wH_seq (wH_region (h_op (.d (.agg (Rect.enc (⟨0, 0, 0, 0⟩ : Rect)))) wz (by kernel_rfl) (h_str 0 (.inl rfl) (fun _ _ _ => trivial) 2 sz49 rfl rfl [(vI 0), (vI 0), (vI 0), (vI 0)] rfl wz (h_op (vB false) wz rfl (h_nil ?_))))))
   obtain rfl := some_inj hF
   exact wH_ret (fin0 (.inr rfl) [(.d (.agg (Rect.enc (⟨0, 0, 0, 0⟩ : Rect)))), (vB false)] ⟨⟨2, _, _, _, _, _, _, _, rfl, rfl, sz49, ag49, rfl⟩, ⟨rfl, trivial⟩⟩ rfl rfl rfl)
  ·refine wH_iff rfl hc_9 (wH_skip (wH_seq (wH_region (h_op (vI (maxI a_1.X b_2.X)) wz rfl (h_op (vI (maxI a_1.Y b_2.Y)) wz rfl (h_op (vI (w64 ((minI (w64 (a_1.X + a_1.W)) (w64 (b_2.X + b_2.W))) - (maxI a_1.X b_2.X)))) wz rfl (h_op (vI (w64 ((minI (w64 (a_1.Y + a_1.H)) (w64 (b_2.Y + b_2.H))) - (maxI a_1.Y b_2.Y)))) wz rfl (h_op (.d (.agg (Rect.enc (⟨(maxI a_1.X b_2.X), (maxI a_1.Y b_2.Y), (w64 ((minI (w64 (a_1.X + a_1.W)) (w64 (b_2.X + b_2.W))) - (maxI a_1.X b_2.X))), (w64 ((minI (w64 (a_1.Y + a_1.H)) (w64 (b_2.Y + b_2.H))) - (maxI a_1.Y b_2.Y)))⟩ : Rect)))) wz (by kernel_rfl) (h_str 0 (.inl rfl) (fun _ _ _ => trivial) 2 sz49 rfl rfl [(vI (maxI a_1.X b_2.X)), (vI (maxI a_1.Y b_2.Y)), (vI (w64 ((minI (w64 (a_1.X + a_1.W)) (w64 (b_2.X + b_2.W))) - (maxI a_1.X b_2.X)))), (vI (w64 ((minI (w64 (a_1.Y + a_1.H)) (w64 (b_2.Y + b_2.H))) - (maxI a_1.Y b_2.Y))))] rfl wz (h_op (vB true) wz rfl (h_nil ?_)))))))))))
   obtain rfl := some_inj hF
   exact wH_ret (fin0 (.inr rfl) [(.d (.agg (Rect.enc (⟨(maxI a_1.X b_2.X), (maxI a_1.Y b_2.Y), (w64 ((minI (w64 (a_1.X + a_1.W)) (w64 (b_2.X + b_2.W))) - (maxI a_1.X b_2.X))), (w64 ((minI (w64 (a_1.Y + a_1.H)) (w64 (b_2.Y + b_2.H))) - (maxI a_1.Y b_2.Y)))⟩ : Rect)))), (vB true)] ⟨⟨2, _, _, _, _, _, _, _, rfl, rfl, sz49, ag49, rfl⟩, ⟨rfl, trivial⟩⟩ rfl rfl rfl)
end Go.Proofs.YtiekkaelpgahoaaGreat.Law

