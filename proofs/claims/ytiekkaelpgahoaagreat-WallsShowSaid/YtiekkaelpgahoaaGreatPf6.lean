/-
 The machine computes these plain functions (written by a program of ours).
-/
import Derived.Test.YtiekkaelpgahoaaGreatFacts
import Derived.Test.YtiekkaelpgahoaaGreatDefs
import Derived.Test.YtiekkaelpgahoaaGreatPf5
open Go Go.Eng Go.Proofs
namespace Go.Proofs.YtiekkaelpgahoaaGreat.Law
set_option maxRecDepth 100000
set_option linter.unusedVariables false
set_option maxHeartbeats 1000000
theorem screen_lit_ok {wv_1 : Wall} {r : (List Rect)} (hF : screen_lit wv_1 = some r) :
  FnM Tryz.prog 85 [(.d (.agg (Wall.enc wv_1)))] [] (vL Rect.enc r) [] := by
 refine FnM.of_wH ⟨Tryz.prog, 20, [], []⟩ rfl Tryz.func85 rfl rfl (Nat.le_of_ble_eq_true rfl) (by kernel_rfl) ?_
 unfold screen_lit at hF
 refine wH_seq (wH_region (h_box 0 (.inl rfl) [(vS wv_1.Key), (vI wv_1.W), (vI wv_1.H), (vL Screen.enc wv_1.Screens)] rfl rfl wz (fun n_2 => h_op .nil wz rfl (h_nil (wH_seq (wH_region (h_op .nil wz rfl (h_nil (wH_seq (wH_seq (wH_region (h_far pl58_3 rfl 3 rfl wz (h_ldr 0 0 (.inl rfl) (fun _ _ _ => trivial) sz56 ag56 rfl rfl (vL Screen.enc wv_1.Screens) rfl wz (h_len un56 rfl wz (h_op (vI 0) wz rfl (h_nil (wH_new (fun n_9 => ?_))))))))))))))))))
 obtain ⟨o_14, hj_15, hF⟩ := bind_some hF
 obtain ⟨hn_7, hj_15⟩ := forL_some hj_15
 refine wH_join (β := ((List Rect)) × Nm) (fun p => (fun (s_8 : (List Rect)) (n_11 : Nm) => ([(3, (gV n_11 4 s_8))] : List (Nat × V))) p.1 p.2) (fun p => (fun (s_8 : (List Rect)) (n_11 : Nm) => ([(n_2, some (.cells 4 [(vS wv_1.Key), (vI wv_1.W), (vI wv_1.H), (vL Screen.enc wv_1.Screens)])), (n_11, gB 4 Rect.enc s_8)] : Hp)) p.1 p.2) (fun p => o_14 = .go p.1) ?_ ?_
 ·refine wH_block (wH_loop (β := Nat × (List Screen) × ((List Rect)) × Nm) (fun p => (fun (k_3 : Nat) (l_4 : List Screen) (s_8 : (List Rect)) (n_11 : Nm) => ([(3, (gV n_11 4 s_8)), (7, (vL Screen.enc wv_1.Screens)), (8, (vI (wv_1.Screens.length : Int))), (9, (vI (k_3 : Int)))] : List (Nat × V))) p.1 p.2.1 p.2.2.1 p.2.2.2) (fun p => (fun (k_3 : Nat) (l_4 : List Screen) (s_8 : (List Rect)) (n_11 : Nm) => ([(n_2, some (.cells 4 [(vS wv_1.Key), (vI wv_1.W), (vI wv_1.H), (vL Screen.enc wv_1.Screens)])), (n_11, gB 4 Rect.enc s_8)] : Hp)) p.1 p.2.1 p.2.2.1 p.2.2.2) (fun p => forR (fun k x s => screen_lit_L1 k x s) p.2.1 p.1 p.2.2.1 = some o_14 ∧ (wv_1.Screens).drop p.1 = p.2.1) (fun p => p.2.1.length) (0, wv_1.Screens, ([] : List Rect), n_9) ⟨hj_15, rfl⟩ rfl (pre_r rfl) ?_)
  rintro ⟨k_3, l_4, s_8, n_11⟩ ⟨hL_13, hD_6⟩
  dsimp only at hL_13 hD_6
  cases l_4 with
  | nil =>
   obtain rfl := some_inj hL_13
   refine wH_seq (wH_region (h_op (vB (decide ((k_3 : Int) < (wv_1.Screens.length : Int)))) wz rfl (h_nil ?_)))
   refine wH_seq (wH_iff rfl (drop_nil hD_6) (wH_exit ?_))
   exact cut_mk (s_8, n_11) rfl rfl (pre_r rfl)
  | cons x_5 l_4 =>
   obtain ⟨c_, hc_12, hL_13⟩ := bind_some hL_13
   refine wH_seq (wH_region (h_op (vB (decide ((k_3 : Int) < (wv_1.Screens.length : Int)))) wz rfl (h_nil ?_)))
   refine wH_seq (wH_ift rfl (drop_cons hD_6) (wH_skip ?_))
   unfold screen_lit_L1 at hc_12
   refine wH_seq (wH_block (wH_seq (wH_region (h_ia es56 rfl rfl (drop_idx hD_6) rfl wz (h_ldc sz123 ag123 rfl (.d (.agg (Screen.enc x_5))) rfl wz (h_alloc 0 (.inl rfl) z123 rfl wz (fun n_16 => h_str 0 (.inl rfl) (fun _ _ _ => trivial) 2 sz123 rfl rfl [(vS x_5.Key), (vI x_5.On.X), (vI x_5.On.Y), (vI x_5.On.W), (vI x_5.On.H)] rfl wz (h_nil (wH_region (h_op (gV n_11 4 s_8) wz rfl (h_far pl123_1 rfl 1 rfl wz (h_ldr 0 2 (.inl rfl) (fun _ _ _ => trivial) sz49 ag49 rfl rfl (.d (.agg (Rect.enc x_5.On))) rfl wz (h_lit (([x_5.On] : List Rect).map Rect.enc) es62 ez62 rfl rfl rfl rfl rfl wz ?_)))))))))))))
   obtain ⟨a_17, hz_18, hc_12⟩ := bind_some hc_12
   refine h_appg 0 (.inl rfl) (fun _ _ _ => trivial) (i := 1) el62 el62 sz49 z49 rfl (by decide) by49 (by decide) (fun _ => rfl) rfl rfl rfl hz_18 wz (fun n_19 => h_op (gV n_19 4 a_17) wz rfl (h_nil (wH_region (h_opw (w64_next hD_6 hn_7) wz rfl (h_op (vI ((k_3 + 1 : Nat) : Int)) wz rfl (h_nil ?_))))))
   obtain rfl := some_inj hc_12
   exact loop_mk (k_3 + 1, l_4, a_17, n_19) ⟨hL_13, drop_next hD_6⟩ (Nat.lt_succ_self _) rfl (pre_r rfl)
 ·rintro ⟨s_8, n_11⟩ ho_ sl_ H_ hp_ hq_
  subst ho_
  refine wH_at _ hp_ hq_ (wH_seq (wH_region (h_op (gV n_11 4 s_8) wz rfl (h_op (gV n_11 4 s_8) wz rfl (h_nil (wH_frozg 1 rfl (wH_cog 2 1 rfl rfl (wH_cog 3 1 rfl rfl (wH_cog 19 1 rfl rfl ?_)))))))))
  obtain rfl := some_inj hF
  exact wH_ret (fin0 (.inr rfl) [(vL Rect.enc s_8)] ⟨rfl, trivial⟩ rfl rfl rfl)
theorem screen_Lost_ok {wv_1 : Wall} {l_2 : Layout} {r : Int × Int} (hF : screen_Lost wv_1 l_2 = some r) :
  FnM Tryz.prog 38 [(.d (.agg (Wall.enc wv_1))), (.d (.agg (Layout.enc l_2)))] [] (.tup [(vI r.1), (vI r.2)]) [] := by
 refine FnM.of_wH ⟨Tryz.prog, 37, [], []⟩ rfl Tryz.func38 rfl rfl (Nat.le_of_ble_eq_true rfl) (by kernel_rfl) ?_
 unfold screen_Lost at hF
 refine wH_seq (wH_region (h_box 0 (.inl rfl) [(vS wv_1.Key), (vI wv_1.W), (vI wv_1.H), (vL Screen.enc wv_1.Screens)] rfl rfl wz (fun n_3 => h_box 0 (.inl rfl) [(vS l_2.Key), (vI l_2.W), (vI l_2.H), (vL Zone.enc l_2.Zones)] rfl rfl wz (fun n_4 => h_op (vI 0) wz rfl (h_op (vI 0) wz rfl (h_nil (wH_seq (wH_region (h_ldr 0 0 (.inl rfl) (fun _ _ _ => trivial) sz58 ag58 rfl rfl (.d (.agg (Wall.enc wv_1))) rfl wz (h_ldr 0 1 (.inl rfl) (fun _ _ _ => trivial) sz28 ag28 rfl rfl (.d (.agg (Layout.enc l_2))) rfl wz ?_))))))))))
 obtain ⟨r_5, hr_6, hF⟩ := bind_some hF
 refine h_call0 (screen_scaled_ok hr_6) rfl hb91 rfl rfl rfl rfl wz (h_op (.tup [(vL Piece.enc r_5.1), (vI r_5.2)]) wz rfl (h_op (vL Piece.enc r_5.1) wz rfl (h_op (vI r_5.2) wz rfl (h_op (vL Piece.enc r_5.1) wz rfl (h_op (vI r_5.2) wz rfl (h_nil (wH_seq (wH_seq (wH_region (h_op (vI r_5.2) wz rfl (h_op (vB (r_5.2 != 0)) wz rfl (h_nil ?_))))))))))))
 rcases cond_some hF with ⟨hc_7, hF⟩ | ⟨hc_7, hF⟩
 ·refine wH_ift rfl hc_7 (wH_seq (wH_region (h_op (vI r_5.2) wz rfl (h_op (vI 0) wz rfl (h_op (vI r_5.2) wz rfl (h_nil ?_))))))
  obtain rfl := some_inj hF
  exact wH_ret (fin0 (.inr rfl) [(vI 0), (vI r_5.2)] ⟨rfl, ⟨rfl, trivial⟩⟩ rfl rfl rfl)
 ·refine wH_iff rfl hc_7 (wH_skip (wH_seq (wH_region (h_op .nil wz rfl (h_nil (wH_seq (wH_seq (wH_region (h_op (vL Piece.enc r_5.1) wz rfl (h_len un35 rfl wz (h_op (vI 0) wz rfl (h_nil (wH_new (fun n_14 => ?_))))))))))))))
  obtain ⟨o_19, hj_20, hF⟩ := bind_some hF
  obtain ⟨hn_12, hj_20⟩ := forL_some hj_20
  refine wH_join (β := ((List Rect)) × Nm) (fun p => (fun (s_13 : (List Rect)) (n_16 : Nm) => ([(2, (.ref n_3 0 0)), (8, (gV n_16 4 s_13))] : List (Nat × V))) p.1 p.2) (fun p => (fun (s_13 : (List Rect)) (n_16 : Nm) => ([(n_3, some (.cells 4 [(vS wv_1.Key), (vI wv_1.W), (vI wv_1.H), (vL Screen.enc wv_1.Screens)])), (n_4, some (.cells 4 [(vS l_2.Key), (vI l_2.W), (vI l_2.H), (vL Zone.enc l_2.Zones)])), (n_16, gB 4 Rect.enc s_13)] : Hp)) p.1 p.2) (fun p => o_19 = .go p.1) ?_ ?_
  ·refine wH_block (wH_loop (β := Nat × (List Piece) × ((List Rect)) × Nm) (fun p => (fun (k_8 : Nat) (l_9 : List Piece) (s_13 : (List Rect)) (n_16 : Nm) => ([(2, (.ref n_3 0 0)), (8, (gV n_16 4 s_13)), (20, (vL Piece.enc r_5.1)), (21, (vI (r_5.1.length : Int))), (22, (vI (k_8 : Int)))] : List (Nat × V))) p.1 p.2.1 p.2.2.1 p.2.2.2) (fun p => (fun (k_8 : Nat) (l_9 : List Piece) (s_13 : (List Rect)) (n_16 : Nm) => ([(n_3, some (.cells 4 [(vS wv_1.Key), (vI wv_1.W), (vI wv_1.H), (vL Screen.enc wv_1.Screens)])), (n_4, some (.cells 4 [(vS l_2.Key), (vI l_2.W), (vI l_2.H), (vL Zone.enc l_2.Zones)])), (n_16, gB 4 Rect.enc s_13)] : Hp)) p.1 p.2.1 p.2.2.1 p.2.2.2) (fun p => forR (fun k x s => screen_Lost_L1 k x s) p.2.1 p.1 p.2.2.1 = some o_19 ∧ (r_5.1).drop p.1 = p.2.1) (fun p => p.2.1.length) (0, r_5.1, ([] : List Rect), n_14) ⟨hj_20, rfl⟩ rfl (pre_r rfl) ?_)
   rintro ⟨k_8, l_9, s_13, n_16⟩ ⟨hL_18, hD_11⟩
   dsimp only at hL_18 hD_11
   cases l_9 with
   | nil =>
    obtain rfl := some_inj hL_18
    refine wH_seq (wH_region (h_op (vB (decide ((k_8 : Int) < (r_5.1.length : Int)))) wz rfl (h_nil ?_)))
    refine wH_seq (wH_iff rfl (drop_nil hD_11) (wH_exit ?_))
    exact cut_mk (s_13, n_16) rfl rfl (pre_r rfl)
   | cons x_10 l_9 =>
    obtain ⟨c_, hc_17, hL_18⟩ := bind_some hL_18
    refine wH_seq (wH_region (h_op (vB (decide ((k_8 : Int) < (r_5.1.length : Int)))) wz rfl (h_nil ?_)))
    refine wH_seq (wH_ift rfl (drop_cons hD_11) (wH_skip ?_))
    unfold screen_Lost_L1 at hc_17
    refine wH_seq (wH_block (wH_seq (wH_region (h_ia es35 rfl rfl (drop_idx hD_11) rfl wz (h_ldc sz51 ag51 rfl (.d (.agg (Piece.enc x_10))) rfl wz (h_alloc 0 (.inl rfl) z51 rfl wz (fun n_21 => h_str 0 (.inl rfl) (fun _ _ _ => trivial) 3 sz51 rfl rfl [(vS x_10.Zone), (vI x_10.On.X), (vI x_10.On.Y), (vI x_10.On.W), (vI x_10.On.H)] rfl wz (h_nil (wH_region (h_op (gV n_16 4 s_13) wz rfl (h_far pl51_1 rfl 1 rfl wz (h_ldr 0 3 (.inl rfl) (fun _ _ _ => trivial) sz49 ag49 rfl rfl (.d (.agg (Rect.enc x_10.On))) rfl wz (h_lit (([x_10.On] : List Rect).map Rect.enc) es62 ez62 rfl rfl rfl rfl rfl wz ?_)))))))))))))
    obtain ⟨a_22, hz_23, hc_17⟩ := bind_some hc_17
    refine h_appg 0 (.inl rfl) (fun _ _ _ => trivial) (i := 2) el62 el62 sz49 z49 rfl (by decide) by49 (by decide) (fun _ => rfl) rfl rfl rfl hz_23 wz (fun n_24 => h_op (gV n_24 4 a_22) wz rfl (h_nil (wH_region (h_opw (w64_next hD_11 hn_12) wz rfl (h_op (vI ((k_8 + 1 : Nat) : Int)) wz rfl (h_nil ?_))))))
    obtain rfl := some_inj hc_17
    exact loop_mk (k_8 + 1, l_9, a_22, n_24) ⟨hL_18, drop_next hD_11⟩ (Nat.lt_succ_self _) rfl (pre_r rfl)
  ·rintro ⟨s_13, n_16⟩ ho_ sl_ H_ hp_ hq_
   subst ho_
   refine wH_at _ hp_ hq_ (wH_seq (wH_frozg 2 rfl (wH_cog 8 2 rfl rfl (wH_region (h_op (vL Rect.enc s_13) wz rfl (h_ldr 0 0 (.inl rfl) (fun _ _ _ => trivial) sz58 ag58 rfl rfl (.d (.agg (Wall.enc wv_1))) rfl wz ?_))))))
   obtain ⟨r_25, hr_26, hF⟩ := bind_some hF
   refine h_call0 (screen_lit_ok hr_26) rfl hb85 rfl rfl rfl rfl wz ?_
   obtain ⟨r_27, hr_28, hF⟩ := bind_some hF
   refine h_call0 (screen_region_ok hr_28) rfl hb84 rfl rfl rfl rfl wz ?_
   obtain ⟨r_29, hr_30, hF⟩ := bind_some hF
   refine h_call0 (screen_area_ok hr_30) rfl hb92 rfl rfl rfl rfl wz (h_op (vI r_29) wz rfl (h_op (vI 0) wz rfl (h_nil ?_)))
   obtain rfl := some_inj hF
   exact wH_ret (fin0 (.inr rfl) [(vI r_29), (vI 0)] ⟨rfl, ⟨rfl, trivial⟩⟩ rfl rfl rfl)
theorem ref_scaled_ok {r_1 : Rect} {wv_2 : Int} {h_3 : Int} {toW_4 : Int} {toH_5 : Int} {r : Rect} (hF : ref_scaled r_1 wv_2 h_3 toW_4 toH_5 = some r) :
  FnM Tryz.prog 93 [(.d (.agg (Rect.enc r_1))), (vI wv_2), (vI h_3), (vI toW_4), (vI toH_5)] [] (.d (.agg (Rect.enc r))) [] := by
 refine FnM.of_wH ⟨Tryz.prog, 61, [], []⟩ rfl Tryz.func93 rfl rfl (Nat.le_of_ble_eq_true rfl) (by kernel_rfl) ?_
 unfold ref_scaled at hF
 refine wH_seq (wH_region (h_box 0 (.inl rfl) [(vI r_1.X), (vI r_1.Y), (vI r_1.W), (vI r_1.H)] rfl rfl wz (fun n_6 => h_alloc 0 (.inl rfl) z49 rfl wz (fun n_7 => h_nil (wH_seq (wH_draws (h_far pl49_0 rfl 0 rfl wz (h_ldr 1 0 (.inr (by kernel_rfl)) (fun _ _ ag => trivial) sz3 ag3 rfl rfl (vI r_1.X) rfl wz (h_op (vI toW_4) wz rfl (h_op (vI (w64 (r_1.X * toW_4))) wz rfl (h_op (vI wv_2) wz rfl ?_)))))))))))
 obtain ⟨q_8, hz_9, hF⟩ := bind_some hF
 refine h_quo rfl rfl hz_9 wz (h_far pl49_1 rfl 1 rfl wz (h_ldr 7 0 (.inr (by kernel_rfl)) (fun _ _ ag => ⟨.inl ⟨rfl, rfl⟩, trivial⟩) sz3 ag3 rfl rfl (vI r_1.Y) rfl wz (h_op (vI toH_5) wz rfl (h_op (vI (w64 (r_1.Y * toH_5))) wz rfl (h_op (vI h_3) wz rfl ?_)))))
 obtain ⟨q_10, hz_11, hF⟩ := bind_some hF
 refine h_quo rfl rfl hz_11 wz (h_op (vI q_8) wz rfl (h_op (vI q_10) wz rfl (h_nil (wH_seq (wH_draws (h_op (vI q_8) wz rfl (h_op (vI q_10) wz rfl (h_far pl49_0 rfl 0 rfl wz (h_ldr 3 0 (.inr (by kernel_rfl)) (fun _ _ ag => trivial) sz3 ag3 rfl rfl (vI r_1.X) rfl wz (h_far pl49_2 rfl 2 rfl wz (h_ldr 5 0 (.inr (by kernel_rfl)) (fun _ _ ag => ⟨.inl ⟨rfl, rfl⟩, trivial⟩) sz3 ag3 rfl rfl (vI r_1.W) rfl wz (h_op (vI (w64 (r_1.X + r_1.W))) wz rfl (h_op (vI toW_4) wz rfl (h_op (vI (w64 ((w64 (r_1.X + r_1.W)) * toW_4))) wz rfl (h_op (vI wv_2) wz rfl ?_)))))))))))))))
 obtain ⟨q_12, hz_13, hF⟩ := bind_some hF
 refine h_quo rfl rfl hz_13 wz (h_op (vI q_8) wz rfl (h_op (vI (w64 (q_12 - q_8))) wz rfl (h_far pl49_1 rfl 1 rfl wz (h_ldr 14 0 (.inr (by kernel_rfl)) (fun _ _ ag => ⟨.inl ⟨rfl, rfl⟩, ⟨.inl ⟨rfl, rfl⟩, trivial⟩⟩) sz3 ag3 rfl rfl (vI r_1.Y) rfl wz (h_far pl49_3 rfl 3 rfl wz (h_ldr 16 0 (.inr (by kernel_rfl)) (fun _ _ ag => ⟨.inl ⟨rfl, rfl⟩, ⟨.inl ⟨rfl, rfl⟩, ⟨.inl ⟨rfl, rfl⟩, trivial⟩⟩⟩) sz3 ag3 rfl rfl (vI r_1.H) rfl wz (h_op (vI (w64 (r_1.Y + r_1.H))) wz rfl (h_op (vI toH_5) wz rfl (h_op (vI (w64 ((w64 (r_1.Y + r_1.H)) * toH_5))) wz rfl (h_op (vI h_3) wz rfl ?_))))))))))
 obtain ⟨q_14, hz_15, hF⟩ := bind_some hF
 refine h_quo rfl rfl hz_15 wz (h_op (vI q_10) wz rfl (h_op (vI (w64 (q_14 - q_10))) wz rfl (h_op (.d (.agg (Rect.enc (⟨q_8, q_10, (w64 (q_12 - q_8)), (w64 (q_14 - q_10))⟩ : Rect)))) wz (by kernel_rfl) (h_alloc 25 (.inr (by kernel_rfl)) z49 rfl wz (fun n_16 => h_str 26 (.inr (by kernel_rfl)) (fun _ _ ag => ⟨.inr (.inr (by kernel_rfl)), ⟨.inr (.inr (by kernel_rfl)), ⟨.inr (.inr (by kernel_rfl)), ⟨.inr (.inr (by kernel_rfl)), ⟨.inr (.inr (by kernel_rfl)), trivial⟩⟩⟩⟩⟩) 2 sz49 rfl rfl [(vI q_8), (vI q_10), (vI (w64 (q_12 - q_8))), (vI (w64 (q_14 - q_10)))] rfl wz (h_nil (wH_at (H0 := ([(n_6, some (.cells 4 [(vI r_1.X), (vI r_1.Y), (vI r_1.W), (vI r_1.H)])), (n_7, some (.cells 4 [(vI 0), (vI 0), (vI 0), (vI 0)])), (n_16, some (.cells 4 [(vI q_8), (vI q_10), (vI (w64 (q_12 - q_8))), (vI (w64 (q_14 - q_10)))]))] : Hp)) ([(10, (.ref n_7 0 0)), (13, (.ref n_16 0 0))] : List (Nat × V)) (by kernel_rfl) (pre_mk (by kernel_rfl)) (wH_seq (wH_seq ?_)))))))))
 obtain ⟨v_17, h_18, hF⟩ := bind_some hF
 refine wH_join (β := Unit) (fun _ => ([(10, (.ref n_7 0 0)), (13, (.ref n_16 0 0)), (58, (vB v_17))] : List (Nat × V))) (fun _ => ([(n_6, some (.cells 4 [(vI r_1.X), (vI r_1.Y), (vI r_1.W), (vI r_1.H)])), (n_7, some (.cells 4 [(vI 0), (vI 0), (vI 0), (vI 0)])), (n_16, some (.cells 4 [(vI q_8), (vI q_10), (vI (w64 (q_12 - q_8))), (vI (w64 (q_14 - q_10)))]))] : Hp)) (fun _ => True) ?_ ?_
 ·refine wH_region (h_far pl49_2 rfl 2 rfl wz (h_ldr 0 2 (.inl rfl) (fun _ _ _ => trivial) sz3 ag3 rfl rfl (vI (w64 (q_12 - q_8))) rfl wz (h_op (vB ((w64 (q_12 - q_8)) == 0)) wz rfl ?_)))
  rcases cond_some h_18 with ⟨hc_19, h_18⟩ | ⟨hc_19, h_18⟩
  ·refine h_movb rfl hc_19 wz (h_skip (wg rfl rfl rfl) (h_skip (wg rfl rfl rfl) (h_skip (wg rfl rfl rfl) (h_op (vB true) wz rfl (h_nil ?_)))))
   obtain rfl := some_inj h_18
   exact cut_mk () trivial rfl (pre_r rfl)
  ·refine h_movb rfl hc_19 wz (h_far pl49_3 rfl 3 rfl (wg rfl rfl rfl) (h_ldr 0 2 (.inl rfl) (fun _ _ _ => trivial) sz3 ag3 rfl rfl (vI (w64 (q_14 - q_10))) rfl (wg rfl rfl rfl) (h_op (vB ((w64 (q_14 - q_10)) == 0)) (wg rfl rfl rfl) rfl (h_op (vB ((w64 (q_14 - q_10)) == 0)) wz rfl (h_nil ?_)))))
   obtain rfl := some_inj h_18
   exact cut_mk () trivial rfl (pre_r rfl)
 ·rintro ⟨⟩ _ sl_ H_ hp_ hq_
  refine wH_at _ hp_ hq_ ?_
  rcases cond_some hF with ⟨hc_20, hF⟩ | ⟨hc_20, hF⟩
  ·refine wH_ift rfl hc_20 (wH_seq (wH_region (h_op (.d (.agg (Rect.enc (⟨0, 0, 0, 0⟩ : Rect)))) wz (by kernel_rfl) (h_str 0 (.inl rfl) (fun _ _ _ => trivial) 1 sz49 rfl rfl [(vI 0), (vI 0), (vI 0), (vI 0)] rfl wz (h_nil ?_)))))
   obtain rfl := some_inj hF
   exact wH_ret (fin0 (.inr rfl) [(.d (.agg (Rect.enc (⟨0, 0, 0, 0⟩ : Rect))))] ⟨⟨1, _, _, _, _, _, _, _, rfl, rfl, sz49, ag49, rfl⟩, trivial⟩ rfl rfl rfl)
  ·refine wH_iff rfl hc_20 (wH_skip (wH_seq (wH_region (h_ldr 0 2 (.inl rfl) (fun _ _ _ => trivial) sz49 ag49 rfl rfl (.d (.agg (Rect.enc (⟨q_8, q_10, (w64 (q_12 - q_8)), (w64 (q_14 - q_10))⟩ : Rect)))) rfl wz (h_str 0 (.inl rfl) (fun _ _ _ => trivial) 1 sz49 rfl rfl [(vI q_8), (vI q_10), (vI (w64 (q_12 - q_8))), (vI (w64 (q_14 - q_10)))] rfl wz (h_nil ?_))))))
   obtain rfl := some_inj hF
   exact wH_ret (fin0 (.inr rfl) [(.d (.agg (Rect.enc (⟨q_8, q_10, (w64 (q_12 - q_8)), (w64 (q_14 - q_10))⟩ : Rect))))] ⟨⟨1, _, _, _, _, _, _, _, rfl, rfl, sz49, ag49, rfl⟩, trivial⟩ rfl rfl rfl)
theorem ref_ViewsOf_ok {wv_1 : Wall} {l_2 : Layout} {r : (List View)} (hF : ref_ViewsOf wv_1 l_2 = some r) :
  FnM Tryz.prog 40 [(.d (.agg (Wall.enc wv_1))), (.d (.agg (Layout.enc l_2)))] [] (vL View.enc r) [] := by
 refine FnM.of_wH ⟨Tryz.prog, 72, [], []⟩ rfl Tryz.func40 rfl rfl (Nat.le_of_ble_eq_true rfl) (by kernel_rfl) ?_
 unfold ref_ViewsOf at hF
 refine wH_seq (wH_region (h_box 0 (.inl rfl) [(vS wv_1.Key), (vI wv_1.W), (vI wv_1.H), (vL Screen.enc wv_1.Screens)] rfl rfl wz (fun n_3 => h_box 0 (.inl rfl) [(vS l_2.Key), (vI l_2.W), (vI l_2.H), (vL Zone.enc l_2.Zones)] rfl rfl wz (fun n_4 => h_op .nil wz rfl (h_nil (wH_seq (wH_region (h_op .nil wz rfl (h_nil (wH_seq (wH_seq (wH_region (h_far pl58_3 rfl 3 rfl wz (h_ldr 0 0 (.inl rfl) (fun _ _ _ => trivial) sz56 ag56 rfl rfl (vL Screen.enc wv_1.Screens) rfl wz (h_len un56 rfl wz (h_op (vI 0) wz rfl (h_nil (wH_new (fun n_11 => ?_)))))))))))))))))))
 obtain ⟨o_16, hj_17, hF⟩ := bind_some hF
 obtain ⟨hn_9, hj_17⟩ := forL_some hj_17
 refine wH_join (β := ((List View)) × Nm) (fun p => (fun (s_10 : (List View)) (n_13 : Nm) => ([(5, (gV n_13 6 s_10))] : List (Nat × V))) p.1 p.2) (fun p => (fun (s_10 : (List View)) (n_13 : Nm) => ([(n_3, some (.cells 4 [(vS wv_1.Key), (vI wv_1.W), (vI wv_1.H), (vL Screen.enc wv_1.Screens)])), (n_4, some (.cells 4 [(vS l_2.Key), (vI l_2.W), (vI l_2.H), (vL Zone.enc l_2.Zones)])), (n_13, gB 6 View.enc s_10)] : Hp)) p.1 p.2) (fun p => o_16 = .go p.1) ?_ ?_
 ·refine wH_block (wH_loop (β := Nat × (List Screen) × ((List View)) × Nm) (fun p => (fun (k_5 : Nat) (l_6 : List Screen) (s_10 : (List View)) (n_13 : Nm) => ([(2, (.ref n_3 0 0)), (3, (.ref n_4 0 0)), (5, (gV n_13 6 s_10)), (14, (vL Screen.enc wv_1.Screens)), (15, (vI (wv_1.Screens.length : Int))), (16, (vI (k_5 : Int)))] : List (Nat × V))) p.1 p.2.1 p.2.2.1 p.2.2.2) (fun p => (fun (k_5 : Nat) (l_6 : List Screen) (s_10 : (List View)) (n_13 : Nm) => ([(n_3, some (.cells 4 [(vS wv_1.Key), (vI wv_1.W), (vI wv_1.H), (vL Screen.enc wv_1.Screens)])), (n_4, some (.cells 4 [(vS l_2.Key), (vI l_2.W), (vI l_2.H), (vL Zone.enc l_2.Zones)])), (n_13, gB 6 View.enc s_10)] : Hp)) p.1 p.2.1 p.2.2.1 p.2.2.2) (fun p => forR (fun k x s => ref_ViewsOf_L2 l_2 wv_1 k x s) p.2.1 p.1 p.2.2.1 = some o_16 ∧ (wv_1.Screens).drop p.1 = p.2.1) (fun p => p.2.1.length) (0, wv_1.Screens, ([] : List View), n_11) ⟨hj_17, rfl⟩ rfl (pre_r rfl) ?_)
  rintro ⟨k_5, l_6, s_10, n_13⟩ ⟨hL_15, hD_8⟩
  dsimp only at hL_15 hD_8
  cases l_6 with
  | nil =>
   obtain rfl := some_inj hL_15
   refine wH_seq (wH_region (h_op (vB (decide ((k_5 : Int) < (wv_1.Screens.length : Int)))) wz rfl (h_nil ?_)))
   refine wH_seq (wH_iff rfl (drop_nil hD_8) (wH_exit ?_))
   exact cut_mk (s_10, n_13) rfl rfl (pre_r rfl)
  | cons x_7 l_6 =>
   obtain ⟨c_, hc_14, hL_15⟩ := bind_some hL_15
   refine wH_seq (wH_region (h_op (vB (decide ((k_5 : Int) < (wv_1.Screens.length : Int)))) wz rfl (h_nil ?_)))
   refine wH_seq (wH_ift rfl (drop_cons hD_8) (wH_skip ?_))
   unfold ref_ViewsOf_L2 at hc_14
   refine wH_seq (wH_block (wH_seq (wH_region (h_ia es56 rfl rfl (drop_idx hD_8) rfl wz (h_ldc sz123 ag123 rfl (.d (.agg (Screen.enc x_7))) rfl wz (h_alloc 0 (.inl rfl) z123 rfl wz (fun n_18 => h_str 0 (.inl rfl) (fun _ _ _ => trivial) 3 sz123 rfl rfl [(vS x_7.Key), (vI x_7.On.X), (vI x_7.On.Y), (vI x_7.On.W), (vI x_7.On.H)] rfl wz (h_nil (wH_seq (wH_region (h_ldr 0 1 (.inl rfl) (fun _ _ _ => trivial) sz28 ag28 rfl rfl (.d (.agg (Layout.enc l_2))) rfl wz ?_)))))))))))
   obtain ⟨r_19, hr_20, hc_14⟩ := bind_some hc_14
   refine h_call0 (ref_SeenOf_ok hr_20) rfl hb21 rfl rfl rfl rfl wz (h_len un35 rfl wz (h_op (vI 0) wz rfl (h_nil ?_)))
   obtain ⟨o_31, hj_32, hc_14⟩ := bind_some hc_14
   obtain ⟨hn_25, hj_32⟩ := forL_some hj_32
   refine wH_join (β := ((List View)) × Nm) (fun p => (fun (s_26 : (List View)) (n_28 : Nm) => ([(2, (.ref n_3 0 0)), (3, (.ref n_4 0 0)), (5, (gV n_28 6 s_26)), (14, (vL Screen.enc wv_1.Screens)), (15, (vI (wv_1.Screens.length : Int))), (16, (vI (k_5 : Int)))] : List (Nat × V))) p.1 p.2) (fun p => (fun (s_26 : (List View)) (n_28 : Nm) => ([(n_3, some (.cells 4 [(vS wv_1.Key), (vI wv_1.W), (vI wv_1.H), (vL Screen.enc wv_1.Screens)])), (n_4, some (.cells 4 [(vS l_2.Key), (vI l_2.W), (vI l_2.H), (vL Zone.enc l_2.Zones)])), (n_28, gB 6 View.enc s_26), (n_18, some (.cells 5 [(vS x_7.Key), (vI x_7.On.X), (vI x_7.On.Y), (vI x_7.On.W), (vI x_7.On.H)]))] : Hp)) p.1 p.2) (fun p => o_31 = .go p.1) ?_ ?_
   ·refine wH_block (wH_loop (β := Nat × (List Piece) × ((List View)) × Nm) (fun p => (fun (k_21 : Nat) (l_22 : List Piece) (s_26 : (List View)) (n_28 : Nm) => ([(2, (.ref n_3 0 0)), (3, (.ref n_4 0 0)), (5, (gV n_28 6 s_26)), (7, (.ref n_18 0 0)), (14, (vL Screen.enc wv_1.Screens)), (15, (vI (wv_1.Screens.length : Int))), (16, (vI (k_5 : Int))), (21, (vL Piece.enc r_19)), (22, (vI (r_19.length : Int))), (23, (vI (k_21 : Int)))] : List (Nat × V))) p.1 p.2.1 p.2.2.1 p.2.2.2) (fun p => (fun (k_21 : Nat) (l_22 : List Piece) (s_26 : (List View)) (n_28 : Nm) => ([(n_3, some (.cells 4 [(vS wv_1.Key), (vI wv_1.W), (vI wv_1.H), (vL Screen.enc wv_1.Screens)])), (n_4, some (.cells 4 [(vS l_2.Key), (vI l_2.W), (vI l_2.H), (vL Zone.enc l_2.Zones)])), (n_28, gB 6 View.enc s_26), (n_18, some (.cells 5 [(vS x_7.Key), (vI x_7.On.X), (vI x_7.On.Y), (vI x_7.On.W), (vI x_7.On.H)]))] : Hp)) p.1 p.2.1 p.2.2.1 p.2.2.2) (fun p => forR (fun k x s => ref_ViewsOf_L1 l_2 wv_1 x_7 k x s) p.2.1 p.1 p.2.2.1 = some o_31 ∧ (r_19).drop p.1 = p.2.1) (fun p => p.2.1.length) (0, r_19, s_10, n_13) ⟨hj_32, rfl⟩ rfl (pre_r rfl) ?_)
    rintro ⟨k_21, l_22, s_26, n_28⟩ ⟨hL_30, hD_24⟩
    dsimp only at hL_30 hD_24
    cases l_22 with
    | nil =>
     obtain rfl := some_inj hL_30
     refine wH_seq (wH_region (h_op (vB (decide ((k_21 : Int) < (r_19.length : Int)))) wz rfl (h_nil ?_)))
     refine wH_seq (wH_iff rfl (drop_nil hD_24) (wH_exit ?_))
     exact cut_mk (s_26, n_28) rfl rfl (pre_r rfl)
    | cons x_23 l_22 =>
     obtain ⟨c_, hc_29, hL_30⟩ := bind_some hL_30
     refine wH_seq (wH_region (h_op (vB (decide ((k_21 : Int) < (r_19.length : Int)))) wz rfl (h_nil ?_)))
     refine wH_seq (wH_ift rfl (drop_cons hD_24) (wH_skip ?_))
     unfold ref_ViewsOf_L1 at hc_29
     refine wH_seq (wH_block (wH_seq (wH_region (h_ia es35 rfl rfl (drop_idx hD_24) rfl wz (h_ldc sz51 ag51 rfl (.d (.agg (Piece.enc x_23))) rfl wz (h_alloc 0 (.inl rfl) z51 rfl wz (fun n_33 => h_str 0 (.inl rfl) (fun _ _ _ => trivial) 4 sz51 rfl rfl [(vS x_23.Zone), (vI x_23.On.X), (vI x_23.On.Y), (vI x_23.On.W), (vI x_23.On.H)] rfl wz (h_nil (wH_seq (wH_region (h_far pl51_1 rfl 1 rfl wz (h_ldr 0 4 (.inl rfl) (fun _ _ _ => trivial) sz49 ag49 rfl rfl (.d (.agg (Rect.enc x_23.On))) rfl wz (h_far pl28_1 rfl 1 rfl wz (h_ldr 0 1 (.inl rfl) (fun _ _ _ => trivial) sz3 ag3 rfl rfl (vI l_2.W) rfl wz (h_far pl28_2 rfl 2 rfl wz (h_ldr 0 1 (.inl rfl) (fun _ _ _ => trivial) sz3 ag3 rfl rfl (vI l_2.H) rfl wz (h_far pl58_1 rfl 1 rfl wz (h_ldr 0 0 (.inl rfl) (fun _ _ _ => trivial) sz3 ag3 rfl rfl (vI wv_1.W) rfl wz (h_far pl58_2 rfl 2 rfl wz (h_ldr 0 0 (.inl rfl) (fun _ _ _ => trivial) sz3 ag3 rfl rfl (vI wv_1.H) rfl wz ?_))))))))))))))))))))
     obtain ⟨r_34, hr_35, hc_29⟩ := bind_some hc_29
     refine h_call0 (ref_scaled_ok hr_35) rfl hb93 rfl rfl rfl rfl wz (h_alloc 0 (.inl rfl) z49 rfl wz (fun n_36 => h_str 0 (.inl rfl) (fun _ _ _ => trivial) 5 sz49 rfl rfl [(vI r_34.X), (vI r_34.Y), (vI r_34.W), (vI r_34.H)] rfl wz (h_nil (wH_seq (wH_region (h_far pl123_1 rfl 1 rfl wz (h_ldr 0 3 (.inl rfl) (fun _ _ _ => trivial) sz49 ag49 rfl rfl (.d (.agg (Rect.enc x_7.On))) rfl wz (h_ldr 0 5 (.inl rfl) (fun _ _ _ => trivial) sz49 ag49 rfl rfl (.d (.agg (Rect.enc r_34))) rfl wz ?_))))))))
     obtain ⟨r_37, hr_38, hc_29⟩ := bind_some hc_29
     refine h_call0 (ref_MeetOf_ok hr_38) rfl hb88 rfl rfl rfl rfl wz (h_op (.tup [(.d (.agg (Rect.enc r_37.1))), (vB r_37.2)]) wz rfl (h_op (.d (.agg (Rect.enc r_37.1))) wz rfl (h_op (vB r_37.2) wz rfl (h_alloc 0 (.inl rfl) z49 rfl wz (fun n_39 => h_str 0 (.inl rfl) (fun _ _ _ => trivial) 6 sz49 rfl rfl [(vI r_37.1.X), (vI r_37.1.Y), (vI r_37.1.W), (vI r_37.1.H)] rfl wz (h_op (vB r_37.2) wz rfl (h_nil (wH_seq (wH_region (h_op (vB r_37.2) wz rfl (h_nil ?_)))))))))))
     obtain ⟨v_40, h_41, hc_29⟩ := bind_some hc_29
     refine wH_join (β := Nm) (fun (n_42 : Nm) => ([(2, (.ref n_3 0 0)), (3, (.ref n_4 0 0)), (5, (gV n_42 6 v_40.1)), (7, (.ref n_18 0 0)), (14, (vL Screen.enc wv_1.Screens)), (15, (vI (wv_1.Screens.length : Int))), (16, (vI (k_5 : Int))), (21, (vL Piece.enc r_19)), (22, (vI (r_19.length : Int))), (23, (vI (k_21 : Int)))] : List (Nat × V))) (fun (n_42 : Nm) => ([(n_3, some (.cells 4 [(vS wv_1.Key), (vI wv_1.W), (vI wv_1.H), (vL Screen.enc wv_1.Screens)])), (n_4, some (.cells 4 [(vS l_2.Key), (vI l_2.W), (vI l_2.H), (vL Zone.enc l_2.Zones)])), (n_42, gB 6 View.enc v_40.1), (n_18, some (.cells 5 [(vS x_7.Key), (vI x_7.On.X), (vI x_7.On.Y), (vI x_7.On.W), (vI x_7.On.H)])), (n_33, some (.cells 5 [(vS x_23.Zone), (vI x_23.On.X), (vI x_23.On.Y), (vI x_23.On.W), (vI x_23.On.H)])), (n_36, some (.cells 4 [(vI r_34.X), (vI r_34.Y), (vI r_34.W), (vI r_34.H)])), (n_39, some (.cells 4 [(vI v_40.2.1), (vI v_40.2.2), (vI r_37.1.W), (vI r_37.1.H)]))] : Hp)) (fun _ => True) ?_ ?_
     ·rcases cond_some h_41 with ⟨hc_43, h_41⟩ | ⟨hc_43, h_41⟩
      ·refine wH_ift rfl hc_43 (wH_seq (wH_draws (h_far pl49_0 rfl 0 rfl wz (h_ldr 1 6 (.inr (by kernel_rfl)) (fun _ _ ag => trivial) sz3 ag3 rfl rfl (vI r_37.1.X) rfl wz (h_far pl123_1 rfl 1 rfl wz (h_far pl49_0 rfl 1 rfl wz (h_ldr 4 3 (.inr (by kernel_rfl)) (fun _ _ ag => ⟨.inl ⟨rfl, rfl⟩, trivial⟩) sz3 ag3 rfl rfl (vI x_7.On.X) rfl wz (h_op (vI (w64 (r_37.1.X - x_7.On.X))) wz rfl (h_far pl49_1 rfl 1 rfl wz (h_ldr 7 6 (.inr (by kernel_rfl)) (fun _ _ ag => ⟨.inl ⟨rfl, rfl⟩, ⟨.inl ⟨rfl, rfl⟩, trivial⟩⟩) sz3 ag3 rfl rfl (vI r_37.1.Y) rfl wz (h_far pl123_1 rfl 1 rfl wz (h_far pl49_1 rfl 2 rfl wz (h_ldr 10 3 (.inr (by kernel_rfl)) (fun _ _ ag => ⟨.inl ⟨rfl, rfl⟩, ⟨.inl ⟨rfl, rfl⟩, ⟨.inl ⟨rfl, rfl⟩, trivial⟩⟩⟩) sz3 ag3 rfl rfl (vI x_7.On.Y) rfl wz (h_op (vI (w64 (r_37.1.Y - x_7.On.Y))) wz rfl (h_far pl49_0 rfl 0 rfl wz (h_str 13 (.inr (by kernel_rfl)) (fun _ _ ag => ⟨.inr (.inr (by kernel_rfl)), ⟨.inr (.inr (by kernel_rfl)), ⟨.inr (.inr (by kernel_rfl)), ⟨.inr (.inl (dis1 (ag_ne ag (i := 6) (j := 3) rfl rfl (by decide)))), trivial⟩⟩⟩⟩) 6 sz3 rfl rfl [(vI (w64 (r_37.1.X - x_7.On.X))), (vI r_37.1.Y), (vI r_37.1.W), (vI r_37.1.H)] rfl wz (h_far pl49_1 rfl 1 rfl wz (h_str 15 (.inr (by kernel_rfl)) (fun _ _ ag => ⟨.inr (.inr (by kernel_rfl)), ⟨.inr (.inr (by kernel_rfl)), ⟨.inr (.inr (by kernel_rfl)), ⟨.inr (.inr (by kernel_rfl)), ⟨.inr (.inr (by kernel_rfl)), trivial⟩⟩⟩⟩⟩) 6 sz3 rfl rfl [(vI (w64 (r_37.1.X - x_7.On.X))), (vI (w64 (r_37.1.Y - x_7.On.Y))), (vI r_37.1.W), (vI r_37.1.H)] rfl wz (h_nil (wH_at (H0 := ([(n_3, some (.cells 4 [(vS wv_1.Key), (vI wv_1.W), (vI wv_1.H), (vL Screen.enc wv_1.Screens)])), (n_4, some (.cells 4 [(vS l_2.Key), (vI l_2.W), (vI l_2.H), (vL Zone.enc l_2.Zones)])), (n_28, gB 6 View.enc s_26), (n_18, some (.cells 5 [(vS x_7.Key), (vI x_7.On.X), (vI x_7.On.Y), (vI x_7.On.W), (vI x_7.On.H)])), (n_33, some (.cells 5 [(vS x_23.Zone), (vI x_23.On.X), (vI x_23.On.Y), (vI x_23.On.W), (vI x_23.On.H)])), (n_36, some (.cells 4 [(vI r_34.X), (vI r_34.Y), (vI r_34.W), (vI r_34.H)])), (n_39, some (.cells 4 [(vI (w64 (r_37.1.X - x_7.On.X))), (vI (w64 (r_37.1.Y - x_7.On.Y))), (vI r_37.1.W), (vI r_37.1.H)]))] : Hp)) ([(2, (.ref n_3 0 0)), (3, (.ref n_4 0 0)), (5, (gV n_28 6 s_26)), (7, (.ref n_18 0 0)), (9, (.ref n_33 0 0)), (11, (.ref n_39 0 0)), (14, (vL Screen.enc wv_1.Screens)), (15, (vI (wv_1.Screens.length : Int))), (16, (vI (k_5 : Int))), (21, (vL Piece.enc r_19)), (22, (vI (r_19.length : Int))), (23, (vI (k_21 : Int)))] : List (Nat × V)) (by kernel_rfl) (pre_mk (by kernel_rfl)) (wH_region (h_op (gV n_28 6 s_26) wz rfl (h_far pl123_0 rfl 0 rfl wz ?_)))))))))))))))))))))))
       refine h_ldr 0 3 (.inl rfl) (fun _ _ _ => trivial) sz9 ag9 rfl rfl (vS x_7.Key) rfl wz (h_far pl51_0 rfl 0 rfl wz (h_ldr 0 4 (.inl rfl) (fun _ _ _ => trivial) sz9 ag9 rfl rfl (vS x_23.Zone) rfl wz (h_ldr 0 6 (.inl rfl) (fun _ _ _ => trivial) sz49 ag49 rfl rfl (.d (.agg (Rect.enc (⟨(w64 (r_37.1.X - x_7.On.X)), (w64 (r_37.1.Y - x_7.On.Y)), r_37.1.W, r_37.1.H⟩ : Rect)))) rfl wz (h_op (.d (.agg (View.enc (⟨x_7.Key, x_23.Zone, (⟨(w64 (r_37.1.X - x_7.On.X)), (w64 (r_37.1.Y - x_7.On.Y)), r_37.1.W, r_37.1.H⟩ : Rect)⟩ : View)))) wz (by kernel_rfl) (h_lit (([(⟨x_7.Key, x_23.Zone, (⟨(w64 (r_37.1.X - x_7.On.X)), (w64 (r_37.1.Y - x_7.On.Y)), r_37.1.W, r_37.1.H⟩ : Rect)⟩ : View)] : List View).map View.enc) es77 ez77 rfl rfl rfl rfl rfl wz ?_)))))
       obtain ⟨a_44, hz_45, h_41⟩ := bind_some h_41
       refine h_appg 0 (.inl rfl) (fun _ _ _ => trivial) (i := 2) el77 el77 sz84 z84 rfl (by decide) by84 (by decide) (fun _ => rfl) rfl rfl rfl hz_45 wz (fun n_46 => h_op (gV n_46 6 a_44) wz rfl (h_nil ?_))
       obtain rfl := some_inj h_41
       exact cut_mk n_46 trivial rfl (pre_r rfl)
      ·refine wH_iff rfl hc_43 (wH_skip ?_)
       obtain rfl := some_inj h_41
       exact cut_mk n_28 trivial rfl (pre_r rfl)
     ·rintro n_42 _ sl_ H_ hp_ hq_
      refine wH_at _ hp_ hq_ (wH_region (h_opw (w64_next hD_24 hn_25) wz rfl (h_op (vI ((k_21 + 1 : Nat) : Int)) wz rfl (h_nil ?_))))
      obtain rfl := some_inj hc_29
      exact loop_mk (k_21 + 1, l_22, v_40.1, n_42) ⟨hL_30, drop_next hD_24⟩ (Nat.lt_succ_self _) rfl (pre_r rfl)
   ·rintro ⟨s_26, n_28⟩ ho_ sl_ H_ hp_ hq_
    subst ho_
    refine wH_at _ hp_ hq_ (wH_region (h_opw (w64_next hD_8 hn_9) wz rfl (h_op (vI ((k_5 + 1 : Nat) : Int)) wz rfl (h_nil ?_))))
    obtain rfl := some_inj hc_14
    exact loop_mk (k_5 + 1, l_6, s_26, n_28) ⟨hL_15, drop_next hD_8⟩ (Nat.lt_succ_self _) rfl (pre_r rfl)
 ·rintro ⟨s_10, n_13⟩ ho_ sl_ H_ hp_ hq_
  subst ho_
  refine wH_at _ hp_ hq_ (wH_seq (wH_region (h_op (gV n_13 6 s_10) wz rfl (h_op (gV n_13 6 s_10) wz rfl (h_nil (wH_frozg 2 rfl (wH_cog 4 2 rfl rfl (wH_cog 5 2 rfl rfl (wH_cog 71 2 rfl rfl ?_)))))))))
  obtain rfl := some_inj hF
  exact wH_ret (fin0 (.inr rfl) [(vL View.enc s_10)] ⟨rfl, trivial⟩ rfl rfl rfl)
theorem slices_Equal_api_View_api_View_ok {s1_1 : (List View)} {s2_2 : (List View)} {r : Bool} (hF : slices_Equal_api_View_api_View s1_1 s2_2 = some r) :
  FnM Tryz.prog 39 [(vL View.enc s1_1), (vL View.enc s2_2)] [] (vB r) [] := by
 refine FnM.of_wH ⟨Tryz.prog, 26, [], []⟩ rfl Tryz.func39 rfl rfl (Nat.le_of_ble_eq_true rfl) (by kernel_rfl) ?_
 unfold slices_Equal_api_View_api_View at hF
 refine wH_seq (wH_region (h_op (vB false) wz rfl (h_nil (wH_seq (wH_seq (wH_region (h_op (vL View.enc s1_1) wz rfl (h_len un77 rfl wz (h_op (vL View.enc s2_2) wz rfl (h_len un77 rfl wz (h_op (vB ((s1_1.length : Int) != (s2_2.length : Int))) wz rfl (h_nil ?_))))))))))))
 rcases cond_some hF with ⟨hc_3, hF⟩ | ⟨hc_3, hF⟩
 ·refine wH_ift rfl hc_3 (wH_seq (wH_region (h_op (vB false) wz rfl (h_nil ?_))))
  obtain rfl := some_inj hF
  exact wH_ret (fin0 (.inr rfl) [(vB false)] ⟨rfl, trivial⟩ rfl rfl rfl)
 ·refine wH_iff rfl hc_3 (wH_skip (wH_seq (wH_seq (wH_region (h_op (vL View.enc s1_1) wz rfl (h_len un77 rfl wz (h_op (vI 0) wz rfl (h_nil ?_))))))))
  obtain ⟨o_12, hj_13, hF⟩ := bind_some hF
  obtain ⟨hn_8, hj_13⟩ := forL_some hj_13
  refine wH_join (β := (Unit)) (fun (s_9 : Unit) => ([] : List (Nat × V))) (fun (s_9 : Unit) => ([] : Hp)) (fun p => o_12 = .go p) ?_ ?_
  ·refine wH_block (wH_loop (β := Nat × (List View) × (Unit)) (fun p => (fun (k_4 : Nat) (l_5 : List View) (s_9 : Unit) => ([(0, (vL View.enc s1_1)), (1, (vL View.enc s2_2)), (12, (vI (s1_1.length : Int))), (13, (vI (k_4 : Int)))] : List (Nat × V))) p.1 p.2.1 p.2.2) (fun p => (fun (k_4 : Nat) (l_5 : List View) (s_9 : Unit) => ([] : Hp)) p.1 p.2.1 p.2.2) (fun p => forR (fun k x s => slices_Equal_api_View_api_View_L1 s2_2 k x s) p.2.1 p.1 p.2.2 = some o_12 ∧ (s1_1).drop p.1 = p.2.1) (fun p => p.2.1.length) (0, s1_1, ()) ⟨hj_13, rfl⟩ rfl (pre_r rfl) ?_)
   rintro ⟨k_4, l_5, s_9⟩ ⟨hL_11, hD_7⟩
   dsimp only at hL_11 hD_7
   cases l_5 with
   | nil =>
    obtain rfl := some_inj hL_11
    refine wH_seq (wH_region (h_op (vB (decide ((k_4 : Int) < (s1_1.length : Int)))) wz rfl (h_nil ?_)))
    refine wH_seq (wH_iff rfl (drop_nil hD_7) (wH_exit ?_))
    exact cut_mk (s_9) rfl rfl (pre_r rfl)
   | cons x_6 l_5 =>
    obtain ⟨c_, hc_10, hL_11⟩ := bind_some hL_11
    refine wH_seq (wH_region (h_op (vB (decide ((k_4 : Int) < (s1_1.length : Int)))) wz rfl (h_nil ?_)))
    refine wH_seq (wH_ift rfl (drop_cons hD_7) (wH_skip ?_))
    unfold slices_Equal_api_View_api_View_L1 at hc_10
    refine wH_seq (wH_block (wH_seq (wH_region (h_op (vI (k_4 : Int)) wz rfl (h_op (vI (k_4 : Int)) wz rfl (h_nil (wH_seq (wH_draws (h_op (vL View.enc s1_1) wz rfl (h_op (vI (k_4 : Int)) wz rfl (h_ia es77 rfl rfl (drop_idx hD_7) rfl wz (h_ldc sz84 ag84 rfl (.d (.agg (View.enc x_6))) rfl wz (h_op (vL View.enc s2_2) wz rfl (h_op (vI (k_4 : Int)) wz rfl ?_))))))))))))))
    obtain ⟨y_14, hy_15, hc_10⟩ := bind_some hc_10
    refine h_ia es77 rfl rfl hy_15 rfl wz (h_ldc sz84 ag84 rfl (.d (.agg (View.enc y_14))) rfl wz (h_op (vB (!((x_6.Screen.toList == y_14.Screen.toList) && ((x_6.Zone.toList == y_14.Zone.toList) && (((x_6.On.X == y_14.On.X) && ((x_6.On.Y == y_14.On.Y) && ((x_6.On.W == y_14.On.W) && ((x_6.On.H == y_14.On.H) && true)))) && true))))) wz (by kernel_rfl) (h_nil ?_)))
    rcases cond_some hc_10 with ⟨hc_16, hc_10⟩ | ⟨hc_16, hc_10⟩
    ·refine wH_ift rfl hc_16 (wH_seq (wH_region (h_op (vB false) wz rfl (h_nil ?_))))
     obtain rfl := some_inj hc_10
     obtain rfl := some_inj hL_11
     obtain rfl := some_inj hF
     exact wH_ret (fin0 (.inr rfl) [(vB false)] ⟨rfl, trivial⟩ rfl rfl rfl)
    ·refine wH_iff rfl hc_16 (wH_skip (wH_region (h_opw (w64_next hD_7 hn_8) wz rfl (h_op (vI ((k_4 + 1 : Nat) : Int)) wz rfl (h_nil ?_)))))
     obtain rfl := some_inj hc_10
     exact loop_mk (k_4 + 1, l_5, ()) ⟨hL_11, drop_next hD_7⟩ (Nat.lt_succ_self _) rfl (pre_r rfl)
  ·rintro s_9 ho_ sl_ H_ hp_ hq_
   subst ho_
   refine wH_at _ hp_ hq_ (wH_seq (wH_region (h_op (vB true) wz rfl (h_nil ?_))))
   obtain rfl := some_inj hF
   exact wH_ret (fin0 (.inr rfl) [(vB true)] ⟨rfl, trivial⟩ rfl rfl rfl)
theorem ref_LostOf_ok {wv_1 : Wall} {l_2 : Layout} {r : Int} (hF : ref_LostOf wv_1 l_2 = some r) :
  FnM Tryz.prog 41 [(.d (.agg (Wall.enc wv_1))), (.d (.agg (Layout.enc l_2)))] [] (vI r) [] := by
 refine FnM.of_wH ⟨Tryz.prog, 56, [], []⟩ rfl Tryz.func41 rfl rfl (Nat.le_of_ble_eq_true rfl) (by kernel_rfl) ?_
 unfold ref_LostOf at hF
 refine wH_seq (wH_region (h_box 0 (.inl rfl) [(vS wv_1.Key), (vI wv_1.W), (vI wv_1.H), (vL Screen.enc wv_1.Screens)] rfl rfl wz (fun n_3 => h_box 0 (.inl rfl) [(vS l_2.Key), (vI l_2.W), (vI l_2.H), (vL Zone.enc l_2.Zones)] rfl rfl wz (fun n_4 => h_op (vI 0) wz rfl (h_nil (wH_seq (wH_region (h_op (vI 0) wz rfl (h_nil (wH_seq (wH_seq (wH_region (h_ldr 0 1 (.inl rfl) (fun _ _ _ => trivial) sz28 ag28 rfl rfl (.d (.agg (Layout.enc l_2))) rfl wz ?_)))))))))))))
 obtain ⟨r_5, hr_6, hF⟩ := bind_some hF
 refine h_call0 (ref_SeenOf_ok hr_6) rfl hb21 rfl rfl rfl rfl wz (h_len un35 rfl wz (h_op (vI 0) wz rfl (h_nil ?_)))
 obtain ⟨o_15, hj_16, hF⟩ := bind_some hF
 obtain ⟨hn_11, hj_16⟩ := forL_some hj_16
 refine wH_join (β := (Int)) (fun (s_12 : Int) => ([(2, (.ref n_3 0 0)), (3, (.ref n_4 0 0)), (5, (vI s_12))] : List (Nat × V))) (fun (s_12 : Int) => ([(n_3, some (.cells 4 [(vS wv_1.Key), (vI wv_1.W), (vI wv_1.H), (vL Screen.enc wv_1.Screens)])), (n_4, some (.cells 4 [(vS l_2.Key), (vI l_2.W), (vI l_2.H), (vL Zone.enc l_2.Zones)]))] : Hp)) (fun p => o_15 = .go p) ?_ ?_
 ·refine wH_block (wH_loop (β := Nat × (List Piece) × (Int)) (fun p => (fun (k_7 : Nat) (l_8 : List Piece) (s_12 : Int) => ([(2, (.ref n_3 0 0)), (3, (.ref n_4 0 0)), (5, (vI s_12)), (12, (vL Piece.enc r_5)), (13, (vI (r_5.length : Int))), (14, (vI (k_7 : Int)))] : List (Nat × V))) p.1 p.2.1 p.2.2) (fun p => (fun (k_7 : Nat) (l_8 : List Piece) (s_12 : Int) => ([(n_3, some (.cells 4 [(vS wv_1.Key), (vI wv_1.W), (vI wv_1.H), (vL Screen.enc wv_1.Screens)])), (n_4, some (.cells 4 [(vS l_2.Key), (vI l_2.W), (vI l_2.H), (vL Zone.enc l_2.Zones)]))] : Hp)) p.1 p.2.1 p.2.2) (fun p => forR (fun k x s => ref_LostOf_L1 l_2 wv_1 k x s) p.2.1 p.1 p.2.2 = some o_15 ∧ (r_5).drop p.1 = p.2.1) (fun p => p.2.1.length) (0, r_5, 0) ⟨hj_16, rfl⟩ rfl (pre_r rfl) ?_)
  rintro ⟨k_7, l_8, s_12⟩ ⟨hL_14, hD_10⟩
  dsimp only at hL_14 hD_10
  cases l_8 with
  | nil =>
   obtain rfl := some_inj hL_14
   refine wH_seq (wH_region (h_op (vB (decide ((k_7 : Int) < (r_5.length : Int)))) wz rfl (h_nil ?_)))
   refine wH_seq (wH_iff rfl (drop_nil hD_10) (wH_exit ?_))
   exact cut_mk (s_12) rfl rfl (pre_r rfl)
  | cons x_9 l_8 =>
   obtain ⟨c_, hc_13, hL_14⟩ := bind_some hL_14
   refine wH_seq (wH_region (h_op (vB (decide ((k_7 : Int) < (r_5.length : Int)))) wz rfl (h_nil ?_)))
   refine wH_seq (wH_ift rfl (drop_cons hD_10) (wH_skip ?_))
   unfold ref_LostOf_L1 at hc_13
   refine wH_seq (wH_block (wH_seq (wH_region (h_ia es35 rfl rfl (drop_idx hD_10) rfl wz (h_ldc sz51 ag51 rfl (.d (.agg (Piece.enc x_9))) rfl wz (h_alloc 0 (.inl rfl) z51 rfl wz (fun n_17 => h_str 0 (.inl rfl) (fun _ _ _ => trivial) 2 sz51 rfl rfl [(vS x_9.Zone), (vI x_9.On.X), (vI x_9.On.Y), (vI x_9.On.W), (vI x_9.On.H)] rfl wz (h_nil (wH_seq (wH_region (h_far pl51_1 rfl 1 rfl wz (h_ldr 0 2 (.inl rfl) (fun _ _ _ => trivial) sz49 ag49 rfl rfl (.d (.agg (Rect.enc x_9.On))) rfl wz (h_far pl28_1 rfl 1 rfl wz (h_ldr 0 1 (.inl rfl) (fun _ _ _ => trivial) sz3 ag3 rfl rfl (vI l_2.W) rfl wz (h_far pl28_2 rfl 2 rfl wz (h_ldr 0 1 (.inl rfl) (fun _ _ _ => trivial) sz3 ag3 rfl rfl (vI l_2.H) rfl wz (h_far pl58_1 rfl 1 rfl wz (h_ldr 0 0 (.inl rfl) (fun _ _ _ => trivial) sz3 ag3 rfl rfl (vI wv_1.W) rfl wz (h_far pl58_2 rfl 2 rfl wz (h_ldr 0 0 (.inl rfl) (fun _ _ _ => trivial) sz3 ag3 rfl rfl (vI wv_1.H) rfl wz ?_))))))))))))))))))))
   obtain ⟨r_18, hr_19, hc_13⟩ := bind_some hc_13
   refine h_call0 (ref_scaled_ok hr_19) rfl hb93 rfl rfl rfl rfl wz (h_alloc 0 (.inl rfl) z49 rfl wz (fun n_20 => h_str 0 (.inl rfl) (fun _ _ _ => trivial) 3 sz49 rfl rfl [(vI r_18.X), (vI r_18.Y), (vI r_18.W), (vI r_18.H)] rfl wz (h_nil (wH_region (h_op (vI s_12) wz rfl (h_far pl49_2 rfl 2 rfl wz (h_ldr 0 3 (.inl rfl) (fun _ _ _ => trivial) sz3 ag3 rfl rfl (vI r_18.W) rfl wz (h_far pl49_3 rfl 3 rfl wz (h_ldr 0 3 (.inl rfl) (fun _ _ _ => trivial) sz3 ag3 rfl rfl (vI r_18.H) rfl wz (h_op (vI (w64 (r_18.W * r_18.H))) wz rfl (h_op (vI (w64 (s_12 + (w64 (r_18.W * r_18.H))))) wz rfl (h_op (vI (w64 (s_12 + (w64 (r_18.W * r_18.H))))) wz rfl (h_nil (wH_region (h_opw (w64_next hD_10 hn_11) wz rfl (h_op (vI ((k_7 + 1 : Nat) : Int)) wz rfl (h_nil ?_)))))))))))))))))
   obtain rfl := some_inj hc_13
   exact loop_mk (k_7 + 1, l_8, (w64 (s_12 + (w64 (r_18.W * r_18.H))))) ⟨hL_14, drop_next hD_10⟩ (Nat.lt_succ_self _) rfl (pre_r rfl)
 ·rintro s_12 ho_ sl_ H_ hp_ hq_
  subst ho_
  refine wH_at _ hp_ hq_ (wH_seq (wH_seq (wH_region (h_ldr 0 0 (.inl rfl) (fun _ _ _ => trivial) sz58 ag58 rfl rfl (.d (.agg (Wall.enc wv_1))) rfl wz (h_ldr 0 1 (.inl rfl) (fun _ _ _ => trivial) sz28 ag28 rfl rfl (.d (.agg (Layout.enc l_2))) rfl wz ?_)))))
  obtain ⟨r_21, hr_22, hF⟩ := bind_some hF
  refine h_call0 (ref_ViewsOf_ok hr_22) rfl hb40 rfl rfl rfl rfl wz (h_len un77 rfl wz (h_op (vI 0) wz rfl (h_nil ?_)))
  obtain ⟨o_31, hj_32, hF⟩ := bind_some hF
  obtain ⟨hn_27, hj_32⟩ := forL_some hj_32
  refine wH_join (β := (Int)) (fun (s_28 : Int) => ([(5, (vI s_28))] : List (Nat × V))) (fun (s_28 : Int) => ([(n_3, some (.cells 4 [(vS wv_1.Key), (vI wv_1.W), (vI wv_1.H), (vL Screen.enc wv_1.Screens)])), (n_4, some (.cells 4 [(vS l_2.Key), (vI l_2.W), (vI l_2.H), (vL Zone.enc l_2.Zones)]))] : Hp)) (fun p => o_31 = .go p) ?_ ?_
  ·refine wH_block (wH_loop (β := Nat × (List View) × (Int)) (fun p => (fun (k_23 : Nat) (l_24 : List View) (s_28 : Int) => ([(5, (vI s_28)), (39, (vL View.enc r_21)), (40, (vI (r_21.length : Int))), (41, (vI (k_23 : Int)))] : List (Nat × V))) p.1 p.2.1 p.2.2) (fun p => (fun (k_23 : Nat) (l_24 : List View) (s_28 : Int) => ([(n_3, some (.cells 4 [(vS wv_1.Key), (vI wv_1.W), (vI wv_1.H), (vL Screen.enc wv_1.Screens)])), (n_4, some (.cells 4 [(vS l_2.Key), (vI l_2.W), (vI l_2.H), (vL Zone.enc l_2.Zones)]))] : Hp)) p.1 p.2.1 p.2.2) (fun p => forR (fun k x s => ref_LostOf_L2 k x s) p.2.1 p.1 p.2.2 = some o_31 ∧ (r_21).drop p.1 = p.2.1) (fun p => p.2.1.length) (0, r_21, s_12) ⟨hj_32, rfl⟩ rfl (pre_r rfl) ?_)
   rintro ⟨k_23, l_24, s_28⟩ ⟨hL_30, hD_26⟩
   dsimp only at hL_30 hD_26
   cases l_24 with
   | nil =>
    obtain rfl := some_inj hL_30
    refine wH_seq (wH_region (h_op (vB (decide ((k_23 : Int) < (r_21.length : Int)))) wz rfl (h_nil ?_)))
    refine wH_seq (wH_iff rfl (drop_nil hD_26) (wH_exit ?_))
    exact cut_mk (s_28) rfl rfl (pre_r rfl)
   | cons x_25 l_24 =>
    obtain ⟨c_, hc_29, hL_30⟩ := bind_some hL_30
    refine wH_seq (wH_region (h_op (vB (decide ((k_23 : Int) < (r_21.length : Int)))) wz rfl (h_nil ?_)))
    refine wH_seq (wH_ift rfl (drop_cons hD_26) (wH_skip ?_))
    unfold ref_LostOf_L2 at hc_29
    refine wH_seq (wH_block (wH_seq (wH_region (h_ia es77 rfl rfl (drop_idx hD_26) rfl wz (h_ldc sz84 ag84 rfl (.d (.agg (View.enc x_25))) rfl wz (h_alloc 0 (.inl rfl) z84 rfl wz (fun n_33 => h_str 0 (.inl rfl) (fun _ _ _ => trivial) 2 sz84 rfl rfl [(vS x_25.Screen), (vS x_25.Zone), (vI x_25.On.X), (vI x_25.On.Y), (vI x_25.On.W), (vI x_25.On.H)] rfl wz (h_nil (wH_region (h_op (vI s_28) wz rfl (h_far pl84_2 rfl 2 rfl wz (h_far pl49_2 rfl 4 rfl wz (h_ldr 0 2 (.inl rfl) (fun _ _ _ => trivial) sz3 ag3 rfl rfl (vI x_25.On.W) rfl wz (h_far pl84_2 rfl 2 rfl wz (h_far pl49_3 rfl 5 rfl wz (h_ldr 0 2 (.inl rfl) (fun _ _ _ => trivial) sz3 ag3 rfl rfl (vI x_25.On.H) rfl wz (h_op (vI (w64 (x_25.On.W * x_25.On.H))) wz rfl (h_op (vI (w64 (s_28 - (w64 (x_25.On.W * x_25.On.H))))) wz rfl (h_op (vI (w64 (s_28 - (w64 (x_25.On.W * x_25.On.H))))) wz rfl (h_nil (wH_region (h_opw (w64_next hD_26 hn_27) wz rfl (h_op (vI ((k_23 + 1 : Nat) : Int)) wz rfl ?_)))))))))))))))))))))))
    refine h_nil ?_
    obtain rfl := some_inj hc_29
    exact loop_mk (k_23 + 1, l_24, (w64 (s_28 - (w64 (x_25.On.W * x_25.On.H))))) ⟨hL_30, drop_next hD_26⟩ (Nat.lt_succ_self _) rfl (pre_r rfl)
  ·rintro s_28 ho_ sl_ H_ hp_ hq_
   subst ho_
   refine wH_at _ hp_ hq_ (wH_seq (wH_region (h_op (vI s_28) wz rfl (h_op (vI s_28) wz rfl (h_nil ?_)))))
   obtain rfl := some_inj hF
   exact wH_ret (fin0 (.inr rfl) [(vI s_28)] ⟨rfl, trivial⟩ rfl rfl rfl)
theorem law_WallsShow_ok {l_1 : (List Int)} {r : Bool} (hF : law_WallsShow l_1 = some r) :
  FnM Tryz.prog 5 [(vL eI l_1)] [] (vB r) [] := by
 refine FnM.of_wH ⟨Tryz.prog, 81, [], []⟩ rfl Tryz.func5 rfl rfl (Nat.le_of_ble_eq_true rfl) (by kernel_rfl) ?_
 unfold law_WallsShow at hF
 refine wH_seq (wH_region (h_op (vB false) wz rfl (h_nil (wH_seq (wH_region (h_op (vL eI l_1) wz rfl (h_op (.d (.agg (Stream.enc (⟨l_1, 0⟩ : Stream)))) wz (by kernel_rfl) (h_box 0 (.inl rfl) [(vL eI l_1), (vI 0)] rfl rfl wz (fun n_2 => h_op (.ref n_2 0 0) wz rfl (h_nil (wH_seq (wH_region (h_op (.ref n_2 0 0) wz rfl ?_)))))))))))))
 obtain ⟨r_3, hr_4, hF⟩ := bind_some hF
 refine h_callq 0 [0] (.inl rfl) (fun _ _ _ => trivial) (mk_Stream_Wall_ok hr_4) rfl hb24 rfl (by kernel_rfl) (by kernel_rfl) (by kernel_rfl) (by kernel_rfl) (by kernel_rfl) (by kernel_rfl) (by kernel_rfl) (by decide) (by kernel_rfl) wz (.d (.agg (Wall.enc r_3.1))) (by kernel_rfl) ([(n_2, some (.cells 2 [(vL eI r_3.2.L), (vI r_3.2.f_at)]))] : Hp) (by kernel_rfl) (h_op (.ref n_2 0 0) wz rfl ?_)
 obtain ⟨r_6, hr_7, hF⟩ := bind_some hF
 refine h_callq 0 [0] (.inl rfl) (fun _ _ _ => trivial) (mk_Stream_Layout_ok hr_7) rfl hb7 rfl (by kernel_rfl) (by kernel_rfl) (by kernel_rfl) (by kernel_rfl) (by kernel_rfl) (by kernel_rfl) (by kernel_rfl) (by decide) (by kernel_rfl) wz (.d (.agg (Layout.enc r_6.1))) (by kernel_rfl) ([(n_2, some (.cells 2 [(vL eI r_6.2.L), (vI r_6.2.f_at)]))] : Hp) (by kernel_rfl) (h_alloc 0 (.inl rfl) z58 rfl wz (fun n_9 => h_alloc 0 (.inl rfl) z28 rfl wz (fun n_10 => h_str 0 (.inl rfl) (fun _ _ _ => trivial) 1 sz58 rfl rfl [(vS r_3.1.Key), (vI r_3.1.W), (vI r_3.1.H), (vL Screen.enc r_3.1.Screens)] rfl wz (h_str 0 (.inl rfl) (fun _ _ _ => trivial) 2 sz28 rfl rfl [(vS r_6.1.Key), (vI r_6.1.W), (vI r_6.1.H), (vL Zone.enc r_6.1.Zones)] rfl wz (h_nil (wH_seq (wH_region (h_ldr 0 1 (.inl rfl) (fun _ _ _ => trivial) sz58 ag58 rfl rfl (.d (.agg (Wall.enc r_3.1))) rfl wz (h_ldr 0 2 (.inl rfl) (fun _ _ _ => trivial) sz28 ag28 rfl rfl (.d (.agg (Layout.enc r_6.1))) rfl wz ?_)))))))))
 obtain ⟨r_11, hr_12, hF⟩ := bind_some hF
 refine h_call0 (screen_Views_ok hr_12) rfl hb37 rfl rfl rfl rfl wz (h_op (.tup [(vL View.enc r_11.1), (vI r_11.2)]) wz rfl (h_op (vL View.enc r_11.1) wz rfl (h_op (vI r_11.2) wz rfl (h_op (vL View.enc r_11.1) wz rfl (h_op (vI r_11.2) wz rfl (h_nil (wH_seq (wH_region (h_ldr 0 1 (.inl rfl) (fun _ _ _ => trivial) sz58 ag58 rfl rfl (.d (.agg (Wall.enc r_3.1))) rfl wz (h_ldr 0 2 (.inl rfl) (fun _ _ _ => trivial) sz28 ag28 rfl rfl (.d (.agg (Layout.enc r_6.1))) rfl wz ?_))))))))))
 obtain ⟨r_13, hr_14, hF⟩ := bind_some hF
 refine h_call0 (screen_Lost_ok hr_14) rfl hb38 rfl rfl rfl rfl wz (h_op (.tup [(vI r_13.1), (vI r_13.2)]) wz rfl (h_op (vI r_13.1) wz rfl (h_op (vI r_13.2) wz rfl (h_op (vI r_13.1) wz rfl (h_op (vI r_13.2) wz rfl (h_nil (wH_seq (wH_draws (h_ldr 0 1 (.inr (by kernel_rfl)) (fun _ _ ag => trivial) sz58 ag58 rfl rfl (.d (.agg (Wall.enc r_3.1))) rfl wz ?_)))))))))
 obtain ⟨r_15, hr_16, hF⟩ := bind_some hF
 refine h_call0 (ref_WallFault_ok hr_16) rfl hb29 rfl rfl rfl rfl wz (h_ldr 2 2 (.inr (by kernel_rfl)) (fun _ _ ag => ⟨.inl ⟨rfl, rfl⟩, trivial⟩) sz28 ag28 rfl rfl (.d (.agg (Layout.enc r_6.1))) rfl wz ?_)
 obtain ⟨r_17, hr_18, hF⟩ := bind_some hF
 refine h_call0 (ref_LayoutFault_ok hr_18) rfl hb14 rfl rfl rfl rfl wz (h_lit (([r_15, r_17] : List Int).map eI) es115 ez115 rfl rfl rfl rfl rfl wz ?_)
 obtain ⟨r_19, hr_20, hF⟩ := bind_some hF
 refine h_call0 (law_errs_ok hr_20) rfl hb16 rfl rfl rfl rfl wz (h_op (vI r_19) wz rfl (h_nil (wH_at (H0 := ([(n_2, some (.cells 2 [(vL eI r_6.2.L), (vI r_6.2.f_at)])), (n_9, some (.cells 4 [(vS r_3.1.Key), (vI r_3.1.W), (vI r_3.1.H), (vL Screen.enc r_3.1.Screens)])), (n_10, some (.cells 4 [(vS r_6.1.Key), (vI r_6.1.W), (vI r_6.1.H), (vL Zone.enc r_6.1.Zones)]))] : Hp)) ([(4, (.ref n_9 0 0)), (5, (.ref n_10 0 0)), (6, (vL View.enc r_11.1)), (7, (vI r_11.2)), (8, (vI r_13.1)), (9, (vI r_13.2)), (10, (vI r_19))] : List (Nat × V)) (by kernel_rfl) (pre_mk (by kernel_rfl)) (wH_seq (wH_seq (wH_region (h_op (vI r_19) wz rfl (h_op (vB (r_19 != 0)) wz rfl (h_nil ?_)))))))))
 rcases cond_some hF with ⟨hc_21, hF⟩ | ⟨hc_21, hF⟩
 ·refine wH_ift rfl hc_21 (wH_seq ?_)
  obtain ⟨v_22, h_23, hF⟩ := bind_some hF
  refine wH_join (β := Unit) (fun _ => ([(2, (vB v_22))] : List (Nat × V))) (fun _ => ([(n_2, some (.cells 2 [(vL eI r_6.2.L), (vI r_6.2.f_at)])), (n_9, some (.cells 4 [(vS r_3.1.Key), (vI r_3.1.W), (vI r_3.1.H), (vL Screen.enc r_3.1.Screens)])), (n_10, some (.cells 4 [(vS r_6.1.Key), (vI r_6.1.W), (vI r_6.1.H), (vL Zone.enc r_6.1.Zones)]))] : Hp)) (fun _ => True) ?_ ?_
  ·refine wH_region (h_op (vI r_11.2) wz rfl (h_op (vI r_19) wz rfl (h_op (vB (r_11.2 == r_19)) wz rfl ?_)))
   rcases cond_some h_23 with ⟨hc_24, h_23⟩ | ⟨hc_24, h_23⟩
   ·refine h_movb rfl hc_24 wz (h_op (vI r_13.2) (wg rfl rfl rfl) rfl (h_op (vI r_19) (wg rfl rfl rfl) rfl (h_op (vB (r_13.2 == r_19)) (wg rfl rfl rfl) rfl (h_op (vB (r_13.2 == r_19)) wz rfl ?_))))
    rcases cond_some h_23 with ⟨hc_25, h_23⟩ | ⟨hc_25, h_23⟩
    ·refine h_movb rfl hc_25 wz (h_op (vL View.enc r_11.1) (wg rfl rfl rfl) rfl (h_len un77 rfl (wg rfl rfl rfl) (h_op (vB ((r_11.1.length : Int) == 0)) (wg rfl rfl rfl) rfl (h_op (vB ((r_11.1.length : Int) == 0)) wz rfl ?_))))
     rcases cond_some h_23 with ⟨hc_26, h_23⟩ | ⟨hc_26, h_23⟩
     ·refine h_movb rfl hc_26 wz (h_op (vI r_13.1) (wg rfl rfl rfl) rfl (h_op (vB (r_13.1 == 0)) (wg rfl rfl rfl) rfl (h_op (vB (r_13.1 == 0)) wz rfl ?_)))
      rcases cond_some h_23 with ⟨hc_27, h_23⟩ | ⟨hc_27, h_23⟩
      ·refine h_movb rfl hc_27 wz ?_
       obtain ⟨r_28, hr_29, h_23⟩ := bind_some h_23
       refine h_call0 (law_lit_ok hr_29) rfl hb19 rfl rfl rfl rfl (wg rfl rfl rfl) (h_op (vB r_28) wz rfl (h_op (vB r_28) wz rfl (h_nil ?_)))
       obtain rfl := some_inj h_23
       exact cut_mk () trivial rfl (pre_r rfl)
      ·refine h_movb rfl hc_27 wz (h_skip (wg rfl rfl rfl) (h_op (vB false) wz rfl (h_op (vB false) wz rfl (h_nil ?_))))
       obtain rfl := some_inj h_23
       exact cut_mk () trivial rfl (pre_r rfl)
     ·refine h_movb rfl hc_26 wz (h_skip (wg rfl rfl rfl) (h_skip (wg rfl rfl rfl) (h_op (vB false) wz rfl (h_op (vB false) wz rfl (h_skip (wg rfl rfl rfl) (h_op (vB false) wz rfl (h_op (vB false) wz rfl (h_nil ?_))))))))
      obtain rfl := some_inj h_23
      exact cut_mk () trivial rfl (pre_r rfl)
    ·refine h_movb rfl hc_25 wz (h_skip (wg rfl rfl rfl) (h_skip (wg rfl rfl rfl) (h_skip (wg rfl rfl rfl) (h_op (vB false) wz rfl (h_op (vB false) wz rfl (h_skip (wg rfl rfl rfl) (h_skip (wg rfl rfl rfl) (h_op (vB false) wz rfl (h_op (vB false) wz rfl (h_skip (wg rfl rfl rfl) (h_op (vB false) wz rfl (h_op (vB false) wz rfl (h_nil ?_)))))))))))))
     obtain rfl := some_inj h_23
     exact cut_mk () trivial rfl (pre_r rfl)
   ·refine h_movb rfl hc_24 wz (h_skip (wg rfl rfl rfl) (h_skip (wg rfl rfl rfl) (h_skip (wg rfl rfl rfl) (h_op (vB false) wz rfl (h_op (vB false) wz rfl (h_skip (wg rfl rfl rfl) (h_skip (wg rfl rfl rfl) (h_skip (wg rfl rfl rfl) (h_op (vB false) wz rfl (h_op (vB false) wz rfl (h_skip (wg rfl rfl rfl) (h_skip (wg rfl rfl rfl) (h_op (vB false) wz rfl (h_op (vB false) wz rfl (h_skip (wg rfl rfl rfl) (h_op (vB false) wz rfl (h_op (vB false) wz rfl (h_nil ?_))))))))))))))))))
    obtain rfl := some_inj h_23
    exact cut_mk () trivial rfl (pre_r rfl)
  ·rintro ⟨⟩ _ sl_ H_ hp_ hq_
   refine wH_at _ hp_ hq_ ?_
   obtain rfl := some_inj hF
   exact wH_ret (fin0 (.inr rfl) [(vB v_22)] ⟨rfl, trivial⟩ rfl rfl rfl)
 ·refine wH_iff rfl hc_21 (wH_skip (wH_seq ?_))
  obtain ⟨v_30, h_31, hF⟩ := bind_some hF
  refine wH_join (β := Unit) (fun _ => ([(2, (vB v_30))] : List (Nat × V))) (fun _ => ([(n_2, some (.cells 2 [(vL eI r_6.2.L), (vI r_6.2.f_at)])), (n_9, some (.cells 4 [(vS r_3.1.Key), (vI r_3.1.W), (vI r_3.1.H), (vL Screen.enc r_3.1.Screens)])), (n_10, some (.cells 4 [(vS r_6.1.Key), (vI r_6.1.W), (vI r_6.1.H), (vL Zone.enc r_6.1.Zones)]))] : Hp)) (fun _ => True) ?_ ?_
  ·refine wH_region (h_op (vI r_11.2) wz rfl (h_op (vB (r_11.2 == 0)) wz rfl ?_))
   rcases cond_some h_31 with ⟨hc_32, h_31⟩ | ⟨hc_32, h_31⟩
   ·refine h_movb rfl hc_32 wz (h_op (vI r_13.2) (wg rfl rfl rfl) rfl (h_op (vB (r_13.2 == 0)) (wg rfl rfl rfl) rfl (h_op (vB (r_13.2 == 0)) wz rfl ?_)))
    rcases cond_some h_31 with ⟨hc_33, h_31⟩ | ⟨hc_33, h_31⟩
    ·refine h_movb rfl hc_33 wz (h_op (vL View.enc r_11.1) (wg rfl rfl rfl) rfl (h_ldr 0 1 (.inl rfl) (fun _ _ _ => trivial) sz58 ag58 rfl rfl (.d (.agg (Wall.enc r_3.1))) rfl (wg rfl rfl rfl) (h_ldr 0 2 (.inl rfl) (fun _ _ _ => trivial) sz28 ag28 rfl rfl (.d (.agg (Layout.enc r_6.1))) rfl (wg rfl rfl rfl) ?_)))
     obtain ⟨r_34, hr_35, h_31⟩ := bind_some h_31
     refine h_call0 (ref_ViewsOf_ok hr_35) rfl hb40 rfl rfl rfl rfl (wg rfl rfl rfl) ?_
     obtain ⟨r_36, hr_37, h_31⟩ := bind_some h_31
     refine h_call0 (slices_Equal_api_View_api_View_ok hr_37) rfl hb39 rfl rfl rfl rfl (wg rfl rfl rfl) (h_op (vB r_36) wz rfl ?_)
     rcases cond_some h_31 with ⟨hc_38, h_31⟩ | ⟨hc_38, h_31⟩
     ·refine h_movb rfl hc_38 wz (h_op (vI r_13.1) (wg rfl rfl rfl) rfl (h_ldr 0 1 (.inl rfl) (fun _ _ _ => trivial) sz58 ag58 rfl rfl (.d (.agg (Wall.enc r_3.1))) rfl (wg rfl rfl rfl) (h_ldr 0 2 (.inl rfl) (fun _ _ _ => trivial) sz28 ag28 rfl rfl (.d (.agg (Layout.enc r_6.1))) rfl (wg rfl rfl rfl) ?_)))
      obtain ⟨r_39, hr_40, h_31⟩ := bind_some h_31
      refine h_call0 (ref_LostOf_ok hr_40) rfl hb41 rfl rfl rfl rfl (wg rfl rfl rfl) (h_op (vB (r_13.1 == r_39)) (wg rfl rfl rfl) rfl (h_op (vB (r_13.1 == r_39)) wz rfl ?_))
      rcases cond_some h_31 with ⟨hc_41, h_31⟩ | ⟨hc_41, h_31⟩
      ·refine h_movb rfl hc_41 wz ?_
       obtain ⟨r_42, hr_43, h_31⟩ := bind_some h_31
       refine h_call0 (law_lit_ok hr_43) rfl hb19 rfl rfl rfl rfl (wg rfl rfl rfl) (h_op (vB r_42) wz rfl (h_op (vB r_42) wz rfl (h_nil ?_)))
       obtain rfl := some_inj h_31
       exact cut_mk () trivial rfl (pre_r rfl)
      ·refine h_movb rfl hc_41 wz (h_skip (wg rfl rfl rfl) (h_op (vB false) wz rfl (h_op (vB false) wz rfl (h_nil ?_))))
       obtain rfl := some_inj h_31
       exact cut_mk () trivial rfl (pre_r rfl)
     ·refine h_movb rfl hc_38 wz (h_skip (wg rfl rfl rfl) (h_skip (wg rfl rfl rfl) (h_skip (wg rfl rfl rfl) (h_skip (wg rfl rfl rfl) (h_skip (wg rfl rfl rfl) (h_op (vB false) wz rfl (h_op (vB false) wz rfl (h_skip (wg rfl rfl rfl) (h_op (vB false) wz rfl (h_op (vB false) wz rfl (h_nil ?_)))))))))))
      obtain rfl := some_inj h_31
      exact cut_mk () trivial rfl (pre_r rfl)
    ·refine h_movb rfl hc_33 wz (h_skip (wg rfl rfl rfl) (h_skip (wg rfl rfl rfl) (h_skip (wg rfl rfl rfl) (h_skip (wg rfl rfl rfl) (h_skip (wg rfl rfl rfl) (h_op (vB false) wz rfl (h_op (vB false) wz rfl (h_skip (wg rfl rfl rfl) (h_skip (wg rfl rfl rfl) (h_skip (wg rfl rfl rfl) (h_skip (wg rfl rfl rfl) (h_skip (wg rfl rfl rfl) (h_op (vB false) wz rfl (h_op (vB false) wz rfl (h_skip (wg rfl rfl rfl) (h_op (vB false) wz rfl (h_op (vB false) wz rfl (h_nil ?_))))))))))))))))))
     obtain rfl := some_inj h_31
     exact cut_mk () trivial rfl (pre_r rfl)
   ·refine h_movb rfl hc_32 wz (h_skip (wg rfl rfl rfl) (h_skip (wg rfl rfl rfl) (h_op (vB false) wz rfl (h_op (vB false) wz rfl (h_skip (wg rfl rfl rfl) (h_skip (wg rfl rfl rfl) (h_skip (wg rfl rfl rfl) (h_skip (wg rfl rfl rfl) (h_skip (wg rfl rfl rfl) (h_op (vB false) wz rfl (h_op (vB false) wz rfl (h_skip (wg rfl rfl rfl) (h_skip (wg rfl rfl rfl) (h_skip (wg rfl rfl rfl) (h_skip (wg rfl rfl rfl) (h_skip (wg rfl rfl rfl) (h_op (vB false) wz rfl (h_op (vB false) wz rfl (h_skip (wg rfl rfl rfl) (h_op (vB false) wz rfl (h_op (vB false) wz rfl (h_nil ?_))))))))))))))))))))))
    obtain rfl := some_inj h_31
    exact cut_mk () trivial rfl (pre_r rfl)
  ·rintro ⟨⟩ _ sl_ H_ hp_ hq_
   refine wH_at _ hp_ hq_ ?_
   obtain rfl := some_inj hF
   exact wH_ret (fin0 (.inr rfl) [(vB v_30)] ⟨rfl, trivial⟩ rfl rfl rfl)
end Go.Proofs.YtiekkaelpgahoaaGreat.Law

