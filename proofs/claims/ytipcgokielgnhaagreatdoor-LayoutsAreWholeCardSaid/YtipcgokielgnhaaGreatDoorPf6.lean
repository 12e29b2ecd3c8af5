/-
 The machine computes these plain functions (written by a program of ours).
-/
import Derived.Test.YtipcgokielgnhaaGreatDoorFacts
import Derived.Test.YtipcgokielgnhaaGreatDoorDefs
import Derived.Test.YtipcgokielgnhaaGreatDoorPf5
open Go Go.Eng Go.Proofs
namespace Go.Proofs.YtipcgokielgnhaaGreatDoor.Law
set_option maxRecDepth 100000
set_option linter.unusedVariables false
set_option maxHeartbeats 1000000
theorem screen_ZoneAt_ok {l_1 : Layout} {x_2 : Int} {y_3 : Int} {r : ByteArray × Bool × Int} (hF : screen_ZoneAt l_1 x_2 y_3 = some r) :
  FnM Tryz.prog 30 [(.d (.agg (Layout.enc l_1))), (vI x_2), (vI y_3)] [] (.tup [(vS r.1), (vB r.2.1), (vI r.2.2)]) [] := by
 refine FnM.of_wH ⟨Tryz.prog, 59, [], []⟩ rfl Tryz.func30 rfl rfl (Nat.le_of_ble_eq_true rfl) (by kernel_rfl) ?_
 unfold screen_ZoneAt at hF
 refine wH_seq (wH_region (h_box 0 (.inl rfl) [(vS l_1.Key), (vI l_1.W), (vI l_1.H), (vL Zone.enc l_1.Zones)] rfl rfl wz (fun n_4 => h_op (vS (⟨#[]⟩ : ByteArray)) wz rfl (h_op (vB false) wz rfl (h_op (vI 0) wz rfl (h_nil (wH_seq (wH_seq (wH_region (h_ldr 0 0 (.inl rfl) (fun _ _ _ => trivial) sz61 ag61 rfl rfl (.d (.agg (Layout.enc l_1))) rfl wz ?_))))))))))
 obtain ⟨r_5, hr_6, hF⟩ := bind_some hF
 refine h_call0 (screen_CheckLayout_ok hr_6) rfl hb64 rfl rfl rfl rfl wz (h_op (vI r_5) wz rfl (h_nil (wH_seq (wH_region (h_op (vI r_5) wz rfl (h_op (vB (r_5 != 0)) wz rfl (h_nil ?_)))))))
 rcases cond_some hF with ⟨hc_7, hF⟩ | ⟨hc_7, hF⟩
 ·refine wH_ift rfl hc_7 (wH_seq (wH_region (h_op (vI r_5) wz rfl (h_op (vS (⟨#[]⟩ : ByteArray)) wz rfl (h_op (vB false) wz rfl (h_op (vI r_5) wz rfl (h_nil ?_)))))))
  obtain rfl := some_inj hF
  exact wH_ret (fin0 (.inr rfl) [(vS (⟨#[]⟩ : ByteArray)), (vB false), (vI r_5)] ⟨rfl, ⟨rfl, ⟨rfl, trivial⟩⟩⟩ rfl rfl rfl)
 ·refine wH_iff rfl hc_7 (wH_skip (wH_seq (wH_seq (wH_region (h_op (vI x_2) wz rfl (h_op (vI y_3) wz rfl ?_))))))
  obtain ⟨r_8, hr_9, hF⟩ := bind_some hF
  refine h_call0 (screen_spotFault_ok hr_9) rfl hb67 rfl rfl rfl rfl wz (h_op (vI r_8) wz rfl (h_nil (wH_seq (wH_region (h_op (vI r_8) wz rfl (h_op (vB (r_8 != 0)) wz rfl (h_nil ?_)))))))
  rcases cond_some hF with ⟨hc_10, hF⟩ | ⟨hc_10, hF⟩
  ·refine wH_ift rfl hc_10 (wH_seq (wH_region (h_op (vI r_8) wz rfl (h_op (vS (⟨#[]⟩ : ByteArray)) wz rfl (h_op (vB false) wz rfl (h_op (vI r_8) wz rfl (h_nil ?_)))))))
   obtain rfl := some_inj hF
   exact wH_ret (fin0 (.inr rfl) [(vS (⟨#[]⟩ : ByteArray)), (vB false), (vI r_8)] ⟨rfl, ⟨rfl, ⟨rfl, trivial⟩⟩⟩ rfl rfl rfl)
  ·refine wH_iff rfl hc_10 (wH_skip (wH_seq (wH_region (h_op (vI (-1)) wz rfl (h_nil (wH_seq (wH_seq (wH_region (h_far pl61_3 rfl 3 rfl wz (h_ldr 0 0 (.inl rfl) (fun _ _ _ => trivial) sz59 ag59 rfl rfl (vL Zone.enc l_1.Zones) rfl wz (h_len un59 rfl wz (h_op (vI 0) wz rfl (h_nil ?_)))))))))))))
   obtain ⟨o_19, hj_20, hF⟩ := bind_some hF
   obtain ⟨hn_15, hj_20⟩ := forL_some hj_20
   refine wH_join (β := (Int)) (fun (s_16 : Int) => ([(3, (.ref n_4 0 0)), (11, (vI s_16))] : List (Nat × V))) (fun (s_16 : Int) => ([(n_4, some (.cells 4 [(vS l_1.Key), (vI l_1.W), (vI l_1.H), (vL Zone.enc l_1.Zones)]))] : Hp)) (fun p => o_19 = .go p) ?_ ?_
   ·refine wH_block (wH_loop (β := Nat × (List Zone) × (Int)) (fun p => (fun (k_11 : Nat) (l_12 : List Zone) (s_16 : Int) => ([(1, (vI x_2)), (2, (vI y_3)), (3, (.ref n_4 0 0)), (11, (vI s_16)), (26, (vL Zone.enc l_1.Zones)), (27, (vI (l_1.Zones.length : Int))), (28, (vI (k_11 : Int)))] : List (Nat × V))) p.1 p.2.1 p.2.2) (fun p => (fun (k_11 : Nat) (l_12 : List Zone) (s_16 : Int) => ([(n_4, some (.cells 4 [(vS l_1.Key), (vI l_1.W), (vI l_1.H), (vL Zone.enc l_1.Zones)]))] : Hp)) p.1 p.2.1 p.2.2) (fun p => forR (fun k x s => screen_ZoneAt_L1 x_2 y_3 l_1 k x s) p.2.1 p.1 p.2.2 = some o_19 ∧ (l_1.Zones).drop p.1 = p.2.1) (fun p => p.2.1.length) (0, l_1.Zones, (-1)) ⟨hj_20, rfl⟩ rfl (pre_r rfl) ?_)
    rintro ⟨k_11, l_12, s_16⟩ ⟨hL_18, hD_14⟩
    dsimp only at hL_18 hD_14
    cases l_12 with
    | nil =>
     obtain rfl := some_inj hL_18
     refine wH_seq (wH_region (h_op (vB (decide ((k_11 : Int) < (l_1.Zones.length : Int)))) wz rfl (h_nil ?_)))
     refine wH_seq (wH_iff rfl (drop_nil hD_14) (wH_exit ?_))
     exact cut_mk (s_16) rfl rfl (pre_r rfl)
    | cons x_13 l_12 =>
     obtain ⟨c_, hc_17, hL_18⟩ := bind_some hL_18
     refine wH_seq (wH_region (h_op (vB (decide ((k_11 : Int) < (l_1.Zones.length : Int)))) wz rfl (h_nil ?_)))
     refine wH_seq (wH_ift rfl (drop_cons hD_14) (wH_skip ?_))
     unfold screen_ZoneAt_L1 at hc_17
     refine wH_seq (wH_block (wH_seq (wH_region (h_op (vI (k_11 : Int)) wz rfl (h_ia es59 rfl rfl (drop_idx hD_14) rfl wz (h_ldc sz138 ag138 rfl (.d (.agg (Zone.enc x_13))) rfl wz (h_alloc 0 (.inl rfl) z138 rfl wz (fun n_21 => h_op (vI (k_11 : Int)) wz rfl (h_str 0 (.inl rfl) (fun _ _ _ => trivial) 1 sz138 rfl rfl [(vS x_13.Key), (vI x_13.On.X), (vI x_13.On.Y), (vI x_13.On.W), (vI x_13.On.H), (vI x_13.Order)] rfl wz (h_nil (wH_seq ?_)))))))))))
     obtain ⟨v_22, h_23, hc_17⟩ := bind_some hc_17
     refine wH_join (β := Unit) (fun _ => ([(1, (vI x_2)), (2, (vI y_3)), (3, (.ref n_4 0 0)), (11, (vI s_16)), (12, (vI (k_11 : Int))), (26, (vL Zone.enc l_1.Zones)), (27, (vI (l_1.Zones.length : Int))), (28, (vI (k_11 : Int))), (48, (vB v_22))] : List (Nat × V))) (fun _ => ([(n_4, some (.cells 4 [(vS l_1.Key), (vI l_1.W), (vI l_1.H), (vL Zone.enc l_1.Zones)])), (n_21, some (.cells 6 [(vS x_13.Key), (vI x_13.On.X), (vI x_13.On.Y), (vI x_13.On.W), (vI x_13.On.H), (vI x_13.Order)]))] : Hp)) (fun _ => True) ?_ ?_
     ·refine wH_region (h_far pl138_1 rfl 1 rfl wz (h_ldr 0 1 (.inl rfl) (fun _ _ _ => trivial) sz29 ag29 rfl rfl (.d (.agg (Rect.enc x_13.On))) rfl wz (h_op (vI x_2) wz rfl (h_op (vI y_3) wz rfl ?_))))
      obtain ⟨r_24, hr_25, h_23⟩ := bind_some h_23
      refine h_call0 (screen_has_ok hr_25) rfl hb68 rfl rfl rfl rfl wz ?_
      rcases cond_some h_23 with ⟨hc_26, h_23⟩ | ⟨hc_26, h_23⟩
      ·refine h_movb rfl hc_26 wz (h_op (vI s_16) (wg rfl rfl rfl) rfl (h_op (vB (decide (s_16 < 0))) (wg rfl rfl rfl) rfl ?_))
       rcases cond_some h_23 with ⟨hc_27, h_23⟩ | ⟨hc_27, h_23⟩
       ·refine h_movb rfl hc_27 (wg rfl rfl rfl) (h_skip (wg rfl rfl rfl) (h_skip (wg rfl rfl rfl) (h_skip (wg rfl rfl rfl) (h_skip (wg rfl rfl rfl) (h_skip (wg rfl rfl rfl) (h_op (vB true) (wg rfl rfl rfl) rfl (h_op (vB true) wz rfl (h_nil ?_))))))))
        obtain rfl := some_inj h_23
        exact cut_mk () trivial rfl (pre_r rfl)
       ·refine h_movb rfl hc_27 (wg rfl rfl rfl) (h_far pl61_3 rfl 3 rfl (wg rfl rfl rfl) (h_ldr 0 0 (.inl rfl) (fun _ _ _ => trivial) sz59 ag59 rfl rfl (vL Zone.enc l_1.Zones) rfl (wg rfl rfl rfl) (h_op (vI (k_11 : Int)) (wg rfl rfl rfl) rfl (h_op (vI s_16) (wg rfl rfl rfl) rfl ?_))))
        obtain ⟨r_28, hr_29, h_23⟩ := bind_some h_23
        refine h_call0 (screen_covers_ok hr_29) rfl hb69 rfl rfl rfl rfl (wg rfl rfl rfl) (h_op (vB r_28) (wg rfl rfl rfl) rfl (h_op (vB r_28) wz rfl (h_nil ?_)))
        obtain rfl := some_inj h_23
        exact cut_mk () trivial rfl (pre_r rfl)
      ·refine h_movb rfl hc_26 wz (h_skip (wg rfl rfl rfl) (h_skip (wg rfl rfl rfl) (h_skip (wg rfl rfl rfl) (h_skip (wn rfl rfl) (h_skip (wn rfl rfl) (h_skip (wn rfl rfl) (h_skip (wn rfl rfl) (h_skip (wn rfl rfl) (h_skip (wg rfl rfl rfl) (h_op (vB false) wz rfl (h_nil ?_)))))))))))
       obtain rfl := some_inj h_23
       exact cut_mk () trivial rfl (pre_r rfl)
     ·rintro ⟨⟩ _ sl_ H_ hp_ hq_
      refine wH_at _ hp_ hq_ ?_
      obtain ⟨v_30, h_31, hc_17⟩ := bind_some hc_17
      refine wH_join (β := Unit) (fun _ => ([(1, (vI x_2)), (2, (vI y_3)), (3, (.ref n_4 0 0)), (11, (vI v_30)), (26, (vL Zone.enc l_1.Zones)), (27, (vI (l_1.Zones.length : Int))), (28, (vI (k_11 : Int)))] : List (Nat × V))) (fun _ => ([(n_4, some (.cells 4 [(vS l_1.Key), (vI l_1.W), (vI l_1.H), (vL Zone.enc l_1.Zones)])), (n_21, some (.cells 6 [(vS x_13.Key), (vI x_13.On.X), (vI x_13.On.Y), (vI x_13.On.W), (vI x_13.On.H), (vI x_13.Order)]))] : Hp)) (fun _ => True) ?_ ?_
      ·rcases cond_some h_31 with ⟨hc_32, h_31⟩ | ⟨hc_32, h_31⟩
       ·refine wH_ift rfl hc_32 (wH_region (h_op (vI (k_11 : Int)) wz rfl (h_op (vI (k_11 : Int)) wz rfl (h_nil ?_))))
        obtain rfl := some_inj h_31
        exact cut_mk () trivial rfl (pre_r rfl)
       ·refine wH_iff rfl hc_32 (wH_skip ?_)
        obtain rfl := some_inj h_31
        exact cut_mk () trivial rfl (pre_r rfl)
      ·rintro ⟨⟩ _ sl_ H_ hp_ hq_
       refine wH_at _ hp_ hq_ (wH_region (h_opw (w64_next hD_14 hn_15) wz rfl (h_op (vI ((k_11 + 1 : Nat) : Int)) wz rfl (h_nil ?_))))
       obtain rfl := some_inj hc_17
       exact loop_mk (k_11 + 1, l_12, v_30) ⟨hL_18, drop_next hD_14⟩ (Nat.lt_succ_self _) rfl (pre_r rfl)
   ·rintro s_16 ho_ sl_ H_ hp_ hq_
    subst ho_
    refine wH_at _ hp_ hq_ (wH_seq (wH_seq (wH_region (h_op (vI s_16) wz rfl (h_op (vB (decide (s_16 < 0))) wz rfl (h_nil ?_))))))
    rcases cond_some hF with ⟨hc_33, hF⟩ | ⟨hc_33, hF⟩
    ·refine wH_ift rfl hc_33 (wH_seq (wH_region (h_op (vS (⟨#[]⟩ : ByteArray)) wz rfl (h_op (vB false) wz rfl (h_op (vI 0) wz rfl (h_nil ?_))))))
     obtain rfl := some_inj hF
     exact wH_ret (fin0 (.inr rfl) [(vS (⟨#[]⟩ : ByteArray)), (vB false), (vI 0)] ⟨rfl, ⟨rfl, ⟨rfl, trivial⟩⟩⟩ rfl rfl rfl)
    ·refine wH_iff rfl hc_33 (wH_skip (wH_seq (wH_region (h_far pl61_3 rfl 3 rfl wz (h_ldr 0 0 (.inl rfl) (fun _ _ _ => trivial) sz59 ag59 rfl rfl (vL Zone.enc l_1.Zones) rfl wz (h_op (vI s_16) wz rfl ?_))))))
     obtain ⟨y_34, hy_35, hF⟩ := bind_some hF
     refine h_ia es59 rfl rfl hy_35 rfl wz (h_fac pl138_0 rfl [.str y_34.Key, .int .i64 y_34.On.X, .int .i64 y_34.On.Y, .int .i64 y_34.On.W, .int .i64 y_34.On.H, .int .i64 y_34.Order] rfl rfl wz (h_ldc sz9 ag9 rfl (vS y_34.Key) rfl wz (h_op (vS y_34.Key) wz rfl (h_op (vB true) wz rfl (h_op (vI 0) wz rfl (h_nil ?_))))))
     obtain rfl := some_inj hF
     exact wH_ret (fin0 (.inr rfl) [(vS y_34.Key), (vB true), (vI 0)] ⟨rfl, ⟨rfl, ⟨rfl, trivial⟩⟩⟩ rfl rfl rfl)
theorem slices_Index_string_string_ok {s_1 : (List ByteArray)} {v_2 : ByteArray} {r : Int} (hF : slices_Index_string_string s_1 v_2 = some r) :
  FnM Tryz.prog 70 [(vL eS s_1), (vS v_2)] [] (vI r) [] := by
 refine FnM.of_wH ⟨Tryz.prog, 19, [], []⟩ rfl Tryz.func70 rfl rfl (Nat.le_of_ble_eq_true rfl) (by kernel_rfl) ?_
 unfold slices_Index_string_string at hF
 refine wH_seq (wH_region (h_op (vI 0) wz rfl (h_nil (wH_seq (wH_seq (wH_region (h_op (vL eS s_1) wz rfl (h_len un66 rfl wz (h_op (vI 0) wz rfl (h_nil ?_))))))))))
 obtain ⟨o_11, hj_12, hF⟩ := bind_some hF
 obtain ⟨hn_7, hj_12⟩ := forL_some hj_12
 refine wH_join (β := (Unit)) (fun (s_8 : Unit) => ([] : List (Nat × V))) (fun (s_8 : Unit) => ([] : Hp)) (fun p => o_11 = .go p) ?_ ?_
 ·refine wH_block (wH_loop (β := Nat × (List ByteArray) × (Unit)) (fun p => (fun (k_3 : Nat) (l_4 : List ByteArray) (s_8 : Unit) => ([(0, (vL eS s_1)), (1, (vS v_2)), (7, (vI (s_1.length : Int))), (8, (vI (k_3 : Int)))] : List (Nat × V))) p.1 p.2.1 p.2.2) (fun p => (fun (k_3 : Nat) (l_4 : List ByteArray) (s_8 : Unit) => ([] : Hp)) p.1 p.2.1 p.2.2) (fun p => forR (fun k x s => slices_Index_string_string_L1 v_2 k x s) p.2.1 p.1 p.2.2 = some o_11 ∧ (s_1).drop p.1 = p.2.1) (fun p => p.2.1.length) (0, s_1, ()) ⟨hj_12, rfl⟩ rfl (pre_r rfl) ?_)
  rintro ⟨k_3, l_4, s_8⟩ ⟨hL_10, hD_6⟩
  dsimp only at hL_10 hD_6
  cases l_4 with
  | nil =>
   obtain rfl := some_inj hL_10
   refine wH_seq (wH_region (h_op (vB (decide ((k_3 : Int) < (s_1.length : Int)))) wz rfl (h_nil ?_)))
   refine wH_seq (wH_iff rfl (drop_nil hD_6) (wH_exit ?_))
   exact cut_mk (s_8) rfl rfl (pre_r rfl)
  | cons x_5 l_4 =>
   obtain ⟨c_, hc_9, hL_10⟩ := bind_some hL_10
   refine wH_seq (wH_region (h_op (vB (decide ((k_3 : Int) < (s_1.length : Int)))) wz rfl (h_nil ?_)))
   refine wH_seq (wH_ift rfl (drop_cons hD_6) (wH_skip ?_))
   unfold slices_Index_string_string_L1 at hc_9
   refine wH_seq (wH_block (wH_seq (wH_region (h_op (vI (k_3 : Int)) wz rfl (h_op (vI (k_3 : Int)) wz rfl (h_nil (wH_seq (wH_region (h_op (vS v_2) wz rfl (h_op (vL eS s_1) wz rfl (h_op (vI (k_3 : Int)) wz rfl (h_ia es66 rfl rfl (drop_idx hD_6) rfl wz (h_ldc sz9 ag9 rfl (vS x_5) rfl wz (h_op (vB (sEq v_2 x_5)) wz rfl (h_nil ?_)))))))))))))))
   rcases cond_some hc_9 with ⟨hc_13, hc_9⟩ | ⟨hc_13, hc_9⟩
   ·refine wH_ift rfl hc_13 (wH_seq (wH_region (h_op (vI (k_3 : Int)) wz rfl (h_op (vI (k_3 : Int)) wz rfl (h_nil ?_)))))
    obtain rfl := some_inj hc_9
    obtain rfl := some_inj hL_10
    obtain rfl := some_inj hF
    exact wH_ret (fin0 (.inr rfl) [(vI (k_3 : Int))] ⟨rfl, trivial⟩ rfl rfl rfl)
   ·refine wH_iff rfl hc_13 (wH_skip (wH_region (h_opw (w64_next hD_6 hn_7) wz rfl (h_op (vI ((k_3 + 1 : Nat) : Int)) wz rfl (h_nil ?_)))))
    obtain rfl := some_inj hc_9
    exact loop_mk (k_3 + 1, l_4, ()) ⟨hL_10, drop_next hD_6⟩ (Nat.lt_succ_self _) rfl (pre_r rfl)
 ·rintro s_8 ho_ sl_ H_ hp_ hq_
  subst ho_
  refine wH_at _ hp_ hq_ (wH_seq (wH_region (h_op (vI (-1)) wz rfl (h_nil ?_))))
  obtain rfl := some_inj hF
  exact wH_ret (fin0 (.inr rfl) [(vI (-1))] ⟨rfl, trivial⟩ rfl rfl rfl)
theorem slices_Contains_string_string_ok {s_1 : (List ByteArray)} {v_2 : ByteArray} {r : Bool} (hF : slices_Contains_string_string s_1 v_2 = some r) :
  FnM Tryz.prog 32 [(vL eS s_1), (vS v_2)] [] (vB r) [] := by
 refine FnM.of_wH ⟨Tryz.prog, 9, [], []⟩ rfl Tryz.func32 rfl rfl (Nat.le_of_ble_eq_true rfl) (by kernel_rfl) ?_
 unfold slices_Contains_string_string at hF
 refine wH_seq (wH_region (h_op (vB false) wz rfl (h_nil (wH_seq (wH_region (h_op (vL eS s_1) wz rfl (h_op (vS v_2) wz rfl ?_)))))))
 obtain ⟨r_3, hr_4, hF⟩ := bind_some hF
 refine h_call0 (slices_Index_string_string_ok hr_4) rfl hb70 rfl rfl rfl rfl wz (h_op (vB (decide (r_3 ≥ 0))) wz rfl (h_op (vB (decide (r_3 ≥ 0))) wz rfl (h_nil ?_)))
 obtain rfl := some_inj hF
 exact wH_ret (fin0 (.inr rfl) [(vB (decide (r_3 ≥ 0)))] ⟨rfl, trivial⟩ rfl rfl rfl)
theorem keep_LayoutsAreWhole_ok {l_1 : (List Int)} {r : Bool} (hF : keep_LayoutsAreWhole l_1 = some r) :
  FnM Tryz.prog 6 [(vL eI l_1)] [] (vB r) [] := by
 refine FnM.of_wH ⟨Tryz.prog, 98, [], []⟩ rfl Tryz.func6 rfl rfl (Nat.le_of_ble_eq_true rfl) (by kernel_rfl) ?_
 unfold keep_LayoutsAreWhole at hF
 refine wH_seq (wH_region (h_op (vB false) wz rfl (h_nil (wH_seq (wH_region (h_op (vL eI l_1) wz rfl (h_op (.d (.agg (Stream.enc (⟨l_1, 0⟩ : Stream)))) wz (by kernel_rfl) (h_box 0 (.inl rfl) [(vL eI l_1), (vI 0)] rfl rfl wz (fun n_2 => h_op (.ref n_2 0 0) wz rfl (h_nil (wH_seq (wH_region (h_op (.ref n_2 0 0) wz rfl ?_)))))))))))))
 obtain ⟨r_3, hr_4, hF⟩ := bind_some hF
 refine h_callq 0 [0] (.inl rfl) (fun _ _ _ => trivial) (mk_Stream_RightLayout_ok hr_4) rfl hb27 rfl (by kernel_rfl) (by kernel_rfl) (by kernel_rfl) (by kernel_rfl) (by kernel_rfl) (by kernel_rfl) (by kernel_rfl) (by decide) (by kernel_rfl) wz (.d (.agg (Layout.enc r_3.1))) (by kernel_rfl) ([(n_2, some (.cells 2 [(vL eI r_3.2.L), (vI r_3.2.f_at)]))] : Hp) (by kernel_rfl) (h_alloc 0 (.inl rfl) z61 rfl wz (fun n_6 => h_str 0 (.inl rfl) (fun _ _ _ => trivial) 1 sz61 rfl rfl [(vS r_3.1.Key), (vI r_3.1.W), (vI r_3.1.H), (vL Zone.enc r_3.1.Zones)] rfl wz (h_nil (wH_seq (wH_region (h_ldr 0 1 (.inl rfl) (fun _ _ _ => trivial) sz61 ag61 rfl rfl (.d (.agg (Layout.enc r_3.1))) rfl wz ?_))))))
 obtain ⟨r_7, hr_8, hF⟩ := bind_some hF
 refine h_call0 (screen_Seen_ok hr_8) rfl hb28 rfl rfl rfl rfl wz (h_op (.tup [(vL Piece.enc r_7.1), (vI r_7.2)]) wz rfl (h_op (vL Piece.enc r_7.1) wz rfl (h_op (vI r_7.2) wz rfl (h_op (vL Piece.enc r_7.1) wz rfl (h_op (vI r_7.2) wz rfl (h_nil (wH_seq (wH_region (h_ldr 0 1 (.inl rfl) (fun _ _ _ => trivial) sz61 ag61 rfl rfl (.d (.agg (Layout.enc r_3.1))) rfl wz ?_)))))))))
 obtain ⟨r_9, hr_10, hF⟩ := bind_some hF
 refine h_call0 (screen_Covered_ok hr_10) rfl hb29 rfl rfl rfl rfl wz (h_op (.tup [(vL eS r_9.1), (vI r_9.2)]) wz rfl (h_op (vL eS r_9.1) wz rfl (h_op (vI r_9.2) wz rfl (h_op (vL eS r_9.1) wz rfl (h_op (vI r_9.2) wz rfl (h_nil (wH_seq (wH_seq ?_))))))))
 obtain ⟨v_11, h_12, hF⟩ := bind_some hF
 refine wH_join (β := Unit) (fun _ => ([(3, (.ref n_2 0 0)), (4, (.ref n_6 0 0)), (5, (vL Piece.enc r_7.1)), (7, (vL eS r_9.1)), (37, (vB v_11))] : List (Nat × V))) (fun _ => ([(n_2, some (.cells 2 [(vL eI r_3.2.L), (vI r_3.2.f_at)])), (n_6, some (.cells 4 [(vS r_3.1.Key), (vI r_3.1.W), (vI r_3.1.H), (vL Zone.enc r_3.1.Zones)]))] : Hp)) (fun _ => True) ?_ ?_
 ·refine wH_region (h_op (vI r_7.2) wz rfl (h_op (vB (r_7.2 != 0)) wz rfl ?_))
  rcases cond_some h_12 with ⟨hc_13, h_12⟩ | ⟨hc_13, h_12⟩
  ·refine h_movb rfl hc_13 wz (h_skip (wg rfl rfl rfl) (h_skip (wg rfl rfl rfl) (h_op (vB true) wz rfl (h_nil ?_))))
   obtain rfl := some_inj h_12
   exact cut_mk () trivial rfl (pre_r rfl)
  ·refine h_movb rfl hc_13 wz (h_op (vI r_9.2) (wg rfl rfl rfl) rfl (h_op (vB (r_9.2 != 0)) (wg rfl rfl rfl) rfl (h_op (vB (r_9.2 != 0)) wz rfl (h_nil ?_))))
   obtain rfl := some_inj h_12
   exact cut_mk () trivial rfl (pre_r rfl)
 ·rintro ⟨⟩ _ sl_ H_ hp_ hq_
  refine wH_at _ hp_ hq_ ?_
  rcases cond_some hF with ⟨hc_14, hF⟩ | ⟨hc_14, hF⟩
  ·refine wH_ift rfl hc_14 (wH_seq (wH_region (h_op (vB false) wz rfl (h_nil ?_))))
   obtain rfl := some_inj hF
   exact wH_ret (fin0 (.inr rfl) [(vB false)] ⟨rfl, trivial⟩ rfl rfl rfl)
  ·refine wH_iff rfl hc_14 (wH_skip (wH_seq (wH_seq (wH_region (h_op (vI 0) wz rfl (h_nil ?_))))))
   obtain ⟨o_23, hj_24, hF⟩ := bind_some hF
   obtain ⟨hn_19, hj_24⟩ := forL_some hj_24
   refine wH_join (β := ((List Int) × Int)) (fun (s_20 : (List Int) × Int) => ([] : List (Nat × V))) (fun (s_20 : (List Int) × Int) => ([(n_2, some (.cells 2 [(vL eI s_20.1), (vI s_20.2)])), (n_6, some (.cells 4 [(vS r_3.1.Key), (vI r_3.1.W), (vI r_3.1.H), (vL Zone.enc r_3.1.Zones)]))] : Hp)) (fun p => o_23 = .go p) ?_ ?_
   ·refine wH_block (wH_loop (β := Nat × (List Nat) × ((List Int) × Int)) (fun p => (fun (k_15 : Nat) (l_16 : List Nat) (s_20 : (List Int) × Int) => ([(3, (.ref n_2 0 0)), (4, (.ref n_6 0 0)), (5, (vL Piece.enc r_7.1)), (7, (vL eS r_9.1)), (38, (vI (k_15 : Int)))] : List (Nat × V))) p.1 p.2.1 p.2.2) (fun p => (fun (k_15 : Nat) (l_16 : List Nat) (s_20 : (List Int) × Int) => ([(n_2, some (.cells 2 [(vL eI s_20.1), (vI s_20.2)])), (n_6, some (.cells 4 [(vS r_3.1.Key), (vI r_3.1.W), (vI r_3.1.H), (vL Zone.enc r_3.1.Zones)]))] : Hp)) p.1 p.2.1 p.2.2) (fun p => forR (fun k x s => keep_LayoutsAreWhole_L2 r_3 r_7 r_9 k x s) p.2.1 p.1 p.2.2 = some o_23 ∧ ((List.range (8 : Int).toNat)).drop p.1 = p.2.1) (fun p => p.2.1.length) (0, (List.range (8 : Int).toNat), (r_3.2.L, r_3.2.f_at)) ⟨hj_24, rfl⟩ rfl (pre_r rfl) ?_)
    rintro ⟨k_15, l_16, s_20⟩ ⟨hL_22, hD_18⟩
    dsimp only at hL_22 hD_18
    cases l_16 with
    | nil =>
     obtain rfl := some_inj hL_22
     refine wH_seq (wH_region (h_op (vB (decide ((k_15 : Int) < 8))) wz rfl (h_nil ?_)))
     refine wH_seq (wH_iff rfl (range_nil hD_18) (wH_exit ?_))
     exact cut_mk (s_20) rfl rfl (pre_r rfl)
    | cons x_17 l_16 =>
     obtain ⟨c_, hc_21, hL_22⟩ := bind_some hL_22
     refine wH_seq (wH_region (h_op (vB (decide ((k_15 : Int) < 8))) wz rfl (h_nil ?_)))
     refine wH_seq (wH_ift rfl (range_cons hD_18) (wH_skip ?_))
     unfold keep_LayoutsAreWhole_L2 at hc_21
     refine wH_seq (wH_block (wH_seq (wH_draws (h_op (.ref n_2 0 0) wz rfl (h_far pl61_1 rfl 1 rfl wz (h_ldr 2 1 (.inr (by kernel_rfl)) (fun _ _ ag => trivial) sz3 ag3 rfl rfl (vI r_3.1.W) rfl wz (h_op (vI (w64 (r_3.1.W - 1))) wz rfl ?_)))))))
     obtain ⟨r_25, hr_26, hc_21⟩ := bind_some hc_21
     refine h_callq 4 [0] (.inr (by kernel_rfl)) (fun _ _ ag => by exact ⟨.inr (.inr (by kernel_rfl)), trivial⟩) (mk_Stream_Range_ok hr_26) rfl hb10 rfl (by kernel_rfl) (by kernel_rfl) (by kernel_rfl) (by kernel_rfl) (by kernel_rfl) (by kernel_rfl) (by kernel_rfl) (by decide) (by kernel_rfl) wz (vI r_25.1) (by kernel_rfl) ([(n_2, some (.cells 2 [(vL eI r_25.2.L), (vI r_25.2.f_at)])), (n_6, some (.cells 4 [(vS r_3.1.Key), (vI r_3.1.W), (vI r_3.1.H), (vL Zone.enc r_3.1.Zones)]))] : Hp) (by kernel_rfl) (h_op (.ref n_2 0 0) wz rfl (h_far pl61_2 rfl 2 rfl wz (h_ldr 7 1 (.inr (by kernel_rfl)) (fun _ _ ag => ⟨.inl ⟨rfl, rfl⟩, ⟨.inr (.inl (dis1 (ag_ne ag (i := 1) (j := 0) rfl rfl (by decide)))), trivial⟩⟩) sz3 ag3 rfl rfl (vI r_3.1.H) rfl wz (h_op (vI (w64 (r_3.1.H - 1))) wz rfl ?_))))
     obtain ⟨r_28, hr_29, hc_21⟩ := bind_some hc_21
     refine h_callq 9 [0] (.inr (by kernel_rfl)) (fun _ _ ag => by exact ⟨.inr (.inr (by kernel_rfl)), ⟨.inr (.inr (by kernel_rfl)), ⟨.inr (.inr (by kernel_rfl)), trivial⟩⟩⟩) (mk_Stream_Range_ok hr_29) rfl hb10 rfl (by kernel_rfl) (by kernel_rfl) (by kernel_rfl) (by kernel_rfl) (by kernel_rfl) (by kernel_rfl) (by kernel_rfl) (by decide) (by kernel_rfl) wz (vI r_28.1) (by kernel_rfl) ([(n_2, some (.cells 2 [(vL eI r_28.2.L), (vI r_28.2.f_at)])), (n_6, some (.cells 4 [(vS r_3.1.Key), (vI r_3.1.W), (vI r_3.1.H), (vL Zone.enc r_3.1.Zones)]))] : Hp) (by kernel_rfl) (h_op (vI r_25.1) wz rfl (h_op (vI r_28.1) wz rfl (h_nil (wH_seq (wH_region (h_ldr 0 1 (.inl rfl) (fun _ _ _ => trivial) sz61 ag61 rfl rfl (.d (.agg (Layout.enc r_3.1))) rfl wz (h_op (vI r_25.1) wz rfl (h_op (vI r_28.1) wz rfl ?_))))))))
     obtain ⟨r_31, hr_32, hc_21⟩ := bind_some hc_21
     refine h_call0 (screen_ZoneAt_ok hr_32) rfl hb30 rfl rfl rfl rfl wz (h_op (.tup [(vS r_31.1), (vB r_31.2.1), (vI r_31.2.2)]) wz rfl (h_op (vS r_31.1) wz rfl (h_op (vB r_31.2.1) wz rfl (h_op (vI r_31.2.2) wz rfl (h_op (vS r_31.1) wz rfl (h_op (vB r_31.2.1) wz rfl (h_op (vI r_31.2.2) wz rfl (h_nil (wH_seq (wH_region (h_op (vI 0) wz rfl (h_nil (wH_seq (wH_seq (wH_region (h_op (vL Piece.enc r_7.1) wz rfl (h_len un63 rfl wz (h_op (vI 0) wz rfl (h_nil ?_)))))))))))))))))))
     obtain ⟨o_41, hj_42, hc_21⟩ := bind_some hc_21
     obtain ⟨hn_37, hj_42⟩ := forL_some hj_42
     refine wH_join (β := (Int)) (fun (s_38 : Int) => ([(3, (.ref n_2 0 0)), (4, (.ref n_6 0 0)), (5, (vL Piece.enc r_7.1)), (7, (vL eS r_9.1)), (11, (vS r_31.1)), (12, (vB r_31.2.1)), (13, (vI r_31.2.2)), (14, (vI s_38)), (38, (vI (k_15 : Int)))] : List (Nat × V))) (fun (s_38 : Int) => ([(n_2, some (.cells 2 [(vL eI r_28.2.L), (vI r_28.2.f_at)])), (n_6, some (.cells 4 [(vS r_3.1.Key), (vI r_3.1.W), (vI r_3.1.H), (vL Zone.enc r_3.1.Zones)]))] : Hp)) (fun p => o_41 = .go p) ?_ ?_
     ·refine wH_block (wH_loop (β := Nat × (List Piece) × (Int)) (fun p => (fun (k_33 : Nat) (l_34 : List Piece) (s_38 : Int) => ([(3, (.ref n_2 0 0)), (4, (.ref n_6 0 0)), (5, (vL Piece.enc r_7.1)), (7, (vL eS r_9.1)), (9, (vI r_25.1)), (10, (vI r_28.1)), (11, (vS r_31.1)), (12, (vB r_31.2.1)), (13, (vI r_31.2.2)), (14, (vI s_38)), (38, (vI (k_15 : Int))), (58, (vL Piece.enc r_7.1)), (59, (vI (r_7.1.length : Int))), (60, (vI (k_33 : Int)))] : List (Nat × V))) p.1 p.2.1 p.2.2) (fun p => (fun (k_33 : Nat) (l_34 : List Piece) (s_38 : Int) => ([(n_2, some (.cells 2 [(vL eI r_28.2.L), (vI r_28.2.f_at)])), (n_6, some (.cells 4 [(vS r_3.1.Key), (vI r_3.1.W), (vI r_3.1.H), (vL Zone.enc r_3.1.Zones)]))] : Hp)) p.1 p.2.1 p.2.2) (fun p => forR (fun k x s => keep_LayoutsAreWhole_L1 r_25 r_28 r_31 k x s) p.2.1 p.1 p.2.2 = some o_41 ∧ (r_7.1).drop p.1 = p.2.1) (fun p => p.2.1.length) (0, r_7.1, 0) ⟨hj_42, rfl⟩ rfl (pre_r rfl) ?_)
      rintro ⟨k_33, l_34, s_38⟩ ⟨hL_40, hD_36⟩
      dsimp only at hL_40 hD_36
      cases l_34 with
      | nil =>
       obtain rfl := some_inj hL_40
       refine wH_seq (wH_region (h_op (vB (decide ((k_33 : Int) < (r_7.1.length : Int)))) wz rfl (h_nil ?_)))
       refine wH_seq (wH_iff rfl (drop_nil hD_36) (wH_exit ?_))
       exact cut_mk (s_38) rfl rfl (pre_r rfl)
      | cons x_35 l_34 =>
       obtain ⟨c_, hc_39, hL_40⟩ := bind_some hL_40
       refine wH_seq (wH_region (h_op (vB (decide ((k_33 : Int) < (r_7.1.length : Int)))) wz rfl (h_nil ?_)))
       refine wH_seq (wH_ift rfl (drop_cons hD_36) (wH_skip ?_))
       unfold keep_LayoutsAreWhole_L1 at hc_39
       refine wH_seq (wH_block (wH_seq (wH_region (h_ia es63 rfl rfl (drop_idx hD_36) rfl wz (h_ldc sz72 ag72 rfl (.d (.agg (Piece.enc x_35))) rfl wz (h_alloc 0 (.inl rfl) z72 rfl wz (fun n_43 => h_str 0 (.inl rfl) (fun _ _ _ => trivial) 2 sz72 rfl rfl [(vS x_35.Zone), (vI x_35.On.X), (vI x_35.On.Y), (vI x_35.On.W), (vI x_35.On.H)] rfl wz (h_nil (wH_seq (wH_region (h_far pl72_1 rfl 1 rfl wz (h_ldr 0 2 (.inl rfl) (fun _ _ _ => trivial) sz29 ag29 rfl rfl (.d (.agg (Rect.enc x_35.On))) rfl wz (h_op (vI r_25.1) wz rfl (h_op (vI r_28.1) wz rfl ?_))))))))))))))
       obtain ⟨r_44, hr_45, hc_39⟩ := bind_some hc_39
       refine h_call0 (keep_has_ok hr_45) rfl hb31 rfl rfl rfl rfl wz (h_nil ?_)
       rcases cond_some hc_39 with ⟨hc_46, hc_39⟩ | ⟨hc_46, hc_39⟩
       ·refine wH_ift rfl hc_46 (wH_seq (wH_region (h_op (vI s_38) wz rfl (h_op (vI (w64 (s_38 + 1))) wz rfl (h_op (vI (w64 (s_38 + 1))) wz rfl (h_nil (wH_seq (wH_region (h_far pl72_0 rfl 0 rfl wz (h_ldr 0 2 (.inl rfl) (fun _ _ _ => trivial) sz9 ag9 rfl rfl (vS x_35.Zone) rfl wz (h_op (vS r_31.1) wz rfl (h_op (vB (sNe x_35.Zone r_31.1)) wz rfl (h_nil ?_)))))))))))))
        rcases cond_some hc_39 with ⟨hc_47, hc_39⟩ | ⟨hc_47, hc_39⟩
        ·refine wH_ift rfl hc_47 (wH_seq (wH_region (h_op (vB false) wz rfl (h_nil ?_))))
         obtain rfl := some_inj hc_39
         obtain rfl := some_inj hL_40
         obtain rfl := some_inj hc_21
         obtain rfl := some_inj hL_22
         obtain rfl := some_inj hF
         exact wH_ret (fin0 (.inr rfl) [(vB false)] ⟨rfl, trivial⟩ rfl rfl rfl)
        ·refine wH_iff rfl hc_47 (wH_skip (wH_region (h_opw (w64_next hD_36 hn_37) wz rfl (h_op (vI ((k_33 + 1 : Nat) : Int)) wz rfl (h_nil ?_)))))
         obtain rfl := some_inj hc_39
         exact loop_mk (k_33 + 1, l_34, (w64 (s_38 + 1))) ⟨hL_40, drop_next hD_36⟩ (Nat.lt_succ_self _) rfl (pre_r rfl)
       ·refine wH_iff rfl hc_46 (wH_skip (wH_region (h_opw (w64_next hD_36 hn_37) wz rfl (h_op (vI ((k_33 + 1 : Nat) : Int)) wz rfl (h_nil ?_)))))
        obtain rfl := some_inj hc_39
        exact loop_mk (k_33 + 1, l_34, s_38) ⟨hL_40, drop_next hD_36⟩ (Nat.lt_succ_self _) rfl (pre_r rfl)
     ·rintro s_38 ho_ sl_ H_ hp_ hq_
      subst ho_
      refine wH_at _ hp_ hq_ (wH_seq ?_)
      obtain ⟨v_48, h_49, hc_21⟩ := bind_some hc_21
      refine wH_join (β := Unit) (fun _ => ([(3, (.ref n_2 0 0)), (4, (.ref n_6 0 0)), (5, (vL Piece.enc r_7.1)), (7, (vL eS r_9.1)), (38, (vI (k_15 : Int))), (95, (vB v_48))] : List (Nat × V))) (fun _ => ([(n_2, some (.cells 2 [(vL eI r_28.2.L), (vI r_28.2.f_at)])), (n_6, some (.cells 4 [(vS r_3.1.Key), (vI r_3.1.W), (vI r_3.1.H), (vL Zone.enc r_3.1.Zones)]))] : Hp)) (fun _ => True) ?_ ?_
      ·refine wH_region (h_op (vI r_31.2.2) wz rfl (h_op (vB (r_31.2.2 != 0)) wz rfl ?_))
       rcases cond_some h_49 with ⟨hc_50, h_49⟩ | ⟨hc_50, h_49⟩
       ·refine h_movb rfl hc_50 wz (h_skip (wg rfl rfl rfl) (h_skip (wg rfl rfl rfl) (h_skip (wg rfl rfl rfl) (h_skip (wg rfl rfl rfl) (h_op (vB true) wz rfl (h_op (vB true) wz rfl (h_skip (wg rfl rfl rfl) (h_skip (wg rfl rfl rfl) (h_op (vB true) wz rfl (h_op (vB true) wz rfl (h_skip (wg rfl rfl rfl) (h_skip (wg rfl rfl rfl) (h_skip (wn rfl rfl) (h_skip (wn rfl rfl) (h_skip (wn rfl rfl) (h_skip (wg rfl rfl rfl) (h_op (vB true) wz rfl (h_nil ?_))))))))))))))))))
        obtain rfl := some_inj h_49
        exact cut_mk () trivial rfl (pre_r rfl)
       ·refine h_movb rfl hc_50 wz (h_op (vI s_38) (wg rfl rfl rfl) rfl (h_op (vB (s_38 == 1)) (wg rfl rfl rfl) rfl (h_op (vB r_31.2.1) (wg rfl rfl rfl) rfl (h_bneq un4 rfl rfl (wg rfl rfl rfl) (h_op (vB (!((s_38 == 1) == r_31.2.1))) wz rfl ?_)))))
        rcases cond_some h_49 with ⟨hc_51, h_49⟩ | ⟨hc_51, h_49⟩
        ·refine h_movb rfl hc_51 wz (h_skip (wg rfl rfl rfl) (h_skip (wg rfl rfl rfl) (h_op (vB true) wz rfl (h_op (vB true) wz rfl (h_skip (wg rfl rfl rfl) (h_skip (wg rfl rfl rfl) (h_skip (wn rfl rfl) (h_skip (wn rfl rfl) (h_skip (wn rfl rfl) (h_skip (wg rfl rfl rfl) (h_op (vB true) wz rfl (h_nil ?_))))))))))))
         obtain rfl := some_inj h_49
         exact cut_mk () trivial rfl (pre_r rfl)
        ·refine h_movb rfl hc_51 wz (h_op (vI s_38) (wg rfl rfl rfl) rfl (h_op (vB (decide (s_38 > 1))) (wg rfl rfl rfl) rfl (h_op (vB (decide (s_38 > 1))) wz rfl ?_)))
         rcases cond_some h_49 with ⟨hc_52, h_49⟩ | ⟨hc_52, h_49⟩
         ·refine h_movb rfl hc_52 wz (h_skip (wg rfl rfl rfl) (h_skip (wg rfl rfl rfl) (h_skip (wn rfl rfl) (h_skip (wn rfl rfl) (h_skip (wn rfl rfl) (h_skip (wg rfl rfl rfl) (h_op (vB true) wz rfl (h_nil ?_))))))))
          obtain rfl := some_inj h_49
          exact cut_mk () trivial rfl (pre_r rfl)
         ·refine h_movb rfl hc_52 wz (h_op (vB r_31.2.1) (wg rfl rfl rfl) rfl ?_)
          rcases cond_some h_49 with ⟨hc_53, h_49⟩ | ⟨hc_53, h_49⟩
          ·refine h_movb rfl hc_53 (wg rfl rfl rfl) (h_op (vL eS r_9.1) (wg rfl rfl rfl) rfl (h_op (vS r_31.1) (wg rfl rfl rfl) rfl ?_))
           obtain ⟨r_54, hr_55, h_49⟩ := bind_some h_49
           refine h_call0 (slices_Contains_string_string_ok hr_55) rfl hb32 rfl rfl rfl rfl (wg rfl rfl rfl) (h_op (vB r_54) (wg rfl rfl rfl) rfl (h_op (vB r_54) wz rfl (h_nil ?_)))
           obtain rfl := some_inj h_49
           exact cut_mk () trivial rfl (pre_r rfl)
          ·refine h_movb rfl hc_53 (wg rfl rfl rfl) (h_skip (wg rfl rfl rfl) (h_skip (wg rfl rfl rfl) (h_skip (wg rfl rfl rfl) (h_op (vB false) (wg rfl rfl rfl) rfl (h_op (vB false) wz rfl (h_nil ?_))))))
           obtain rfl := some_inj h_49
           exact cut_mk () trivial rfl (pre_r rfl)
      ·rintro ⟨⟩ _ sl_ H_ hp_ hq_
       refine wH_at _ hp_ hq_ ?_
       rcases cond_some hc_21 with ⟨hc_56, hc_21⟩ | ⟨hc_56, hc_21⟩
       ·refine wH_ift rfl hc_56 (wH_seq (wH_region (h_op (vB false) wz rfl (h_nil ?_))))
        obtain rfl := some_inj hc_21
        obtain rfl := some_inj hL_22
        obtain rfl := some_inj hF
        exact wH_ret (fin0 (.inr rfl) [(vB false)] ⟨rfl, trivial⟩ rfl rfl rfl)
       ·refine wH_iff rfl hc_56 (wH_skip (wH_region (h_opw (w64_nextr hD_18 hn_19) wz rfl (h_op (vI ((k_15 + 1 : Nat) : Int)) wz rfl (h_nil ?_)))))
        obtain rfl := some_inj hc_21
        exact loop_mk (k_15 + 1, l_16, (r_28.2.L, r_28.2.f_at)) ⟨hL_22, drop_next hD_18⟩ (Nat.lt_succ_self _) rfl (pre_r rfl)
   ·rintro s_20 ho_ sl_ H_ hp_ hq_
    subst ho_
    refine wH_at _ hp_ hq_ (wH_seq (wH_region ?_))
    obtain ⟨r_57, hr_58, hF⟩ := bind_some hF
    refine h_call0 (keep_ready_ok hr_58) rfl hb14 rfl rfl rfl rfl wz (h_op (vB r_57) wz rfl (h_nil ?_))
    obtain rfl := some_inj hF
    exact wH_ret (fin0 (.inr rfl) [(vB r_57)] ⟨rfl, trivial⟩ rfl rfl rfl)
end Go.Proofs.YtipcgokielgnhaaGreatDoor.Law

