/-
 The machine computes these plain functions (written by a program of ours).
-/
import Derived.Test.YtipcgokielgnhaaGreatDoorFacts
import Derived.Test.YtipcgokielgnhaaGreatDoorDefs
import Derived.Test.YtipcgokielgnhaaGreatDoorPf4
open Go Go.Eng Go.Proofs
namespace Go.Proofs.YtipcgokielgnhaaGreatDoor.Law
set_option maxRecDepth 100000
set_option linter.unusedVariables false
set_option maxHeartbeats 1000000
theorem alert_CheckPosts_ok {l_1 : (List Post)} {r : Int} (hF : alert_CheckPosts l_1 = some r) :
  FnM Tryz.prog 112 [(vL Post.enc l_1)] [] (vI r) [] := by
 refine FnM.of_wH ⟨Tryz.prog, 44, [], []⟩ rfl Tryz.func112 rfl rfl (Nat.le_of_ble_eq_true rfl) (by kernel_rfl) ?_
 unfold alert_CheckPosts at hF
 refine wH_seq (wH_region (h_op (vI 0) wz rfl (h_nil (wH_seq (wH_seq (wH_region (h_op (vL Post.enc l_1) wz rfl (h_len un166 rfl wz (h_op (vB (decide ((l_1.length : Int) > 500))) wz rfl (h_nil ?_))))))))))
 rcases cond_some hF with ⟨hc_2, hF⟩ | ⟨hc_2, hF⟩
 ·refine wH_ift rfl hc_2 (wH_seq (wH_region (h_op (vI 2) wz rfl (h_nil ?_))))
  obtain rfl := some_inj hF
  exact wH_ret (fin0 (.inr rfl) [(vI 2)] ⟨rfl, trivial⟩ rfl rfl rfl)
 ·refine wH_iff rfl hc_2 (wH_skip (wH_seq (wH_seq (wH_region (h_op (vL Post.enc l_1) wz rfl (h_len un166 rfl wz (h_op (vI 0) wz rfl (h_nil ?_))))))))
  obtain ⟨o_11, hj_12, hF⟩ := bind_some hF
  obtain ⟨hn_7, hj_12⟩ := forL_some hj_12
  refine wH_join (β := (Unit)) (fun (s_8 : Unit) => ([] : List (Nat × V))) (fun (s_8 : Unit) => ([] : Hp)) (fun p => o_11 = .go p) ?_ ?_
  ·refine wH_block (wH_loop (β := Nat × (List Post) × (Unit)) (fun p => (fun (k_3 : Nat) (l_4 : List Post) (s_8 : Unit) => ([(0, (vL Post.enc l_1)), (8, (vL Post.enc l_1)), (9, (vI (l_1.length : Int))), (10, (vI (k_3 : Int)))] : List (Nat × V))) p.1 p.2.1 p.2.2) (fun p => (fun (k_3 : Nat) (l_4 : List Post) (s_8 : Unit) => ([] : Hp)) p.1 p.2.1 p.2.2) (fun p => forR (fun k x s => alert_CheckPosts_L1 l_1 k x s) p.2.1 p.1 p.2.2 = some o_11 ∧ (l_1).drop p.1 = p.2.1) (fun p => p.2.1.length) (0, l_1, ()) ⟨hj_12, rfl⟩ rfl (pre_r rfl) ?_)
   rintro ⟨k_3, l_4, s_8⟩ ⟨hL_10, hD_6⟩
   dsimp only at hL_10 hD_6
   cases l_4 with
   | nil =>
    obtain rfl := some_inj hL_10
    refine wH_seq (wH_region (h_op (vB (decide ((k_3 : Int) < (l_1.length : Int)))) wz rfl (h_nil ?_)))
    refine wH_seq (wH_iff rfl (drop_nil hD_6) (wH_exit ?_))
    exact cut_mk (s_8) rfl rfl (pre_r rfl)
   | cons x_5 l_4 =>
    obtain ⟨c_, hc_9, hL_10⟩ := bind_some hL_10
    refine wH_seq (wH_region (h_op (vB (decide ((k_3 : Int) < (l_1.length : Int)))) wz rfl (h_nil ?_)))
    refine wH_seq (wH_ift rfl (drop_cons hD_6) (wH_skip ?_))
    unfold alert_CheckPosts_L1 at hc_9
    refine wH_seq (wH_block (wH_seq (wH_region (h_op (vI (k_3 : Int)) wz rfl (h_ia es166 rfl rfl (drop_idx hD_6) rfl wz (h_ldc sz118 ag118 rfl (.d (.agg (Post.enc x_5))) rfl wz (h_alloc 0 (.inl rfl) z118 rfl wz (fun n_13 => h_op (vI (k_3 : Int)) wz rfl (h_str 0 (.inl rfl) (fun _ _ _ => trivial) 0 sz118 rfl rfl [(vS x_5.Player), (vI x_5.X), (vI x_5.Y)] rfl wz (h_nil (wH_block (wH_seq (wH_region (h_far pl118_0 rfl 0 rfl wz (h_ldr 0 0 (.inl rfl) (fun _ _ _ => trivial) sz9 ag9 rfl rfl (vS x_5.Player) rfl wz ?_)))))))))))))))
    obtain ⟨r_14, hr_15, hc_9⟩ := bind_some hc_9
    refine h_call0 (kit_IsKey_ok hr_15) rfl hb98 rfl rfl rfl rfl wz (h_op (vB (!r_14)) wz rfl (h_op (vB (!r_14)) wz rfl (h_nil ?_)))
    rcases cond_some hc_9 with ⟨hc_16, hc_9⟩ | ⟨hc_16, hc_9⟩
    ·refine wH_ift rfl hc_16 (wH_seq (wH_region (h_op (vI 5) wz rfl (h_nil ?_))))
     obtain rfl := some_inj hc_9
     obtain rfl := some_inj hL_10
     obtain rfl := some_inj hF
     exact wH_ret (fin0 (.inr rfl) [(vI 5)] ⟨rfl, trivial⟩ rfl rfl rfl)
    ·refine wH_iff rfl hc_16 (wH_seq ?_)
     obtain ⟨v_17, h_18, hc_9⟩ := bind_some hc_9
     refine wH_join (β := Unit) (fun _ => ([(0, (vL Post.enc l_1)), (3, (vI (k_3 : Int))), (4, (.ref n_13 0 0)), (8, (vL Post.enc l_1)), (9, (vI (l_1.length : Int))), (10, (vI (k_3 : Int))), (20, (vB v_17))] : List (Nat × V))) (fun _ => ([(n_13, some (.cells 3 [(vS x_5.Player), (vI x_5.X), (vI x_5.Y)]))] : Hp)) (fun _ => True) ?_ ?_
     ·refine wH_region (h_far pl118_1 rfl 1 rfl wz (h_ldr 0 0 (.inl rfl) (fun _ _ _ => trivial) sz3 ag3 rfl rfl (vI x_5.X) rfl wz ?_))
      obtain ⟨r_19, hr_20, h_18⟩ := bind_some h_18
      refine h_call0 (kit_Outside_ok hr_20) rfl hb79 rfl rfl rfl rfl wz ?_
      rcases cond_some h_18 with ⟨hc_21, h_18⟩ | ⟨hc_21, h_18⟩
      ·refine h_movb rfl hc_21 wz (h_skip (wg rfl rfl rfl) (h_skip (wg rfl rfl rfl) (h_skip (wg rfl rfl rfl) (h_op (vB true) wz rfl (h_op (vB true) wz rfl (h_nil ?_))))))
       obtain rfl := some_inj h_18
       exact cut_mk () trivial rfl (pre_r rfl)
      ·refine h_movb rfl hc_21 wz (h_far pl118_2 rfl 2 rfl (wg rfl rfl rfl) (h_ldr 0 0 (.inl rfl) (fun _ _ _ => trivial) sz3 ag3 rfl rfl (vI x_5.Y) rfl (wg rfl rfl rfl) ?_))
       obtain ⟨r_22, hr_23, h_18⟩ := bind_some h_18
       refine h_call0 (kit_Outside_ok hr_23) rfl hb79 rfl rfl rfl rfl (wg rfl rfl rfl) (h_op (vB r_22) wz rfl (h_op (vB r_22) wz rfl (h_nil ?_)))
       obtain rfl := some_inj h_18
       exact cut_mk () trivial rfl (pre_r rfl)
     ·rintro ⟨⟩ _ sl_ H_ hp_ hq_
      refine wH_at _ hp_ hq_ ?_
      rcases cond_some hc_9 with ⟨hc_24, hc_9⟩ | ⟨hc_24, hc_9⟩
      ·refine wH_ift rfl hc_24 (wH_seq (wH_region (h_op (vI 1) wz rfl (h_nil ?_))))
       obtain rfl := some_inj hc_9
       obtain rfl := some_inj hL_10
       obtain rfl := some_inj hF
       exact wH_ret (fin0 (.inr rfl) [(vI 1)] ⟨rfl, trivial⟩ rfl rfl rfl)
      ·refine wH_iff rfl hc_24 (wH_seq ?_)
       obtain ⟨v_25, h_26, hc_9⟩ := bind_some hc_9
       refine wH_join (β := Unit) (fun _ => ([(0, (vL Post.enc l_1)), (8, (vL Post.enc l_1)), (9, (vI (l_1.length : Int))), (10, (vI (k_3 : Int))), (29, (vB v_25))] : List (Nat × V))) (fun _ => ([(n_13, some (.cells 3 [(vS x_5.Player), (vI x_5.X), (vI x_5.Y)]))] : Hp)) (fun _ => True) ?_ ?_
       ·refine wH_draws (h_op (vI (k_3 : Int)) wz rfl (h_op (vB (decide ((k_3 : Int) > 0))) wz rfl ?_))
        rcases cond_some h_26 with ⟨hc_27, h_26⟩ | ⟨hc_27, h_26⟩
        ·refine h_movb rfl hc_27 wz (h_far pl118_0 rfl 0 rfl (wg rfl rfl rfl) (h_ldr 4 0 (.inr (by kernel_rfl)) (fun _ _ ag => trivial) sz9 ag9 rfl rfl (vS x_5.Player) rfl (wg rfl rfl rfl) (h_op (vL Post.enc l_1) (wg rfl rfl rfl) rfl (h_op (vI (k_3 : Int)) (wg rfl rfl rfl) rfl (h_op (vI (w64 ((k_3 : Int) - 1))) (wg rfl rfl rfl) rfl ?_)))))
         obtain ⟨y_28, hy_29, h_26⟩ := bind_some h_26
         refine h_ia es166 rfl rfl hy_29 rfl (wg rfl rfl rfl) (h_fac pl118_0 rfl [.str y_28.Player, .int .i64 y_28.X, .int .i64 y_28.Y] rfl rfl (wg rfl rfl rfl) (h_ldc sz9 ag9 rfl (vS y_28.Player) rfl (wg rfl rfl rfl) (h_op (vB (sLe x_5.Player y_28.Player)) (wg rfl rfl rfl) rfl (h_op (vB (sLe x_5.Player y_28.Player)) wz rfl (h_op (vB (sLe x_5.Player y_28.Player)) wz rfl (h_nil ?_))))))
         obtain rfl := some_inj h_26
         exact cut_mk () trivial rfl (pre_r rfl)
        ·refine h_movb rfl hc_27 wz (h_skip (wg rfl rfl rfl) (h_skip (wg rfl rfl rfl) (h_skip (wg rfl rfl rfl) (h_skip (wg rfl rfl rfl) (h_skip (wg rfl rfl rfl) (h_skip (wg rfl rfl rfl) (h_skip (wg rfl rfl rfl) (h_skip (wg rfl rfl rfl) (h_skip (wg rfl rfl rfl) (h_op (vB false) wz rfl (h_op (vB false) wz rfl (h_nil ?_))))))))))))
         obtain rfl := some_inj h_26
         exact cut_mk () trivial rfl (pre_r rfl)
       ·rintro ⟨⟩ _ sl_ H_ hp_ hq_
        refine wH_at _ hp_ hq_ ?_
        rcases cond_some hc_9 with ⟨hc_30, hc_9⟩ | ⟨hc_30, hc_9⟩
        ·refine wH_ift rfl hc_30 (wH_seq (wH_region (h_op (vI 7) wz rfl (h_nil ?_))))
         obtain rfl := some_inj hc_9
         obtain rfl := some_inj hL_10
         obtain rfl := some_inj hF
         exact wH_ret (fin0 (.inr rfl) [(vI 7)] ⟨rfl, trivial⟩ rfl rfl rfl)
        ·refine wH_iff rfl hc_30 (wH_skip (wH_region (h_opw (w64_next hD_6 hn_7) wz rfl (h_op (vI ((k_3 + 1 : Nat) : Int)) wz rfl (h_nil ?_)))))
         obtain rfl := some_inj hc_9
         exact loop_mk (k_3 + 1, l_4, ()) ⟨hL_10, drop_next hD_6⟩ (Nat.lt_succ_self _) rfl (pre_r rfl)
  ·rintro s_8 ho_ sl_ H_ hp_ hq_
   subst ho_
   refine wH_at _ hp_ hq_ (wH_seq (wH_region (h_op (vI 0) wz rfl (h_nil ?_))))
   obtain rfl := some_inj hF
   exact wH_ret (fin0 (.inr rfl) [(vI 0)] ⟨rfl, trivial⟩ rfl rfl rfl)
theorem alert_checkBoth_ok {l_1 : (List Alert)} {posts_2 : (List Post)} {r : Int} (hF : alert_checkBoth l_1 posts_2 = some r) :
  FnM Tryz.prog 90 [(vL Alert.enc l_1), (vL Post.enc posts_2)] [] (vI r) [] := by
 refine FnM.of_wH ⟨Tryz.prog, 13, [], []⟩ rfl Tryz.func90 rfl rfl (Nat.le_of_ble_eq_true rfl) (by kernel_rfl) ?_
 unfold alert_checkBoth at hF
 refine wH_seq (wH_region (h_op (vI 0) wz rfl (h_nil (wH_seq (wH_seq (wH_region (h_op (vL Alert.enc l_1) wz rfl ?_)))))))
 obtain ⟨r_3, hr_4, hF⟩ := bind_some hF
 refine h_call0 (alert_CheckAlerts_ok hr_4) rfl hb111 rfl rfl rfl rfl wz (h_op (vI r_3) wz rfl (h_nil (wH_seq (wH_region (h_op (vI r_3) wz rfl (h_op (vB (r_3 != 0)) wz rfl (h_nil ?_)))))))
 rcases cond_some hF with ⟨hc_5, hF⟩ | ⟨hc_5, hF⟩
 ·refine wH_ift rfl hc_5 (wH_seq (wH_region (h_op (vI r_3) wz rfl (h_op (vI r_3) wz rfl (h_nil ?_)))))
  obtain rfl := some_inj hF
  exact wH_ret (fin0 (.inr rfl) [(vI r_3)] ⟨rfl, trivial⟩ rfl rfl rfl)
 ·refine wH_iff rfl hc_5 (wH_skip (wH_seq (wH_region (h_op (vL Post.enc posts_2) wz rfl ?_))))
  obtain ⟨r_6, hr_7, hF⟩ := bind_some hF
  refine h_call0 (alert_CheckPosts_ok hr_7) rfl hb112 rfl rfl rfl rfl wz (h_op (vI r_6) wz rfl (h_nil ?_))
  obtain rfl := some_inj hF
  exact wH_ret (fin0 (.inr rfl) [(vI r_6)] ⟨rfl, trivial⟩ rfl rfl rfl)
theorem alert_reaches_1_ok {r_1 : Rect} {p_2 : Post} {r : Bool} (hF : alert_reaches_1 r_1 p_2 = some r) :
  FnM Tryz.prog 113 [(.d (.agg (Rect.enc r_1))), (.ref (extN 0) 0 0)] [(.cells 3 [(vS p_2.Player), (vI p_2.X), (vI p_2.Y)])] (vB r) [some (.cells 3 [(vS p_2.Player), (vI p_2.X), (vI p_2.Y)])] := by
 refine FnM.of_wH ⟨Tryz.prog, 36, [], []⟩ rfl Tryz.func113 rfl rfl (Nat.le_of_ble_eq_true rfl) (by kernel_rfl) ?_
 unfold alert_reaches_1 at hF
 refine wH_seq (wH_region (h_box 0 (.inl rfl) [(vI r_1.X), (vI r_1.Y), (vI r_1.W), (vI r_1.H)] rfl rfl wz (fun n_3 => h_op (vB false) wz rfl (h_nil (wH_seq ?_)))))
 obtain ⟨v_4, h_5, hF⟩ := bind_some hF
 refine wH_join (β := Unit) (fun _ => ([(3, (vB v_4))] : List (Nat × V))) (fun _ => ([((extN 0), some (.cells 3 [(vS p_2.Player), (vI p_2.X), (vI p_2.Y)])), (n_3, some (.cells 4 [(vI r_1.X), (vI r_1.Y), (vI r_1.W), (vI r_1.H)]))] : Hp)) (fun _ => True) ?_ ?_
 ·refine wH_region (h_far pl29_0 rfl 0 rfl wz (h_ldr 0 1 (.inl rfl) (fun _ _ _ => trivial) sz3 ag3 rfl rfl (vI r_1.X) rfl wz (h_far pl118_1 rfl 1 rfl wz (h_ldr 0 0 (.inl rfl) (fun _ _ _ => trivial) sz3 ag3 rfl rfl (vI p_2.X) rfl wz (h_op (vB (decide (r_1.X ≤ p_2.X))) wz rfl ?_)))))
  rcases cond_some h_5 with ⟨hc_6, h_5⟩ | ⟨hc_6, h_5⟩
  ·refine h_movb rfl hc_6 wz (h_far pl118_1 rfl 1 rfl (wg rfl rfl rfl) (h_ldr 0 0 (.inl rfl) (fun _ _ _ => trivial) sz3 ag3 rfl rfl (vI p_2.X) rfl (wg rfl rfl rfl) (h_far pl29_0 rfl 0 rfl (wg rfl rfl rfl) (h_ldr 0 1 (.inl rfl) (fun _ _ _ => trivial) sz3 ag3 rfl rfl (vI r_1.X) rfl (wg rfl rfl rfl) (h_far pl29_2 rfl 2 rfl (wg rfl rfl rfl) (h_ldr 0 1 (.inl rfl) (fun _ _ _ => trivial) sz3 ag3 rfl rfl (vI r_1.W) rfl (wg rfl rfl rfl) (h_op (vI (w64 (r_1.X + r_1.W))) (wg rfl rfl rfl) rfl (h_op (vB (decide (p_2.X < (w64 (r_1.X + r_1.W))))) (wg rfl rfl rfl) rfl (h_op (vB (decide (p_2.X < (w64 (r_1.X + r_1.W))))) wz rfl ?_)))))))))
   rcases cond_some h_5 with ⟨hc_7, h_5⟩ | ⟨hc_7, h_5⟩
   ·refine h_movb rfl hc_7 wz (h_far pl29_1 rfl 1 rfl (wg rfl rfl rfl) (h_ldr 0 1 (.inl rfl) (fun _ _ _ => trivial) sz3 ag3 rfl rfl (vI r_1.Y) rfl (wg rfl rfl rfl) (h_far pl118_2 rfl 2 rfl (wg rfl rfl rfl) (h_ldr 0 0 (.inl rfl) (fun _ _ _ => trivial) sz3 ag3 rfl rfl (vI p_2.Y) rfl (wg rfl rfl rfl) (h_op (vB (decide (r_1.Y ≤ p_2.Y))) (wg rfl rfl rfl) rfl (h_op (vB (decide (r_1.Y ≤ p_2.Y))) wz rfl ?_))))))
    rcases cond_some h_5 with ⟨hc_8, h_5⟩ | ⟨hc_8, h_5⟩
    ·refine h_movb rfl hc_8 wz (h_far pl118_2 rfl 2 rfl (wg rfl rfl rfl) (h_ldr 0 0 (.inl rfl) (fun _ _ _ => trivial) sz3 ag3 rfl rfl (vI p_2.Y) rfl (wg rfl rfl rfl) (h_far pl29_1 rfl 1 rfl (wg rfl rfl rfl) (h_ldr 0 1 (.inl rfl) (fun _ _ _ => trivial) sz3 ag3 rfl rfl (vI r_1.Y) rfl (wg rfl rfl rfl) (h_far pl29_3 rfl 3 rfl (wg rfl rfl rfl) (h_ldr 0 1 (.inl rfl) (fun _ _ _ => trivial) sz3 ag3 rfl rfl (vI r_1.H) rfl (wg rfl rfl rfl) (h_op (vI (w64 (r_1.Y + r_1.H))) (wg rfl rfl rfl) rfl (h_op (vB (decide (p_2.Y < (w64 (r_1.Y + r_1.H))))) (wg rfl rfl rfl) rfl (h_op (vB (decide (p_2.Y < (w64 (r_1.Y + r_1.H))))) wz rfl (h_op (vB (decide (p_2.Y < (w64 (r_1.Y + r_1.H))))) wz rfl (h_nil ?_)))))))))))
     obtain rfl := some_inj h_5
     exact cut_mk () trivial rfl (pre_r rfl)
    ·refine h_movb rfl hc_8 wz (h_skip (wg rfl rfl rfl) (h_skip (wg rfl rfl rfl) (h_skip (wg rfl rfl rfl) (h_skip (wg rfl rfl rfl) (h_skip (wg rfl rfl rfl) (h_skip (wg rfl rfl rfl) (h_skip (wg rfl rfl rfl) (h_skip (wg rfl rfl rfl) (h_op (vB false) wz rfl (h_op (vB false) wz rfl (h_nil ?_)))))))))))
     obtain rfl := some_inj h_5
     exact cut_mk () trivial rfl (pre_r rfl)
   ·refine h_movb rfl hc_7 wz (h_skip (wg rfl rfl rfl) (h_skip (wg rfl rfl rfl) (h_skip (wg rfl rfl rfl) (h_skip (wg rfl rfl rfl) (h_skip (wg rfl rfl rfl) (h_op (vB false) wz rfl (h_op (vB false) wz rfl (h_skip (wg rfl rfl rfl) (h_skip (wg rfl rfl rfl) (h_skip (wg rfl rfl rfl) (h_skip (wg rfl rfl rfl) (h_skip (wg rfl rfl rfl) (h_skip (wg rfl rfl rfl) (h_skip (wg rfl rfl rfl) (h_skip (wg rfl rfl rfl) (h_op (vB false) wz rfl (h_op (vB false) wz rfl (h_nil ?_))))))))))))))))))
    obtain rfl := some_inj h_5
    exact cut_mk () trivial rfl (pre_r rfl)
  ·refine h_movb rfl hc_6 wz (h_skip (wg rfl rfl rfl) (h_skip (wg rfl rfl rfl) (h_skip (wg rfl rfl rfl) (h_skip (wg rfl rfl rfl) (h_skip (wg rfl rfl rfl) (h_skip (wg rfl rfl rfl) (h_skip (wg rfl rfl rfl) (h_skip (wg rfl rfl rfl) (h_op (vB false) wz rfl (h_op (vB false) wz rfl (h_skip (wg rfl rfl rfl) (h_skip (wg rfl rfl rfl) (h_skip (wg rfl rfl rfl) (h_skip (wg rfl rfl rfl) (h_skip (wg rfl rfl rfl) (h_op (vB false) wz rfl (h_op (vB false) wz rfl (h_skip (wg rfl rfl rfl) (h_skip (wg rfl rfl rfl) (h_skip (wg rfl rfl rfl) (h_skip (wg rfl rfl rfl) (h_skip (wg rfl rfl rfl) (h_skip (wg rfl rfl rfl) ?_)))))))))))))))))))))))
   refine h_skip (wg rfl rfl rfl) (h_skip (wg rfl rfl rfl) (h_op (vB false) wz rfl (h_op (vB false) wz rfl (h_nil ?_))))
   obtain rfl := some_inj h_5
   exact cut_mk () trivial rfl (pre_r rfl)
 ·rintro ⟨⟩ _ sl_ H_ hp_ hq_
  refine wH_at _ hp_ hq_ ?_
  obtain rfl := some_inj hF
  exact wH_ret (finB (.inr rfl) [(vB v_4)] _ [0] [extN 0] ⟨rfl, trivial⟩ (.cons (co_data rfl rfl) (.nil)) (by kernel_rfl) ⟨(by kernel_rfl), trivial⟩ (by decide) (by kernel_rfl))
theorem slices_IndexFunc_api_Rect_api_Rect_ok {s_1 : (List Rect)} {f_2 : Rect → Option Bool} {r : Int} {gid : FuncId} {caps : List V} {Sin : List Box} (hfn : ∀ x0 r, f_2 x0 = some r → FnM Tryz.prog gid ([(.d (.agg (Rect.enc x0)))] ++ caps) Sin (vB r) (Sin.map some)) (hbF : hasBody Tryz.prog gid = true) (hcapF : caps.flatMap frz = [] ∧ caps.map co0 = caps) (hokF : okL Sin.length caps = true) (hsF : ∀ b ∈ Sin, b.ok Sin.length = true) (hmF : ∀ b ∈ Sin, b.mut = true) (hF : slices_IndexFunc_api_Rect_api_Rect s_1 f_2 = some r) :
  FnM Tryz.prog 92 [(vL Rect.enc s_1), (.fn gid caps)] Sin (vI r) (Sin.map some) := by
 refine FnM.of_wH ⟨Tryz.prog, 19, [], []⟩ rfl Tryz.func92 rfl rfl (Nat.le_of_ble_eq_true rfl) (by kernel_rfl) ?_
 unfold slices_IndexFunc_api_Rect_api_Rect at hF
 refine wH_seq (wH_region (h_op (vI 0) wz rfl (h_nil (wH_seq (wH_seq (wH_region (h_op (vL Rect.enc s_1) wz rfl (h_len un27 rfl wz (h_op (vI 0) wz rfl (h_nil ?_))))))))))
 obtain ⟨o_11, hj_12, hF⟩ := bind_some hF
 obtain ⟨hn_7, hj_12⟩ := forL_some hj_12
 refine wH_join (β := (Unit)) (fun (s_8 : Unit) => ([] : List (Nat × V))) (fun (s_8 : Unit) => (initH 0 Sin)) (fun p => o_11 = .go p) ?_ ?_
 ·refine wH_block (wH_loop (β := Nat × (List Rect) × (Unit)) (fun p => (fun (k_3 : Nat) (l_4 : List Rect) (s_8 : Unit) => ([(0, (vL Rect.enc s_1)), (1, (.fn gid caps)), (7, (vI (s_1.length : Int))), (8, (vI (k_3 : Int)))] : List (Nat × V))) p.1 p.2.1 p.2.2) (fun p => (fun (k_3 : Nat) (l_4 : List Rect) (s_8 : Unit) => (initH 0 Sin)) p.1 p.2.1 p.2.2) (fun p => forR (fun k x s => slices_IndexFunc_api_Rect_api_Rect_L1 f_2 k x s) p.2.1 p.1 p.2.2 = some o_11 ∧ (s_1).drop p.1 = p.2.1) (fun p => p.2.1.length) (0, s_1, ()) ⟨hj_12, rfl⟩ rfl (pre_self _) ?_)
  rintro ⟨k_3, l_4, s_8⟩ ⟨hL_10, hD_6⟩
  dsimp only at hL_10 hD_6
  cases l_4 with
  | nil =>
   obtain rfl := some_inj hL_10
   refine wH_seq (wH_region (h_op (vB (decide ((k_3 : Int) < (s_1.length : Int)))) wz rfl (h_nil ?_)))
   refine wH_seq (wH_iff rfl (drop_nil hD_6) (wH_exit ?_))
   exact cut_mk (s_8) rfl rfl (pre_self _)
  | cons x_5 l_4 =>
   obtain ⟨c_, hc_9, hL_10⟩ := bind_some hL_10
   refine wH_seq (wH_region (h_op (vB (decide ((k_3 : Int) < (s_1.length : Int)))) wz rfl (h_nil ?_)))
   refine wH_seq (wH_ift rfl (drop_cons hD_6) (wH_skip ?_))
   unfold slices_IndexFunc_api_Rect_api_Rect_L1 at hc_9
   refine wH_seq (wH_block (wH_seq (wH_region (h_op (vI (k_3 : Int)) wz rfl (h_op (vI (k_3 : Int)) wz rfl (h_nil (wH_seq (wH_region (h_op (.fn gid caps) wz rfl (h_op (vL Rect.enc s_1) wz rfl (h_op (vI (k_3 : Int)) wz rfl (h_ia es27 rfl rfl (drop_idx hD_6) rfl wz (h_ldc sz29 ag29 rfl (.d (.agg (Rect.enc x_5))) rfl wz ?_)))))))))))))
   obtain ⟨r_13, hr_14, hc_9⟩ := bind_some hc_9
   refine h_callS (hfn _ _ hr_14) rfl hbF rfl rfl hcapF hokF hsF hmF rfl wz rfl (h_nil ?_)
   rcases cond_some hc_9 with ⟨hc_15, hc_9⟩ | ⟨hc_15, hc_9⟩
   ·refine wH_ift rfl hc_15 (wH_seq (wH_region (h_op (vI (k_3 : Int)) wz rfl (h_op (vI (k_3 : Int)) wz rfl (h_nil ?_)))))
    obtain rfl := some_inj hc_9
    obtain rfl := some_inj hL_10
    obtain rfl := some_inj hF
    exact wH_ret (finS hsF (.inr rfl) [(vI (k_3 : Int))] ⟨rfl, trivial⟩ rfl rfl rfl)
   ·refine wH_iff rfl hc_15 (wH_skip (wH_region (h_opw (w64_next hD_6 hn_7) wz rfl (h_op (vI ((k_3 + 1 : Nat) : Int)) wz rfl (h_nil ?_)))))
    obtain rfl := some_inj hc_9
    exact loop_mk (k_3 + 1, l_4, ()) ⟨hL_10, drop_next hD_6⟩ (Nat.lt_succ_self _) rfl (pre_self _)
 ·rintro s_8 ho_ sl_ H_ hp_ hq_
  subst ho_
  refine wH_at _ hp_ hq_ (wH_seq (wH_region (h_op (vI (-1)) wz rfl (h_nil ?_))))
  obtain rfl := some_inj hF
  exact wH_ret (finS hsF (.inr rfl) [(vI (-1))] ⟨rfl, trivial⟩ rfl rfl rfl)
theorem slices_ContainsFunc_api_Rect_api_Rect_ok {s_1 : (List Rect)} {f_2 : Rect → Option Bool} {r : Bool} {gid : FuncId} {caps : List V} {Sin : List Box} (hfn : ∀ x0 r, f_2 x0 = some r → FnM Tryz.prog gid ([(.d (.agg (Rect.enc x0)))] ++ caps) Sin (vB r) (Sin.map some)) (hbF : hasBody Tryz.prog gid = true) (hcapF : caps.flatMap frz = [] ∧ caps.map co0 = caps) (hokF : okL Sin.length caps = true) (hsF : ∀ b ∈ Sin, b.ok Sin.length = true) (hmF : ∀ b ∈ Sin, b.mut = true) (hF : slices_ContainsFunc_api_Rect_api_Rect s_1 f_2 = some r) :
  FnM Tryz.prog 55 [(vL Rect.enc s_1), (.fn gid caps)] Sin (vB r) (Sin.map some) := by
 refine FnM.of_wH ⟨Tryz.prog, 9, [], []⟩ rfl Tryz.func55 rfl rfl (Nat.le_of_ble_eq_true rfl) (by kernel_rfl) ?_
 unfold slices_ContainsFunc_api_Rect_api_Rect at hF
 refine wH_seq (wH_region (h_op (vB false) wz rfl (h_nil (wH_seq (wH_region (h_op (vL Rect.enc s_1) wz rfl (h_op (.fn gid caps) wz rfl ?_)))))))
 obtain ⟨r_3, hr_4, hF⟩ := bind_some hF
 refine h_callS (slices_IndexFunc_api_Rect_api_Rect_ok (gid := gid) (caps := caps) (Sin := Sin) hfn hbF hcapF hokF hsF hmF hr_4) rfl hb92 rfl rfl ⟨rfl, rfl⟩ (by simp [okL, okV, hokF]) hsF hmF rfl wz rfl (h_op (vB (decide (r_3 ≥ 0))) wz rfl (h_op (vB (decide (r_3 ≥ 0))) wz rfl (h_nil ?_)))
 obtain rfl := some_inj hF
 exact wH_ret (finS hsF (.inr rfl) [(vB (decide (r_3 ≥ 0)))] ⟨rfl, trivial⟩ rfl rfl rfl)
theorem alert_reaches_ok {a_1 : Alert} {p_2 : Post} {r : Bool} (hF : alert_reaches a_1 p_2 = some r) :
  FnM Tryz.prog 91 [(.d (.agg (Alert.enc a_1))), (.d (.agg (Post.enc p_2)))] [] (vB r) [] := by
 refine FnM.of_wH ⟨Tryz.prog, 9, [], []⟩ rfl Tryz.func91 rfl rfl (Nat.le_of_ble_eq_true rfl) (by kernel_rfl) ?_
 unfold alert_reaches at hF
 refine wH_seq (wH_region (h_box 0 (.inl rfl) [(vS a_1.Id), (vS a_1.Sender), (vI a_1.Kind), (vL eS a_1.Refs), (vI a_1.At), (vI a_1.Until), (vI a_1.Weight), (vL Rect.enc a_1.Areas), (vS a_1.Text)] rfl rfl wz (fun n_3 => h_box 0 (.inl rfl) [(vS p_2.Player), (vI p_2.X), (vI p_2.Y)] rfl rfl wz (fun n_4 => h_op (vB false) wz rfl (h_nil (wH_seq (wH_region (h_far pl114_7 rfl 7 rfl wz (h_ldr 0 0 (.inl rfl) (fun _ _ _ => trivial) sz27 ag27 rfl rfl (vL Rect.enc a_1.Areas) rfl wz (h_op (.fn 113 [(.ref n_4 0 0)]) wz rfl ?_))))))))))
 obtain ⟨r_5, hr_6, hF⟩ := bind_some hF
 refine h_callq 0 [1] (.inl rfl) (fun _ _ _ => trivial) (slices_ContainsFunc_api_Rect_api_Rect_ok (gid := 113) (caps := [.ref (extN 0) 0 0]) (Sin := [(.cells 3 [(vS p_2.Player), (vI p_2.X), (vI p_2.Y)])]) (fun _ _ h_ => alert_reaches_1_ok h_) hb113 ⟨rfl, rfl⟩ (by kernel_rfl) (all_ok (by kernel_rfl)) (all_mut (by kernel_rfl)) hr_6) rfl hb55 rfl (by kernel_rfl) (by kernel_rfl) (by kernel_rfl) (by kernel_rfl) (by kernel_rfl) (by kernel_rfl) (by kernel_rfl) (by decide) (by kernel_rfl) wz (vB r_5) (by kernel_rfl) ([(n_3, some (.cells 9 [(vS a_1.Id), (vS a_1.Sender), (vI a_1.Kind), (vL eS a_1.Refs), (vI a_1.At), (vI a_1.Until), (vI a_1.Weight), (vL Rect.enc a_1.Areas), (vS a_1.Text)])), (n_4, some (.cells 3 [(vS p_2.Player), (vI p_2.X), (vI p_2.Y)]))] : Hp) (by kernel_rfl) (h_op (vB r_5) wz rfl (h_nil ?_))
 obtain rfl := some_inj hF
 exact wH_ret (fin0 (.inr rfl) [(vB r_5)] ⟨rfl, trivial⟩ rfl rfl rfl)
theorem alert_Reaches_ok {a_1 : Alert} {p_2 : Post} {r : Bool × Int} (hF : alert_Reaches a_1 p_2 = some r) :
  FnM Tryz.prog 51 [(.d (.agg (Alert.enc a_1))), (.d (.agg (Post.enc p_2)))] [] (.tup [(vB r.1), (vI r.2)]) [] := by
 refine FnM.of_wH ⟨Tryz.prog, 18, [], []⟩ rfl Tryz.func51 rfl rfl (Nat.le_of_ble_eq_true rfl) (by kernel_rfl) ?_
 unfold alert_Reaches at hF
 refine wH_seq (wH_region (h_box 0 (.inl rfl) [(vS a_1.Id), (vS a_1.Sender), (vI a_1.Kind), (vL eS a_1.Refs), (vI a_1.At), (vI a_1.Until), (vI a_1.Weight), (vL Rect.enc a_1.Areas), (vS a_1.Text)] rfl rfl wz (fun n_3 => h_box 0 (.inl rfl) [(vS p_2.Player), (vI p_2.X), (vI p_2.Y)] rfl rfl wz (fun n_4 => h_op (vB false) wz rfl (h_op (vI 0) wz rfl (h_nil (wH_seq (wH_seq (wH_region (h_ldr 0 0 (.inl rfl) (fun _ _ _ => trivial) sz114 ag114 rfl rfl (.d (.agg (Alert.enc a_1))) rfl wz (h_lit (([a_1] : List Alert).map Alert.enc) es165 ez165 rfl rfl rfl rfl rfl wz (h_ldr 0 1 (.inl rfl) (fun _ _ _ => trivial) sz118 ag118 rfl rfl (.d (.agg (Post.enc p_2))) rfl wz (h_lit (([p_2] : List Post).map Post.enc) es166 ez166 rfl rfl rfl rfl rfl wz ?_)))))))))))))
 obtain ⟨r_5, hr_6, hF⟩ := bind_some hF
 refine h_call0 (alert_checkBoth_ok hr_6) rfl hb90 rfl rfl rfl rfl wz (h_op (vI r_5) wz rfl (h_nil (wH_seq (wH_region (h_op (vI r_5) wz rfl (h_op (vB (r_5 != 0)) wz rfl (h_nil ?_)))))))
 rcases cond_some hF with ⟨hc_7, hF⟩ | ⟨hc_7, hF⟩
 ·refine wH_ift rfl hc_7 (wH_seq (wH_region (h_op (vI r_5) wz rfl (h_op (vB false) wz rfl (h_op (vI r_5) wz rfl (h_nil ?_))))))
  obtain rfl := some_inj hF
  exact wH_ret (fin0 (.inr rfl) [(vB false), (vI r_5)] ⟨rfl, ⟨rfl, trivial⟩⟩ rfl rfl rfl)
 ·refine wH_iff rfl hc_7 (wH_skip (wH_seq (wH_region (h_ldr 0 0 (.inl rfl) (fun _ _ _ => trivial) sz114 ag114 rfl rfl (.d (.agg (Alert.enc a_1))) rfl wz (h_ldr 0 1 (.inl rfl) (fun _ _ _ => trivial) sz118 ag118 rfl rfl (.d (.agg (Post.enc p_2))) rfl wz ?_)))))
  obtain ⟨r_8, hr_9, hF⟩ := bind_some hF
  refine h_call0 (alert_reaches_ok hr_9) rfl hb91 rfl rfl rfl rfl wz (h_op (vB r_8) wz rfl (h_op (vI 0) wz rfl (h_nil ?_)))
  obtain rfl := some_inj hF
  exact wH_ret (fin0 (.inr rfl) [(vB r_8), (vI 0)] ⟨rfl, ⟨rfl, trivial⟩⟩ rfl rfl rfl)
theorem keep_errs_ok {l_1 : (List Int)} {r : Int} (hF : keep_errs l_1 = some r) :
  FnM Tryz.prog 21 [(vL eI l_1)] [] (vI r) [] := by
 refine FnM.of_wH ⟨Tryz.prog, 15, [], []⟩ rfl Tryz.func21 rfl rfl (Nat.le_of_ble_eq_true rfl) (by kernel_rfl) ?_
 unfold keep_errs at hF
 refine wH_seq (wH_region (h_op (vI 0) wz rfl (h_nil (wH_seq (wH_seq (wH_region (h_op (vL eI l_1) wz rfl (h_len un123 rfl wz (h_op (vI 0) wz rfl (h_nil ?_))))))))))
 obtain ⟨o_10, hj_11, hF⟩ := bind_some hF
 obtain ⟨hn_6, hj_11⟩ := forL_some hj_11
 refine wH_join (β := (Unit)) (fun (s_7 : Unit) => ([] : List (Nat × V))) (fun (s_7 : Unit) => ([] : Hp)) (fun p => o_10 = .go p) ?_ ?_
 ·refine wH_block (wH_loop (β := Nat × (List Int) × (Unit)) (fun p => (fun (k_2 : Nat) (l_3 : List Int) (s_7 : Unit) => ([(5, (vL eI l_1)), (6, (vI (l_1.length : Int))), (7, (vI (k_2 : Int)))] : List (Nat × V))) p.1 p.2.1 p.2.2) (fun p => (fun (k_2 : Nat) (l_3 : List Int) (s_7 : Unit) => ([] : Hp)) p.1 p.2.1 p.2.2) (fun p => forR (fun k x s => keep_errs_L1 k x s) p.2.1 p.1 p.2.2 = some o_10 ∧ (l_1).drop p.1 = p.2.1) (fun p => p.2.1.length) (0, l_1, ()) ⟨hj_11, rfl⟩ rfl (pre_r rfl) ?_)
  rintro ⟨k_2, l_3, s_7⟩ ⟨hL_9, hD_5⟩
  dsimp only at hL_9 hD_5
  cases l_3 with
  | nil =>
   obtain rfl := some_inj hL_9
   refine wH_seq (wH_region (h_op (vB (decide ((k_2 : Int) < (l_1.length : Int)))) wz rfl (h_nil ?_)))
   refine wH_seq (wH_iff rfl (drop_nil hD_5) (wH_exit ?_))
   exact cut_mk (s_7) rfl rfl (pre_r rfl)
  | cons x_4 l_3 =>
   obtain ⟨c_, hc_8, hL_9⟩ := bind_some hL_9
   refine wH_seq (wH_region (h_op (vB (decide ((k_2 : Int) < (l_1.length : Int)))) wz rfl (h_nil ?_)))
   refine wH_seq (wH_ift rfl (drop_cons hD_5) (wH_skip ?_))
   unfold keep_errs_L1 at hc_8
   refine wH_seq (wH_block (wH_seq (wH_region (h_ia es123 rfl rfl (drop_idx hD_5) rfl wz (h_ldc sz30 ag30 rfl (vI x_4) rfl wz (h_op (vI x_4) wz rfl (h_nil (wH_seq (wH_region (h_op (vI x_4) wz rfl (h_op (vB (x_4 != 0)) wz rfl (h_nil ?_))))))))))))
   rcases cond_some hc_8 with ⟨hc_12, hc_8⟩ | ⟨hc_12, hc_8⟩
   ·refine wH_ift rfl hc_12 (wH_seq (wH_region (h_op (vI x_4) wz rfl (h_op (vI x_4) wz rfl (h_nil ?_)))))
    obtain rfl := some_inj hc_8
    obtain rfl := some_inj hL_9
    obtain rfl := some_inj hF
    exact wH_ret (fin0 (.inr rfl) [(vI x_4)] ⟨rfl, trivial⟩ rfl rfl rfl)
   ·refine wH_iff rfl hc_12 (wH_skip (wH_region (h_opw (w64_next hD_5 hn_6) wz rfl (h_op (vI ((k_2 + 1 : Nat) : Int)) wz rfl (h_nil ?_)))))
    obtain rfl := some_inj hc_8
    exact loop_mk (k_2 + 1, l_3, ()) ⟨hL_9, drop_next hD_5⟩ (Nat.lt_succ_self _) rfl (pre_r rfl)
 ·rintro s_7 ho_ sl_ H_ hp_ hq_
  subst ho_
  refine wH_at _ hp_ hq_ (wH_seq (wH_region (h_op (vI 0) wz rfl (h_nil ?_))))
  obtain rfl := some_inj hF
  exact wH_ret (fin0 (.inr rfl) [(vI 0)] ⟨rfl, trivial⟩ rfl rfl rfl)
theorem keep_ready_ok {r : Bool} (hF : keep_ready  = some r) :
  FnM Tryz.prog 14 [] [] (vB r) [] := by
 refine FnM.of_wH ⟨Tryz.prog, 75, [], []⟩ rfl Tryz.func14 rfl rfl (Nat.le_of_ble_eq_true rfl) (by kernel_rfl) ?_
 unfold keep_ready at hF
 refine wH_seq (wH_region (h_op (vB false) wz rfl (h_nil (wH_seq (wH_region (h_op (.d (.agg (Rect.enc (⟨0, 0, 2, 2⟩ : Rect)))) wz (by kernel_rfl) (h_op (.d (.agg (Rect.enc (⟨1, 1, 2, 2⟩ : Rect)))) wz (by kernel_rfl) (h_lit (([(⟨0, 0, 2, 2⟩ : Rect), (⟨1, 1, 2, 2⟩ : Rect)] : List Rect).map Rect.enc) es27 ez27 rfl rfl rfl rfl rfl wz ?_))))))))
 obtain ⟨r_1, hr_2, hF⟩ := bind_some hF
 refine h_call0 (screen_Area_ok hr_2) rfl hb19 rfl rfl rfl rfl wz (h_op (.tup [(vI r_1.1), (vI r_1.2)]) wz rfl (h_op (vI r_1.1) wz rfl (h_op (vI r_1.2) wz rfl (h_op (vI r_1.1) wz rfl (h_op (vI r_1.2) wz rfl (h_nil (wH_seq (wH_region (h_op (.agg [(vS (⟨#[97]⟩ : ByteArray)), (vS (⟨#[98]⟩ : ByteArray)), (vI 0), (vI 0), (vI 0), (vI 1), (vI 127), .nil, (vI 1), (vI 2), (vI 0), .nil, (vB false)]) wz (by kernel_rfl) (h_op (.d (.agg (Window.enc (⟨0, 86400000⟩ : Window)))) wz (by kernel_rfl) ?_))))))))))
 obtain ⟨r_3, hr_4, hF⟩ := bind_some hF
 refine h_call0 (schedule_Times_ok hr_4) rfl hb50 rfl rfl rfl rfl wz (h_op (.tup [(vL Window.enc r_3.1), (vI r_3.2)]) wz rfl (h_op (vL Window.enc r_3.1) wz rfl (h_op (vI r_3.2) wz rfl (h_op (vL Window.enc r_3.1) wz rfl (h_op (vI r_3.2) wz rfl (h_nil (wH_seq (wH_region (h_op (.d (.agg (Window.enc (⟨0, 100⟩ : Window)))) wz (by kernel_rfl) (h_op (.agg [(vS (⟨#[97]⟩ : ByteArray)), (vS (⟨#[]⟩ : ByteArray)), (vI 0), (vI 100), .nil, (vI 10), (vI 0), (vI 0)]) wz (by kernel_rfl) ?_))))))))))
 obtain ⟨r_5, hr_6, hF⟩ := bind_some hF
 refine h_call0 (booking_Due_ok hr_6) rfl hb38 rfl rfl rfl rfl wz (h_op (.tup [(vI r_5.1), (vI r_5.2)]) wz rfl (h_op (vI r_5.1) wz rfl (h_op (vI r_5.2) wz rfl (h_op (vI r_5.1) wz rfl (h_op (vI r_5.2) wz rfl (h_nil (wH_seq (wH_region (h_op (.d (.agg (Beat.enc (⟨(⟨#[112]⟩ : ByteArray), 0, 100⟩ : Beat)))) wz (by kernel_rfl) (h_op (.d (.agg (Beat.enc (⟨(⟨#[112]⟩ : ByteArray), 1000, 1300⟩ : Beat)))) wz (by kernel_rfl) (h_lit (([(⟨(⟨#[112]⟩ : ByteArray), 0, 100⟩ : Beat), (⟨(⟨#[112]⟩ : ByteArray), 1000, 1300⟩ : Beat)] : List Beat).map Beat.enc) es81 ez81 rfl rfl rfl rfl rfl wz ?_)))))))))))
 obtain ⟨r_7, hr_8, hF⟩ := bind_some hF
 refine h_call0 (proof_Right_ok hr_8) rfl hb35 rfl rfl rfl rfl wz (h_op (.tup [(vI r_7.1), (vI r_7.2)]) wz rfl (h_op (vI r_7.1) wz rfl (h_op (vI r_7.2) wz rfl (h_op (vI r_7.1) wz rfl (h_op (vI r_7.2) wz rfl (h_nil (wH_at (H0 := ([] : Hp)) ([(1, (vI r_1.1)), (2, (vI r_1.2)), (3, (vL Window.enc r_3.1)), (4, (vI r_3.2)), (5, (vI r_5.1)), (6, (vI r_5.2)), (7, (vI r_7.1)), (8, (vI r_7.2))] : List (Nat × V)) (by kernel_rfl) (pre_mk (by kernel_rfl)) (wH_seq (wH_region (h_op (.d (.agg (Rect.enc (⟨0, 0, 2, 2⟩ : Rect)))) wz (by kernel_rfl) (h_lit (([(⟨0, 0, 2, 2⟩ : Rect)] : List Rect).map Rect.enc) es27 ez27 rfl rfl rfl rfl rfl wz (h_op (.agg [(vS (⟨#[97]⟩ : ByteArray)), (vS (⟨#[115]⟩ : ByteArray)), (vI 1), .nil, (vI 0), (vI 5), (vI 1), (vL Rect.enc ([(⟨0, 0, 2, 2⟩ : Rect)] : List Rect)), (vS (⟨#[120]⟩ : ByteArray))]) wz (by kernel_rfl) (h_alloc 0 (.inl rfl) z114 rfl wz (fun n_9 => h_str 0 (.inl rfl) (fun _ _ _ => trivial) 0 sz114 rfl rfl [(vS (⟨#[97]⟩ : ByteArray)), (vS (⟨#[115]⟩ : ByteArray)), (vI 1), .nil, (vI 0), (vI 5), (vI 1), (vL Rect.enc ([(⟨0, 0, 2, 2⟩ : Rect)] : List Rect)), (vS (⟨#[120]⟩ : ByteArray))] rfl wz (h_nil (wH_seq (wH_region (h_ldr 0 0 (.inl rfl) (fun _ _ _ => trivial) sz114 ag114 rfl rfl (.agg [(vS (⟨#[97]⟩ : ByteArray)), (vS (⟨#[115]⟩ : ByteArray)), (vI 1), .nil, (vI 0), (vI 5), (vI 1), (vL Rect.enc ([(⟨0, 0, 2, 2⟩ : Rect)] : List Rect)), (vS (⟨#[120]⟩ : ByteArray))]) rfl wz (h_op (.d (.agg (Post.enc (⟨(⟨#[112]⟩ : ByteArray), 1, 1⟩ : Post)))) wz (by kernel_rfl) ?_)))))))))))))))))))
 obtain ⟨r_10, hr_11, hF⟩ := bind_some hF
 refine h_call0 (alert_Reaches_ok hr_11) rfl hb51 rfl rfl rfl rfl wz (h_op (.tup [(vB r_10.1), (vI r_10.2)]) wz rfl (h_op (vB r_10.1) wz rfl (h_op (vI r_10.2) wz rfl (h_op (vB r_10.1) wz rfl (h_op (vI r_10.2) wz rfl (h_nil (wH_seq ?_)))))))
 obtain ⟨v_12, h_13, hF⟩ := bind_some hF
 refine wH_join (β := Unit) (fun _ => ([(0, (vB v_12))] : List (Nat × V))) (fun _ => ([(n_9, some (.cells 9 [(vS (⟨#[97]⟩ : ByteArray)), (vS (⟨#[115]⟩ : ByteArray)), (vI 1), .nil, (vI 0), (vI 5), (vI 1), (vL Rect.enc ([(⟨0, 0, 2, 2⟩ : Rect)] : List Rect)), (vS (⟨#[120]⟩ : ByteArray))]))] : Hp)) (fun _ => True) ?_ ?_
 ·refine wH_region (h_op (vI r_1.2) wz rfl (h_op (vI r_3.2) wz rfl (h_op (vI r_5.2) wz rfl (h_op (vI r_7.2) wz rfl (h_op (vI r_10.2) wz rfl (h_lit (([r_1.2, r_3.2, r_5.2, r_7.2, r_10.2] : List Int).map eI) es123 ez123 rfl rfl rfl rfl rfl wz ?_))))))
  obtain ⟨r_14, hr_15, h_13⟩ := bind_some h_13
  refine h_call0 (keep_errs_ok hr_15) rfl hb21 rfl rfl rfl rfl wz (h_op (vB (r_14 == 0)) wz rfl ?_)
  rcases cond_some h_13 with ⟨hc_16, h_13⟩ | ⟨hc_16, h_13⟩
  ·refine h_movb rfl hc_16 wz (h_op (vI r_1.1) (wg rfl rfl rfl) rfl (h_op (vB (r_1.1 == 7)) (wg rfl rfl rfl) rfl (h_op (vB (r_1.1 == 7)) wz rfl ?_)))
   rcases cond_some h_13 with ⟨hc_17, h_13⟩ | ⟨hc_17, h_13⟩
   ·refine h_movb rfl hc_17 wz (h_op (vL Window.enc r_3.1) (wg rfl rfl rfl) rfl (h_len un108 rfl (wg rfl rfl rfl) (h_op (vB ((r_3.1.length : Int) == 1)) (wg rfl rfl rfl) rfl (h_op (vB ((r_3.1.length : Int) == 1)) wz rfl ?_))))
    rcases cond_some h_13 with ⟨hc_18, h_13⟩ | ⟨hc_18, h_13⟩
    ·refine h_movb rfl hc_18 wz (h_op (vI r_5.1) (wg rfl rfl rfl) rfl (h_op (vB (r_5.1 == 5)) (wg rfl rfl rfl) rfl (h_op (vB (r_5.1 == 5)) wz rfl ?_)))
     rcases cond_some h_13 with ⟨hc_19, h_13⟩ | ⟨hc_19, h_13⟩
     ·refine h_movb rfl hc_19 wz (h_op (vI r_7.1) (wg rfl rfl rfl) rfl (h_op (vB (r_7.1 == 500)) (wg rfl rfl rfl) rfl (h_op (vB (r_7.1 == 500)) wz rfl ?_)))
      rcases cond_some h_13 with ⟨hc_20, h_13⟩ | ⟨hc_20, h_13⟩
      ·refine h_movb rfl hc_20 wz (h_op (vB r_10.1) (wg rfl rfl rfl) rfl (h_op (vB r_10.1) wz rfl (h_op (vB r_10.1) wz rfl (h_nil ?_))))
       obtain rfl := some_inj h_13
       exact cut_mk () trivial rfl (pre_r rfl)
      ·refine h_movb rfl hc_20 wz (h_skip (wg rfl rfl rfl) (h_op (vB false) wz rfl (h_op (vB false) wz rfl (h_nil ?_))))
       obtain rfl := some_inj h_13
       exact cut_mk () trivial rfl (pre_r rfl)
     ·refine h_movb rfl hc_19 wz (h_skip (wg rfl rfl rfl) (h_skip (wg rfl rfl rfl) (h_op (vB false) wz rfl (h_op (vB false) wz rfl (h_skip (wg rfl rfl rfl) (h_op (vB false) wz rfl (h_op (vB false) wz rfl (h_nil ?_))))))))
      obtain rfl := some_inj h_13
      exact cut_mk () trivial rfl (pre_r rfl)
    ·refine h_movb rfl hc_18 wz (h_skip (wg rfl rfl rfl) (h_skip (wg rfl rfl rfl) (h_op (vB false) wz rfl (h_op (vB false) wz rfl (h_skip (wg rfl rfl rfl) (h_skip (wg rfl rfl rfl) (h_op (vB false) wz rfl (h_op (vB false) wz rfl (h_skip (wg rfl rfl rfl) (h_op (vB false) wz rfl (h_op (vB false) wz rfl (h_nil ?_))))))))))))
     obtain rfl := some_inj h_13
     exact cut_mk () trivial rfl (pre_r rfl)
   ·refine h_movb rfl hc_17 wz (h_skip (wg rfl rfl rfl) (h_skip (wg rfl rfl rfl) (h_skip (wg rfl rfl rfl) (h_op (vB false) wz rfl (h_op (vB false) wz rfl (h_skip (wg rfl rfl rfl) (h_skip (wg rfl rfl rfl) (h_op (vB false) wz rfl (h_op (vB false) wz rfl (h_skip (wg rfl rfl rfl) (h_skip (wg rfl rfl rfl) (h_op (vB false) wz rfl (h_op (vB false) wz rfl (h_skip (wg rfl rfl rfl) (h_op (vB false) wz rfl (h_op (vB false) wz rfl (h_nil ?_)))))))))))))))))
    obtain rfl := some_inj h_13
    exact cut_mk () trivial rfl (pre_r rfl)
  ·refine h_movb rfl hc_16 wz (h_skip (wg rfl rfl rfl) (h_skip (wg rfl rfl rfl) (h_op (vB false) wz rfl (h_op (vB false) wz rfl (h_skip (wg rfl rfl rfl) (h_skip (wg rfl rfl rfl) (h_skip (wg rfl rfl rfl) (h_op (vB false) wz rfl (h_op (vB false) wz rfl (h_skip (wg rfl rfl rfl) (h_skip (wg rfl rfl rfl) (h_op (vB false) wz rfl (h_op (vB false) wz rfl (h_skip (wg rfl rfl rfl) (h_skip (wg rfl rfl rfl) (h_op (vB false) wz rfl (h_op (vB false) wz rfl (h_skip (wg rfl rfl rfl) (h_op (vB false) wz rfl (h_op (vB false) wz rfl (h_nil ?_)))))))))))))))))))))
   obtain rfl := some_inj h_13
   exact cut_mk () trivial rfl (pre_r rfl)
 ·rintro ⟨⟩ _ sl_ H_ hp_ hq_
  refine wH_at _ hp_ hq_ ?_
  obtain rfl := some_inj hF
  exact wH_ret (fin0 (.inr rfl) [(vB v_12)] ⟨rfl, trivial⟩ rfl rfl rfl)
theorem keep_has_ok {r_1 : Rect} {x_2 : Int} {y_3 : Int} {r : Bool} (hF : keep_has r_1 x_2 y_3 = some r) :
  FnM Tryz.prog 31 [(.d (.agg (Rect.enc r_1))), (vI x_2), (vI y_3)] [] (vB r) [] := by
 refine FnM.of_wH ⟨Tryz.prog, 35, [], []⟩ rfl Tryz.func31 rfl rfl (Nat.le_of_ble_eq_true rfl) (by kernel_rfl) ?_
 unfold keep_has at hF
 refine wH_seq (wH_region (h_box 0 (.inl rfl) [(vI r_1.X), (vI r_1.Y), (vI r_1.W), (vI r_1.H)] rfl rfl wz (fun n_4 => h_op (vB false) wz rfl (h_nil (wH_seq ?_)))))
 obtain ⟨v_5, h_6, hF⟩ := bind_some hF
 refine wH_join (β := Unit) (fun _ => ([(6, (vB v_5))] : List (Nat × V))) (fun _ => ([(n_4, some (.cells 4 [(vI r_1.X), (vI r_1.Y), (vI r_1.W), (vI r_1.H)]))] : Hp)) (fun _ => True) ?_ ?_
 ·refine wH_region (h_far pl29_0 rfl 0 rfl wz (h_ldr 0 0 (.inl rfl) (fun _ _ _ => trivial) sz3 ag3 rfl rfl (vI r_1.X) rfl wz (h_op (vI x_2) wz rfl (h_op (vB (decide (r_1.X ≤ x_2))) wz rfl ?_))))
  rcases cond_some h_6 with ⟨hc_7, h_6⟩ | ⟨hc_7, h_6⟩
  ·refine h_movb rfl hc_7 wz (h_op (vI x_2) (wg rfl rfl rfl) rfl (h_far pl29_0 rfl 0 rfl (wg rfl rfl rfl) (h_ldr 0 0 (.inl rfl) (fun _ _ _ => trivial) sz3 ag3 rfl rfl (vI r_1.X) rfl (wg rfl rfl rfl) (h_far pl29_2 rfl 2 rfl (wg rfl rfl rfl) (h_ldr 0 0 (.inl rfl) (fun _ _ _ => trivial) sz3 ag3 rfl rfl (vI r_1.W) rfl (wg rfl rfl rfl) (h_op (vI (w64 (r_1.X + r_1.W))) (wg rfl rfl rfl) rfl (h_op (vB (decide (x_2 < (w64 (r_1.X + r_1.W))))) (wg rfl rfl rfl) rfl (h_op (vB (decide (x_2 < (w64 (r_1.X + r_1.W))))) wz rfl ?_))))))))
   rcases cond_some h_6 with ⟨hc_8, h_6⟩ | ⟨hc_8, h_6⟩
   ·refine h_movb rfl hc_8 wz (h_far pl29_1 rfl 1 rfl (wg rfl rfl rfl) (h_ldr 0 0 (.inl rfl) (fun _ _ _ => trivial) sz3 ag3 rfl rfl (vI r_1.Y) rfl (wg rfl rfl rfl) (h_op (vI y_3) (wg rfl rfl rfl) rfl (h_op (vB (decide (r_1.Y ≤ y_3))) (wg rfl rfl rfl) rfl (h_op (vB (decide (r_1.Y ≤ y_3))) wz rfl ?_)))))
    rcases cond_some h_6 with ⟨hc_9, h_6⟩ | ⟨hc_9, h_6⟩
    ·refine h_movb rfl hc_9 wz (h_op (vI y_3) (wg rfl rfl rfl) rfl (h_far pl29_1 rfl 1 rfl (wg rfl rfl rfl) (h_ldr 0 0 (.inl rfl) (fun _ _ _ => trivial) sz3 ag3 rfl rfl (vI r_1.Y) rfl (wg rfl rfl rfl) (h_far pl29_3 rfl 3 rfl (wg rfl rfl rfl) (h_ldr 0 0 (.inl rfl) (fun _ _ _ => trivial) sz3 ag3 rfl rfl (vI r_1.H) rfl (wg rfl rfl rfl) (h_op (vI (w64 (r_1.Y + r_1.H))) (wg rfl rfl rfl) rfl (h_op (vB (decide (y_3 < (w64 (r_1.Y + r_1.H))))) (wg rfl rfl rfl) rfl (h_op (vB (decide (y_3 < (w64 (r_1.Y + r_1.H))))) wz rfl (h_op (vB (decide (y_3 < (w64 (r_1.Y + r_1.H))))) wz rfl (h_nil ?_))))))))))
     obtain rfl := some_inj h_6
     exact cut_mk () trivial rfl (pre_r rfl)
    ·refine h_movb rfl hc_9 wz (h_skip (wg rfl rfl rfl) (h_skip (wg rfl rfl rfl) (h_skip (wg rfl rfl rfl) (h_skip (wg rfl rfl rfl) (h_skip (wg rfl rfl rfl) (h_skip (wg rfl rfl rfl) (h_skip (wg rfl rfl rfl) (h_op (vB false) wz rfl (h_op (vB false) wz rfl (h_nil ?_))))))))))
     obtain rfl := some_inj h_6
     exact cut_mk () trivial rfl (pre_r rfl)
   ·refine h_movb rfl hc_8 wz (h_skip (wg rfl rfl rfl) (h_skip (wg rfl rfl rfl) (h_skip (wg rfl rfl rfl) (h_skip (wg rfl rfl rfl) (h_op (vB false) wz rfl (h_op (vB false) wz rfl (h_skip (wg rfl rfl rfl) (h_skip (wg rfl rfl rfl) (h_skip (wg rfl rfl rfl) (h_skip (wg rfl rfl rfl) (h_skip (wg rfl rfl rfl) (h_skip (wg rfl rfl rfl) (h_skip (wg rfl rfl rfl) (h_op (vB false) wz rfl (h_op (vB false) wz rfl (h_nil ?_))))))))))))))))
    obtain rfl := some_inj h_6
    exact cut_mk () trivial rfl (pre_r rfl)
  ·refine h_movb rfl hc_7 wz (h_skip (wg rfl rfl rfl) (h_skip (wg rfl rfl rfl) (h_skip (wg rfl rfl rfl) (h_skip (wg rfl rfl rfl) (h_skip (wg rfl rfl rfl) (h_skip (wg rfl rfl rfl) (h_skip (wg rfl rfl rfl) (h_op (vB false) wz rfl (h_op (vB false) wz rfl (h_skip (wg rfl rfl rfl) (h_skip (wg rfl rfl rfl) (h_skip (wg rfl rfl rfl) (h_skip (wg rfl rfl rfl) (h_op (vB false) wz rfl (h_op (vB false) wz rfl (h_skip (wg rfl rfl rfl) (h_skip (wg rfl rfl rfl) (h_skip (wg rfl rfl rfl) (h_skip (wg rfl rfl rfl) (h_skip (wg rfl rfl rfl) (h_skip (wg rfl rfl rfl) (h_skip (wg rfl rfl rfl) (h_op (vB false) wz rfl ?_)))))))))))))))))))))))
   refine h_op (vB false) wz rfl (h_nil ?_)
   obtain rfl := some_inj h_6
   exact cut_mk () trivial rfl (pre_r rfl)
 ·rintro ⟨⟩ _ sl_ H_ hp_ hq_
  refine wH_at _ hp_ hq_ ?_
  obtain rfl := some_inj hF
  exact wH_ret (fin0 (.inr rfl) [(vB v_5)] ⟨rfl, trivial⟩ rfl rfl rfl)
theorem mk_Stream_Pick_ok {s_1 : Stream} {l_2 : (List Int)} {r : Int × Stream} (hF : mk_Stream_Pick s_1 l_2 = some r) :
  FnM Tryz.prog 57 [(.ref (extN 0) 0 0), (vL eI l_2)] [(.cells 2 [(vL eI s_1.L), (vI s_1.f_at)])] (vI r.1) [some (.cells 2 [(vL eI r.2.L), (vI r.2.f_at)])] := by
 refine FnM.of_wH ⟨Tryz.prog, 12, [], []⟩ rfl Tryz.func57 rfl rfl (Nat.le_of_ble_eq_true rfl) (by kernel_rfl) ?_
 unfold mk_Stream_Pick at hF
 refine wH_seq (wH_region (h_op (vI 0) wz rfl (h_nil (wH_seq (wH_region (h_op (vL eI l_2) wz rfl (h_op (.ref (extN 0) 0 0) wz rfl (h_op (vL eI l_2) wz rfl (h_len un22 rfl wz ?_)))))))))
 obtain ⟨r_3, hr_4, hF⟩ := bind_some hF
 refine h_callq 0 [0] (.inl rfl) (fun _ _ _ => trivial) (mk_Stream_Next_ok hr_4) rfl hb42 rfl (by kernel_rfl) (by kernel_rfl) (by kernel_rfl) (by kernel_rfl) (by kernel_rfl) (by kernel_rfl) (by kernel_rfl) (by decide) (by kernel_rfl) wz (vI r_3.1) (by kernel_rfl) ([((extN 0), some (.cells 2 [(vL eI r_3.2.L), (vI r_3.2.f_at)]))] : Hp) (by kernel_rfl) ?_
 obtain ⟨y_6, hy_7, hF⟩ := bind_some hF
 refine h_ia es22 rfl rfl hy_7 rfl wz (h_ldc sz3 ag3 rfl (vI y_6) rfl wz (h_op (vI y_6) wz rfl (h_nil ?_)))
 obtain rfl := some_inj hF
 exact wH_ret (finB (.inr rfl) [(vI y_6)] _ [0] [extN 0] ⟨rfl, trivial⟩ (.cons (co_data rfl rfl) (.nil)) (by kernel_rfl) ⟨(by kernel_rfl), trivial⟩ (by decide) (by kernel_rfl))
theorem mk_Stream_Flip_ok {s_1 : Stream} {n_2 : Int} {r : Bool × Stream} (hF : mk_Stream_Flip s_1 n_2 = some r) :
  FnM Tryz.prog 59 [(.ref (extN 0) 0 0), (vI n_2)] [(.cells 2 [(vL eI s_1.L), (vI s_1.f_at)])] (vB r.1) [some (.cells 2 [(vL eI r.2.L), (vI r.2.f_at)])] := by
 refine FnM.of_wH ⟨Tryz.prog, 9, [], []⟩ rfl Tryz.func59 rfl rfl (Nat.le_of_ble_eq_true rfl) (by kernel_rfl) ?_
 unfold mk_Stream_Flip at hF
 refine wH_seq (wH_region (h_op (vB false) wz rfl (h_nil (wH_seq (wH_region (h_op (.ref (extN 0) 0 0) wz rfl (h_op (vI n_2) wz rfl ?_)))))))
 obtain ⟨r_3, hr_4, hF⟩ := bind_some hF
 refine h_callq 0 [0] (.inl rfl) (fun _ _ _ => trivial) (mk_Stream_Next_ok hr_4) rfl hb42 rfl (by kernel_rfl) (by kernel_rfl) (by kernel_rfl) (by kernel_rfl) (by kernel_rfl) (by kernel_rfl) (by kernel_rfl) (by decide) (by kernel_rfl) wz (vI r_3.1) (by kernel_rfl) ([((extN 0), some (.cells 2 [(vL eI r_3.2.L), (vI r_3.2.f_at)]))] : Hp) (by kernel_rfl) (h_op (vB (r_3.1 == 0)) wz rfl (h_op (vB (r_3.1 == 0)) wz rfl (h_nil ?_)))
 obtain rfl := some_inj hF
 exact wH_ret (finB (.inr rfl) [(vB (r_3.1 == 0))] _ [0] [extN 0] ⟨rfl, trivial⟩ (.cons (co_data rfl rfl) (.nil)) (by kernel_rfl) ⟨(by kernel_rfl), trivial⟩ (by decide) (by kernel_rfl))
theorem mk_Stream_RightLayout_ok {s_1 : Stream} {r : Layout × Stream} (hF : mk_Stream_RightLayout s_1 = some r) :
  FnM Tryz.prog 27 [(.ref (extN 0) 0 0)] [(.cells 2 [(vL eI s_1.L), (vI s_1.f_at)])] (.d (.agg (Layout.enc r.1))) [some (.cells 2 [(vL eI r.2.L), (vI r.2.f_at)])] := by
 refine FnM.of_wH ⟨Tryz.prog, 66, [], []⟩ rfl Tryz.func27 rfl rfl (Nat.le_of_ble_eq_true rfl) (by kernel_rfl) ?_
 unfold mk_Stream_RightLayout at hF
 refine wH_seq (wH_region (h_alloc 0 (.inl rfl) z61 rfl wz (fun n_2 => h_nil (wH_seq (wH_region (h_op (.ref (extN 0) 0 0) wz rfl (h_lit (([5, 8, 10, 16] : List Int).map eI) es22 ez22 rfl rfl rfl rfl rfl wz ?_)))))))
 obtain ⟨r_3, hr_4, hF⟩ := bind_some hF
 refine h_callq 0 [0] (.inl rfl) (fun _ _ _ => trivial) (mk_Stream_Pick_ok hr_4) rfl hb57 rfl (by kernel_rfl) (by kernel_rfl) (by kernel_rfl) (by kernel_rfl) (by kernel_rfl) (by kernel_rfl) (by kernel_rfl) (by decide) (by kernel_rfl) wz (vI r_3.1) (by kernel_rfl) ([((extN 0), some (.cells 2 [(vL eI r_3.2.L), (vI r_3.2.f_at)])), (n_2, some (.cells 4 [(vS (⟨#[]⟩ : ByteArray)), (vI 0), (vI 0), .nil]))] : Hp) (by kernel_rfl) (h_op (.ref (extN 0) 0 0) wz rfl (h_lit (([4, 6, 9] : List Int).map eI) es22 ez22 rfl rfl rfl rfl rfl wz ?_))
 obtain ⟨r_6, hr_7, hF⟩ := bind_some hF
 refine h_callq 0 [0] (.inl rfl) (fun _ _ _ => trivial) (mk_Stream_Pick_ok hr_7) rfl hb57 rfl (by kernel_rfl) (by kernel_rfl) (by kernel_rfl) (by kernel_rfl) (by kernel_rfl) (by kernel_rfl) (by kernel_rfl) (by decide) (by kernel_rfl) wz (vI r_6.1) (by kernel_rfl) ([((extN 0), some (.cells 2 [(vL eI r_6.2.L), (vI r_6.2.f_at)])), (n_2, some (.cells 4 [(vS (⟨#[]⟩ : ByteArray)), (vI 0), (vI 0), .nil]))] : Hp) (by kernel_rfl) (h_op (.agg [(vS (⟨#[108]⟩ : ByteArray)), (vI r_3.1), (vI r_6.1), .nil]) wz (by kernel_rfl) (h_alloc 0 (.inl rfl) z61 rfl wz (fun n_9 => h_str 0 (.inl rfl) (fun _ _ _ => trivial) 2 sz61 rfl rfl [(vS (⟨#[108]⟩ : ByteArray)), (vI r_3.1), (vI r_6.1), .nil] rfl wz (h_nil (wH_seq (wH_seq (wH_region (h_lit (([(⟨#[122, 97]⟩ : ByteArray), (⟨#[122, 98]⟩ : ByteArray), (⟨#[122, 99]⟩ : ByteArray), (⟨#[122, 100]⟩ : ByteArray)] : List ByteArray).map eS) es66 ez66 rfl rfl rfl rfl rfl wz (h_len un66 rfl wz (h_op (vI 0) wz rfl (h_nil (wH_new (fun n_16 => ?_)))))))))))))
 obtain ⟨o_21, hj_22, hF⟩ := bind_some hF
 obtain ⟨hn_14, hj_22⟩ := forL_some hj_22
 refine wH_join (β := ((List Zone) × (List Int) × Int) × Nm) (fun p => (fun (s_15 : (List Zone) × (List Int) × Int) (n_18 : Nm) => ([(2, (.ref n_2 0 0)), (3, (.ref n_9 0 0))] : List (Nat × V))) p.1 p.2) (fun p => (fun (s_15 : (List Zone) × (List Int) × Int) (n_18 : Nm) => ([((extN 0), some (.cells 2 [(vL eI s_15.2.1), (vI s_15.2.2)])), (n_2, some (.cells 4 [(vS (⟨#[]⟩ : ByteArray)), (vI 0), (vI 0), .nil])), (n_9, some (.cells 4 [(vS (⟨#[108]⟩ : ByteArray)), (vI r_3.1), (vI r_6.1), (gV n_18 6 s_15.1)])), (n_18, gB 6 Zone.enc s_15.1)] : Hp)) p.1 p.2) (fun p => o_21 = .go p.1) ?_ ?_
 ·refine wH_block (wH_loop (β := Nat × (List ByteArray) × ((List Zone) × (List Int) × Int) × Nm) (fun p => (fun (k_10 : Nat) (l_11 : List ByteArray) (s_15 : (List Zone) × (List Int) × Int) (n_18 : Nm) => ([(0, (.ref (extN 0) 0 0)), (2, (.ref n_2 0 0)), (3, (.ref n_9 0 0)), (14, (vL eS ([(⟨#[122, 97]⟩ : ByteArray), (⟨#[122, 98]⟩ : ByteArray), (⟨#[122, 99]⟩ : ByteArray), (⟨#[122, 100]⟩ : ByteArray)] : List ByteArray))), (15, (vI (([(⟨#[122, 97]⟩ : ByteArray), (⟨#[122, 98]⟩ : ByteArray), (⟨#[122, 99]⟩ : ByteArray), (⟨#[122, 100]⟩ : ByteArray)] : List ByteArray).length : Int))), (16, (vI (k_10 : Int)))] : List (Nat × V))) p.1 p.2.1 p.2.2.1 p.2.2.2) (fun p => (fun (k_10 : Nat) (l_11 : List ByteArray) (s_15 : (List Zone) × (List Int) × Int) (n_18 : Nm) => ([((extN 0), some (.cells 2 [(vL eI s_15.2.1), (vI s_15.2.2)])), (n_2, some (.cells 4 [(vS (⟨#[]⟩ : ByteArray)), (vI 0), (vI 0), .nil])), (n_9, some (.cells 4 [(vS (⟨#[108]⟩ : ByteArray)), (vI r_3.1), (vI r_6.1), (gV n_18 6 s_15.1)])), (n_18, gB 6 Zone.enc s_15.1)] : Hp)) p.1 p.2.1 p.2.2.1 p.2.2.2) (fun p => forR (fun k x s => mk_Stream_RightLayout_L1 r_3 r_6 k x s) p.2.1 p.1 p.2.2.1 = some o_21 ∧ (([(⟨#[122, 97]⟩ : ByteArray), (⟨#[122, 98]⟩ : ByteArray), (⟨#[122, 99]⟩ : ByteArray), (⟨#[122, 100]⟩ : ByteArray)] : List ByteArray)).drop p.1 = p.2.1) (fun p => p.2.1.length) (0, ([(⟨#[122, 97]⟩ : ByteArray), (⟨#[122, 98]⟩ : ByteArray), (⟨#[122, 99]⟩ : ByteArray), (⟨#[122, 100]⟩ : ByteArray)] : List ByteArray), (([] : List Zone), r_6.2.L, r_6.2.f_at), n_16) ⟨hj_22, rfl⟩ rfl (pre_r rfl) ?_)
  rintro ⟨k_10, l_11, s_15, n_18⟩ ⟨hL_20, hD_13⟩
  dsimp only at hL_20 hD_13
  cases l_11 with
  | nil =>
   obtain rfl := some_inj hL_20
   refine wH_seq (wH_region (h_op (vB (decide ((k_10 : Int) < (([(⟨#[122, 97]⟩ : ByteArray), (⟨#[122, 98]⟩ : ByteArray), (⟨#[122, 99]⟩ : ByteArray), (⟨#[122, 100]⟩ : ByteArray)] : List ByteArray).length : Int)))) wz rfl (h_nil ?_)))
   refine wH_seq (wH_iff rfl (drop_nil hD_13) (wH_exit ?_))
   exact cut_mk (s_15, n_18) rfl rfl (pre_r rfl)
  | cons x_12 l_11 =>
   obtain ⟨c_, hc_19, hL_20⟩ := bind_some hL_20
   refine wH_seq (wH_region (h_op (vB (decide ((k_10 : Int) < (([(⟨#[122, 97]⟩ : ByteArray), (⟨#[122, 98]⟩ : ByteArray), (⟨#[122, 99]⟩ : ByteArray), (⟨#[122, 100]⟩ : ByteArray)] : List ByteArray).length : Int)))) wz rfl (h_nil ?_)))
   refine wH_seq (wH_ift rfl (drop_cons hD_13) (wH_skip ?_))
   unfold mk_Stream_RightLayout_L1 at hc_19
   refine wH_seq (wH_block (wH_seq (wH_region (h_ia es66 rfl rfl (drop_idx hD_13) rfl wz (h_ldc sz9 ag9 rfl (vS x_12) rfl wz (h_op (vS x_12) wz rfl (h_nil (wH_seq (wH_seq (wH_region (h_op (.ref (extN 0) 0 0) wz rfl ?_)))))))))))
   obtain ⟨r_23, hr_24, hc_19⟩ := bind_some hc_19
   refine h_callq 0 [0] (.inl rfl) (fun _ _ _ => trivial) (mk_Stream_Flip_ok hr_24) rfl hb59 rfl (by kernel_rfl) (by kernel_rfl) (by kernel_rfl) (by kernel_rfl) (by kernel_rfl) (by kernel_rfl) (by kernel_rfl) (by decide) (by kernel_rfl) wz (vB r_23.1) (by kernel_rfl) ([((extN 0), some (.cells 2 [(vL eI r_23.2.L), (vI r_23.2.f_at)])), (n_2, some (.cells 4 [(vS (⟨#[]⟩ : ByteArray)), (vI 0), (vI 0), .nil])), (n_9, some (.cells 4 [(vS (⟨#[108]⟩ : ByteArray)), (vI r_3.1), (vI r_6.1), (gV n_18 6 s_15.1)])), (n_18, gB 6 Zone.enc s_15.1)] : Hp) (by kernel_rfl) (h_nil ?_)
   rcases cond_some hc_19 with ⟨hc_26, hc_19⟩ | ⟨hc_26, hc_19⟩
   ·refine wH_ift rfl hc_26 (wH_exit (wH_region (h_opw (w64_next hD_13 hn_14) wz rfl (h_op (vI ((k_10 + 1 : Nat) : Int)) wz rfl (h_nil ?_)))))
    obtain rfl := some_inj hc_19
    exact loop_mk (k_10 + 1, l_11, (s_15.1, r_23.2.L, r_23.2.f_at), n_18) ⟨hL_20, drop_next hD_13⟩ (Nat.lt_succ_self _) rfl (pre_r rfl)
   ·refine wH_iff rfl hc_26 (wH_skip (wH_seq (wH_draws (h_op (vS x_12) wz rfl (h_op (.ref (extN 0) 0 0) wz rfl (h_far pl61_1 rfl 1 rfl wz (h_ldr 3 2 (.inr (by kernel_rfl)) (fun _ _ ag => trivial) sz3 ag3 rfl rfl (vI r_3.1) rfl wz (h_op (vI (w64 (r_3.1 - 1))) wz rfl ?_))))))))
    obtain ⟨r_27, hr_28, hc_19⟩ := bind_some hc_19
    refine h_callq 5 [0] (.inr (by kernel_rfl)) (fun _ _ ag => by exact ⟨.inr (.inr (by kernel_rfl)), trivial⟩) (mk_Stream_Range_ok hr_28) rfl hb10 rfl (by kernel_rfl) (by kernel_rfl) (by kernel_rfl) (by kernel_rfl) (by kernel_rfl) (by kernel_rfl) (by kernel_rfl) (by decide) (by kernel_rfl) wz (vI r_27.1) (by kernel_rfl) ([((extN 0), some (.cells 2 [(vL eI r_27.2.L), (vI r_27.2.f_at)])), (n_2, some (.cells 4 [(vS (⟨#[]⟩ : ByteArray)), (vI 0), (vI 0), .nil])), (n_9, some (.cells 4 [(vS (⟨#[108]⟩ : ByteArray)), (vI r_3.1), (vI r_6.1), (gV n_18 6 s_15.1)])), (n_18, gB 6 Zone.enc s_15.1)] : Hp) (by kernel_rfl) (h_op (.ref (extN 0) 0 0) wz rfl (h_far pl61_2 rfl 2 rfl wz (h_ldr 8 2 (.inr (by kernel_rfl)) (fun _ _ ag => ⟨.inl ⟨rfl, rfl⟩, ⟨.inr (.inl (dis1 (ag_ne ag (i := 2) (j := 0) rfl rfl (by decide)))), trivial⟩⟩) sz3 ag3 rfl rfl (vI r_6.1) rfl wz (h_op (vI (w64 (r_6.1 - 1))) wz rfl ?_))))
    obtain ⟨r_30, hr_31, hc_19⟩ := bind_some hc_19
    refine h_callq 10 [0] (.inr (by kernel_rfl)) (fun _ _ ag => by exact ⟨.inr (.inr (by kernel_rfl)), ⟨.inr (.inr (by kernel_rfl)), ⟨.inr (.inr (by kernel_rfl)), trivial⟩⟩⟩) (mk_Stream_Range_ok hr_31) rfl hb10 rfl (by kernel_rfl) (by kernel_rfl) (by kernel_rfl) (by kernel_rfl) (by kernel_rfl) (by kernel_rfl) (by kernel_rfl) (by decide) (by kernel_rfl) wz (vI r_30.1) (by kernel_rfl) ([((extN 0), some (.cells 2 [(vL eI r_30.2.L), (vI r_30.2.f_at)])), (n_2, some (.cells 4 [(vS (⟨#[]⟩ : ByteArray)), (vI 0), (vI 0), .nil])), (n_9, some (.cells 4 [(vS (⟨#[108]⟩ : ByteArray)), (vI r_3.1), (vI r_6.1), (gV n_18 6 s_15.1)])), (n_18, gB 6 Zone.enc s_15.1)] : Hp) (by kernel_rfl) (h_op (.d (.agg (Rect.enc (⟨r_27.1, r_30.1, 0, 0⟩ : Rect)))) wz (by kernel_rfl) (h_op (.ref (extN 0) 0 0) wz rfl (h_lit (([0, 0, 1, 2] : List Int).map eI) es22 ez22 rfl rfl rfl rfl rfl wz ?_)))
    obtain ⟨r_33, hr_34, hc_19⟩ := bind_some hc_19
    refine h_callq 14 [0] (.inr (by kernel_rfl)) (fun _ _ ag => by exact ⟨.inr (.inr (by kernel_rfl)), ⟨.inr (.inr (by kernel_rfl)), ⟨.inr (.inr (by kernel_rfl)), ⟨.inr (.inr (by kernel_rfl)), trivial⟩⟩⟩⟩) (mk_Stream_Pick_ok hr_34) rfl hb57 rfl (by kernel_rfl) (by kernel_rfl) (by kernel_rfl) (by kernel_rfl) (by kernel_rfl) (by kernel_rfl) (by kernel_rfl) (by decide) (by kernel_rfl) wz (vI r_33.1) (by kernel_rfl) ([((extN 0), some (.cells 2 [(vL eI r_33.2.L), (vI r_33.2.f_at)])), (n_2, some (.cells 4 [(vS (⟨#[]⟩ : ByteArray)), (vI 0), (vI 0), .nil])), (n_9, some (.cells 4 [(vS (⟨#[108]⟩ : ByteArray)), (vI r_3.1), (vI r_6.1), (gV n_18 6 s_15.1)])), (n_18, gB 6 Zone.enc s_15.1)] : Hp) (by kernel_rfl) (h_op (.d (.agg (Zone.enc (⟨x_12, (⟨r_27.1, r_30.1, 0, 0⟩ : Rect), r_33.1⟩ : Zone)))) wz (by kernel_rfl) (h_alloc 16 (.inr (by kernel_rfl)) z138 rfl wz (fun n_36 => h_str 17 (.inr (by kernel_rfl)) (fun _ _ ag => ⟨.inr (.inr (by kernel_rfl)), ⟨.inr (.inr (by kernel_rfl)), ⟨.inr (.inr (by kernel_rfl)), ⟨.inr (.inr (by kernel_rfl)), ⟨.inr (.inr (by kernel_rfl)), ⟨.inr (.inr (by kernel_rfl)), trivial⟩⟩⟩⟩⟩⟩) 4 sz138 rfl rfl [(vS x_12), (vI r_27.1), (vI r_30.1), (vI 0), (vI 0), (vI r_33.1)] rfl wz (h_nil (wH_seq (wH_draws (h_op (.ref (extN 0) 0 0) wz rfl (h_far pl61_1 rfl 1 rfl wz (h_ldr 2 2 (.inr (by kernel_rfl)) (fun _ _ ag => trivial) sz3 ag3 rfl rfl (vI r_3.1) rfl wz (h_far pl138_1 rfl 1 rfl wz (h_far pl29_0 rfl 1 rfl wz (h_ldr 5 4 (.inr (by kernel_rfl)) (fun _ _ ag => ⟨.inl ⟨rfl, rfl⟩, trivial⟩) sz3 ag3 rfl rfl (vI r_27.1) rfl wz (h_op (vI (w64 (r_3.1 - r_27.1))) wz rfl ?_)))))))))))))
    obtain ⟨r_37, hr_38, hc_19⟩ := bind_some hc_19
    refine h_callq 7 [0] (.inr (by kernel_rfl)) (fun _ _ ag => by exact ⟨.inr (.inr (by kernel_rfl)), ⟨.inr (.inr (by kernel_rfl)), trivial⟩⟩) (mk_Stream_Range_ok hr_38) rfl hb10 rfl (by kernel_rfl) (by kernel_rfl) (by kernel_rfl) (by kernel_rfl) (by kernel_rfl) (by kernel_rfl) (by kernel_rfl) (by decide) (by kernel_rfl) wz (vI r_37.1) (by kernel_rfl) ([((extN 0), some (.cells 2 [(vL eI r_37.2.L), (vI r_37.2.f_at)])), (n_2, some (.cells 4 [(vS (⟨#[]⟩ : ByteArray)), (vI 0), (vI 0), .nil])), (n_9, some (.cells 4 [(vS (⟨#[108]⟩ : ByteArray)), (vI r_3.1), (vI r_6.1), (gV n_18 6 s_15.1)])), (n_18, gB 6 Zone.enc s_15.1), (n_36, some (.cells 6 [(vS x_12), (vI r_27.1), (vI r_30.1), (vI 0), (vI 0), (vI r_33.1)]))] : Hp) (by kernel_rfl) (h_op (.ref (extN 0) 0 0) wz rfl (h_far pl61_2 rfl 2 rfl wz (h_ldr 10 2 (.inr (by kernel_rfl)) (fun _ _ ag => ⟨.inl ⟨rfl, rfl⟩, ⟨.inl ⟨rfl, rfl⟩, ⟨.inr (.inl (dis1 (ag_ne ag (i := 2) (j := 0) rfl rfl (by decide)))), trivial⟩⟩⟩) sz3 ag3 rfl rfl (vI r_6.1) rfl wz (h_far pl138_1 rfl 1 rfl wz (h_far pl29_1 rfl 2 rfl wz (h_ldr 13 4 (.inr (by kernel_rfl)) (fun _ _ ag => ⟨.inl ⟨rfl, rfl⟩, ⟨.inl ⟨rfl, rfl⟩, ⟨.inr (.inl (dis1 (ag_ne ag (i := 4) (j := 0) rfl rfl (by decide)))), ⟨.inl ⟨rfl, rfl⟩, trivial⟩⟩⟩⟩) sz3 ag3 rfl rfl (vI r_30.1) rfl wz (h_op (vI (w64 (r_6.1 - r_30.1))) wz rfl ?_)))))))
    obtain ⟨r_40, hr_41, hc_19⟩ := bind_some hc_19
    refine h_callq 15 [0] (.inr (by kernel_rfl)) (fun _ _ ag => by exact ⟨.inr (.inr (by kernel_rfl)), ⟨.inr (.inr (by kernel_rfl)), ⟨.inr (.inr (by kernel_rfl)), ⟨.inr (.inr (by kernel_rfl)), ⟨.inr (.inr (by kernel_rfl)), trivial⟩⟩⟩⟩⟩) (mk_Stream_Range_ok hr_41) rfl hb10 rfl (by kernel_rfl) (by kernel_rfl) (by kernel_rfl) (by kernel_rfl) (by kernel_rfl) (by kernel_rfl) (by kernel_rfl) (by decide) (by kernel_rfl) wz (vI r_40.1) (by kernel_rfl) ([((extN 0), some (.cells 2 [(vL eI r_40.2.L), (vI r_40.2.f_at)])), (n_2, some (.cells 4 [(vS (⟨#[]⟩ : ByteArray)), (vI 0), (vI 0), .nil])), (n_9, some (.cells 4 [(vS (⟨#[108]⟩ : ByteArray)), (vI r_3.1), (vI r_6.1), (gV n_18 6 s_15.1)])), (n_18, gB 6 Zone.enc s_15.1), (n_36, some (.cells 6 [(vS x_12), (vI r_27.1), (vI r_30.1), (vI 0), (vI 0), (vI r_33.1)]))] : Hp) (by kernel_rfl) (h_far pl138_1 rfl 1 rfl wz (h_far pl29_2 rfl 3 rfl wz (h_str 18 (.inr (by kernel_rfl)) (fun _ _ ag => ⟨.inr (.inr (by kernel_rfl)), ⟨.inr (.inr (by kernel_rfl)), ⟨.inr (.inr (by kernel_rfl)), ⟨.inr (.inr (by kernel_rfl)), ⟨.inr (.inr (by kernel_rfl)), ⟨.inr (.inr (by kernel_rfl)), trivial⟩⟩⟩⟩⟩⟩) 4 sz3 rfl rfl [(vS x_12), (vI r_27.1), (vI r_30.1), (vI r_37.1), (vI 0), (vI r_33.1)] rfl wz (h_far pl138_1 rfl 1 rfl wz (h_far pl29_3 rfl 4 rfl wz (h_str 21 (.inr (by kernel_rfl)) (fun _ _ ag => ⟨.inr (.inr (by kernel_rfl)), ⟨.inr (.inr (by kernel_rfl)), ⟨.inr (.inr (by kernel_rfl)), ⟨.inr (.inr (by kernel_rfl)), ⟨.inr (.inr (by kernel_rfl)), ⟨.inr (.inr (by kernel_rfl)), ⟨.inr (.inr (by kernel_rfl)), trivial⟩⟩⟩⟩⟩⟩⟩) 4 sz3 rfl rfl [(vS x_12), (vI r_27.1), (vI r_30.1), (vI r_37.1), (vI r_40.1), (vI r_33.1)] rfl wz (h_nil (wH_at (H0 := ([((extN 0), some (.cells 2 [(vL eI r_40.2.L), (vI r_40.2.f_at)])), (n_2, some (.cells 4 [(vS (⟨#[]⟩ : ByteArray)), (vI 0), (vI 0), .nil])), (n_9, some (.cells 4 [(vS (⟨#[108]⟩ : ByteArray)), (vI r_3.1), (vI r_6.1), (gV n_18 6 s_15.1)])), (n_18, gB 6 Zone.enc s_15.1), (n_36, some (.cells 6 [(vS x_12), (vI r_27.1), (vI r_30.1), (vI r_37.1), (vI r_40.1), (vI r_33.1)]))] : Hp)) ([(0, (.ref (extN 0) 0 0)), (2, (.ref n_2 0 0)), (3, (.ref n_9 0 0)), (6, (.ref n_36 0 0)), (14, (vL eS ([(⟨#[122, 97]⟩ : ByteArray), (⟨#[122, 98]⟩ : ByteArray), (⟨#[122, 99]⟩ : ByteArray), (⟨#[122, 100]⟩ : ByteArray)] : List ByteArray))), (15, (vI (([(⟨#[122, 97]⟩ : ByteArray), (⟨#[122, 98]⟩ : ByteArray), (⟨#[122, 99]⟩ : ByteArray), (⟨#[122, 100]⟩ : ByteArray)] : List ByteArray).length : Int))), (16, (vI (k_10 : Int)))] : List (Nat × V)) (by kernel_rfl) (pre_mk (by kernel_rfl)) (wH_region (h_far pl61_3 rfl 3 rfl wz (h_ldr 0 2 (.inl rfl) (fun _ _ _ => trivial) sz59 ag59 rfl rfl (gV n_18 6 s_15.1) rfl wz (h_ldr 0 4 (.inl rfl) (fun _ _ _ => trivial) sz138 ag138 rfl rfl (.d (.agg (Zone.enc (⟨x_12, (⟨r_27.1, r_30.1, r_37.1, r_40.1⟩ : Rect), r_33.1⟩ : Zone)))) rfl wz (h_lit (([(⟨x_12, (⟨r_27.1, r_30.1, r_37.1, r_40.1⟩ : Rect), r_33.1⟩ : Zone)] : List Zone).map Zone.enc) es59 ez59 rfl rfl rfl rfl rfl wz ?_)))))))))))))
    obtain ⟨a_43, hz_44, hc_19⟩ := bind_some hc_19
    refine h_appg 0 (.inl rfl) (fun _ _ _ => trivial) (i := 3) el59 el59 sz138 z138 rfl (by decide) by138 (by decide) (fun _ => rfl) rfl rfl rfl hz_44 wz (fun n_45 => h_far pl61_3 rfl 3 rfl wz (h_str 0 (.inl rfl) (fun _ _ _ => trivial) 2 sz59 rfl rfl [(vS (⟨#[108]⟩ : ByteArray)), (vI r_3.1), (vI r_6.1), (gV n_45 6 a_43)] (stC_g rfl) wz (h_nil (wH_region (h_opw (w64_next hD_13 hn_14) wz rfl (h_op (vI ((k_10 + 1 : Nat) : Int)) wz rfl (h_nil ?_)))))))
    obtain rfl := some_inj hc_19
    exact loop_mk (k_10 + 1, l_11, (a_43, r_40.2.L, r_40.2.f_at), n_45) ⟨hL_20, drop_next hD_13⟩ (Nat.lt_succ_self _) rfl (pre_r rfl)
 ·rintro ⟨s_15, n_18⟩ ho_ sl_ H_ hp_ hq_
  subst ho_
  refine wH_at _ hp_ hq_ (wH_seq (wH_frozg 3 rfl (wH_coc 3 2 [(vS (⟨#[108]⟩ : ByteArray)), (vI r_3.1), (vI r_6.1), (vL Zone.enc s_15.1)] rfl rfl (fun S hS => cons_eq (rfl) (cons_eq (rfl) (cons_eq (rfl) (cons_eq (hS) (rfl))))) (wH_region (h_ldr 0 2 (.inl rfl) (fun _ _ _ => trivial) sz61 ag61 rfl rfl (.d (.agg (Layout.enc (⟨(⟨#[108]⟩ : ByteArray), r_3.1, r_6.1, s_15.1⟩ : Layout)))) rfl wz (h_str 0 (.inl rfl) (fun _ _ _ => trivial) 1 sz61 rfl rfl [(vS (⟨#[108]⟩ : ByteArray)), (vI r_3.1), (vI r_6.1), (vL Zone.enc s_15.1)] rfl wz (h_nil ?_)))))))
  obtain rfl := some_inj hF
  exact wH_ret (finB (.inr rfl) [(.d (.agg (Layout.enc (⟨(⟨#[108]⟩ : ByteArray), r_3.1, r_6.1, s_15.1⟩ : Layout))))] _ [0] [extN 0] ⟨⟨1, _, _, _, _, _, _, _, rfl, rfl, sz61, ag61, rfl⟩, trivial⟩ (.cons (co_data rfl rfl) (.nil)) (by kernel_rfl) ⟨(by kernel_rfl), trivial⟩ (by decide) (by kernel_rfl))
theorem screen_CheckLayout_ok {l_1 : Layout} {r : Int} (hF : screen_CheckLayout l_1 = some r) :
  FnM Tryz.prog 64 [(.d (.agg (Layout.enc l_1)))] [] (vI r) [] := by
 refine FnM.of_wH ⟨Tryz.prog, 68, [], []⟩ rfl Tryz.func64 rfl rfl (Nat.le_of_ble_eq_true rfl) (by kernel_rfl) ?_
 unfold screen_CheckLayout at hF
 refine wH_seq (wH_region (h_box 0 (.inl rfl) [(vS l_1.Key), (vI l_1.W), (vI l_1.H), (vL Zone.enc l_1.Zones)] rfl rfl wz (fun n_2 => h_op (vI 0) wz rfl (h_nil (wH_seq (wH_seq (wH_region (h_far pl61_0 rfl 0 rfl wz (h_ldr 0 0 (.inl rfl) (fun _ _ _ => trivial) sz9 ag9 rfl rfl (vS l_1.Key) rfl wz ?_)))))))))
 obtain ⟨r_3, hr_4, hF⟩ := bind_some hF
 refine h_call0 (kit_IsKey_ok hr_4) rfl hb98 rfl rfl rfl rfl wz (h_op (vB (!r_3)) wz rfl (h_nil ?_))
 rcases cond_some hF with ⟨hc_5, hF⟩ | ⟨hc_5, hF⟩
 ·refine wH_ift rfl hc_5 (wH_seq (wH_region (h_op (vI 5) wz rfl (h_nil ?_))))
  obtain rfl := some_inj hF
  exact wH_ret (fin0 (.inr rfl) [(vI 5)] ⟨rfl, trivial⟩ rfl rfl rfl)
 ·refine wH_iff rfl hc_5 (wH_skip (wH_seq (wH_seq (wH_region (h_far pl61_1 rfl 1 rfl wz (h_ldr 0 0 (.inl rfl) (fun _ _ _ => trivial) sz3 ag3 rfl rfl (vI l_1.W) rfl wz (h_far pl61_2 rfl 2 rfl wz (h_ldr 0 0 (.inl rfl) (fun _ _ _ => trivial) sz3 ag3 rfl rfl (vI l_1.H) rfl wz (h_lit (([l_1.W, l_1.H] : List Int).map eI) es22 ez22 rfl rfl rfl rfl rfl wz ?_)))))))))
  obtain ⟨r_6, hr_7, hF⟩ := bind_some hF
  refine h_call0 (screen_sidesFault_ok hr_7) rfl hb44 rfl rfl rfl rfl wz (h_op (vI r_6) wz rfl (h_nil (wH_seq (wH_region (h_op (vI r_6) wz rfl (h_op (vB (r_6 != 0)) wz rfl (h_nil ?_)))))))
  rcases cond_some hF with ⟨hc_8, hF⟩ | ⟨hc_8, hF⟩
  ·refine wH_ift rfl hc_8 (wH_seq (wH_region (h_op (vI r_6) wz rfl (h_op (vI r_6) wz rfl (h_nil ?_)))))
   obtain rfl := some_inj hF
   exact wH_ret (fin0 (.inr rfl) [(vI r_6)] ⟨rfl, trivial⟩ rfl rfl rfl)
  ·refine wH_iff rfl hc_8 (wH_skip (wH_seq (wH_seq (wH_region (h_far pl61_3 rfl 3 rfl wz (h_ldr 0 0 (.inl rfl) (fun _ _ _ => trivial) sz59 ag59 rfl rfl (vL Zone.enc l_1.Zones) rfl wz (h_len un59 rfl wz (h_op (vB (decide ((l_1.Zones.length : Int) > 30))) wz rfl (h_nil ?_)))))))))
   rcases cond_some hF with ⟨hc_9, hF⟩ | ⟨hc_9, hF⟩
   ·refine wH_ift rfl hc_9 (wH_seq (wH_region (h_op (vI 2) wz rfl (h_nil ?_))))
    obtain rfl := some_inj hF
    exact wH_ret (fin0 (.inr rfl) [(vI 2)] ⟨rfl, trivial⟩ rfl rfl rfl)
   ·refine wH_iff rfl hc_9 (wH_skip (wH_seq (wH_seq (wH_region (h_far pl61_3 rfl 3 rfl wz (h_ldr 0 0 (.inl rfl) (fun _ _ _ => trivial) sz59 ag59 rfl rfl (vL Zone.enc l_1.Zones) rfl wz (h_len un59 rfl wz (h_op (vI 0) wz rfl (h_nil ?_)))))))))
    obtain ⟨o_18, hj_19, hF⟩ := bind_some hF
    obtain ⟨hn_14, hj_19⟩ := forL_some hj_19
    refine wH_join (β := (Unit)) (fun (s_15 : Unit) => ([] : List (Nat × V))) (fun (s_15 : Unit) => ([(n_2, some (.cells 4 [(vS l_1.Key), (vI l_1.W), (vI l_1.H), (vL Zone.enc l_1.Zones)]))] : Hp)) (fun p => o_18 = .go p) ?_ ?_
    ·refine wH_block (wH_loop (β := Nat × (List Zone) × (Unit)) (fun p => (fun (k_10 : Nat) (l_11 : List Zone) (s_15 : Unit) => ([(1, (.ref n_2 0 0)), (25, (vL Zone.enc l_1.Zones)), (26, (vI (l_1.Zones.length : Int))), (27, (vI (k_10 : Int)))] : List (Nat × V))) p.1 p.2.1 p.2.2) (fun p => (fun (k_10 : Nat) (l_11 : List Zone) (s_15 : Unit) => ([(n_2, some (.cells 4 [(vS l_1.Key), (vI l_1.W), (vI l_1.H), (vL Zone.enc l_1.Zones)]))] : Hp)) p.1 p.2.1 p.2.2) (fun p => forR (fun k x s => screen_CheckLayout_L1 l_1 k x s) p.2.1 p.1 p.2.2 = some o_18 ∧ (l_1.Zones).drop p.1 = p.2.1) (fun p => p.2.1.length) (0, l_1.Zones, ()) ⟨hj_19, rfl⟩ rfl (pre_r rfl) ?_)
     rintro ⟨k_10, l_11, s_15⟩ ⟨hL_17, hD_13⟩
     dsimp only at hL_17 hD_13
     cases l_11 with
     | nil =>
      obtain rfl := some_inj hL_17
      refine wH_seq (wH_region (h_op (vB (decide ((k_10 : Int) < (l_1.Zones.length : Int)))) wz rfl (h_nil ?_)))
      refine wH_seq (wH_iff rfl (drop_nil hD_13) (wH_exit ?_))
      exact cut_mk (s_15) rfl rfl (pre_r rfl)
     | cons x_12 l_11 =>
      obtain ⟨c_, hc_16, hL_17⟩ := bind_some hL_17
      refine wH_seq (wH_region (h_op (vB (decide ((k_10 : Int) < (l_1.Zones.length : Int)))) wz rfl (h_nil ?_)))
      refine wH_seq (wH_ift rfl (drop_cons hD_13) (wH_skip ?_))
      unfold screen_CheckLayout_L1 at hc_16
      refine wH_seq (wH_block (wH_seq (wH_region (h_op (vI (k_10 : Int)) wz rfl (h_ia es59 rfl rfl (drop_idx hD_13) rfl wz (h_ldc sz138 ag138 rfl (.d (.agg (Zone.enc x_12))) rfl wz (h_alloc 0 (.inl rfl) z138 rfl wz (fun n_20 => h_op (vI (k_10 : Int)) wz rfl (h_str 0 (.inl rfl) (fun _ _ _ => trivial) 1 sz138 rfl rfl [(vS x_12.Key), (vI x_12.On.X), (vI x_12.On.Y), (vI x_12.On.W), (vI x_12.On.H), (vI x_12.Order)] rfl wz (h_nil (wH_seq (wH_seq (wH_region (h_far pl138_0 rfl 0 rfl wz (h_ldr 0 1 (.inl rfl) (fun _ _ _ => trivial) sz9 ag9 rfl rfl (vS x_12.Key) rfl wz ?_)))))))))))))))
      obtain ⟨r_21, hr_22, hc_16⟩ := bind_some hc_16
      refine h_call0 (kit_IsKey_ok hr_22) rfl hb98 rfl rfl rfl rfl wz (h_op (vB (!r_21)) wz rfl (h_nil ?_))
      rcases cond_some hc_16 with ⟨hc_23, hc_16⟩ | ⟨hc_23, hc_16⟩
      ·refine wH_ift rfl hc_23 (wH_seq (wH_region (h_op (vI 5) wz rfl (h_nil ?_))))
       obtain rfl := some_inj hc_16
       obtain rfl := some_inj hL_17
       obtain rfl := some_inj hF
       exact wH_ret (fin0 (.inr rfl) [(vI 5)] ⟨rfl, trivial⟩ rfl rfl rfl)
      ·refine wH_iff rfl hc_23 (wH_skip (wH_seq (wH_seq (wH_region (h_far pl138_1 rfl 1 rfl wz (h_ldr 0 1 (.inl rfl) (fun _ _ _ => trivial) sz29 ag29 rfl rfl (.d (.agg (Rect.enc x_12.On))) rfl wz ?_))))))
       obtain ⟨r_24, hr_25, hc_16⟩ := bind_some hc_16
       refine h_call0 (screen_CheckRect_ok hr_25) rfl hb43 rfl rfl rfl rfl wz (h_op (vI r_24) wz rfl (h_nil (wH_seq (wH_region (h_op (vI r_24) wz rfl (h_op (vB (r_24 != 0)) wz rfl (h_nil ?_)))))))
       rcases cond_some hc_16 with ⟨hc_26, hc_16⟩ | ⟨hc_26, hc_16⟩
       ·refine wH_ift rfl hc_26 (wH_seq (wH_region (h_op (vI r_24) wz rfl (h_op (vI r_24) wz rfl (h_nil ?_)))))
        obtain rfl := some_inj hc_16
        obtain rfl := some_inj hL_17
        obtain rfl := some_inj hF
        exact wH_ret (fin0 (.inr rfl) [(vI r_24)] ⟨rfl, trivial⟩ rfl rfl rfl)
       ·refine wH_iff rfl hc_26 (wH_skip (wH_seq (wH_seq (wH_region (h_far pl138_1 rfl 1 rfl wz (h_ldr 0 1 (.inl rfl) (fun _ _ _ => trivial) sz29 ag29 rfl rfl (.d (.agg (Rect.enc x_12.On))) rfl wz (h_far pl61_1 rfl 1 rfl wz (h_ldr 0 0 (.inl rfl) (fun _ _ _ => trivial) sz3 ag3 rfl rfl (vI l_1.W) rfl wz (h_far pl61_2 rfl 2 rfl wz (h_ldr 0 0 (.inl rfl) (fun _ _ _ => trivial) sz3 ag3 rfl rfl (vI l_1.H) rfl wz ?_))))))))))
        obtain ⟨r_27, hr_28, hc_16⟩ := bind_some hc_16
        refine h_call0 (screen_inside_ok hr_28) rfl hb45 rfl rfl rfl rfl wz (h_op (vB (!r_27)) wz rfl (h_nil ?_))
        rcases cond_some hc_16 with ⟨hc_29, hc_16⟩ | ⟨hc_29, hc_16⟩
        ·refine wH_ift rfl hc_29 (wH_seq (wH_region (h_op (vI 3) wz rfl (h_nil ?_))))
         obtain rfl := some_inj hc_16
         obtain rfl := some_inj hL_17
         obtain rfl := some_inj hF
         exact wH_ret (fin0 (.inr rfl) [(vI 3)] ⟨rfl, trivial⟩ rfl rfl rfl)
        ·refine wH_iff rfl hc_29 (wH_skip (wH_seq (wH_seq (wH_region (h_far pl138_2 rfl 5 rfl wz (h_ldr 0 1 (.inl rfl) (fun _ _ _ => trivial) sz3 ag3 rfl rfl (vI x_12.Order) rfl wz ?_))))))
         obtain ⟨r_30, hr_31, hc_16⟩ := bind_some hc_16
         refine h_call0 (kit_Outside_ok hr_31) rfl hb79 rfl rfl rfl rfl wz (h_nil ?_)
         rcases cond_some hc_16 with ⟨hc_32, hc_16⟩ | ⟨hc_32, hc_16⟩
         ·refine wH_ift rfl hc_32 (wH_seq (wH_region (h_op (vI 1) wz rfl (h_nil ?_))))
          obtain rfl := some_inj hc_16
          obtain rfl := some_inj hL_17
          obtain rfl := some_inj hF
          exact wH_ret (fin0 (.inr rfl) [(vI 1)] ⟨rfl, trivial⟩ rfl rfl rfl)
         ·refine wH_iff rfl hc_32 (wH_skip (wH_seq ?_))
          obtain ⟨v_33, h_34, hc_16⟩ := bind_some hc_16
          refine wH_join (β := Unit) (fun _ => ([(1, (.ref n_2 0 0)), (25, (vL Zone.enc l_1.Zones)), (26, (vI (l_1.Zones.length : Int))), (27, (vI (k_10 : Int))), (66, (vB v_33))] : List (Nat × V))) (fun _ => ([(n_2, some (.cells 4 [(vS l_1.Key), (vI l_1.W), (vI l_1.H), (vL Zone.enc l_1.Zones)])), (n_20, some (.cells 6 [(vS x_12.Key), (vI x_12.On.X), (vI x_12.On.Y), (vI x_12.On.W), (vI x_12.On.H), (vI x_12.Order)]))] : Hp)) (fun _ => True) ?_ ?_
          ·refine wH_draws (h_op (vI (k_10 : Int)) wz rfl (h_op (vB (decide ((k_10 : Int) > 0))) wz rfl ?_))
           rcases cond_some h_34 with ⟨hc_35, h_34⟩ | ⟨hc_35, h_34⟩
           ·refine h_movb rfl hc_35 wz (h_far pl138_0 rfl 0 rfl (wg rfl rfl rfl) (h_ldr 4 1 (.inr (by kernel_rfl)) (fun _ _ ag => trivial) sz9 ag9 rfl rfl (vS x_12.Key) rfl (wg rfl rfl rfl) (h_far pl61_3 rfl 3 rfl (wg rfl rfl rfl) (h_ldr 6 0 (.inr (by kernel_rfl)) (fun _ _ ag => ⟨.inl ⟨rfl, rfl⟩, trivial⟩) sz59 ag59 rfl rfl (vL Zone.enc l_1.Zones) rfl (wg rfl rfl rfl) (h_op (vI (k_10 : Int)) (wg rfl rfl rfl) rfl (h_op (vI (w64 ((k_10 : Int) - 1))) (wg rfl rfl rfl) rfl ?_))))))
            obtain ⟨y_36, hy_37, h_34⟩ := bind_some h_34
            refine h_ia es59 rfl rfl hy_37 rfl (wg rfl rfl rfl) (h_fac pl138_0 rfl [.str y_36.Key, .int .i64 y_36.On.X, .int .i64 y_36.On.Y, .int .i64 y_36.On.W, .int .i64 y_36.On.H, .int .i64 y_36.Order] rfl rfl (wg rfl rfl rfl) (h_ldc sz9 ag9 rfl (vS y_36.Key) rfl (wg rfl rfl rfl) (h_op (vB (sLe x_12.Key y_36.Key)) (wg rfl rfl rfl) rfl (h_op (vB (sLe x_12.Key y_36.Key)) wz rfl (h_nil ?_)))))
            obtain rfl := some_inj h_34
            exact cut_mk () trivial rfl (pre_r rfl)
           ·refine h_movb rfl hc_35 wz (h_skip (wg rfl rfl rfl) (h_skip (wg rfl rfl rfl) (h_skip (wg rfl rfl rfl) (h_skip (wg rfl rfl rfl) (h_skip (wg rfl rfl rfl) (h_skip (wg rfl rfl rfl) (h_skip (wg rfl rfl rfl) (h_skip (wg rfl rfl rfl) (h_skip (wg rfl rfl rfl) (h_skip (wg rfl rfl rfl) (h_op (vB false) wz rfl (h_nil ?_))))))))))))
            obtain rfl := some_inj h_34
            exact cut_mk () trivial rfl (pre_r rfl)
          ·rintro ⟨⟩ _ sl_ H_ hp_ hq_
           refine wH_at _ hp_ hq_ ?_
           rcases cond_some hc_16 with ⟨hc_38, hc_16⟩ | ⟨hc_38, hc_16⟩
           ·refine wH_ift rfl hc_38 (wH_seq (wH_region (h_op (vI 7) wz rfl (h_nil ?_))))
            obtain rfl := some_inj hc_16
            obtain rfl := some_inj hL_17
            obtain rfl := some_inj hF
            exact wH_ret (fin0 (.inr rfl) [(vI 7)] ⟨rfl, trivial⟩ rfl rfl rfl)
           ·refine wH_iff rfl hc_38 (wH_skip (wH_region (h_opw (w64_next hD_13 hn_14) wz rfl (h_op (vI ((k_10 + 1 : Nat) : Int)) wz rfl (h_nil ?_)))))
            obtain rfl := some_inj hc_16
            exact loop_mk (k_10 + 1, l_11, ()) ⟨hL_17, drop_next hD_13⟩ (Nat.lt_succ_self _) rfl (pre_r rfl)
    ·rintro s_15 ho_ sl_ H_ hp_ hq_
     subst ho_
     refine wH_at _ hp_ hq_ (wH_seq (wH_region (h_op (vI 0) wz rfl (h_nil ?_))))
     obtain rfl := some_inj hF
     exact wH_ret (fin0 (.inr rfl) [(vI 0)] ⟨rfl, trivial⟩ rfl rfl rfl)
theorem screen_covers_ok {l_1 : (List Zone)} {i_2 : Int} {k_3 : Int} {r : Bool} (hF : screen_covers l_1 i_2 k_3 = some r) :
  FnM Tryz.prog 69 [(vL Zone.enc l_1), (vI i_2), (vI k_3)] [] (vB r) [] := by
 refine FnM.of_wH ⟨Tryz.prog, 36, [], []⟩ rfl Tryz.func69 rfl rfl (Nat.le_of_ble_eq_true rfl) (by kernel_rfl) ?_
 unfold screen_covers at hF
 refine wH_seq (wH_region (h_op (vB false) wz rfl (h_nil (wH_seq ?_))))
 obtain ⟨v_4, h_5, hF⟩ := bind_some hF
 refine wH_join (β := Unit) (fun _ => ([(6, (vB v_4))] : List (Nat × V))) (fun _ => ([] : Hp)) (fun _ => True) ?_ ?_
 ·refine wH_draws (h_op (vL Zone.enc l_1) wz rfl (h_op (vI i_2) wz rfl ?_))
  obtain ⟨y_6, hy_7, h_5⟩ := bind_some h_5
  refine h_ia es59 rfl rfl hy_7 rfl wz (h_fac pl138_2 rfl [.int .i64 y_6.Order] rfl rfl wz (h_ldc sz3 ag3 rfl (vI y_6.Order) rfl wz (h_op (vL Zone.enc l_1) wz rfl (h_op (vI k_3) wz rfl ?_))))
  obtain ⟨y_8, hy_9, h_5⟩ := bind_some h_5
  refine h_ia es59 rfl rfl hy_9 rfl wz (h_fac pl138_2 rfl [.int .i64 y_8.Order] rfl rfl wz (h_ldc sz3 ag3 rfl (vI y_8.Order) rfl wz (h_op (vB (decide (y_6.Order > y_8.Order))) wz rfl ?_)))
  rcases cond_some h_5 with ⟨hc_10, h_5⟩ | ⟨hc_10, h_5⟩
  ·refine h_movb rfl hc_10 wz (h_skip (wg rfl rfl rfl) (h_skip (wg rfl rfl rfl) (h_skip (wg rfl rfl rfl) (h_skip (wg rfl rfl rfl) (h_skip (wg rfl rfl rfl) (h_skip (wg rfl rfl rfl) (h_skip (wg rfl rfl rfl) (h_skip (wg rfl rfl rfl) (h_skip (wg rfl rfl rfl) (h_skip (wg rfl rfl rfl) (h_skip (wg rfl rfl rfl) (h_skip (wg rfl rfl rfl) (h_skip (wn rfl rfl) (h_skip (wn rfl rfl) (h_skip (wn rfl rfl) (h_skip (wg rfl rfl rfl) (h_op (vB true) wz rfl (h_op (vB true) wz rfl (h_nil ?_)))))))))))))))))))
   obtain rfl := some_inj h_5
   exact cut_mk () trivial rfl (pre_r rfl)
  ·refine h_movb rfl hc_10 wz (h_op (vL Zone.enc l_1) (wg rfl rfl rfl) rfl (h_op (vI i_2) (wg rfl rfl rfl) rfl ?_))
   obtain ⟨y_11, hy_12, h_5⟩ := bind_some h_5
   refine h_ia es59 rfl rfl hy_12 rfl (wg rfl rfl rfl) (h_fac pl138_2 rfl [.int .i64 y_11.Order] rfl rfl (wg rfl rfl rfl) (h_ldc sz3 ag3 rfl (vI y_11.Order) rfl (wg rfl rfl rfl) (h_op (vL Zone.enc l_1) (wg rfl rfl rfl) rfl (h_op (vI k_3) (wg rfl rfl rfl) rfl ?_))))
   obtain ⟨y_13, hy_14, h_5⟩ := bind_some h_5
   refine h_ia es59 rfl rfl hy_14 rfl (wg rfl rfl rfl) (h_fac pl138_2 rfl [.int .i64 y_13.Order] rfl rfl (wg rfl rfl rfl) (h_ldc sz3 ag3 rfl (vI y_13.Order) rfl (wg rfl rfl rfl) (h_op (vB (y_11.Order == y_13.Order)) (wg rfl rfl rfl) rfl ?_)))
   rcases cond_some h_5 with ⟨hc_15, h_5⟩ | ⟨hc_15, h_5⟩
   ·refine h_movb rfl hc_15 (wg rfl rfl rfl) (h_op (vI i_2) (wg rfl rfl rfl) rfl (h_op (vI k_3) (wg rfl rfl rfl) rfl (h_op (vB (decide (i_2 > k_3))) (wg rfl rfl rfl) rfl (h_op (vB (decide (i_2 > k_3))) (wg rfl rfl rfl) rfl (h_op (vB (decide (i_2 > k_3))) wz rfl (h_op (vB (decide (i_2 > k_3))) wz rfl (h_nil ?_)))))))
    obtain rfl := some_inj h_5
    exact cut_mk () trivial rfl (pre_r rfl)
   ·refine h_movb rfl hc_15 (wg rfl rfl rfl) (h_skip (wg rfl rfl rfl) (h_skip (wg rfl rfl rfl) (h_skip (wg rfl rfl rfl) (h_op (vB false) (wg rfl rfl rfl) rfl (h_op (vB false) wz rfl (h_op (vB false) wz rfl (h_nil ?_)))))))
    obtain rfl := some_inj h_5
    exact cut_mk () trivial rfl (pre_r rfl)
 ·rintro ⟨⟩ _ sl_ H_ hp_ hq_
  refine wH_at _ hp_ hq_ ?_
  obtain rfl := some_inj hF
  exact wH_ret (fin0 (.inr rfl) [(vB v_4)] ⟨rfl, trivial⟩ rfl rfl rfl)
theorem screen_seenOf_ok {l_1 : Layout} {k_2 : Int} {r : (List Rect)} (hF : screen_seenOf l_1 k_2 = some r) :
  FnM Tryz.prog 66 [(.d (.agg (Layout.enc l_1))), (vI k_2)] [] (vL Rect.enc r) [] := by
 refine FnM.of_wH ⟨Tryz.prog, 36, [], []⟩ rfl Tryz.func66 rfl rfl (Nat.le_of_ble_eq_true rfl) (by kernel_rfl) ?_
 unfold screen_seenOf at hF
 refine wH_seq (wH_region (h_box 0 (.inl rfl) [(vS l_1.Key), (vI l_1.W), (vI l_1.H), (vL Zone.enc l_1.Zones)] rfl rfl wz (fun n_3 => h_op .nil wz rfl (h_nil (wH_seq (wH_region (h_op .nil wz rfl (h_nil (wH_seq (wH_seq (wH_region (h_far pl61_3 rfl 3 rfl wz (h_ldr 0 0 (.inl rfl) (fun _ _ _ => trivial) sz59 ag59 rfl rfl (vL Zone.enc l_1.Zones) rfl wz (h_len un59 rfl wz (h_op (vI 0) wz rfl (h_nil (wH_new (fun n_10 => ?_))))))))))))))))))
 obtain ⟨o_15, hj_16, hF⟩ := bind_some hF
 obtain ⟨hn_8, hj_16⟩ := forL_some hj_16
 refine wH_join (β := ((List Rect)) × Nm) (fun p => (fun (s_9 : (List Rect)) (n_12 : Nm) => ([(1, (vI k_2)), (2, (.ref n_3 0 0)), (5, (gV n_12 4 s_9))] : List (Nat × V))) p.1 p.2) (fun p => (fun (s_9 : (List Rect)) (n_12 : Nm) => ([(n_3, some (.cells 4 [(vS l_1.Key), (vI l_1.W), (vI l_1.H), (vL Zone.enc l_1.Zones)])), (n_12, gB 4 Rect.enc s_9)] : Hp)) p.1 p.2) (fun p => o_15 = .go p.1) ?_ ?_
 ·refine wH_block (wH_loop (β := Nat × (List Zone) × ((List Rect)) × Nm) (fun p => (fun (k_4 : Nat) (l_5 : List Zone) (s_9 : (List Rect)) (n_12 : Nm) => ([(1, (vI k_2)), (2, (.ref n_3 0 0)), (5, (gV n_12 4 s_9)), (9, (vL Zone.enc l_1.Zones)), (10, (vI (l_1.Zones.length : Int))), (11, (vI (k_4 : Int)))] : List (Nat × V))) p.1 p.2.1 p.2.2.1 p.2.2.2) (fun p => (fun (k_4 : Nat) (l_5 : List Zone) (s_9 : (List Rect)) (n_12 : Nm) => ([(n_3, some (.cells 4 [(vS l_1.Key), (vI l_1.W), (vI l_1.H), (vL Zone.enc l_1.Zones)])), (n_12, gB 4 Rect.enc s_9)] : Hp)) p.1 p.2.1 p.2.2.1 p.2.2.2) (fun p => forR (fun k x s => screen_seenOf_L1 l_1 k_2 k x s) p.2.1 p.1 p.2.2.1 = some o_15 ∧ (l_1.Zones).drop p.1 = p.2.1) (fun p => p.2.1.length) (0, l_1.Zones, ([] : List Rect), n_10) ⟨hj_16, rfl⟩ rfl (pre_r rfl) ?_)
  rintro ⟨k_4, l_5, s_9, n_12⟩ ⟨hL_14, hD_7⟩
  dsimp only at hL_14 hD_7
  cases l_5 with
  | nil =>
   obtain rfl := some_inj hL_14
   refine wH_seq (wH_region (h_op (vB (decide ((k_4 : Int) < (l_1.Zones.length : Int)))) wz rfl (h_nil ?_)))
   refine wH_seq (wH_iff rfl (drop_nil hD_7) (wH_exit ?_))
   exact cut_mk (s_9, n_12) rfl rfl (pre_r rfl)
  | cons x_6 l_5 =>
   obtain ⟨c_, hc_13, hL_14⟩ := bind_some hL_14
   refine wH_seq (wH_region (h_op (vB (decide ((k_4 : Int) < (l_1.Zones.length : Int)))) wz rfl (h_nil ?_)))
   refine wH_seq (wH_ift rfl (drop_cons hD_7) (wH_skip ?_))
   unfold screen_seenOf_L1 at hc_13
   refine wH_seq (wH_block (wH_seq (wH_region (h_op (vI (k_4 : Int)) wz rfl (h_ia es59 rfl rfl (drop_idx hD_7) rfl wz (h_ldc sz138 ag138 rfl (.d (.agg (Zone.enc x_6))) rfl wz (h_alloc 0 (.inl rfl) z138 rfl wz (fun n_17 => h_op (vI (k_4 : Int)) wz rfl (h_str 0 (.inl rfl) (fun _ _ _ => trivial) 2 sz138 rfl rfl [(vS x_6.Key), (vI x_6.On.X), (vI x_6.On.Y), (vI x_6.On.W), (vI x_6.On.H), (vI x_6.Order)] rfl wz (h_nil (wH_seq (wH_region (h_far pl61_3 rfl 3 rfl wz (h_ldr 0 0 (.inl rfl) (fun _ _ _ => trivial) sz59 ag59 rfl rfl (vL Zone.enc l_1.Zones) rfl wz (h_op (vI (k_4 : Int)) wz rfl (h_op (vI k_2) wz rfl ?_))))))))))))))))
   obtain ⟨r_18, hr_19, hc_13⟩ := bind_some hc_13
   refine h_call0 (screen_covers_ok hr_19) rfl hb69 rfl rfl rfl rfl wz (h_nil ?_)
   obtain ⟨v_20, h_21, hc_13⟩ := bind_some hc_13
   refine wH_join (β := Nm) (fun (n_22 : Nm) => ([(1, (vI k_2)), (2, (.ref n_3 0 0)), (5, (gV n_22 4 v_20)), (9, (vL Zone.enc l_1.Zones)), (10, (vI (l_1.Zones.length : Int))), (11, (vI (k_4 : Int)))] : List (Nat × V))) (fun (n_22 : Nm) => ([(n_3, some (.cells 4 [(vS l_1.Key), (vI l_1.W), (vI l_1.H), (vL Zone.enc l_1.Zones)])), (n_22, gB 4 Rect.enc v_20), (n_17, some (.cells 6 [(vS x_6.Key), (vI x_6.On.X), (vI x_6.On.Y), (vI x_6.On.W), (vI x_6.On.H), (vI x_6.Order)]))] : Hp)) (fun _ => True) ?_ ?_
   ·rcases cond_some h_21 with ⟨hc_23, h_21⟩ | ⟨hc_23, h_21⟩
    ·refine wH_ift rfl hc_23 (wH_region (h_op (gV n_12 4 s_9) wz rfl (h_far pl138_1 rfl 1 rfl wz (h_ldr 0 2 (.inl rfl) (fun _ _ _ => trivial) sz29 ag29 rfl rfl (.d (.agg (Rect.enc x_6.On))) rfl wz (h_lit (([x_6.On] : List Rect).map Rect.enc) es27 ez27 rfl rfl rfl rfl rfl wz ?_)))))
     obtain ⟨a_24, hz_25, h_21⟩ := bind_some h_21
     refine h_appg 0 (.inl rfl) (fun _ _ _ => trivial) (i := 1) el27 el27 sz29 z29 rfl (by decide) by29 (by decide) (fun _ => rfl) rfl rfl rfl hz_25 wz (fun n_26 => h_op (gV n_26 4 a_24) wz rfl (h_nil ?_))
     obtain rfl := some_inj h_21
     exact cut_mk n_26 trivial rfl (pre_r rfl)
    ·refine wH_iff rfl hc_23 (wH_skip ?_)
     obtain rfl := some_inj h_21
     exact cut_mk n_12 trivial rfl (pre_r rfl)
   ·rintro n_22 _ sl_ H_ hp_ hq_
    refine wH_at _ hp_ hq_ (wH_region (h_opw (w64_next hD_7 hn_8) wz rfl (h_op (vI ((k_4 + 1 : Nat) : Int)) wz rfl (h_nil ?_))))
    obtain rfl := some_inj hc_13
    exact loop_mk (k_4 + 1, l_5, v_20, n_22) ⟨hL_14, drop_next hD_7⟩ (Nat.lt_succ_self _) rfl (pre_r rfl)
 ·rintro ⟨s_9, n_12⟩ ho_ sl_ H_ hp_ hq_
  subst ho_
  refine wH_at _ hp_ hq_ (wH_seq (wH_frozg 1 rfl (wH_cog 5 1 rfl rfl (wH_region (h_far pl61_3 rfl 3 rfl wz (h_ldr 0 0 (.inl rfl) (fun _ _ _ => trivial) sz59 ag59 rfl rfl (vL Zone.enc l_1.Zones) rfl wz (h_op (vI k_2) wz rfl ?_)))))))
  obtain ⟨y_27, hy_28, hF⟩ := bind_some hF
  refine h_ia es59 rfl rfl hy_28 rfl wz (h_fac pl138_1 rfl [.int .i64 y_27.On.X, .int .i64 y_27.On.Y, .int .i64 y_27.On.W, .int .i64 y_27.On.H, .int .i64 y_27.Order] rfl rfl wz (h_ldc sz29 ag29 rfl (.d (.agg (Rect.enc y_27.On))) rfl wz (h_lit (([y_27.On] : List Rect).map Rect.enc) es27 ez27 rfl rfl rfl rfl rfl wz (h_op (vL Rect.enc s_9) wz rfl ?_))))
  obtain ⟨r_29, hr_30, hF⟩ := bind_some hF
  refine h_call0 (screen_region_ok hr_30) rfl hb49 rfl rfl rfl rfl wz (h_op (vL Rect.enc r_29) wz rfl (h_nil ?_))
  obtain rfl := some_inj hF
  exact wH_ret (fin0 (.inr rfl) [(vL Rect.enc r_29)] ⟨rfl, trivial⟩ rfl rfl rfl)
theorem screen_seen_ok {l_1 : Layout} {r : (List Piece) × Int} (hF : screen_seen l_1 = some r) :
  FnM Tryz.prog 65 [(.d (.agg (Layout.enc l_1)))] [] (.tup [(vL Piece.enc r.1), (vI r.2)]) [] := by
 refine FnM.of_wH ⟨Tryz.prog, 38, [], []⟩ rfl Tryz.func65 rfl rfl (Nat.le_of_ble_eq_true rfl) (by kernel_rfl) ?_
 unfold screen_seen at hF
 refine wH_seq (wH_region (h_box 0 (.inl rfl) [(vS l_1.Key), (vI l_1.W), (vI l_1.H), (vL Zone.enc l_1.Zones)] rfl rfl wz (fun n_2 => h_op .nil wz rfl (h_op (vI 0) wz rfl (h_nil (wH_seq (wH_region (h_op .nil wz rfl (h_nil (wH_seq (wH_seq (wH_region (h_far pl61_3 rfl 3 rfl wz (h_ldr 0 0 (.inl rfl) (fun _ _ _ => trivial) sz59 ag59 rfl rfl (vL Zone.enc l_1.Zones) rfl wz (h_len un59 rfl wz (h_op (vI 0) wz rfl (h_nil (wH_new (fun n_9 => ?_)))))))))))))))))))
 obtain ⟨o_14, hj_15, hF⟩ := bind_some hF
 obtain ⟨hn_7, hj_15⟩ := forL_some hj_15
 refine wH_join (β := ((List Piece)) × Nm) (fun p => (fun (s_8 : (List Piece)) (n_11 : Nm) => ([(4, (gV n_11 5 s_8))] : List (Nat × V))) p.1 p.2) (fun p => (fun (s_8 : (List Piece)) (n_11 : Nm) => ([(n_2, some (.cells 4 [(vS l_1.Key), (vI l_1.W), (vI l_1.H), (vL Zone.enc l_1.Zones)])), (n_11, gB 5 Piece.enc s_8)] : Hp)) p.1 p.2) (fun p => o_14 = .go p.1) ?_ ?_
 ·refine wH_block (wH_loop (β := Nat × (List Zone) × ((List Piece)) × Nm) (fun p => (fun (k_3 : Nat) (l_4 : List Zone) (s_8 : (List Piece)) (n_11 : Nm) => ([(1, (.ref n_2 0 0)), (4, (gV n_11 5 s_8)), (10, (vL Zone.enc l_1.Zones)), (11, (vI (l_1.Zones.length : Int))), (12, (vI (k_3 : Int)))] : List (Nat × V))) p.1 p.2.1 p.2.2.1 p.2.2.2) (fun p => (fun (k_3 : Nat) (l_4 : List Zone) (s_8 : (List Piece)) (n_11 : Nm) => ([(n_2, some (.cells 4 [(vS l_1.Key), (vI l_1.W), (vI l_1.H), (vL Zone.enc l_1.Zones)])), (n_11, gB 5 Piece.enc s_8)] : Hp)) p.1 p.2.1 p.2.2.1 p.2.2.2) (fun p => forR (fun k x s => screen_seen_L2 l_1 k x s) p.2.1 p.1 p.2.2.1 = some o_14 ∧ (l_1.Zones).drop p.1 = p.2.1) (fun p => p.2.1.length) (0, l_1.Zones, ([] : List Piece), n_9) ⟨hj_15, rfl⟩ rfl (pre_r rfl) ?_)
  rintro ⟨k_3, l_4, s_8, n_11⟩ ⟨hL_13, hD_6⟩
  dsimp only at hL_13 hD_6
  cases l_4 with
  | nil =>
   obtain rfl := some_inj hL_13
   refine wH_seq (wH_region (h_op (vB (decide ((k_3 : Int) < (l_1.Zones.length : Int)))) wz rfl (h_nil ?_)))
   refine wH_seq (wH_iff rfl (drop_nil hD_6) (wH_exit ?_))
   exact cut_mk (s_8, n_11) rfl rfl (pre_r rfl)
  | cons x_5 l_4 =>
   obtain ⟨c_, hc_12, hL_13⟩ := bind_some hL_13
   refine wH_seq (wH_region (h_op (vB (decide ((k_3 : Int) < (l_1.Zones.length : Int)))) wz rfl (h_nil ?_)))
   refine wH_seq (wH_ift rfl (drop_cons hD_6) (wH_skip ?_))
   unfold screen_seen_L2 at hc_12
   refine wH_seq (wH_block (wH_seq (wH_region (h_op (vI (k_3 : Int)) wz rfl (h_ia es59 rfl rfl (drop_idx hD_6) rfl wz (h_ldc sz138 ag138 rfl (.d (.agg (Zone.enc x_5))) rfl wz (h_alloc 0 (.inl rfl) z138 rfl wz (fun n_16 => h_op (vI (k_3 : Int)) wz rfl (h_str 0 (.inl rfl) (fun _ _ _ => trivial) 2 sz138 rfl rfl [(vS x_5.Key), (vI x_5.On.X), (vI x_5.On.Y), (vI x_5.On.W), (vI x_5.On.H), (vI x_5.Order)] rfl wz (h_nil (wH_seq (wH_region (h_ldr 0 0 (.inl rfl) (fun _ _ _ => trivial) sz61 ag61 rfl rfl (.d (.agg (Layout.enc l_1))) rfl wz (h_op (vI (k_3 : Int)) wz rfl ?_))))))))))))))
   obtain ⟨r_17, hr_18, hc_12⟩ := bind_some hc_12
   refine h_call0 (screen_seenOf_ok hr_18) rfl hb66 rfl rfl rfl rfl wz (h_len un27 rfl wz (h_op (vI 0) wz rfl (h_nil ?_)))
   obtain ⟨o_29, hj_30, hc_12⟩ := bind_some hc_12
   obtain ⟨hn_23, hj_30⟩ := forL_some hj_30
   refine wH_join (β := ((List Piece)) × Nm) (fun p => (fun (s_24 : (List Piece)) (n_26 : Nm) => ([(1, (.ref n_2 0 0)), (4, (gV n_26 5 s_24)), (10, (vL Zone.enc l_1.Zones)), (11, (vI (l_1.Zones.length : Int))), (12, (vI (k_3 : Int)))] : List (Nat × V))) p.1 p.2) (fun p => (fun (s_24 : (List Piece)) (n_26 : Nm) => ([(n_2, some (.cells 4 [(vS l_1.Key), (vI l_1.W), (vI l_1.H), (vL Zone.enc l_1.Zones)])), (n_26, gB 5 Piece.enc s_24), (n_16, some (.cells 6 [(vS x_5.Key), (vI x_5.On.X), (vI x_5.On.Y), (vI x_5.On.W), (vI x_5.On.H), (vI x_5.Order)]))] : Hp)) p.1 p.2) (fun p => o_29 = .go p.1) ?_ ?_
   ·refine wH_block (wH_loop (β := Nat × (List Rect) × ((List Piece)) × Nm) (fun p => (fun (k_19 : Nat) (l_20 : List Rect) (s_24 : (List Piece)) (n_26 : Nm) => ([(1, (.ref n_2 0 0)), (4, (gV n_26 5 s_24)), (6, (.ref n_16 0 0)), (10, (vL Zone.enc l_1.Zones)), (11, (vI (l_1.Zones.length : Int))), (12, (vI (k_3 : Int))), (19, (vL Rect.enc r_17)), (20, (vI (r_17.length : Int))), (21, (vI (k_19 : Int)))] : List (Nat × V))) p.1 p.2.1 p.2.2.1 p.2.2.2) (fun p => (fun (k_19 : Nat) (l_20 : List Rect) (s_24 : (List Piece)) (n_26 : Nm) => ([(n_2, some (.cells 4 [(vS l_1.Key), (vI l_1.W), (vI l_1.H), (vL Zone.enc l_1.Zones)])), (n_26, gB 5 Piece.enc s_24), (n_16, some (.cells 6 [(vS x_5.Key), (vI x_5.On.X), (vI x_5.On.Y), (vI x_5.On.W), (vI x_5.On.H), (vI x_5.Order)]))] : Hp)) p.1 p.2.1 p.2.2.1 p.2.2.2) (fun p => forR (fun k x s => screen_seen_L1 x_5 k x s) p.2.1 p.1 p.2.2.1 = some o_29 ∧ (r_17).drop p.1 = p.2.1) (fun p => p.2.1.length) (0, r_17, s_8, n_11) ⟨hj_30, rfl⟩ rfl (pre_r rfl) ?_)
    rintro ⟨k_19, l_20, s_24, n_26⟩ ⟨hL_28, hD_22⟩
    dsimp only at hL_28 hD_22
    cases l_20 with
    | nil =>
     obtain rfl := some_inj hL_28
     refine wH_seq (wH_region (h_op (vB (decide ((k_19 : Int) < (r_17.length : Int)))) wz rfl (h_nil ?_)))
     refine wH_seq (wH_iff rfl (drop_nil hD_22) (wH_exit ?_))
     exact cut_mk (s_24, n_26) rfl rfl (pre_r rfl)
    | cons x_21 l_20 =>
     obtain ⟨c_, hc_27, hL_28⟩ := bind_some hL_28
     refine wH_seq (wH_region (h_op (vB (decide ((k_19 : Int) < (r_17.length : Int)))) wz rfl (h_nil ?_)))
     refine wH_seq (wH_ift rfl (drop_cons hD_22) (wH_skip ?_))
     unfold screen_seen_L1 at hc_27
     refine wH_seq (wH_block (wH_seq (wH_region (h_ia es27 rfl rfl (drop_idx hD_22) rfl wz (h_ldc sz29 ag29 rfl (.d (.agg (Rect.enc x_21))) rfl wz (h_alloc 0 (.inl rfl) z29 rfl wz (fun n_31 => h_str 0 (.inl rfl) (fun _ _ _ => trivial) 3 sz29 rfl rfl [(vI x_21.X), (vI x_21.Y), (vI x_21.W), (vI x_21.H)] rfl wz (h_nil (wH_region (h_op (gV n_26 5 s_24) wz rfl (h_far pl138_0 rfl 0 rfl wz (h_ldr 0 2 (.inl rfl) (fun _ _ _ => trivial) sz9 ag9 rfl rfl (vS x_5.Key) rfl wz (h_ldr 0 3 (.inl rfl) (fun _ _ _ => trivial) sz29 ag29 rfl rfl (.d (.agg (Rect.enc x_21))) rfl wz (h_op (.d (.agg (Piece.enc (⟨x_5.Key, x_21⟩ : Piece)))) wz (by kernel_rfl) (h_lit (([(⟨x_5.Key, x_21⟩ : Piece)] : List Piece).map Piece.enc) es63 ez63 rfl rfl rfl rfl rfl wz ?_)))))))))))))))
     obtain ⟨a_32, hz_33, hc_27⟩ := bind_some hc_27
     refine h_appg 0 (.inl rfl) (fun _ _ _ => trivial) (i := 1) el63 el63 sz72 z72 rfl (by decide) by72 (by decide) (fun _ => rfl) rfl rfl rfl hz_33 wz (fun n_34 => h_op (gV n_34 5 a_32) wz rfl (h_nil (wH_region (h_opw (w64_next hD_22 hn_23) wz rfl (h_op (vI ((k_19 + 1 : Nat) : Int)) wz rfl (h_nil ?_))))))
     obtain rfl := some_inj hc_27
     exact loop_mk (k_19 + 1, l_20, a_32, n_34) ⟨hL_28, drop_next hD_22⟩ (Nat.lt_succ_self _) rfl (pre_r rfl)
   ·rintro ⟨s_24, n_26⟩ ho_ sl_ H_ hp_ hq_
    subst ho_
    refine wH_at _ hp_ hq_ (wH_region (h_opw (w64_next hD_6 hn_7) wz rfl (h_op (vI ((k_3 + 1 : Nat) : Int)) wz rfl (h_nil ?_))))
    obtain rfl := some_inj hc_12
    exact loop_mk (k_3 + 1, l_4, s_24, n_26) ⟨hL_13, drop_next hD_6⟩ (Nat.lt_succ_self _) rfl (pre_r rfl)
 ·rintro ⟨s_8, n_11⟩ ho_ sl_ H_ hp_ hq_
  subst ho_
  refine wH_at _ hp_ hq_ (wH_seq (wH_seq (wH_region (h_op (gV n_11 5 s_8) wz rfl (h_leng un63 rfl wz (h_op (vB (decide ((s_8.length : Int) > 2000))) wz rfl (h_nil ?_)))))))
  rcases cond_some hF with ⟨hc_35, hF⟩ | ⟨hc_35, hF⟩
  ·refine wH_ift rfl hc_35 (wH_seq (wH_region (h_op .nil wz rfl (h_op (vI 2) wz rfl (h_nil ?_)))))
   obtain rfl := some_inj hF
   exact wH_ret (fin0 (.inr rfl) [.nil, (vI 2)] ⟨rfl, ⟨rfl, trivial⟩⟩ rfl rfl rfl)
  ·refine wH_iff rfl hc_35 (wH_skip (wH_seq (wH_region (h_op (gV n_11 5 s_8) wz rfl (h_op (gV n_11 5 s_8) wz rfl (h_op (vI 0) wz rfl (h_nil (wH_frozg 1 rfl (wH_cog 2 1 rfl rfl (wH_cog 4 1 rfl rfl (wH_cog 34 1 rfl rfl (wH_cog 37 1 rfl rfl ?_))))))))))))
   obtain rfl := some_inj hF
   exact wH_ret (fin0 (.inr rfl) [(vL Piece.enc s_8), (vI 0)] ⟨rfl, ⟨rfl, trivial⟩⟩ rfl rfl rfl)
theorem screen_Seen_ok {l_1 : Layout} {r : (List Piece) × Int} (hF : screen_Seen l_1 = some r) :
  FnM Tryz.prog 28 [(.d (.agg (Layout.enc l_1)))] [] (.tup [(vL Piece.enc r.1), (vI r.2)]) [] := by
 refine FnM.of_wH ⟨Tryz.prog, 14, [], []⟩ rfl Tryz.func28 rfl rfl (Nat.le_of_ble_eq_true rfl) (by kernel_rfl) ?_
 unfold screen_Seen at hF
 refine wH_seq (wH_region (h_box 0 (.inl rfl) [(vS l_1.Key), (vI l_1.W), (vI l_1.H), (vL Zone.enc l_1.Zones)] rfl rfl wz (fun n_2 => h_op .nil wz rfl (h_op (vI 0) wz rfl (h_nil (wH_seq (wH_seq (wH_region (h_ldr 0 0 (.inl rfl) (fun _ _ _ => trivial) sz61 ag61 rfl rfl (.d (.agg (Layout.enc l_1))) rfl wz ?_)))))))))
 obtain ⟨r_3, hr_4, hF⟩ := bind_some hF
 refine h_call0 (screen_CheckLayout_ok hr_4) rfl hb64 rfl rfl rfl rfl wz (h_op (vI r_3) wz rfl (h_nil (wH_seq (wH_region (h_op (vI r_3) wz rfl (h_op (vB (r_3 != 0)) wz rfl (h_nil ?_)))))))
 rcases cond_some hF with ⟨hc_5, hF⟩ | ⟨hc_5, hF⟩
 ·refine wH_ift rfl hc_5 (wH_seq (wH_region (h_op (vI r_3) wz rfl (h_op .nil wz rfl (h_op (vI r_3) wz rfl (h_nil ?_))))))
  obtain rfl := some_inj hF
  exact wH_ret (fin0 (.inr rfl) [.nil, (vI r_3)] ⟨rfl, ⟨rfl, trivial⟩⟩ rfl rfl rfl)
 ·refine wH_iff rfl hc_5 (wH_skip (wH_seq (wH_region (h_ldr 0 0 (.inl rfl) (fun _ _ _ => trivial) sz61 ag61 rfl rfl (.d (.agg (Layout.enc l_1))) rfl wz ?_))))
  obtain ⟨r_6, hr_7, hF⟩ := bind_some hF
  refine h_call0 (screen_seen_ok hr_7) rfl hb65 rfl rfl rfl rfl wz (h_op (vL Piece.enc r_6.1) wz rfl (h_op (vI r_6.2) wz rfl (h_op (vL Piece.enc r_6.1) wz rfl (h_op (vI r_6.2) wz rfl (h_nil ?_)))))
  obtain rfl := some_inj hF
  exact wH_ret (fin0 (.inr rfl) [(vL Piece.enc r_6.1), (vI r_6.2)] ⟨rfl, ⟨rfl, trivial⟩⟩ rfl rfl rfl)
theorem screen_Covered_ok {l_1 : Layout} {r : (List ByteArray) × Int} (hF : screen_Covered l_1 = some r) :
  FnM Tryz.prog 29 [(.d (.agg (Layout.enc l_1)))] [] (.tup [(vL eS r.1), (vI r.2)]) [] := by
 refine FnM.of_wH ⟨Tryz.prog, 33, [], []⟩ rfl Tryz.func29 rfl rfl (Nat.le_of_ble_eq_true rfl) (by kernel_rfl) ?_
 unfold screen_Covered at hF
 refine wH_seq (wH_region (h_box 0 (.inl rfl) [(vS l_1.Key), (vI l_1.W), (vI l_1.H), (vL Zone.enc l_1.Zones)] rfl rfl wz (fun n_2 => h_op .nil wz rfl (h_op (vI 0) wz rfl (h_nil (wH_seq (wH_seq (wH_region (h_ldr 0 0 (.inl rfl) (fun _ _ _ => trivial) sz61 ag61 rfl rfl (.d (.agg (Layout.enc l_1))) rfl wz ?_)))))))))
 obtain ⟨r_3, hr_4, hF⟩ := bind_some hF
 refine h_call0 (screen_CheckLayout_ok hr_4) rfl hb64 rfl rfl rfl rfl wz (h_op (vI r_3) wz rfl (h_nil (wH_seq (wH_region (h_op (vI r_3) wz rfl (h_op (vB (r_3 != 0)) wz rfl (h_nil ?_)))))))
 rcases cond_some hF with ⟨hc_5, hF⟩ | ⟨hc_5, hF⟩
 ·refine wH_ift rfl hc_5 (wH_seq (wH_region (h_op (vI r_3) wz rfl (h_op .nil wz rfl (h_op (vI r_3) wz rfl (h_nil ?_))))))
  obtain rfl := some_inj hF
  exact wH_ret (fin0 (.inr rfl) [.nil, (vI r_3)] ⟨rfl, ⟨rfl, trivial⟩⟩ rfl rfl rfl)
 ·refine wH_iff rfl hc_5 (wH_skip (wH_seq (wH_region (h_op .nil wz rfl (h_nil (wH_seq (wH_seq (wH_region (h_far pl61_3 rfl 3 rfl wz (h_ldr 0 0 (.inl rfl) (fun _ _ _ => trivial) sz59 ag59 rfl rfl (vL Zone.enc l_1.Zones) rfl wz (h_len un59 rfl wz (h_op (vI 0) wz rfl (h_nil (wH_new (fun n_12 => ?_)))))))))))))))
  obtain ⟨o_17, hj_18, hF⟩ := bind_some hF
  obtain ⟨hn_10, hj_18⟩ := forL_some hj_18
  refine wH_join (β := ((List ByteArray)) × Nm) (fun p => (fun (s_11 : (List ByteArray)) (n_14 : Nm) => ([(5, (gV n_14 1 s_11))] : List (Nat × V))) p.1 p.2) (fun p => (fun (s_11 : (List ByteArray)) (n_14 : Nm) => ([(n_2, some (.cells 4 [(vS l_1.Key), (vI l_1.W), (vI l_1.H), (vL Zone.enc l_1.Zones)])), (n_14, gB 1 eS s_11)] : Hp)) p.1 p.2) (fun p => o_17 = .go p.1) ?_ ?_
  ·refine wH_block (wH_loop (β := Nat × (List Zone) × ((List ByteArray)) × Nm) (fun p => (fun (k_6 : Nat) (l_7 : List Zone) (s_11 : (List ByteArray)) (n_14 : Nm) => ([(1, (.ref n_2 0 0)), (5, (gV n_14 1 s_11)), (14, (vL Zone.enc l_1.Zones)), (15, (vI (l_1.Zones.length : Int))), (16, (vI (k_6 : Int)))] : List (Nat × V))) p.1 p.2.1 p.2.2.1 p.2.2.2) (fun p => (fun (k_6 : Nat) (l_7 : List Zone) (s_11 : (List ByteArray)) (n_14 : Nm) => ([(n_2, some (.cells 4 [(vS l_1.Key), (vI l_1.W), (vI l_1.H), (vL Zone.enc l_1.Zones)])), (n_14, gB 1 eS s_11)] : Hp)) p.1 p.2.1 p.2.2.1 p.2.2.2) (fun p => forR (fun k x s => screen_Covered_L1 l_1 k x s) p.2.1 p.1 p.2.2.1 = some o_17 ∧ (l_1.Zones).drop p.1 = p.2.1) (fun p => p.2.1.length) (0, l_1.Zones, ([] : List ByteArray), n_12) ⟨hj_18, rfl⟩ rfl (pre_r rfl) ?_)
   rintro ⟨k_6, l_7, s_11, n_14⟩ ⟨hL_16, hD_9⟩
   dsimp only at hL_16 hD_9
   cases l_7 with
   | nil =>
    obtain rfl := some_inj hL_16
    refine wH_seq (wH_region (h_op (vB (decide ((k_6 : Int) < (l_1.Zones.length : Int)))) wz rfl (h_nil ?_)))
    refine wH_seq (wH_iff rfl (drop_nil hD_9) (wH_exit ?_))
    exact cut_mk (s_11, n_14) rfl rfl (pre_r rfl)
   | cons x_8 l_7 =>
    obtain ⟨c_, hc_15, hL_16⟩ := bind_some hL_16
    refine wH_seq (wH_region (h_op (vB (decide ((k_6 : Int) < (l_1.Zones.length : Int)))) wz rfl (h_nil ?_)))
    refine wH_seq (wH_ift rfl (drop_cons hD_9) (wH_skip ?_))
    unfold screen_Covered_L1 at hc_15
    refine wH_seq (wH_block (wH_seq (wH_region (h_op (vI (k_6 : Int)) wz rfl (h_ia es59 rfl rfl (drop_idx hD_9) rfl wz (h_ldc sz138 ag138 rfl (.d (.agg (Zone.enc x_8))) rfl wz (h_alloc 0 (.inl rfl) z138 rfl wz (fun n_19 => h_op (vI (k_6 : Int)) wz rfl (h_str 0 (.inl rfl) (fun _ _ _ => trivial) 2 sz138 rfl rfl [(vS x_8.Key), (vI x_8.On.X), (vI x_8.On.Y), (vI x_8.On.W), (vI x_8.On.H), (vI x_8.Order)] rfl wz (h_nil (wH_seq (wH_region (h_ldr 0 0 (.inl rfl) (fun _ _ _ => trivial) sz61 ag61 rfl rfl (.d (.agg (Layout.enc l_1))) rfl wz (h_op (vI (k_6 : Int)) wz rfl ?_))))))))))))))
    obtain ⟨r_20, hr_21, hc_15⟩ := bind_some hc_15
    refine h_call0 (screen_seenOf_ok hr_21) rfl hb66 rfl rfl rfl rfl wz (h_len un27 rfl wz (h_op (vB ((r_20.length : Int) == 0)) wz rfl (h_nil ?_)))
    obtain ⟨v_22, h_23, hc_15⟩ := bind_some hc_15
    refine wH_join (β := Nm) (fun (n_24 : Nm) => ([(1, (.ref n_2 0 0)), (5, (gV n_24 1 v_22)), (14, (vL Zone.enc l_1.Zones)), (15, (vI (l_1.Zones.length : Int))), (16, (vI (k_6 : Int)))] : List (Nat × V))) (fun (n_24 : Nm) => ([(n_2, some (.cells 4 [(vS l_1.Key), (vI l_1.W), (vI l_1.H), (vL Zone.enc l_1.Zones)])), (n_24, gB 1 eS v_22), (n_19, some (.cells 6 [(vS x_8.Key), (vI x_8.On.X), (vI x_8.On.Y), (vI x_8.On.W), (vI x_8.On.H), (vI x_8.Order)]))] : Hp)) (fun _ => True) ?_ ?_
    ·rcases cond_some h_23 with ⟨hc_25, h_23⟩ | ⟨hc_25, h_23⟩
     ·refine wH_ift rfl hc_25 (wH_region (h_op (gV n_14 1 s_11) wz rfl (h_far pl138_0 rfl 0 rfl wz (h_ldr 0 2 (.inl rfl) (fun _ _ _ => trivial) sz9 ag9 rfl rfl (vS x_8.Key) rfl wz (h_lit (([x_8.Key] : List ByteArray).map eS) es66 ez66 rfl rfl rfl rfl rfl wz ?_)))))
      obtain ⟨a_26, hz_27, h_23⟩ := bind_some h_23
      refine h_appg 0 (.inl rfl) (fun _ _ _ => trivial) (i := 1) el66 el66 sz9 z9 rfl (by decide) by9 (by decide) (fun _ => rfl) rfl rfl rfl hz_27 wz (fun n_28 => h_op (gV n_28 1 a_26) wz rfl (h_nil ?_))
      obtain rfl := some_inj h_23
      exact cut_mk n_28 trivial rfl (pre_r rfl)
     ·refine wH_iff rfl hc_25 (wH_skip ?_)
      obtain rfl := some_inj h_23
      exact cut_mk n_14 trivial rfl (pre_r rfl)
    ·rintro n_24 _ sl_ H_ hp_ hq_
     refine wH_at _ hp_ hq_ (wH_region (h_opw (w64_next hD_9 hn_10) wz rfl (h_op (vI ((k_6 + 1 : Nat) : Int)) wz rfl (h_nil ?_))))
     obtain rfl := some_inj hc_15
     exact loop_mk (k_6 + 1, l_7, v_22, n_24) ⟨hL_16, drop_next hD_9⟩ (Nat.lt_succ_self _) rfl (pre_r rfl)
  ·rintro ⟨s_11, n_14⟩ ho_ sl_ H_ hp_ hq_
   subst ho_
   refine wH_at _ hp_ hq_ (wH_seq (wH_region (h_op (gV n_14 1 s_11) wz rfl (h_op (gV n_14 1 s_11) wz rfl (h_op (vI 0) wz rfl (h_nil (wH_frozg 1 rfl (wH_cog 2 1 rfl rfl (wH_cog 5 1 rfl rfl (wH_cog 32 1 rfl rfl ?_))))))))))
   obtain rfl := some_inj hF
   exact wH_ret (fin0 (.inr rfl) [(vL eS s_11), (vI 0)] ⟨rfl, ⟨rfl, trivial⟩⟩ rfl rfl rfl)
theorem screen_spotFault_ok {x_1 : Int} {y_2 : Int} {r : Int} (hF : screen_spotFault x_1 y_2 = some r) :
  FnM Tryz.prog 67 [(vI x_1), (vI y_2)] [] (vI r) [] := by
 refine FnM.of_wH ⟨Tryz.prog, 11, [], []⟩ rfl Tryz.func67 rfl rfl (Nat.le_of_ble_eq_true rfl) (by kernel_rfl) ?_
 unfold screen_spotFault at hF
 refine wH_seq (wH_region (h_op (vI 0) wz rfl (h_nil (wH_seq (wH_seq ?_)))))
 obtain ⟨v_3, h_4, hF⟩ := bind_some hF
 refine wH_join (β := Unit) (fun _ => ([(10, (vB v_3))] : List (Nat × V))) (fun _ => ([] : Hp)) (fun _ => True) ?_ ?_
 ·refine wH_region (h_op (vI x_1) wz rfl ?_)
  obtain ⟨r_5, hr_6, h_4⟩ := bind_some h_4
  refine h_call0 (kit_Outside_ok hr_6) rfl hb79 rfl rfl rfl rfl wz ?_
  rcases cond_some h_4 with ⟨hc_7, h_4⟩ | ⟨hc_7, h_4⟩
  ·refine h_movb rfl hc_7 wz (h_skip (wg rfl rfl rfl) (h_skip (wg rfl rfl rfl) (h_op (vB true) wz rfl (h_nil ?_))))
   obtain rfl := some_inj h_4
   exact cut_mk () trivial rfl (pre_r rfl)
  ·refine h_movb rfl hc_7 wz (h_op (vI y_2) (wg rfl rfl rfl) rfl ?_)
   obtain ⟨r_8, hr_9, h_4⟩ := bind_some h_4
   refine h_call0 (kit_Outside_ok hr_9) rfl hb79 rfl rfl rfl rfl (wg rfl rfl rfl) (h_op (vB r_8) wz rfl (h_nil ?_))
   obtain rfl := some_inj h_4
   exact cut_mk () trivial rfl (pre_r rfl)
 ·rintro ⟨⟩ _ sl_ H_ hp_ hq_
  refine wH_at _ hp_ hq_ ?_
  rcases cond_some hF with ⟨hc_10, hF⟩ | ⟨hc_10, hF⟩
  ·refine wH_ift rfl hc_10 (wH_seq (wH_region (h_op (vI 1) wz rfl (h_nil ?_))))
   obtain rfl := some_inj hF
   exact wH_ret (fin0 (.inr rfl) [(vI 1)] ⟨rfl, trivial⟩ rfl rfl rfl)
  ·refine wH_iff rfl hc_10 (wH_skip (wH_seq (wH_region (h_op (vI 0) wz rfl (h_nil ?_)))))
   obtain rfl := some_inj hF
   exact wH_ret (fin0 (.inr rfl) [(vI 0)] ⟨rfl, trivial⟩ rfl rfl rfl)
theorem screen_has_ok {r_1 : Rect} {x_2 : Int} {y_3 : Int} {r : Bool} (hF : screen_has r_1 x_2 y_3 = some r) :
  FnM Tryz.prog 68 [(.d (.agg (Rect.enc r_1))), (vI x_2), (vI y_3)] [] (vB r) [] := by
 refine FnM.of_wH ⟨Tryz.prog, 35, [], []⟩ rfl Tryz.func68 rfl rfl (Nat.le_of_ble_eq_true rfl) (by kernel_rfl) ?_
 unfold screen_has at hF
 refine wH_seq (wH_region (h_box 0 (.inl rfl) [(vI r_1.X), (vI r_1.Y), (vI r_1.W), (vI r_1.H)] rfl rfl wz (fun n_4 => h_op (vB false) wz rfl (h_nil (wH_seq ?_)))))
 obtain ⟨v_5, h_6, hF⟩ := bind_some hF
 refine wH_join (β := Unit) (fun _ => ([(6, (vB v_5))] : List (Nat × V))) (fun _ => ([(n_4, some (.cells 4 [(vI r_1.X), (vI r_1.Y), (vI r_1.W), (vI r_1.H)]))] : Hp)) (fun _ => True) ?_ ?_
 ·refine wH_region (h_far pl29_0 rfl 0 rfl wz (h_ldr 0 0 (.inl rfl) (fun _ _ _ => trivial) sz3 ag3 rfl rfl (vI r_1.X) rfl wz (h_op (vI x_2) wz rfl (h_op (vB (decide (r_1.X ≤ x_2))) wz rfl ?_))))
  rcases cond_some h_6 with ⟨hc_7, h_6⟩ | ⟨hc_7, h_6⟩
  ·refine h_movb rfl hc_7 wz (h_op (vI x_2) (wg rfl rfl rfl) rfl (h_far pl29_0 rfl 0 rfl (wg rfl rfl rfl) (h_ldr 0 0 (.inl rfl) (fun _ _ _ => trivial) sz3 ag3 rfl rfl (vI r_1.X) rfl (wg rfl rfl rfl) (h_far pl29_2 rfl 2 rfl (wg rfl rfl rfl) (h_ldr 0 0 (.inl rfl) (fun _ _ _ => trivial) sz3 ag3 rfl rfl (vI r_1.W) rfl (wg rfl rfl rfl) (h_op (vI (w64 (r_1.X + r_1.W))) (wg rfl rfl rfl) rfl (h_op (vB (decide (x_2 < (w64 (r_1.X + r_1.W))))) (wg rfl rfl rfl) rfl (h_op (vB (decide (x_2 < (w64 (r_1.X + r_1.W))))) wz rfl ?_))))))))
   rcases cond_some h_6 with ⟨hc_8, h_6⟩ | ⟨hc_8, h_6⟩
   ·refine h_movb rfl hc_8 wz (h_far pl29_1 rfl 1 rfl (wg rfl rfl rfl) (h_ldr 0 0 (.inl rfl) (fun _ _ _ => trivial) sz3 ag3 rfl rfl (vI r_1.Y) rfl (wg rfl rfl rfl) (h_op (vI y_3) (wg rfl rfl rfl) rfl (h_op (vB (decide (r_1.Y ≤ y_3))) (wg rfl rfl rfl) rfl (h_op (vB (decide (r_1.Y ≤ y_3))) wz rfl ?_)))))
    rcases cond_some h_6 with ⟨hc_9, h_6⟩ | ⟨hc_9, h_6⟩
    ·refine h_movb rfl hc_9 wz (h_op (vI y_3) (wg rfl rfl rfl) rfl (h_far pl29_1 rfl 1 rfl (wg rfl rfl rfl) (h_ldr 0 0 (.inl rfl) (fun _ _ _ => trivial) sz3 ag3 rfl rfl (vI r_1.Y) rfl (wg rfl rfl rfl) (h_far pl29_3 rfl 3 rfl (wg rfl rfl rfl) (h_ldr 0 0 (.inl rfl) (fun _ _ _ => trivial) sz3 ag3 rfl rfl (vI r_1.H) rfl (wg rfl rfl rfl) (h_op (vI (w64 (r_1.Y + r_1.H))) (wg rfl rfl rfl) rfl (h_op (vB (decide (y_3 < (w64 (r_1.Y + r_1.H))))) (wg rfl rfl rfl) rfl (h_op (vB (decide (y_3 < (w64 (r_1.Y + r_1.H))))) wz rfl (h_op (vB (decide (y_3 < (w64 (r_1.Y + r_1.H))))) wz rfl (h_nil ?_))))))))))
     obtain rfl := some_inj h_6
     exact cut_mk () trivial rfl (pre_r rfl)
    ·refine h_movb rfl hc_9 wz (h_skip (wg rfl rfl rfl) (h_skip (wg rfl rfl rfl) (h_skip (wg rfl rfl rfl) (h_skip (wg rfl rfl rfl) (h_skip (wg rfl rfl rfl) (h_skip (wg rfl rfl rfl) (h_skip (wg rfl rfl rfl) (h_op (vB false) wz rfl (h_op (vB false) wz rfl (h_nil ?_))))))))))
     obtain rfl := some_inj h_6
     exact cut_mk () trivial rfl (pre_r rfl)
   ·refine h_movb rfl hc_8 wz (h_skip (wg rfl rfl rfl) (h_skip (wg rfl rfl rfl) (h_skip (wg rfl rfl rfl) (h_skip (wg rfl rfl rfl) (h_op (vB false) wz rfl (h_op (vB false) wz rfl (h_skip (wg rfl rfl rfl) (h_skip (wg rfl rfl rfl) (h_skip (wg rfl rfl rfl) (h_skip (wg rfl rfl rfl) (h_skip (wg rfl rfl rfl) (h_skip (wg rfl rfl rfl) (h_skip (wg rfl rfl rfl) (h_op (vB false) wz rfl (h_op (vB false) wz rfl (h_nil ?_))))))))))))))))
    obtain rfl := some_inj h_6
    exact cut_mk () trivial rfl (pre_r rfl)
  ·refine h_movb rfl hc_7 wz (h_skip (wg rfl rfl rfl) (h_skip (wg rfl rfl rfl) (h_skip (wg rfl rfl rfl) (h_skip (wg rfl rfl rfl) (h_skip (wg rfl rfl rfl) (h_skip (wg rfl rfl rfl) (h_skip (wg rfl rfl rfl) (h_op (vB false) wz rfl (h_op (vB false) wz rfl (h_skip (wg rfl rfl rfl) (h_skip (wg rfl rfl rfl) (h_skip (wg rfl rfl rfl) (h_skip (wg rfl rfl rfl) (h_op (vB false) wz rfl (h_op (vB false) wz rfl (h_skip (wg rfl rfl rfl) (h_skip (wg rfl rfl rfl) (h_skip (wg rfl rfl rfl) (h_skip (wg rfl rfl rfl) (h_skip (wg rfl rfl rfl) (h_skip (wg rfl rfl rfl) (h_skip (wg rfl rfl rfl) (h_op (vB false) wz rfl ?_)))))))))))))))))))))))
   refine h_op (vB false) wz rfl (h_nil ?_)
   obtain rfl := some_inj h_6
   exact cut_mk () trivial rfl (pre_r rfl)
 ·rintro ⟨⟩ _ sl_ H_ hp_ hq_
  refine wH_at _ hp_ hq_ ?_
  obtain rfl := some_inj hF
  exact wH_ret (fin0 (.inr rfl) [(vB v_5)] ⟨rfl, trivial⟩ rfl rfl rfl)
end Go.Proofs.YtipcgokielgnhaaGreatDoor.Law

