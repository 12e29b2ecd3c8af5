/-
 The machine computes these plain functions (written by a program of ours).
-/
import Derived.Test.YtipcgokielgnhaaGreatDoorFacts
import Derived.Test.YtipcgokielgnhaaGreatDoorDefs
import Derived.Test.YtipcgokielgnhaaGreatDoorPf4
open Go Go.Eng Go.Proofs
namespace Go.Proofs.YtipcgokielgnhaaGreatDoor.Law
set_option maxRecDepth 100000
set_option linter.unusedVariables false
set_option maxHeartbeats 1000000
theorem alert_CheckPosts_ok {l_1 : (List Post)} {r : Int} (hF : alert_CheckPosts l_1 = some r) :
  FnM Tryz.prog 112 [(vL Post.enc l_1)] [] (vI r) [] := by
 refine FnM.of_wH ⟨Tryz.prog, 44, [], []⟩ rfl Tryz.func112 rfl rfl (Nat.le_of_ble_eq_true rfl) (by kernel_rfl) ?_
 unfold alert_CheckPosts at hF
 refine wH_seq (wH_region (h_op (vI 0) wz rfl (h_nil (wH_seq (wH_seq (wH_region (h_op (vL Post.enc l_1) wz rfl (h_len un166 rfl wz (h_op (vB (decide ((l_1.length : Int) > 500))) wz rfl (h_nil ?_))))))))))
 rcases cond_some hF with ⟨hc_2, hF⟩ | ⟨hc_2, hF⟩
 ·refine wH_ift rfl hc_2 (wH_seq (wH_region (h_op (vI 2) wz rfl (h_nil ?_))))
  obtain rfl := some_inj hF
  exact wH_ret (fin0 (.inr rfl) [(vI 2)] ⟨rfl, trivial⟩ rfl rfl rfl)
 ·refine wH_iff rfl hc_2 (wH_skip (wH_seq (wH_seq (wH_region (h_op (vL Post.enc l_1) wz rfl (h_len un166 rfl wz (h_op (vI 0) wz rfl (h_nil ?_))))))))
  obtain ⟨o_11, hj_12, hF⟩ := bind_some hF
  obtain ⟨hn_7, hj_12⟩ := forL_some hj_12
  refine wH_join (β := (Unit)) (fun (s_8 : Unit) => ([] : List (Nat × V))) (fun (s_8 : Unit) => ([] : Hp)) (fun p => o_11 = .go p) ?_ ?_
  ·refine wH_block (wH_loop (β := Nat × (List Post) × (Unit)) (fun p => (fun (k_3 : Nat) (l_4 : List Post) (s_8 : Unit) => ([(0, (vL Post.enc l_1)), (8, (vL Post.enc l_1)), (9, (vI (l_1.length : Int))), (10, (vI (k_3 : Int)))] : List (Nat × V))) p.1 p.2.1 p.2.2) (fun p => (fun (k_3 : Nat) (l_4 : List Post) (s_8 : Unit) => ([] : Hp)) p.1 p.2.1 p.2.2) (fun p => forR (fun k x s => alert_CheckPosts_L1 l_1 k x s) p.2.1 p.1 p.2.2 = some o_11 ∧ (l_1).drop p.1 = p.2.1) (fun p => p.2.1.length) (0, l_1, ()) ⟨hj_12, rfl⟩ rfl (pre_r rfl) ?_)
   rintro ⟨k_3, l_4, s_8⟩ ⟨hL_10, hD_6⟩
   dsimp only at hL_10 hD_6
   cases l_4 with
   | nil =>
    obtain rfl := some_inj hL_10
    refine wH_seq (wH_region (h_op (vB (decide ((k_3 : Int) < (l_1.length : Int)))) wz rfl (h_nil ?_)))
    refine wH_seq (wH_iff rfl (drop_nil hD_6) (wH_exit ?_))
    exact cut_mk (s_8) rfl rfl (pre_r rfl)
   | cons x_5 l_4 =>
    obtain ⟨c_, hc_9, hL_10⟩ := bind_some hL_10
    refine wH_seq (wH_region (h_op (vB (decide ((k_3 : Int) < (l_1.length : Int)))) wz rfl (h_nil ?_)))
    refine wH_seq (wH_ift rfl (drop_cons hD_6) (wH_skip ?_))
    unfold alert_CheckPosts_L1 at hc_9
    refine wH_seq (wH_block (wH_seq (wH_region (h_op (vI (k_3 : Int)) wz rfl (h_ia es166 rfl rfl (drop_idx hD_6) rfl wz (h_ldc sz118 ag118 rfl (.d (.agg (Post.enc x_5))) rfl wz (h_alloc 0 (.inl rfl) z118 rfl wz (fun n_13 => h_op (vI (k_3 : Int)) wz rfl (h_str 0 (.inl rfl) (fun _ _ _ => trivial) 0 sz118 rfl rfl [(vS x_5.Player), (vI x_5.X), (vI x_5.Y)] rfl wz (h_nil (wH_block (wH_seq (wH_region (h_far pl118_0 rfl 0 rfl wz (h_ldr 0 0 (.inl rfl) (fun _ _ _ => trivial) sz9 ag9 rfl rfl (vS x_5.Player) rfl wz ?_)))))))))))))))
    obtain ⟨r_14, hr_15, hc_9⟩ := bind_some hc_9
    refine h_call0 (kit_IsKey_ok hr_15) rfl hb98 rfl rfl rfl rfl wz (h_op (vB (!r_14)) wz rfl (h_op (vB (!r_14)) wz rfl (h_nil ?_)))
    rcases cond_some hc_9 with ⟨hc_16, hc_9⟩ | ⟨hc_16, hc_9⟩
    ·refine wH_ift rfl hc_16 (wH_seq (wH_region (h_op (vI 5) wz rfl (h_nil ?_))))
     obtain rfl := some_inj hc_9
     obtain rfl := some_inj hL_10
     obtain rfl := some_inj hF
     exact wH_ret (fin0 (.inr rfl) [(vI 5)] ⟨rfl, trivial⟩ rfl rfl rfl)
    ·refine wH_iff rfl hc_16 (wH_seq ?_)
     obtain ⟨v_17, h_18, hc_9⟩ := bind_some hc_9
     refine wH_join (β := Unit) (fun _ => ([(0, (vL Post.enc l_1)), (3, (vI (k_3 : Int))), (4, (.ref n_13 0 0)), (8, (vL Post.enc l_1)), (9, (vI (l_1.length : Int))), (10, (vI (k_3 : Int))), (20, (vB v_17))] : List (Nat × V))) (fun _ => ([(n_13, some (.cells 3 [(vS x_5.Player), (vI x_5.X), (vI x_5.Y)]))] : Hp)) (fun _ => True) ?_ ?_
     ·refine wH_region (h_far pl118_1 rfl 1 rfl wz (h_ldr 0 0 (.inl rfl) (fun _ _ _ => trivial) sz3 ag3 rfl rfl (vI x_5.X) rfl wz ?_))
      obtain ⟨r_19, hr_20, h_18⟩ := bind_some h_18
      refine h_call0 (kit_Outside_ok hr_20) rfl hb79 rfl rfl rfl rfl wz ?_
      rcases cond_some h_18 with ⟨hc_21, h_18⟩ | ⟨hc_21, h_18⟩
      ·refine h_movb rfl hc_21 wz (h_skip (wg rfl rfl rfl) (h_skip (wg rfl rfl rfl) (h_skip (wg rfl rfl rfl) (h_op (vB true) wz rfl (h_op (vB true) wz rfl (h_nil ?_))))))
       obtain rfl := some_inj h_18
       exact cut_mk () trivial rfl (pre_r rfl)
      ·refine h_movb rfl hc_21 wz (h_far pl118_2 rfl 2 rfl (wg rfl rfl rfl) (h_ldr 0 0 (.inl rfl) (fun _ _ _ => trivial) sz3 ag3 rfl rfl (vI x_5.Y) rfl (wg rfl rfl rfl) ?_))
       obtain ⟨r_22, hr_23, h_18⟩ := bind_some h_18
       refine h_call0 (kit_Outside_ok hr_23) rfl hb79 rfl rfl rfl rfl (wg rfl rfl rfl) (h_op (vB r_22) wz rfl (h_op (vB r_22) wz rfl (h_nil ?_)))
       obtain rfl := some_inj h_18
       exact cut_mk () trivial rfl (pre_r rfl)
     ·rintro ⟨⟩ _ sl_ H_ hp_ hq_
      refine wH_at _ hp_ hq_ ?_
      rcases cond_some hc_9 with ⟨hc_24, hc_9⟩ | ⟨hc_24, hc_9⟩
      ·refine wH_ift rfl hc_24 (wH_seq (wH_region (h_op (vI 1) wz rfl (h_nil ?_))))
       obtain rfl := some_inj hc_9
       obtain rfl := some_inj hL_10
       obtain rfl := some_inj hF
       exact wH_ret (fin0 (.inr rfl) [(vI 1)] ⟨rfl, trivial⟩ rfl rfl rfl)
      ·refine wH_iff rfl hc_24 (wH_seq ?_)
       obtain ⟨v_25, h_26, hc_9⟩ := bind_some hc_9
       refine wH_join (β := Unit) (fun _ => ([(0, (vL Post.enc l_1)), (8, (vL Post.enc l_1)), (9, (vI (l_1.length : Int))), (10, (vI (k_3 : Int))), (29, (vB v_25))] : List (Nat × V))) (fun _ => ([(n_13, some (.cells 3 [(vS x_5.Player), (vI x_5.X), (vI x_5.Y)]))] : Hp)) (fun _ => True) ?_ ?_
       ·refine wH_draws (h_op (vI (k_3 : Int)) wz rfl (h_op (vB (decide ((k_3 : Int) > 0))) wz rfl ?_))
        rcases cond_some h_26 with ⟨hc_27, h_26⟩ | ⟨hc_27, h_26⟩
        ·refine h_movb rfl hc_27 wz (h_far pl118_0 rfl 0 rfl (wg rfl rfl rfl) (h_ldr 4 0 (.inr (by kernel_rfl)) (fun _ _ ag => trivial) sz9 ag9 rfl rfl (vS x_5.Player) rfl (wg rfl rfl rfl) (h_op (vL Post.enc l_1) (wg rfl rfl rfl) rfl (h_op (vI (k_3 : Int)) (wg rfl rfl rfl) rfl (h_op (vI (w64 ((k_3 : Int) - 1))) (wg rfl rfl rfl) rfl ?_)))))
         obtain ⟨y_28, hy_29, h_26⟩ := bind_some h_26
         refine h_ia es166 rfl rfl hy_29 rfl (wg rfl rfl rfl) (h_fac pl118_0 rfl [.str y_28.Player, .int .i64 y_28.X, .int .i64 y_28.Y] rfl rfl (wg rfl rfl rfl) (h_ldc sz9 ag9 rfl (vS y_28.Player) rfl (wg rfl rfl rfl) (h_op (vB (sLe x_5.Player y_28.Player)) (wg rfl rfl rfl) rfl (h_op (vB (sLe x_5.Player y_28.Player)) wz rfl (h_op (vB (sLe x_5.Player y_28.Player)) wz rfl (h_nil ?_))))))
         obtain rfl := some_inj h_26
         exact cut_mk () trivial rfl (pre_r rfl)
        ·refine h_movb rfl hc_27 wz (h_skip (wg rfl rfl rfl) (h_skip (wg rfl rfl rfl) (h_skip (wg rfl rfl rfl) (h_skip (wg rfl rfl rfl) (h_skip (wg rfl rfl rfl) (h_skip (wg rfl rfl rfl) (h_skip (wg rfl rfl rfl) (h_skip (wg rfl rfl rfl) (h_skip (wg rfl rfl rfl) (h_op (vB false) wz rfl (h_op (vB false) wz rfl (h_nil ?_))))))))))))
         obtain rfl := some_inj h_26
         exact cut_mk () trivial rfl (pre_r rfl)
       ·rintro ⟨⟩ _ sl_ H_ hp_ hq_
        refine wH_at _ hp_ hq_ ?_
        rcases cond_some hc_9 with ⟨hc_30, hc_9⟩ | ⟨hc_30, hc_9⟩
        ·refine wH_ift rfl hc_30 (wH_seq (wH_region (h_op (vI 7) wz rfl (h_nil ?_))))
         obtain rfl := some_inj hc_9
         obtain rfl := some_inj hL_10
         obtain rfl := some_inj hF
         exact wH_ret (fin0 (.inr rfl) [(vI 7)] ⟨rfl, trivial⟩ rfl rfl rfl)
        ·refine wH_iff rfl hc_30 (wH_skip (wH_region (h_opw (w64_next hD_6 hn_7) wz rfl (h_op (vI ((k_3 + 1 : Nat) : Int)) wz rfl (h_nil ?_)))))
         obtain rfl := some_inj hc_9
         exact loop_mk (k_3 + 1, l_4, ()) ⟨hL_10, drop_next hD_6⟩ (Nat.lt_succ_self _) rfl (pre_r rfl)
  ·rintro s_8 ho_ sl_ H_ hp_ hq_
   subst ho_
   refine wH_at _ hp_ hq_ (wH_seq (wH_region (h_op (vI 0) wz rfl (h_nil ?_))))
   obtain rfl := some_inj hF
   exact wH_ret (fin0 (.inr rfl) [(vI 0)] ⟨rfl, trivial⟩ rfl rfl rfl)
theorem alert_checkBoth_ok {l_1 : (List Alert)} {posts_2 : (List Post)} {r : Int} (hF : alert_checkBoth l_1 posts_2 = some r) :
  FnM Tryz.prog 90 [(vL Alert.enc l_1), (vL Post.enc posts_2)] [] (vI r) [] := by
 refine FnM.of_wH ⟨Tryz.prog, 13, [], []⟩ rfl Tryz.func90 rfl rfl (Nat.le_of_ble_eq_true rfl) (by kernel_rfl) ?_
 unfold alert_checkBoth at hF
 refine wH_seq (wH_region (h_op (vI 0) wz rfl (h_nil (wH_seq (wH_seq (wH_region (h_op (vL Alert.enc l_1) wz rfl ?_)))))))
 obtain ⟨r_3, hr_4, hF⟩ := bind_some hF
 refine h_call0 (alert_CheckAlerts_ok hr_4) rfl hb111 rfl rfl rfl rfl wz (h_op (vI r_3) wz rfl (h_nil (wH_seq (wH_region (h_op (vI r_3) wz rfl (h_op (vB (r_3 != 0)) wz rfl (h_nil ?_)))))))
 rcases cond_some hF with ⟨hc_5, hF⟩ | ⟨hc_5, hF⟩
 ·refine wH_ift rfl hc_5 (wH_seq (wH_region (h_op (vI r_3) wz rfl (h_op (vI r_3) wz rfl (h_nil ?_)))))
  obtain rfl := some_inj hF
  exact wH_ret (fin0 (.inr rfl) [(vI r_3)] ⟨rfl, trivial⟩ rfl rfl rfl)
 ·refine wH_iff rfl hc_5 (wH_skip (wH_seq (wH_region (h_op (vL Post.enc posts_2) wz rfl ?_))))
  obtain ⟨r_6, hr_7, hF⟩ := bind_some hF
  refine h_call0 (alert_CheckPosts_ok hr_7) rfl hb112 rfl rfl rfl rfl wz (h_op (vI r_6) wz rfl (h_nil ?_))
  obtain rfl := some_inj hF
  exact wH_ret (fin0 (.inr rfl) [(vI r_6)] ⟨rfl, trivial⟩ rfl rfl rfl)
theorem alert_reaches_1_ok {r_1 : Rect} {p_2 : Post} {r : Bool} (hF : alert_reaches_1 r_1 p_2 = some r) :
  FnM Tryz.prog 113 [(.d (.agg (Rect.enc r_1))), (.ref (extN 0) 0 0)] [(.cells 3 [(vS p_2.Player), (vI p_2.X), (vI p_2.Y)])] (vB r) [some (.cells 3 [(vS p_2.Player), (vI p_2.X), (vI p_2.Y)])] := by
 refine FnM.of_wH ⟨Tryz.prog, 36, [], []⟩ rfl Tryz.func113 rfl rfl (Nat.le_of_ble_eq_true rfl) (by kernel_rfl) ?_
 unfold alert_reaches_1 at hF
 refine wH_seq (wH_region (h_box 0 (.inl rfl) [(vI r_1.X), (vI r_1.Y), (vI r_1.W), (vI r_1.H)] rfl rfl wz (fun n_3 => h_op (vB false) wz rfl (h_nil (wH_seq ?_)))))
 obtain ⟨v_4, h_5, hF⟩ := bind_some hF
 refine wH_join (β := Unit) (fun _ => ([(3, (vB v_4))] : List (Nat × V))) (fun _ => ([((extN 0), some (.cells 3 [(vS p_2.Player), (vI p_2.X), (vI p_2.Y)])), (n_3, some (.cells 4 [(vI r_1.X), (vI r_1.Y), (vI r_1.W), (vI r_1.H)]))] : Hp)) (fun _ => True) ?_ ?_
 ·refine wH_region (h_far pl29_0 rfl 0 rfl wz (h_ldr 0 1 (.inl rfl) (fun _ _ _ => trivial) sz3 ag3 rfl rfl (vI r_1.X) rfl wz (h_far pl118_1 rfl 1 rfl wz (h_ldr 0 0 (.inl rfl) (fun _ _ _ => trivial) sz3 ag3 rfl rfl (vI p_2.X) rfl wz (h_op (vB (decide (r_1.X ≤ p_2.X))) wz rfl ?_)))))
  rcases cond_some h_5 with ⟨hc_6, h_5⟩ | ⟨hc_6, h_5⟩
  ·refine h_movb rfl hc_6 wz (h_far pl118_1 rfl 1 rfl (wg rfl rfl rfl) (h_ldr 0 0 (.inl rfl) (fun _ _ _ => trivial) sz3 ag3 rfl rfl (vI p_2.X) rfl (wg rfl rfl rfl) (h_far pl29_0 rfl 0 rfl (wg rfl rfl rfl) (h_ldr 0 1 (.inl rfl) (fun _ _ _ => trivial) sz3 ag3 rfl rfl (vI r_1.X) rfl (wg rfl rfl rfl) (h_far pl29_2 rfl 2 rfl (wg rfl rfl rfl) (h_ldr 0 1 (.inl rfl) (fun _ _ _ => trivial) sz3 ag3 rfl rfl (vI r_1.W) rfl (wg rfl rfl rfl) (h_op (vI (w64 (r_1.X + r_1.W))) (wg rfl rfl rfl) rfl (h_op (vB (decide (p_2.X < (w64 (r_1.X + r_1.W))))) (wg rfl rfl rfl) rfl (h_op (vB (decide (p_2.X < (w64 (r_1.X + r_1.W))))) wz rfl ?_)))))))))
   rcases cond_some h_5 with ⟨hc_7, h_5⟩ | ⟨hc_7, h_5⟩
   ·refine h_movb rfl hc_7 wz (h_far pl29_1 rfl 1 rfl (wg rfl rfl rfl) (h_ldr 0 1 (.inl rfl) (fun _ _ _ => trivial) sz3 ag3 rfl rfl (vI r_1.Y) rfl (wg rfl rfl rfl) (h_far pl118_2 rfl 2 rfl (wg rfl rfl rfl) (h_ldr 0 0 (.inl rfl) (fun _ _ _ => trivial) sz3 ag3 rfl rfl (vI p_2.Y) rfl (wg rfl rfl rfl) (h_op (vB (decide (r_1.Y ≤ p_2.Y))) (wg rfl rfl rfl) rfl (h_op (vB (decide (r_1.Y ≤ p_2.Y))) wz rfl ?_))))))
    rcases cond_some h_5 with ⟨hc_8, h_5⟩ | ⟨hc_8, h_5⟩
    ·refine h_movb rfl hc_8 wz (h_far pl118_2 rfl 2 rfl (wg rfl rfl rfl) (h_ldr 0 0 (.inl rfl) (fun _ _ _ => trivial) sz3 ag3 rfl rfl (vI p_2.Y) rfl (wg rfl rfl rfl) (h_far pl29_1 rfl 1 rfl (wg rfl rfl rfl) (h_ldr 0 1 (.inl rfl) (fun _ _ _ => trivial) sz3 ag3 rfl rfl (vI r_1.Y) rfl (wg rfl rfl rfl) (h_far pl29_3 rfl 3 rfl (wg rfl rfl rfl) (h_ldr 0 1 (.inl rfl) (fun _ _ _ => trivial) sz3 ag3 rfl rfl (vI r_1.H) rfl (wg rfl rfl rfl) (h_op (vI (w64 (r_1.Y + r_1.H))) (wg rfl rfl rfl) rfl (h_op (vB (decide (p_2.Y < (w64 (r_1.Y + r_1.H))))) (wg rfl rfl rfl) rfl (h_op (vB (decide (p_2.Y < (w64 (r_1.Y + r_1.H))))) wz rfl (h_op (vB (decide (p_2.Y < (w64 (r_1.Y + r_1.H))))) wz rfl (h_nil ?_)))))))))))
     obtain rfl := some_inj h_5
     exact cut_mk () trivial rfl (pre_r rfl)
    ·refine h_movb rfl hc_8 wz (h_skip (wg rfl rfl rfl) (h_skip (wg rfl rfl rfl) (h_skip (wg rfl rfl rfl) (h_skip (wg rfl rfl rfl) (h_skip (wg rfl rfl rfl) (h_skip (wg rfl rfl rfl) (h_skip (wg rfl rfl rfl) (h_skip (wg rfl rfl rfl) (h_op (vB false) wz rfl (h_op (vB false) wz rfl (h_nil ?_)))))))))))
     obtain rfl := some_inj h_5
     exact cut_mk () trivial rfl (pre_r rfl)
   ·refine h_movb rfl hc_7 wz (h_skip (wg rfl rfl rfl) (h_skip (wg rfl rfl rfl) (h_skip (wg rfl rfl rfl) (h_skip (wg rfl rfl rfl) (h_skip (wg rfl rfl rfl) (h_op (vB false) wz rfl (h_op (vB false) wz rfl (h_skip (wg rfl rfl rfl) (h_skip (wg rfl rfl rfl) (h_skip (wg rfl rfl rfl) (h_skip (wg rfl rfl rfl) (h_skip (wg rfl rfl rfl) (h_skip (wg rfl rfl rfl) (h_skip (wg rfl rfl rfl) (h_skip (wg rfl rfl rfl) (h_op (vB false) wz rfl (h_op (vB false) wz rfl (h_nil ?_))))))))))))))))))
    obtain rfl := some_inj h_5
    exact cut_mk () trivial rfl (pre_r rfl)
  ·refine h_movb rfl hc_6 wz (h_skip (wg rfl rfl rfl) (h_skip (wg rfl rfl rfl) (h_skip (wg rfl rfl rfl) (h_skip (wg rfl rfl rfl) (h_skip (wg rfl rfl rfl) (h_skip (wg rfl rfl rfl) (h_skip (wg rfl rfl rfl) (h_skip (wg rfl rfl rfl) (h_op (vB false) wz rfl (h_op (vB false) wz rfl (h_skip (wg rfl rfl rfl) (h_skip (wg rfl rfl rfl) (h_skip (wg rfl rfl rfl) (h_skip (wg rfl rfl rfl) (h_skip (wg rfl rfl rfl) (h_op (vB false) wz rfl (h_op (vB false) wz rfl (h_skip (wg rfl rfl rfl) (h_skip (wg rfl rfl rfl) (h_skip (wg rfl rfl rfl) (h_skip (wg rfl rfl rfl) (h_skip (wg rfl rfl rfl) (h_skip (wg rfl rfl rfl) ?_)))))))))))))))))))))))
   refine h_skip (wg rfl rfl rfl) (h_skip (wg rfl rfl rfl) (h_op (vB false) wz rfl (h_op (vB false) wz rfl (h_nil ?_))))
   obtain rfl := some_inj h_5
   exact cut_mk () trivial rfl (pre_r rfl)
 ·rintro ⟨⟩ _ sl_ H_ hp_ hq_
  refine wH_at _ hp_ hq_ ?_
  obtain rfl := some_inj hF
  exact wH_ret (finB (.inr rfl) [(vB v_4)] _ [0] [extN 0] ⟨rfl, trivial⟩ (.cons (co_data rfl rfl) (.nil)) (by kernel_rfl) ⟨(by kernel_rfl), trivial⟩ (by decide) (by kernel_rfl))
theorem slices_IndexFunc_api_Rect_api_Rect_ok {s_1 : (List Rect)} {f_2 : Rect → Option Bool} {r : Int} {gid : FuncId} {caps : List V} {Sin : List Box} (hfn : ∀ x0 r, f_2 x0 = some r → FnM Tryz.prog gid ([(.d (.agg (Rect.enc x0)))] ++ caps) Sin (vB r) (Sin.map some)) (hbF : hasBody Tryz.prog gid = true) (hcapF : caps.flatMap frz = [] ∧ caps.map co0 = caps) (hokF : okL Sin.length caps = true) (hsF : ∀ b ∈ Sin, b.ok Sin.length = true) (hmF : ∀ b ∈ Sin, b.mut = true) (hF : slices_IndexFunc_api_Rect_api_Rect s_1 f_2 = some r) :
  FnM Tryz.prog 92 [(vL Rect.enc s_1), (.fn gid caps)] Sin (vI r) (Sin.map some) := by
 refine FnM.of_wH ⟨Tryz.prog, 19, [], []⟩ rfl Tryz.func92 rfl rfl (Nat.le_of_ble_eq_true rfl) (by kernel_rfl) ?_
 unfold slices_IndexFunc_api_Rect_api_Rect at hF
 refine wH_seq (wH_region (h_op (vI 0) wz rfl (h_nil (wH_seq (wH_seq (wH_region (h_op (vL Rect.enc s_1) wz rfl (h_len un27 rfl wz (h_op (vI 0) wz rfl (h_nil ?_))))))))))
 obtain ⟨o_11, hj_12, hF⟩ := bind_some hF
 obtain ⟨hn_7, hj_12⟩ := forL_some hj_12
 refine wH_join (β := (Unit)) (fun (s_8 : Unit) => ([] : List (Nat × V))) (fun (s_8 : Unit) => (initH 0 Sin)) (fun p => o_11 = .go p) ?_ ?_
 ·refine wH_block (wH_loop (β := Nat × (List Rect) × (Unit)) (fun p => (fun (k_3 : Nat) (l_4 : List Rect) (s_8 : Unit) => ([(0, (vL Rect.enc s_1)), (1, (.fn gid caps)), (7, (vI (s_1.length : Int))), (8, (vI (k_3 : Int)))] : List (Nat × V))) p.1 p.2.1 p.2.2) (fun p => (fun (k_3 : Nat) (l_4 : List Rect) (s_8 : Unit) => (initH 0 Sin)) p.1 p.2.1 p.2.2) (fun p => forR (fun k x s => slices_IndexFunc_api_Rect_api_Rect_L1 f_2 k x s) p.2.1 p.1 p.2.2 = some o_11 ∧ (s_1).drop p.1 = p.2.1) (fun p => p.2.1.length) (0, s_1, ()) ⟨hj_12, rfl⟩ rfl (pre_self _) ?_)
  rintro ⟨k_3, l_4, s_8⟩ ⟨hL_10, hD_6⟩
  dsimp only at hL_10 hD_6
  cases l_4 with
  | nil =>
   obtain rfl := some_inj hL_10
   refine wH_seq (wH_region (h_op (vB (decide ((k_3 : Int) < (s_1.length : Int)))) wz rfl (h_nil ?_)))
   refine wH_seq (wH_iff rfl (drop_nil hD_6) (wH_exit ?_))
   exact cut_mk (s_8) rfl rfl (pre_self _)
  | cons x_5 l_4 =>
   obtain ⟨c_, hc_9, hL_10⟩ := bind_some hL_10
   refine wH_seq (wH_region (h_op (vB (decide ((k_3 : Int) < (s_1.length : Int)))) wz rfl (h_nil ?_)))
   refine wH_seq (wH_ift rfl (drop_cons hD_6) (wH_skip ?_))
   unfold slices_IndexFunc_api_Rect_api_Rect_L1 at hc_9
   refine wH_seq (wH_block (wH_seq (wH_region (h_op (vI (k_3 : Int)) wz rfl (h_op (vI (k_3 : Int)) wz rfl (h_nil (wH_seq (wH_region (h_op (.fn gid caps) wz rfl (h_op (vL Rect.enc s_1) wz rfl (h_op (vI (k_3 : Int)) wz rfl (h_ia es27 rfl rfl (drop_idx hD_6) rfl wz (h_ldc sz29 ag29 rfl (.d (.agg (Rect.enc x_5))) rfl wz ?_)))))))))))))
   obtain ⟨r_13, hr_14, hc_9⟩ := bind_some hc_9
   refine h_callS (hfn _ _ hr_14) rfl hbF rfl rfl hcapF hokF hsF hmF rfl wz rfl (h_nil ?_)
   rcases cond_some hc_9 with ⟨hc_15, hc_9⟩ | ⟨hc_15, hc_9⟩
   ·refine wH_ift rfl hc_15 (wH_seq (wH_region (h_op (vI (k_3 : Int)) wz rfl (h_op (vI (k_3 : Int)) wz rfl (h_nil ?_)))))
    obtain rfl := some_inj hc_9
    obtain rfl := some_inj hL_10
    obtain rfl := some_inj hF
    exact wH_ret (finS hsF (.inr rfl) [(vI (k_3 : Int))] ⟨rfl, trivial⟩ rfl rfl rfl)
   ·refine wH_iff rfl hc_15 (wH_skip (wH_region (h_opw (w64_next hD_6 hn_7) wz rfl (h_op (vI ((k_3 + 1 : Nat) : Int)) wz rfl (h_nil ?_)))))
    obtain rfl := some_inj hc_9
    exact loop_mk (k_3 + 1, l_4, ()) ⟨hL_10, drop_next hD_6⟩ (Nat.lt_succ_self _) rfl (pre_self _)
 ·rintro s_8 ho_ sl_ H_ hp_ hq_
  subst ho_
  refine wH_at _ hp_ hq_ (wH_seq (wH_region (h_op (vI (-1)) wz rfl (h_nil ?_))))
  obtain rfl := some_inj hF
  exact wH_ret (finS hsF (.inr rfl) [(vI (-1))] ⟨rfl, trivial⟩ rfl rfl rfl)
theorem slices_ContainsFunc_api_Rect_api_Rect_ok {s_1 : (List Rect)} {f_2 : Rect → Option Bool} {r : Bool} {gid : FuncId} {caps : List V} {Sin : List Box} (hfn : ∀ x0 r, f_2 x0 = some r → FnM Tryz.prog gid ([(.d (.agg (Rect.enc x0)))] ++ caps) Sin (vB r) (Sin.map some)) (hbF : hasBody Tryz.prog gid = true) (hcapF : caps.flatMap frz = [] ∧ caps.map co0 = caps) (hokF : okL Sin.length caps = true) (hsF : ∀ b ∈ Sin, b.ok Sin.length = true) (hmF : ∀ b ∈ Sin, b.mut = true) (hF : slices_ContainsFunc_api_Rect_api_Rect s_1 f_2 = some r) :
  FnM Tryz.prog 55 [(vL Rect.enc s_1), (.fn gid caps)] Sin (vB r) (Sin.map some) := by
 refine FnM.of_wH ⟨Tryz.prog, 9, [], []⟩ rfl Tryz.func55 rfl rfl (Nat.le_of_ble_eq_true rfl) (by kernel_rfl) ?_
 unfold slices_ContainsFunc_api_Rect_api_Rect at hF
 refine wH_seq (wH_region (h_op (vB false) wz rfl (h_nil (wH_seq (wH_region (h_op (vL Rect.enc s_1) wz rfl (h_op (.fn gid caps) wz rfl ?_)))))))
 obtain ⟨r_3, hr_4, hF⟩ := bind_some hF
 refine h_callS (slices_IndexFunc_api_Rect_api_Rect_ok (gid := gid) (caps := caps) (Sin := Sin) hfn hbF hcapF hokF hsF hmF hr_4) rfl hb92 rfl rfl ⟨rfl, rfl⟩ (by simp [okL, okV, hokF]) hsF hmF rfl wz rfl (h_op (vB (decide (r_3 ≥ 0))) wz rfl (h_op (vB (decide (r_3 ≥ 0))) wz rfl (h_nil ?_)))
 obtain rfl := some_inj hF
 exact wH_ret (finS hsF (.inr rfl) [(vB (decide (r_3 ≥ 0)))] ⟨rfl, trivial⟩ rfl rfl rfl)
theorem alert_reaches_ok {a_1 : Alert} {p_2 : Post} {r : Bool} (hF : alert_reaches a_1 p_2 = some r) :
  FnM Tryz.prog 91 [(.d (.agg (Alert.enc a_1))), (.d (.agg (Post.enc p_2)))] [] (vB r) [] := by
 refine FnM.of_wH ⟨Tryz.prog, 9, [], []⟩ rfl Tryz.func91 rfl rfl (Nat.le_of_ble_eq_true rfl) (by kernel_rfl) ?_
 unfold alert_reaches at hF
 refine wH_seq (wH_region (h_box 0 (.inl rfl) [(vS a_1.Id), (vS a_1.Sender), (vI a_1.Kind), (vL eS a_1.Refs), (vI a_1.At), (vI a_1.Until), (vI a_1.Weight), (vL Rect.enc a_1.Areas), (vS a_1.Text)] rfl rfl wz (fun n_3 => h_box 0 (.inl rfl) [(vS p_2.Player), (vI p_2.X), (vI p_2.Y)] rfl rfl wz (fun n_4 => h_op (vB false) wz rfl (h_nil (wH_seq (wH_region (h_far pl114_7 rfl 7 rfl wz (h_ldr 0 0 (.inl rfl) (fun _ _ _ => trivial) sz27 ag27 rfl rfl (vL Rect.enc a_1.Areas) rfl wz (h_op (.fn 113 [(.ref n_4 0 0)]) wz rfl ?_))))))))))
 obtain ⟨r_5, hr_6, hF⟩ := bind_some hF
 refine h_callq 0 [1] (.inl rfl) (fun _ _ _ => trivial) (slices_ContainsFunc_api_Rect_api_Rect_ok (gid := 113) (caps := [.ref (extN 0) 0 0]) (Sin := [(.cells 3 [(vS p_2.Player), (vI p_2.X), (vI p_2.Y)])]) (fun _ _ h_ => alert_reaches_1_ok h_) hb113 ⟨rfl, rfl⟩ (by kernel_rfl) (all_ok (by kernel_rfl)) (all_mut (by kernel_rfl)) hr_6) rfl hb55 rfl (by kernel_rfl) (by kernel_rfl) (by kernel_rfl) (by kernel_rfl) (by kernel_rfl) (by kernel_rfl) (by kernel_rfl) (by decide) (by kernel_rfl) wz (vB r_5) (by kernel_rfl) ([(n_3, some (.cells 9 [(vS a_1.Id), (vS a_1.Sender), (vI a_1.Kind), (vL eS a_1.Refs), (vI a_1.At), (vI a_1.Until), (vI a_1.Weight), (vL Rect.enc a_1.Areas), (vS a_1.Text)])), (n_4, some (.cells 3 [(vS p_2.Player), (vI p_2.X), (vI p_2.Y)]))] : Hp) (by kernel_rfl) (h_op (vB r_5) wz rfl (h_nil ?_))
 obtain rfl := some_inj hF
 exact wH_ret (fin0 (.inr rfl) [(vB r_5)] ⟨rfl, trivial⟩ rfl rfl rfl)
theorem alert_Reaches_ok {a_1 : Alert} {p_2 : Post} {r : Bool × Int} (hF : alert_Reaches a_1 p_2 = some r) :
  FnM Tryz.prog 51 [(.d (.agg (Alert.enc a_1))), (.d (.agg (Post.enc p_2)))] [] (.tup [(vB r.1), (vI r.2)]) [] := by
 refine FnM.of_wH ⟨Tryz.prog, 18, [], []⟩ rfl Tryz.func51 rfl rfl (Nat.le_of_ble_eq_true rfl) (by kernel_rfl) ?_
 unfold alert_Reaches at hF
 refine wH_seq (wH_region (h_box 0 (.inl rfl) [(vS a_1.Id), (vS a_1.Sender), (vI a_1.Kind), (vL eS a_1.Refs), (vI a_1.At), (vI a_1.Until), (vI a_1.Weight), (vL Rect.enc a_1.Areas), (vS a_1.Text)] rfl rfl wz (fun n_3 => h_box 0 (.inl rfl) [(vS p_2.Player), (vI p_2.X), (vI p_2.Y)] rfl rfl wz (fun n_4 => h_op (vB false) wz rfl (h_op (vI 0) wz rfl (h_nil (wH_seq (wH_seq (wH_region (h_ldr 0 0 (.inl rfl) (fun _ _ _ => trivial) sz114 ag114 rfl rfl (.d (.agg (Alert.enc a_1))) rfl wz (h_lit (([a_1] : List Alert).map Alert.enc) es165 ez165 rfl rfl rfl rfl rfl wz (h_ldr 0 1 (.inl rfl) (fun _ _ _ => trivial) sz118 ag118 rfl rfl (.d (.agg (Post.enc p_2))) rfl wz (h_lit (([p_2] : List Post).map Post.enc) es166 ez166 rfl rfl rfl rfl rfl wz ?_)))))))))))))
 obtain ⟨r_5, hr_6, hF⟩ := bind_some hF
 refine h_call0 (alert_checkBoth_ok hr_6) rfl hb90 rfl rfl rfl rfl wz (h_op (vI r_5) wz rfl (h_nil (wH_seq (wH_region (h_op (vI r_5) wz rfl (h_op (vB (r_5 != 0)) wz rfl (h_nil ?_)))))))
 rcases cond_some hF with ⟨hc_7, hF⟩ | ⟨hc_7, hF⟩
 ·refine wH_ift rfl hc_7 (wH_seq (wH_region (h_op (vI r_5) wz rfl (h_op (vB false) wz rfl (h_op (vI r_5) wz rfl (h_nil ?_))))))
  obtain rfl := some_inj hF
  exact wH_ret (fin0 (.inr rfl) [(vB false), (vI r_5)] ⟨rfl, ⟨rfl, trivial⟩⟩ rfl rfl rfl)
 ·refine wH_iff rfl hc_7 (wH_skip (wH_seq (wH_region (h_ldr 0 0 (.inl rfl) (fun _ _ _ => trivial) sz114 ag114 rfl rfl (.d (.agg (Alert.enc a_1))) rfl wz (h_ldr 0 1 (.inl rfl) (fun _ _ _ => trivial) sz118 ag118 rfl rfl (.d (.agg (Post.enc p_2))) rfl wz ?_)))))
  obtain ⟨r_8, hr_9, hF⟩ := bind_some hF
  refine h_call0 (alert_reaches_ok hr_9) rfl hb91 rfl rfl rfl rfl wz (h_op (vB r_8) wz rfl (h_op (vI 0) wz rfl (h_nil ?_)))
  obtain rfl := some_inj hF
  exact wH_ret (fin0 (.inr rfl) [(vB r_8), (vI 0)] ⟨rfl, ⟨rfl, trivial⟩⟩ rfl rfl rfl)
theorem keep_errs_ok {l_1 : (List Int)} {r : Int} (hF : keep_errs l_1 = some r) :
  FnM Tryz.prog 21 [(vL eI l_1)] [] (vI r) [] := by
 refine FnM.of_wH ⟨Tryz.prog, 15, [], []⟩ rfl Tryz.func21 rfl rfl (Nat.le_of_ble_eq_true rfl) (by kernel_rfl) ?_
 unfold keep_errs at hF
 refine wH_seq (wH_region (h_op (vI 0) wz rfl (h_nil (wH_seq (wH_seq (wH_region (h_op (vL eI l_1) wz rfl (h_len un123 rfl wz (h_op (vI 0) wz rfl (h_nil ?_))))))))))
 obtain ⟨o_10, hj_11, hF⟩ := bind_some hF
 obtain ⟨hn_6, hj_11⟩ := forL_some hj_11
 refine wH_join (β := (Unit)) (fun (s_7 : Unit) => ([] : List (Nat × V))) (fun (s_7 : Unit) => ([] : Hp)) (fun p => o_10 = .go p) ?_ ?_
 ·refine wH_block (wH_loop (β := Nat × (List Int) × (Unit)) (fun p => (fun (k_2 : Nat) (l_3 : List Int) (s_7 : Unit) => ([(5, (vL eI l_1)), (6, (vI (l_1.length : Int))), (7, (vI (k_2 : Int)))] : List (Nat × V))) p.1 p.2.1 p.2.2) (fun p => (fun (k_2 : Nat) (l_3 : List Int) (s_7 : Unit) => ([] : Hp)) p.1 p.2.1 p.2.2) (fun p => forR (fun k x s => keep_errs_L1 k x s) p.2.1 p.1 p.2.2 = some o_10 ∧ (l_1).drop p.1 = p.2.1) (fun p => p.2.1.length) (0, l_1, ()) ⟨hj_11, rfl⟩ rfl (pre_r rfl) ?_)
  rintro ⟨k_2, l_3, s_7⟩ ⟨hL_9, hD_5⟩
  dsimp only at hL_9 hD_5
  cases l_3 with
  | nil =>
   obtain rfl := some_inj hL_9
   refine wH_seq (wH_region (h_op (vB (decide ((k_2 : Int) < (l_1.length : Int)))) wz rfl (h_nil ?_)))
   refine wH_seq (wH_iff rfl (drop_nil hD_5) (wH_exit ?_))
   exact cut_mk (s_7) rfl rfl (pre_r rfl)
  | cons x_4 l_3 =>
   obtain ⟨c_, hc_8, hL_9⟩ := bind_some hL_9
   refine wH_seq (wH_region (h_op (vB (decide ((k_2 : Int) < (l_1.length : Int)))) wz rfl (h_nil ?_)))
   refine wH_seq (wH_ift rfl (drop_cons hD_5) (wH_skip ?_))
   unfold keep_errs_L1 at hc_8
   refine wH_seq (wH_block (wH_seq (wH_region (h_ia es123 rfl rfl (drop_idx hD_5) rfl wz (h_ldc sz30 ag30 rfl (vI x_4) rfl wz (h_op (vI x_4) wz rfl (h_nil (wH_seq (wH_region (h_op (vI x_4) wz rfl (h_op (vB (x_4 != 0)) wz rfl (h_nil ?_))))))))))))
   rcases cond_some hc_8 with ⟨hc_12, hc_8⟩ | ⟨hc_12, hc_8⟩
   ·refine wH_ift rfl hc_12 (wH_seq (wH_region (h_op (vI x_4) wz rfl (h_op (vI x_4) wz rfl (h_nil ?_)))))
    obtain rfl := some_inj hc_8
    obtain rfl := some_inj hL_9
    obtain rfl := some_inj hF
    exact wH_ret (fin0 (.inr rfl) [(vI x_4)] ⟨rfl, trivial⟩ rfl rfl rfl)
   ·refine wH_iff rfl hc_12 (wH_skip (wH_region (h_opw (w64_next hD_5 hn_6) wz rfl (h_op (vI ((k_2 + 1 : Nat) : Int)) wz rfl (h_nil ?_)))))
    obtain rfl := some_inj hc_8
    exact loop_mk (k_2 + 1, l_3, ()) ⟨hL_9, drop_next hD_5⟩ (Nat.lt_succ_self _) rfl (pre_r rfl)
 ·rintro s_7 ho_ sl_ H_ hp_ hq_
  subst ho_
  refine wH_at _ hp_ hq_ (wH_seq (wH_region (h_op (vI 0) wz rfl (h_nil ?_))))
  obtain rfl := some_inj hF
  exact wH_ret (fin0 (.inr rfl) [(vI 0)] ⟨rfl, trivial⟩ rfl rfl rfl)
theorem keep_ready_ok {r : Bool} (hF : keep_ready  = some r) :
  FnM Tryz.prog 14 [] [] (vB r) [] := by
 refine FnM.of_wH ⟨Tryz.prog, 75, [], []⟩ rfl Tryz.func14 rfl rfl (Nat.le_of_ble_eq_true rfl) (by kernel_rfl) ?_
 unfold keep_ready at hF
 refine wH_seq (wH_region (h_op (vB false) wz rfl (h_nil (wH_seq (wH_region (h_op (.d (.agg (Rect.enc (⟨0, 0, 2, 2⟩ : Rect)))) wz (by kernel_rfl) (h_op (.d (.agg (Rect.enc (⟨1, 1, 2, 2⟩ : Rect)))) wz (by kernel_rfl) (h_lit (([(⟨0, 0, 2, 2⟩ : Rect), (⟨1, 1, 2, 2⟩ : Rect)] : List Rect).map Rect.enc) es27 ez27 rfl rfl rfl rfl rfl wz ?_))))))))
 obtain ⟨r_1, hr_2, hF⟩ := bind_some hF
 refine h_call0 (screen_Area_ok hr_2) rfl hb19 rfl rfl rfl rfl wz (h_op (.tup [(vI r_1.1), (vI r_1.2)]) wz rfl (h_op (vI r_1.1) wz rfl (h_op (vI r_1.2) wz rfl (h_op (vI r_1.1) wz rfl (h_op (vI r_1.2) wz rfl (h_nil (wH_seq (wH_region (h_op (.agg [(vS (⟨#[97]⟩ : ByteArray)), (vS (⟨#[98]⟩ : ByteArray)), (vI 0), (vI 0), (vI 0), (vI 1), (vI 127), .nil, (vI 1), (vI 2), (vI 0), .nil, (vB false)]) wz (by kernel_rfl) (h_op (.d (.agg (Window.enc (⟨0, 86400000⟩ : Window)))) wz (by kernel_rfl) ?_))))))))))
 obtain ⟨r_3, hr_4, hF⟩ := bind_some hF
 refine h_call0 (schedule_Times_ok hr_4) rfl hb50 rfl rfl rfl rfl wz (h_op (.tup [(vL Window.enc r_3.1), (vI r_3.2)]) wz rfl (h_op (vL Window.enc r_3.1) wz rfl (h_op (vI r_3.2) wz rfl (h_op (vL Window.enc r_3.1) wz rfl (h_op (vI r_3.2) wz rfl (h_nil (wH_seq (wH_region (h_op (.d (.agg (Window.enc (⟨0, 100⟩ : Window)))) wz (by kernel_rfl) (h_op (.agg [(vS (⟨#[97]⟩ : ByteArray)), (vS (⟨#[]⟩ : ByteArray)), (vI 0), (vI 100), .nil, (vI 10), (vI 0), (vI 0)]) wz (by kernel_rfl) ?_))))))))))
 obtain ⟨r_5, hr_6, hF⟩ := bind_some hF
 refine h_call0 (booking_Due_ok hr_6) rfl hb38 rfl rfl rfl rfl wz (h_op (.tup [(vI r_5.1), (vI r_5.2)]) wz rfl (h_op (vI r_5.1) wz rfl (h_op (vI r_5.2) wz rfl (h_op (vI r_5.1) wz rfl (h_op (vI r_5.2) wz rfl (h_nil (wH_seq (wH_region (h_op (.d (.agg (Beat.enc (⟨(⟨#[112]⟩ : ByteArray), 0, 100⟩ : Beat)))) wz (by kernel_rfl) (h_op (.d (.agg (Beat.enc (⟨(⟨#[112]⟩ : ByteArray), 1000, 1300⟩ : Beat)))) wz (by kernel_rfl) (h_lit (([(⟨(⟨#[112]⟩ : ByteArray), 0, 100⟩ : Beat), (⟨(⟨#[112]⟩ : ByteArray), 1000, 1300⟩ : Beat)] : List Beat).map Beat.enc) es81 ez81 rfl rfl rfl rfl rfl wz ?_)))))))))))
 obtain ⟨r_7, hr_8, hF⟩ := bind_some hF
 refine h_call0 (proof_Right_ok hr_8) rfl hb35 rfl rfl rfl rfl wz (h_op (.tup [(vI r_7.1), (vI r_7.2)]) wz rfl (h_op (vI r_7.1) wz rfl (h_op (vI r_7.2) wz rfl (h_op (vI r_7.1) wz rfl (h_op (vI r_7.2) wz rfl (h_nil (wH_at (H0 := ([] : Hp)) ([(1, (vI r_1.1)), (2, (vI r_1.2)), (3, (vL Window.enc r_3.1)), (4, (vI r_3.2)), (5, (vI r_5.1)), (6, (vI r_5.2)), (7, (vI r_7.1)), (8, (vI r_7.2))] : List (Nat × V)) (by kernel_rfl) (pre_mk (by kernel_rfl)) (wH_seq (wH_region (h_op (.d (.agg (Rect.enc (⟨0, 0, 2, 2⟩ : Rect)))) wz (by kernel_rfl) (h_lit (([(⟨0, 0, 2, 2⟩ : Rect)] : List Rect).map Rect.enc) es27 ez27 rfl rfl rfl rfl rfl wz (h_op (.agg [(vS (⟨#[97]⟩ : ByteArray)), (vS (⟨#[115]⟩ : ByteArray)), (vI 1), .nil, (vI 0), (vI 5), (vI 1), (vL Rect.enc ([(⟨0, 0, 2, 2⟩ : Rect)] : List Rect)), (vS (⟨#[120]⟩ : ByteArray))]) wz (by kernel_rfl) (h_alloc 0 (.inl rfl) z114 rfl wz (fun n_9 => h_str 0 (.inl rfl) (fun _ _ _ => trivial) 0 sz114 rfl rfl [(vS (⟨#[97]⟩ : ByteArray)), (vS (⟨#[115]⟩ : ByteArray)), (vI 1), .nil, (vI 0), (vI 5), (vI 1), (vL Rect.enc ([(⟨0, 0, 2, 2⟩ : Rect)] : List Rect)), (vS (⟨#[120]⟩ : ByteArray))] rfl wz (h_nil (wH_seq (wH_region (h_ldr 0 0 (.inl rfl) (fun _ _ _ => trivial) sz114 ag114 rfl rfl (.agg [(vS (⟨#[97]⟩ : ByteArray)), (vS (⟨#[115]⟩ : ByteArray)), (vI 1), .nil, (vI 0), (vI 5), (vI 1), (vL Rect.enc ([(⟨0, 0, 2, 2⟩ : Rect)] : List Rect)), (vS (⟨#[120]⟩ : ByteArray))]) rfl wz (h_op (.d (.agg (Post.enc (⟨(⟨#[112]⟩ : ByteArray), 1, 1⟩ : Post)))) wz (by kernel_rfl) ?_)))))))))))))))))))
 obtain ⟨r_10, hr_11, hF⟩ := bind_some hF
 refine h_call0 (alert_Reaches_ok hr_11) rfl hb51 rfl rfl rfl rfl wz (h_op (.tup [(vB r_10.1), (vI r_10.2)]) wz rfl (h_op (vB r_10.1) wz rfl (h_op (vI r_10.2) wz rfl (h_op (vB r_10.1) wz rfl (h_op (vI r_10.2) wz rfl (h_nil (wH_seq ?_)))))))
 obtain ⟨v_12, h_13, hF⟩ := bind_some hF
 refine wH_join (β := Unit) (fun _ => ([(0, (vB v_12))] : List (Nat × V))) (fun _ => ([(n_9, some (.cells 9 [(vS (⟨#[97]⟩ : ByteArray)), (vS (⟨#[115]⟩ : ByteArray)), (vI 1), .nil, (vI 0), (vI 5), (vI 1), (vL Rect.enc ([(⟨0, 0, 2, 2⟩ : Rect)] : List Rect)), (vS (⟨#[120]⟩ : ByteArray))]))] : Hp)) (fun _ => True) ?_ ?_
 ·refine wH_region (h_op (vI r_1.2) wz rfl (h_op (vI r_3.2) wz rfl (h_op (vI r_5.2) wz rfl (h_op (vI r_7.2) wz rfl (h_op (vI r_10.2) wz rfl (h_lit (([r_1.2, r_3.2, r_5.2, r_7.2, r_10.2] : List Int).map eI) es123 ez123 rfl rfl rfl rfl rfl wz ?_))))))
  obtain ⟨r_14, hr_15, h_13⟩ := bind_some h_13
  refine h_call0 (keep_errs_ok hr_15) rfl hb21 rfl rfl rfl rfl wz (h_op (vB (r_14 == 0)) wz rfl ?_)
  rcases cond_some h_13 with ⟨hc_16, h_13⟩ | ⟨hc_16, h_13⟩
  ·refine h_movb rfl hc_16 wz (h_op (vI r_1.1) (wg rfl rfl rfl) rfl (h_op (vB (r_1.1 == 7)) (wg rfl rfl rfl) rfl (h_op (vB (r_1.1 == 7)) wz rfl ?_)))
   rcases cond_some h_13 with ⟨hc_17, h_13⟩ | ⟨hc_17, h_13⟩
   ·refine h_movb rfl hc_17 wz (h_op (vL Window.enc r_3.1) (wg rfl rfl rfl) rfl (h_len un108 rfl (wg rfl rfl rfl) (h_op (vB ((r_3.1.length : Int) == 1)) (wg rfl rfl rfl) rfl (h_op (vB ((r_3.1.length : Int) == 1)) wz rfl ?_))))
    rcases cond_some h_13 with ⟨hc_18, h_13⟩ | ⟨hc_18, h_13⟩
    ·refine h_movb rfl hc_18 wz (h_op (vI r_5.1) (wg rfl rfl rfl) rfl (h_op (vB (r_5.1 == 5)) (wg rfl rfl rfl) rfl (h_op (vB (r_5.1 == 5)) wz rfl ?_)))
     rcases cond_some h_13 with ⟨hc_19, h_13⟩ | ⟨hc_19, h_13⟩
     ·refine h_movb rfl hc_19 wz (h_op (vI r_7.1) (wg rfl rfl rfl) rfl (h_op (vB (r_7.1 == 500)) (wg rfl rfl rfl) rfl (h_op (vB (r_7.1 == 500)) wz rfl ?_)))
      rcases cond_some h_13 with ⟨hc_20, h_13⟩ | ⟨hc_20, h_13⟩
      ·refine h_movb rfl hc_20 wz (h_op (vB r_10.1) (wg rfl rfl rfl) rfl (h_op (vB r_10.1) wz rfl (h_op (vB r_10.1) wz rfl (h_nil ?_))))
       obtain rfl := some_inj h_13
       exact cut_mk () trivial rfl (pre_r rfl)
      ·refine h_movb rfl hc_20 wz (h_skip (wg rfl rfl rfl) (h_op (vB false) wz rfl (h_op (vB false) wz rfl (h_nil ?_))))
       obtain rfl := some_inj h_13
       exact cut_mk () trivial rfl (pre_r rfl)
     ·refine h_movb rfl hc_19 wz (h_skip (wg rfl rfl rfl) (h_skip (wg rfl rfl rfl) (h_op (vB false) wz rfl (h_op (vB false) wz rfl (h_skip (wg rfl rfl rfl) (h_op (vB false) wz rfl (h_op (vB false) wz rfl (h_nil ?_))))))))
      obtain rfl := some_inj h_13
      exact cut_mk () trivial rfl (pre_r rfl)
    ·refine h_movb rfl hc_18 wz (h_skip (wg rfl rfl rfl) (h_skip (wg rfl rfl rfl) (h_op (vB false) wz rfl (h_op (vB false) wz rfl (h_skip (wg rfl rfl rfl) (h_skip (wg rfl rfl rfl) (h_op (vB false) wz rfl (h_op (vB false) wz rfl (h_skip (wg rfl rfl rfl) (h_op (vB false) wz rfl (h_op (vB false) wz rfl (h_nil ?_))))))))))))
     obtain rfl := some_inj h_13
     exact cut_mk () trivial rfl (pre_r rfl)
   ·refine h_movb rfl hc_17 wz (h_skip (wg rfl rfl rfl) (h_skip (wg rfl rfl rfl) (h_skip (wg rfl rfl rfl) (h_op (vB false) wz rfl (h_op (vB false) wz rfl (h_skip (wg rfl rfl rfl) (h_skip (wg rfl rfl rfl) (h_op (vB false) wz rfl (h_op (vB false) wz rfl (h_skip (wg rfl rfl rfl) (h_skip (wg rfl rfl rfl) (h_op (vB false) wz rfl (h_op (vB false) wz rfl (h_skip (wg rfl rfl rfl) (h_op (vB false) wz rfl (h_op (vB false) wz rfl (h_nil ?_)))))))))))))))))
    obtain rfl := some_inj h_13
    exact cut_mk () trivial rfl (pre_r rfl)
  ·refine h_movb rfl hc_16 wz (h_skip (wg rfl rfl rfl) (h_skip (wg rfl rfl rfl) (h_op (vB false) wz rfl (h_op (vB false) wz rfl (h_skip (wg rfl rfl rfl) (h_skip (wg rfl rfl rfl) (h_skip (wg rfl rfl rfl) (h_op (vB false) wz rfl (h_op (vB false) wz rfl (h_skip (wg rfl rfl rfl) (h_skip (wg rfl rfl rfl) (h_op (vB false) wz rfl (h_op (vB false) wz rfl (h_skip (wg rfl rfl rfl) (h_skip (wg rfl rfl rfl) (h_op (vB false) wz rfl (h_op (vB false) wz rfl (h_skip (wg rfl rfl rfl) (h_op (vB false) wz rfl (h_op (vB false) wz rfl (h_nil ?_)))))))))))))))))))))
   obtain rfl := some_inj h_13
   exact cut_mk () trivial rfl (pre_r rfl)
 ·rintro ⟨⟩ _ sl_ H_ hp_ hq_
  refine wH_at _ hp_ hq_ ?_
  obtain rfl := some_inj hF
  exact wH_ret (fin0 (.inr rfl) [(vB v_12)] ⟨rfl, trivial⟩ rfl rfl rfl)
theorem mk_Stream_Pick_ok {s_1 : Stream} {l_2 : (List Int)} {r : Int × Stream} (hF : mk_Stream_Pick s_1 l_2 = some r) :
  FnM Tryz.prog 57 [(.ref (extN 0) 0 0), (vL eI l_2)] [(.cells 2 [(vL eI s_1.L), (vI s_1.f_at)])] (vI r.1) [some (.cells 2 [(vL eI r.2.L), (vI r.2.f_at)])] := by
 refine FnM.of_wH ⟨Tryz.prog, 12, [], []⟩ rfl Tryz.func57 rfl rfl (Nat.le_of_ble_eq_true rfl) (by kernel_rfl) ?_
 unfold mk_Stream_Pick at hF
 refine wH_seq (wH_region (h_op (vI 0) wz rfl (h_nil (wH_seq (wH_region (h_op (vL eI l_2) wz rfl (h_op (.ref (extN 0) 0 0) wz rfl (h_op (vL eI l_2) wz rfl (h_len un22 rfl wz ?_)))))))))
 obtain ⟨r_3, hr_4, hF⟩ := bind_some hF
 refine h_callq 0 [0] (.inl rfl) (fun _ _ _ => trivial) (mk_Stream_Next_ok hr_4) rfl hb42 rfl (by kernel_rfl) (by kernel_rfl) (by kernel_rfl) (by kernel_rfl) (by kernel_rfl) (by kernel_rfl) (by kernel_rfl) (by decide) (by kernel_rfl) wz (vI r_3.1) (by kernel_rfl) ([((extN 0), some (.cells 2 [(vL eI r_3.2.L), (vI r_3.2.f_at)]))] : Hp) (by kernel_rfl) ?_
 obtain ⟨y_6, hy_7, hF⟩ := bind_some hF
 refine h_ia es22 rfl rfl hy_7 rfl wz (h_ldc sz3 ag3 rfl (vI y_6) rfl wz (h_op (vI y_6) wz rfl (h_nil ?_)))
 obtain rfl := some_inj hF
 exact wH_ret (finB (.inr rfl) [(vI y_6)] _ [0] [extN 0] ⟨rfl, trivial⟩ (.cons (co_data rfl rfl) (.nil)) (by kernel_rfl) ⟨(by kernel_rfl), trivial⟩ (by decide) (by kernel_rfl))
theorem mk_Stream_Flip_ok {s_1 : Stream} {n_2 : Int} {r : Bool × Stream} (hF : mk_Stream_Flip s_1 n_2 = some r) :
  FnM Tryz.prog 59 [(.ref (extN 0) 0 0), (vI n_2)] [(.cells 2 [(vL eI s_1.L), (vI s_1.f_at)])] (vB r.1) [some (.cells 2 [(vL eI r.2.L), (vI r.2.f_at)])] := by
 refine FnM.of_wH ⟨Tryz.prog, 9, [], []⟩ rfl Tryz.func59 rfl rfl (Nat.le_of_ble_eq_true rfl) (by kernel_rfl) ?_
 unfold mk_Stream_Flip at hF
 refine wH_seq (wH_region (h_op (vB false) wz rfl (h_nil (wH_seq (wH_region (h_op (.ref (extN 0) 0 0) wz rfl (h_op (vI n_2) wz rfl ?_)))))))
 obtain ⟨r_3, hr_4, hF⟩ := bind_some hF
 refine h_callq 0 [0] (.inl rfl) (fun _ _ _ => trivial) (mk_Stream_Next_ok hr_4) rfl hb42 rfl (by kernel_rfl) (by kernel_rfl) (by kernel_rfl) (by kernel_rfl) (by kernel_rfl) (by kernel_rfl) (by kernel_rfl) (by decide) (by kernel_rfl) wz (vI r_3.1) (by kernel_rfl) ([((extN 0), some (.cells 2 [(vL eI r_3.2.L), (vI r_3.2.f_at)]))] : Hp) (by kernel_rfl) (h_op (vB (r_3.1 == 0)) wz rfl (h_op (vB (r_3.1 == 0)) wz rfl (h_nil ?_)))
 obtain rfl := some_inj hF
 exact wH_ret (finB (.inr rfl) [(vB (r_3.1 == 0))] _ [0] [extN 0] ⟨rfl, trivial⟩ (.cons (co_data rfl rfl) (.nil)) (by kernel_rfl) ⟨(by kernel_rfl), trivial⟩ (by decide) (by kernel_rfl))
theorem mk_Stream_Some_ok {s_1 : Stream} {l_2 : (List ByteArray)} {r : ByteArray × Stream} (hF : mk_Stream_Some s_1 l_2 = some r) :
  FnM Tryz.prog 39 [(.ref (extN 0) 0 0), (vL eS l_2)] [(.cells 2 [(vL eI s_1.L), (vI s_1.f_at)])] (vS r.1) [some (.cells 2 [(vL eI r.2.L), (vI r.2.f_at)])] := by
 refine FnM.of_wH ⟨Tryz.prog, 12, [], []⟩ rfl Tryz.func39 rfl rfl (Nat.le_of_ble_eq_true rfl) (by kernel_rfl) ?_
 unfold mk_Stream_Some at hF
 refine wH_seq (wH_region (h_op (vS (⟨#[]⟩ : ByteArray)) wz rfl (h_nil (wH_seq (wH_region (h_op (vL eS l_2) wz rfl (h_op (.ref (extN 0) 0 0) wz rfl (h_op (vL eS l_2) wz rfl (h_len un66 rfl wz ?_)))))))))
 obtain ⟨r_3, hr_4, hF⟩ := bind_some hF
 refine h_callq 0 [0] (.inl rfl) (fun _ _ _ => trivial) (mk_Stream_Next_ok hr_4) rfl hb42 rfl (by kernel_rfl) (by kernel_rfl) (by kernel_rfl) (by kernel_rfl) (by kernel_rfl) (by kernel_rfl) (by kernel_rfl) (by decide) (by kernel_rfl) wz (vI r_3.1) (by kernel_rfl) ([((extN 0), some (.cells 2 [(vL eI r_3.2.L), (vI r_3.2.f_at)]))] : Hp) (by kernel_rfl) ?_
 obtain ⟨y_6, hy_7, hF⟩ := bind_some hF
 refine h_ia es66 rfl rfl hy_7 rfl wz (h_ldc sz9 ag9 rfl (vS y_6) rfl wz (h_op (vS y_6) wz rfl (h_nil ?_)))
 obtain rfl := some_inj hF
 exact wH_ret (finB (.inr rfl) [(vS y_6)] _ [0] [extN 0] ⟨rfl, trivial⟩ (.cons (co_data rfl rfl) (.nil)) (by kernel_rfl) ⟨(by kernel_rfl), trivial⟩ (by decide) (by kernel_rfl))
theorem mk_Stream_RightCampaigns_ok {s_1 : Stream} {most_2 : Int} {r : (List Campaign) × Stream} (hF : mk_Stream_RightCampaigns s_1 most_2 = some r) :
  FnM Tryz.prog 37 [(.ref (extN 0) 0 0), (vI most_2)] [(.cells 2 [(vL eI s_1.L), (vI s_1.f_at)])] (vL Campaign.enc r.1) [some (.cells 2 [(vL eI r.2.L), (vI r.2.f_at)])] := by
 refine FnM.of_wH ⟨Tryz.prog, 63, [], []⟩ rfl Tryz.func37 rfl rfl (Nat.le_of_ble_eq_true rfl) (by kernel_rfl) ?_
 unfold mk_Stream_RightCampaigns at hF
 refine wH_seq (wH_region (h_op .nil wz rfl (h_nil (wH_seq (wH_region (h_op .nil wz rfl (h_nil (wH_seq (wH_seq (wH_region (h_lit (([(⟨#[99, 97]⟩ : ByteArray), (⟨#[99, 98]⟩ : ByteArray), (⟨#[99, 99]⟩ : ByteArray), (⟨#[99, 100]⟩ : ByteArray)] : List ByteArray).map eS) es66 ez66 rfl rfl rfl rfl rfl wz (h_op (vI most_2) wz rfl ?_))))))))))))
 obtain ⟨y_3, hy_4, hF⟩ := bind_some hF
 refine h_sublFalseTrue un66 sz9 (fun _ => rfl) rfl rfl hy_4 wz (h_len un66 rfl wz (h_op (vI 0) wz rfl (h_nil (wH_new (fun n_11 => ?_)))))
 obtain ⟨o_16, hj_17, hF⟩ := bind_some hF
 obtain ⟨hn_9, hj_17⟩ := forL_some hj_17
 refine wH_join (β := ((List Campaign) × (List Int) × Int) × Nm) (fun p => (fun (s_10 : (List Campaign) × (List Int) × Int) (n_13 : Nm) => ([(5, (gV n_13 8 s_10.1))] : List (Nat × V))) p.1 p.2) (fun p => (fun (s_10 : (List Campaign) × (List Int) × Int) (n_13 : Nm) => ([((extN 0), some (.cells 2 [(vL eI s_10.2.1), (vI s_10.2.2)])), (n_13, gB 8 Campaign.enc s_10.1)] : Hp)) p.1 p.2) (fun p => o_16 = .go p.1) ?_ ?_
 ·refine wH_block (wH_loop (β := Nat × (List ByteArray) × ((List Campaign) × (List Int) × Int) × Nm) (fun p => (fun (k_5 : Nat) (l_6 : List ByteArray) (s_10 : (List Campaign) × (List Int) × Int) (n_13 : Nm) => ([(0, (.ref (extN 0) 0 0)), (5, (gV n_13 8 s_10.1)), (13, (vL eS y_3)), (14, (vI (y_3.length : Int))), (15, (vI (k_5 : Int)))] : List (Nat × V))) p.1 p.2.1 p.2.2.1 p.2.2.2) (fun p => (fun (k_5 : Nat) (l_6 : List ByteArray) (s_10 : (List Campaign) × (List Int) × Int) (n_13 : Nm) => ([((extN 0), some (.cells 2 [(vL eI s_10.2.1), (vI s_10.2.2)])), (n_13, gB 8 Campaign.enc s_10.1)] : Hp)) p.1 p.2.1 p.2.2.1 p.2.2.2) (fun p => forR (fun k x s => mk_Stream_RightCampaigns_L2 k x s) p.2.1 p.1 p.2.2.1 = some o_16 ∧ (y_3).drop p.1 = p.2.1) (fun p => p.2.1.length) (0, y_3, (([] : List Campaign), s_1.L, s_1.f_at), n_11) ⟨hj_17, rfl⟩ rfl (pre_r rfl) ?_)
  rintro ⟨k_5, l_6, s_10, n_13⟩ ⟨hL_15, hD_8⟩
  dsimp only at hL_15 hD_8
  cases l_6 with
  | nil =>
   obtain rfl := some_inj hL_15
   refine wH_seq (wH_region (h_op (vB (decide ((k_5 : Int) < (y_3.length : Int)))) wz rfl (h_nil ?_)))
   refine wH_seq (wH_iff rfl (drop_nil hD_8) (wH_exit ?_))
   exact cut_mk (s_10, n_13) rfl rfl (pre_r rfl)
  | cons x_7 l_6 =>
   obtain ⟨c_, hc_14, hL_15⟩ := bind_some hL_15
   refine wH_seq (wH_region (h_op (vB (decide ((k_5 : Int) < (y_3.length : Int)))) wz rfl (h_nil ?_)))
   refine wH_seq (wH_ift rfl (drop_cons hD_8) (wH_skip ?_))
   unfold mk_Stream_RightCampaigns_L2 at hc_14
   refine wH_seq (wH_block (wH_seq (wH_region (h_ia es66 rfl rfl (drop_idx hD_8) rfl wz (h_ldc sz9 ag9 rfl (vS x_7) rfl wz (h_op (vS x_7) wz rfl (h_nil (wH_seq (wH_seq (wH_region (h_op (.ref (extN 0) 0 0) wz rfl ?_)))))))))))
   obtain ⟨r_18, hr_19, hc_14⟩ := bind_some hc_14
   refine h_callq 0 [0] (.inl rfl) (fun _ _ _ => trivial) (mk_Stream_Flip_ok hr_19) rfl hb59 rfl (by kernel_rfl) (by kernel_rfl) (by kernel_rfl) (by kernel_rfl) (by kernel_rfl) (by kernel_rfl) (by kernel_rfl) (by decide) (by kernel_rfl) wz (vB r_18.1) (by kernel_rfl) ([((extN 0), some (.cells 2 [(vL eI r_18.2.L), (vI r_18.2.f_at)])), (n_13, gB 8 Campaign.enc s_10.1)] : Hp) (by kernel_rfl) (h_nil ?_)
   rcases cond_some hc_14 with ⟨hc_21, hc_14⟩ | ⟨hc_21, hc_14⟩
   ·refine wH_ift rfl hc_21 (wH_exit (wH_region (h_opw (w64_next hD_8 hn_9) wz rfl (h_op (vI ((k_5 + 1 : Nat) : Int)) wz rfl (h_nil ?_)))))
    obtain rfl := some_inj hc_14
    exact loop_mk (k_5 + 1, l_6, (s_10.1, r_18.2.L, r_18.2.f_at), n_13) ⟨hL_15, drop_next hD_8⟩ (Nat.lt_succ_self _) rfl (pre_r rfl)
   ·refine wH_iff rfl hc_21 (wH_skip (wH_seq (wH_region (h_op (vS x_7) wz rfl (h_op (.ref (extN 0) 0 0) wz rfl (h_lit (([(⟨#[]⟩ : ByteArray), (⟨#[]⟩ : ByteArray), (⟨#[99, 97, 114, 115]⟩ : ByteArray), (⟨#[102, 111, 111, 100]⟩ : ByteArray)] : List ByteArray).map eS) es66 ez66 rfl rfl rfl rfl rfl wz ?_))))))
    obtain ⟨r_22, hr_23, hc_14⟩ := bind_some hc_14
    refine h_callq 0 [0] (.inl rfl) (fun _ _ _ => trivial) (mk_Stream_Some_ok hr_23) rfl hb39 rfl (by kernel_rfl) (by kernel_rfl) (by kernel_rfl) (by kernel_rfl) (by kernel_rfl) (by kernel_rfl) (by kernel_rfl) (by decide) (by kernel_rfl) wz (vS r_22.1) (by kernel_rfl) ([((extN 0), some (.cells 2 [(vL eI r_22.2.L), (vI r_22.2.f_at)])), (n_13, gB 8 Campaign.enc s_10.1)] : Hp) (by kernel_rfl) (h_op (.ref (extN 0) 0 0) wz rfl (h_lit (([0, 0, 10, 20] : List Int).map eI) es22 ez22 rfl rfl rfl rfl rfl wz ?_))
    obtain ⟨r_25, hr_26, hc_14⟩ := bind_some hc_14
    refine h_callq 0 [0] (.inl rfl) (fun _ _ _ => trivial) (mk_Stream_Pick_ok hr_26) rfl hb57 rfl (by kernel_rfl) (by kernel_rfl) (by kernel_rfl) (by kernel_rfl) (by kernel_rfl) (by kernel_rfl) (by kernel_rfl) (by decide) (by kernel_rfl) wz (vI r_25.1) (by kernel_rfl) ([((extN 0), some (.cells 2 [(vL eI r_25.2.L), (vI r_25.2.f_at)])), (n_13, gB 8 Campaign.enc s_10.1)] : Hp) (by kernel_rfl) (h_op (.ref (extN 0) 0 0) wz rfl (h_lit (([30, 50, 60, 100] : List Int).map eI) es22 ez22 rfl rfl rfl rfl rfl wz ?_))
    obtain ⟨r_28, hr_29, hc_14⟩ := bind_some hc_14
    refine h_callq 0 [0] (.inl rfl) (fun _ _ _ => trivial) (mk_Stream_Pick_ok hr_29) rfl hb57 rfl (by kernel_rfl) (by kernel_rfl) (by kernel_rfl) (by kernel_rfl) (by kernel_rfl) (by kernel_rfl) (by kernel_rfl) (by decide) (by kernel_rfl) wz (vI r_28.1) (by kernel_rfl) ([((extN 0), some (.cells 2 [(vL eI r_28.2.L), (vI r_28.2.f_at)])), (n_13, gB 8 Campaign.enc s_10.1)] : Hp) (by kernel_rfl) (h_op (.d (.agg (Window.enc (⟨r_25.1, r_28.1⟩ : Window)))) wz (by kernel_rfl) (h_op (.ref (extN 0) 0 0) wz rfl (h_lit (([0, 1, 2, 3, 4, 6] : List Int).map eI) es22 ez22 rfl rfl rfl rfl rfl wz ?_)))
    obtain ⟨r_31, hr_32, hc_14⟩ := bind_some hc_14
    refine h_callq 0 [0] (.inl rfl) (fun _ _ _ => trivial) (mk_Stream_Pick_ok hr_32) rfl hb57 rfl (by kernel_rfl) (by kernel_rfl) (by kernel_rfl) (by kernel_rfl) (by kernel_rfl) (by kernel_rfl) (by kernel_rfl) (by decide) (by kernel_rfl) wz (vI r_31.1) (by kernel_rfl) ([((extN 0), some (.cells 2 [(vL eI r_31.2.L), (vI r_31.2.f_at)])), (n_13, gB 8 Campaign.enc s_10.1)] : Hp) (by kernel_rfl) (h_op (.ref (extN 0) 0 0) wz rfl (h_lit (([0, 1, 2, 3, 9] : List Int).map eI) es22 ez22 rfl rfl rfl rfl rfl wz ?_))
    obtain ⟨r_34, hr_35, hc_14⟩ := bind_some hc_14
    refine h_callq 0 [0] (.inl rfl) (fun _ _ _ => trivial) (mk_Stream_Pick_ok hr_35) rfl hb57 rfl (by kernel_rfl) (by kernel_rfl) (by kernel_rfl) (by kernel_rfl) (by kernel_rfl) (by kernel_rfl) (by kernel_rfl) (by decide) (by kernel_rfl) wz (vI r_34.1) (by kernel_rfl) ([((extN 0), some (.cells 2 [(vL eI r_34.2.L), (vI r_34.2.f_at)])), (n_13, gB 8 Campaign.enc s_10.1)] : Hp) (by kernel_rfl) (h_op (.ref (extN 0) 0 0) wz rfl (h_lit (([0, 500, 1000, 1500] : List Int).map eI) es22 ez22 rfl rfl rfl rfl rfl wz ?_))
    obtain ⟨r_37, hr_38, hc_14⟩ := bind_some hc_14
    refine h_callq 0 [0] (.inl rfl) (fun _ _ _ => trivial) (mk_Stream_Pick_ok hr_38) rfl hb57 rfl (by kernel_rfl) (by kernel_rfl) (by kernel_rfl) (by kernel_rfl) (by kernel_rfl) (by kernel_rfl) (by kernel_rfl) (by decide) (by kernel_rfl) wz (vI r_37.1) (by kernel_rfl) ([((extN 0), some (.cells 2 [(vL eI r_37.2.L), (vI r_37.2.f_at)])), (n_13, gB 8 Campaign.enc s_10.1)] : Hp) (by kernel_rfl) (h_op (.agg [(vS x_7), (vS r_22.1), (vI r_25.1), (vI r_28.1), .nil, (vI r_31.1), (vI r_34.1), (vI r_37.1)]) wz (by kernel_rfl) (h_alloc 0 (.inl rfl) z90 rfl wz (fun n_40 => h_str 0 (.inl rfl) (fun _ _ _ => trivial) 2 sz90 rfl rfl [(vS x_7), (vS r_22.1), (vI r_25.1), (vI r_28.1), .nil, (vI r_31.1), (vI r_34.1), (vI r_37.1)] rfl wz (h_nil (wH_seq (wH_seq (wH_region (h_lit (([(⟨#[99, 105, 116, 121]⟩ : ByteArray), (⟨#[109, 97, 108, 108]⟩ : ByteArray)] : List ByteArray).map eS) es66 ez66 rfl rfl rfl rfl rfl wz (h_len un66 rfl wz (h_op (vI 0) wz rfl (h_nil (wH_at (H0 := ([((extN 0), some (.cells 2 [(vL eI r_37.2.L), (vI r_37.2.f_at)])), (n_13, gB 8 Campaign.enc s_10.1), (n_40, some (.cells 8 [(vS x_7), (vS r_22.1), (vI r_25.1), (vI r_28.1), .nil, (vI r_31.1), (vI r_34.1), (vI r_37.1)]))] : Hp)) ([(0, (.ref (extN 0) 0 0)), (5, (gV n_13 8 s_10.1)), (8, (.ref n_40 0 0)), (13, (vL eS y_3)), (14, (vI (y_3.length : Int))), (15, (vI (k_5 : Int))), (42, (vL eS ([(⟨#[99, 105, 116, 121]⟩ : ByteArray), (⟨#[109, 97, 108, 108]⟩ : ByteArray)] : List ByteArray))), (43, (vI (([(⟨#[99, 105, 116, 121]⟩ : ByteArray), (⟨#[109, 97, 108, 108]⟩ : ByteArray)] : List ByteArray).length : Int))), (44, (vI 0))] : List (Nat × V)) (by kernel_rfl) (pre_mk (by kernel_rfl)) (wH_new (fun n_47 => ?_))))))))))))))
    obtain ⟨o_52, hj_53, hc_14⟩ := bind_some hc_14
    obtain ⟨hn_45, hj_53⟩ := forL_some hj_53
    refine wH_join (β := ((List ByteArray) × (List Int) × Int) × Nm) (fun p => (fun (s_46 : (List ByteArray) × (List Int) × Int) (n_49 : Nm) => ([(0, (.ref (extN 0) 0 0)), (5, (gV n_13 8 s_10.1)), (8, (.ref n_40 0 0)), (13, (vL eS y_3)), (14, (vI (y_3.length : Int))), (15, (vI (k_5 : Int)))] : List (Nat × V))) p.1 p.2) (fun p => (fun (s_46 : (List ByteArray) × (List Int) × Int) (n_49 : Nm) => ([((extN 0), some (.cells 2 [(vL eI s_46.2.1), (vI s_46.2.2)])), (n_13, gB 8 Campaign.enc s_10.1), (n_40, some (.cells 8 [(vS x_7), (vS r_22.1), (vI r_25.1), (vI r_28.1), (gV n_49 1 s_46.1), (vI r_31.1), (vI r_34.1), (vI r_37.1)])), (n_49, gB 1 eS s_46.1)] : Hp)) p.1 p.2) (fun p => o_52 = .go p.1) ?_ ?_
    ·refine wH_block (wH_loop (β := Nat × (List ByteArray) × ((List ByteArray) × (List Int) × Int) × Nm) (fun p => (fun (k_41 : Nat) (l_42 : List ByteArray) (s_46 : (List ByteArray) × (List Int) × Int) (n_49 : Nm) => ([(0, (.ref (extN 0) 0 0)), (5, (gV n_13 8 s_10.1)), (8, (.ref n_40 0 0)), (13, (vL eS y_3)), (14, (vI (y_3.length : Int))), (15, (vI (k_5 : Int))), (42, (vL eS ([(⟨#[99, 105, 116, 121]⟩ : ByteArray), (⟨#[109, 97, 108, 108]⟩ : ByteArray)] : List ByteArray))), (43, (vI (([(⟨#[99, 105, 116, 121]⟩ : ByteArray), (⟨#[109, 97, 108, 108]⟩ : ByteArray)] : List ByteArray).length : Int))), (44, (vI (k_41 : Int)))] : List (Nat × V))) p.1 p.2.1 p.2.2.1 p.2.2.2) (fun p => (fun (k_41 : Nat) (l_42 : List ByteArray) (s_46 : (List ByteArray) × (List Int) × Int) (n_49 : Nm) => ([((extN 0), some (.cells 2 [(vL eI s_46.2.1), (vI s_46.2.2)])), (n_13, gB 8 Campaign.enc s_10.1), (n_40, some (.cells 8 [(vS x_7), (vS r_22.1), (vI r_25.1), (vI r_28.1), (gV n_49 1 s_46.1), (vI r_31.1), (vI r_34.1), (vI r_37.1)])), (n_49, gB 1 eS s_46.1)] : Hp)) p.1 p.2.1 p.2.2.1 p.2.2.2) (fun p => forR (fun k x s => mk_Stream_RightCampaigns_L1 k x s) p.2.1 p.1 p.2.2.1 = some o_52 ∧ (([(⟨#[99, 105, 116, 121]⟩ : ByteArray), (⟨#[109, 97, 108, 108]⟩ : ByteArray)] : List ByteArray)).drop p.1 = p.2.1) (fun p => p.2.1.length) (0, ([(⟨#[99, 105, 116, 121]⟩ : ByteArray), (⟨#[109, 97, 108, 108]⟩ : ByteArray)] : List ByteArray), (([] : List ByteArray), r_37.2.L, r_37.2.f_at), n_47) ⟨hj_53, rfl⟩ rfl (pre_r rfl) ?_)
     rintro ⟨k_41, l_42, s_46, n_49⟩ ⟨hL_51, hD_44⟩
     dsimp only at hL_51 hD_44
     cases l_42 with
     | nil =>
      obtain rfl := some_inj hL_51
      refine wH_seq (wH_region (h_op (vB (decide ((k_41 : Int) < (([(⟨#[99, 105, 116, 121]⟩ : ByteArray), (⟨#[109, 97, 108, 108]⟩ : ByteArray)] : List ByteArray).length : Int)))) wz rfl (h_nil ?_)))
      refine wH_seq (wH_iff rfl (drop_nil hD_44) (wH_exit ?_))
      exact cut_mk (s_46, n_49) rfl rfl (pre_r rfl)
     | cons x_43 l_42 =>
      obtain ⟨c_, hc_50, hL_51⟩ := bind_some hL_51
      refine wH_seq (wH_region (h_op (vB (decide ((k_41 : Int) < (([(⟨#[99, 105, 116, 121]⟩ : ByteArray), (⟨#[109, 97, 108, 108]⟩ : ByteArray)] : List ByteArray).length : Int)))) wz rfl (h_nil ?_)))
      refine wH_seq (wH_ift rfl (drop_cons hD_44) (wH_skip ?_))
      unfold mk_Stream_RightCampaigns_L1 at hc_50
      refine wH_seq (wH_block (wH_seq (wH_region (h_ia es66 rfl rfl (drop_idx hD_44) rfl wz (h_ldc sz9 ag9 rfl (vS x_43) rfl wz (h_op (vS x_43) wz rfl (h_nil (wH_seq (wH_region (h_op (.ref (extN 0) 0 0) wz rfl ?_))))))))))
      obtain ⟨r_54, hr_55, hc_50⟩ := bind_some hc_50
      refine h_callq 0 [0] (.inl rfl) (fun _ _ _ => trivial) (mk_Stream_Flip_ok hr_55) rfl hb59 rfl (by kernel_rfl) (by kernel_rfl) (by kernel_rfl) (by kernel_rfl) (by kernel_rfl) (by kernel_rfl) (by kernel_rfl) (by decide) (by kernel_rfl) wz (vB r_54.1) (by kernel_rfl) ([((extN 0), some (.cells 2 [(vL eI r_54.2.L), (vI r_54.2.f_at)])), (n_13, gB 8 Campaign.enc s_10.1), (n_40, some (.cells 8 [(vS x_7), (vS r_22.1), (vI r_25.1), (vI r_28.1), (gV n_49 1 s_46.1), (vI r_31.1), (vI r_34.1), (vI r_37.1)])), (n_49, gB 1 eS s_46.1)] : Hp) (by kernel_rfl) (h_nil ?_)
      obtain ⟨v_57, h_58, hc_50⟩ := bind_some hc_50
      refine wH_join (β := Nm) (fun (n_59 : Nm) => ([(0, (.ref (extN 0) 0 0)), (5, (gV n_13 8 s_10.1)), (8, (.ref n_40 0 0)), (13, (vL eS y_3)), (14, (vI (y_3.length : Int))), (15, (vI (k_5 : Int))), (42, (vL eS ([(⟨#[99, 105, 116, 121]⟩ : ByteArray), (⟨#[109, 97, 108, 108]⟩ : ByteArray)] : List ByteArray))), (43, (vI (([(⟨#[99, 105, 116, 121]⟩ : ByteArray), (⟨#[109, 97, 108, 108]⟩ : ByteArray)] : List ByteArray).length : Int))), (44, (vI (k_41 : Int)))] : List (Nat × V))) (fun (n_59 : Nm) => ([((extN 0), some (.cells 2 [(vL eI r_54.2.L), (vI r_54.2.f_at)])), (n_13, gB 8 Campaign.enc s_10.1), (n_40, some (.cells 8 [(vS x_7), (vS r_22.1), (vI r_25.1), (vI r_28.1), (gV n_59 1 v_57), (vI r_31.1), (vI r_34.1), (vI r_37.1)])), (n_59, gB 1 eS v_57)] : Hp)) (fun _ => True) ?_ ?_
      ·rcases cond_some h_58 with ⟨hc_60, h_58⟩ | ⟨hc_60, h_58⟩
       ·refine wH_ift rfl hc_60 (wH_region (h_far pl90_3 rfl 4 rfl wz (h_ldr 0 2 (.inl rfl) (fun _ _ _ => trivial) sz66 ag66 rfl rfl (gV n_49 1 s_46.1) rfl wz (h_op (vS x_43) wz rfl (h_lit (([x_43] : List ByteArray).map eS) es66 ez66 rfl rfl rfl rfl rfl wz ?_)))))
        obtain ⟨a_61, hz_62, h_58⟩ := bind_some h_58
        refine h_appg 0 (.inl rfl) (fun _ _ _ => trivial) (i := 3) el66 el66 sz9 z9 rfl (by decide) by9 (by decide) (fun _ => rfl) rfl rfl rfl hz_62 wz (fun n_63 => h_far pl90_3 rfl 4 rfl wz (h_str 0 (.inl rfl) (fun _ _ _ => trivial) 2 sz66 rfl rfl [(vS x_7), (vS r_22.1), (vI r_25.1), (vI r_28.1), (gV n_63 1 a_61), (vI r_31.1), (vI r_34.1), (vI r_37.1)] (stC_g rfl) wz (h_nil ?_)))
        obtain rfl := some_inj h_58
        exact cut_mk n_63 trivial rfl (pre_r rfl)
       ·refine wH_iff rfl hc_60 (wH_skip ?_)
        obtain rfl := some_inj h_58
        exact cut_mk n_49 trivial rfl (pre_r rfl)
      ·rintro n_59 _ sl_ H_ hp_ hq_
       refine wH_at _ hp_ hq_ (wH_region (h_opw (w64_next hD_44 hn_45) wz rfl (h_op (vI ((k_41 + 1 : Nat) : Int)) wz rfl (h_nil ?_))))
       obtain rfl := some_inj hc_50
       exact loop_mk (k_41 + 1, l_42, (v_57, r_54.2.L, r_54.2.f_at), n_59) ⟨hL_51, drop_next hD_44⟩ (Nat.lt_succ_self _) rfl (pre_r rfl)
    ·rintro ⟨s_46, n_49⟩ ho_ sl_ H_ hp_ hq_
     subst ho_
     refine wH_at _ hp_ hq_ (wH_frozg 3 rfl (wH_coc 3 2 [(vS x_7), (vS r_22.1), (vI r_25.1), (vI r_28.1), (vL eS s_46.1), (vI r_31.1), (vI r_34.1), (vI r_37.1)] rfl rfl (fun S hS => cons_eq (rfl) (cons_eq (rfl) (cons_eq (rfl) (cons_eq (rfl) (cons_eq (hS) (cons_eq (rfl) (cons_eq (rfl) (cons_eq (rfl) (rfl))))))))) (wH_region (h_op (gV n_13 8 s_10.1) wz rfl (h_ldr 0 2 (.inl rfl) (fun _ _ _ => trivial) sz90 ag90 rfl rfl (.d (.agg (Campaign.enc (⟨x_7, r_22.1, (⟨r_25.1, r_28.1⟩ : Window), s_46.1, r_31.1, r_34.1, r_37.1⟩ : Campaign)))) rfl wz (h_lit (([(⟨x_7, r_22.1, (⟨r_25.1, r_28.1⟩ : Window), s_46.1, r_31.1, r_34.1, r_37.1⟩ : Campaign)] : List Campaign).map Campaign.enc) es85 ez85 rfl rfl rfl rfl rfl wz ?_))))))
     obtain ⟨a_64, hz_65, hc_14⟩ := bind_some hc_14
     refine h_appg 0 (.inl rfl) (fun _ _ _ => trivial) (i := 1) el85 el85 sz90 z90 rfl (by decide) by90 (by decide) (fun _ => rfl) rfl rfl rfl hz_65 wz (fun n_66 => h_op (gV n_66 8 a_64) wz rfl (h_nil (wH_region (h_opw (w64_next hD_8 hn_9) wz rfl (h_op (vI ((k_5 + 1 : Nat) : Int)) wz rfl (h_nil ?_))))))
     obtain rfl := some_inj hc_14
     exact loop_mk (k_5 + 1, l_6, (a_64, s_46.2.1, s_46.2.2), n_66) ⟨hL_15, drop_next hD_8⟩ (Nat.lt_succ_self _) rfl (pre_r rfl)
 ·rintro ⟨s_10, n_13⟩ ho_ sl_ H_ hp_ hq_
  subst ho_
  refine wH_at _ hp_ hq_ (wH_seq (wH_region (h_op (gV n_13 8 s_10.1) wz rfl (h_op (gV n_13 8 s_10.1) wz rfl (h_nil (wH_frozg 1 rfl (wH_cog 4 1 rfl rfl (wH_cog 5 1 rfl rfl (wH_cog 62 1 rfl rfl ?_)))))))))
  obtain rfl := some_inj hF
  exact wH_ret (finB (.inr rfl) [(vL Campaign.enc s_10.1)] _ [0] [extN 0] ⟨rfl, trivial⟩ (.cons (co_data rfl rfl) (.nil)) (by kernel_rfl) ⟨(by kernel_rfl), trivial⟩ (by decide) (by kernel_rfl))
theorem booking_paceFault_ok {l_1 : (List Campaign)} {plays_2 : (List Play)} {atv_3 : Int} {r : Int} (hF : booking_paceFault l_1 plays_2 atv_3 = some r) :
  FnM Tryz.prog 76 [(vL Campaign.enc l_1), (vL Play.enc plays_2), (vI atv_3)] [] (vI r) [] := by
 refine FnM.of_wH ⟨Tryz.prog, 47, [], []⟩ rfl Tryz.func76 rfl rfl (Nat.le_of_ble_eq_true rfl) (by kernel_rfl) ?_
 unfold booking_paceFault at hF
 refine wH_seq (wH_region (h_op (vI 0) wz rfl (h_nil (wH_seq (wH_seq (wH_region (h_op (vL Campaign.enc l_1) wz rfl ?_)))))))
 obtain ⟨r_4, hr_5, hF⟩ := bind_some hF
 refine h_call0 (booking_CheckCampaigns_ok hr_5) rfl hb73 rfl rfl rfl rfl wz (h_op (vI r_4) wz rfl (h_nil (wH_seq (wH_region (h_op (vI r_4) wz rfl (h_op (vB (r_4 != 0)) wz rfl (h_nil ?_)))))))
 rcases cond_some hF with ⟨hc_6, hF⟩ | ⟨hc_6, hF⟩
 ·refine wH_ift rfl hc_6 (wH_seq (wH_region (h_op (vI r_4) wz rfl (h_op (vI r_4) wz rfl (h_nil ?_)))))
  obtain rfl := some_inj hF
  exact wH_ret (fin0 (.inr rfl) [(vI r_4)] ⟨rfl, trivial⟩ rfl rfl rfl)
 ·refine wH_iff rfl hc_6 (wH_skip (wH_seq (wH_seq (wH_region (h_op (vL Play.enc plays_2) wz rfl (h_len un92 rfl wz (h_op (vB (decide ((plays_2.length : Int) > 3000))) wz rfl (h_nil ?_))))))))
  rcases cond_some hF with ⟨hc_7, hF⟩ | ⟨hc_7, hF⟩
  ·refine wH_ift rfl hc_7 (wH_seq (wH_region (h_op (vI 2) wz rfl (h_nil ?_))))
   obtain rfl := some_inj hF
   exact wH_ret (fin0 (.inr rfl) [(vI 2)] ⟨rfl, trivial⟩ rfl rfl rfl)
  ·refine wH_iff rfl hc_7 (wH_skip (wH_seq (wH_seq (wH_region (h_op (vL Play.enc plays_2) wz rfl (h_len un92 rfl wz (h_op (vI 0) wz rfl (h_nil ?_))))))))
   obtain ⟨o_16, hj_17, hF⟩ := bind_some hF
   obtain ⟨hn_12, hj_17⟩ := forL_some hj_17
   refine wH_join (β := (Unit)) (fun (s_13 : Unit) => ([(2, (vI atv_3))] : List (Nat × V))) (fun (s_13 : Unit) => ([] : Hp)) (fun p => o_16 = .go p) ?_ ?_
   ·refine wH_block (wH_loop (β := Nat × (List Play) × (Unit)) (fun p => (fun (k_8 : Nat) (l_9 : List Play) (s_13 : Unit) => ([(2, (vI atv_3)), (18, (vL Play.enc plays_2)), (19, (vI (plays_2.length : Int))), (20, (vI (k_8 : Int)))] : List (Nat × V))) p.1 p.2.1 p.2.2) (fun p => (fun (k_8 : Nat) (l_9 : List Play) (s_13 : Unit) => ([] : Hp)) p.1 p.2.1 p.2.2) (fun p => forR (fun k x s => booking_paceFault_L1 k x s) p.2.1 p.1 p.2.2 = some o_16 ∧ (plays_2).drop p.1 = p.2.1) (fun p => p.2.1.length) (0, plays_2, ()) ⟨hj_17, rfl⟩ rfl (pre_r rfl) ?_)
    rintro ⟨k_8, l_9, s_13⟩ ⟨hL_15, hD_11⟩
    dsimp only at hL_15 hD_11
    cases l_9 with
    | nil =>
     obtain rfl := some_inj hL_15
     refine wH_seq (wH_region (h_op (vB (decide ((k_8 : Int) < (plays_2.length : Int)))) wz rfl (h_nil ?_)))
     refine wH_seq (wH_iff rfl (drop_nil hD_11) (wH_exit ?_))
     exact cut_mk (s_13) rfl rfl (pre_r rfl)
    | cons x_10 l_9 =>
     obtain ⟨c_, hc_14, hL_15⟩ := bind_some hL_15
     refine wH_seq (wH_region (h_op (vB (decide ((k_8 : Int) < (plays_2.length : Int)))) wz rfl (h_nil ?_)))
     refine wH_seq (wH_ift rfl (drop_cons hD_11) (wH_skip ?_))
     unfold booking_paceFault_L1 at hc_14
     refine wH_seq (wH_block (wH_seq (wH_region (h_ia es92 rfl rfl (drop_idx hD_11) rfl wz (h_ldc sz95 ag95 rfl (.d (.agg (Play.enc x_10))) rfl wz (h_alloc 0 (.inl rfl) z95 rfl wz (fun n_18 => h_str 0 (.inl rfl) (fun _ _ _ => trivial) 0 sz95 rfl rfl [(vS x_10.Player), (vS x_10.Item), (vI x_10.At), (vI x_10.Long)] rfl wz (h_nil (wH_seq (wH_seq ?_))))))))))
     obtain ⟨v_19, h_20, hc_14⟩ := bind_some hc_14
     refine wH_join (β := Unit) (fun _ => ([(2, (vI atv_3)), (9, (.ref n_18 0 0)), (18, (vL Play.enc plays_2)), (19, (vI (plays_2.length : Int))), (20, (vI (k_8 : Int))), (33, (vB v_19))] : List (Nat × V))) (fun _ => ([(n_18, some (.cells 4 [(vS x_10.Player), (vS x_10.Item), (vI x_10.At), (vI x_10.Long)]))] : Hp)) (fun _ => True) ?_ ?_
     ·refine wH_region (h_far pl95_0 rfl 0 rfl wz (h_ldr 0 0 (.inl rfl) (fun _ _ _ => trivial) sz9 ag9 rfl rfl (vS x_10.Player) rfl wz ?_))
      obtain ⟨r_21, hr_22, h_20⟩ := bind_some h_20
      refine h_call0 (kit_IsKey_ok hr_22) rfl hb98 rfl rfl rfl rfl wz (h_op (vB (!r_21)) wz rfl ?_)
      rcases cond_some h_20 with ⟨hc_23, h_20⟩ | ⟨hc_23, h_20⟩
      ·refine h_movb rfl hc_23 wz (h_skip (wg rfl rfl rfl) (h_skip (wg rfl rfl rfl) (h_skip (wg rfl rfl rfl) (h_skip (wg rfl rfl rfl) (h_op (vB true) wz rfl (h_nil ?_))))))
       obtain rfl := some_inj h_20
       exact cut_mk () trivial rfl (pre_r rfl)
      ·refine h_movb rfl hc_23 wz (h_far pl95_1 rfl 1 rfl (wg rfl rfl rfl) (h_ldr 0 0 (.inl rfl) (fun _ _ _ => trivial) sz9 ag9 rfl rfl (vS x_10.Item) rfl (wg rfl rfl rfl) ?_))
       obtain ⟨r_24, hr_25, h_20⟩ := bind_some h_20
       refine h_call0 (kit_IsKey_ok hr_25) rfl hb98 rfl rfl rfl rfl (wg rfl rfl rfl) (h_op (vB (!r_24)) (wg rfl rfl rfl) rfl (h_op (vB (!r_24)) wz rfl (h_nil ?_)))
       obtain rfl := some_inj h_20
       exact cut_mk () trivial rfl (pre_r rfl)
     ·rintro ⟨⟩ _ sl_ H_ hp_ hq_
      refine wH_at _ hp_ hq_ ?_
      rcases cond_some hc_14 with ⟨hc_26, hc_14⟩ | ⟨hc_26, hc_14⟩
      ·refine wH_ift rfl hc_26 (wH_seq (wH_region (h_op (vI 5) wz rfl (h_nil ?_))))
       obtain rfl := some_inj hc_14
       obtain rfl := some_inj hL_15
       obtain rfl := some_inj hF
       exact wH_ret (fin0 (.inr rfl) [(vI 5)] ⟨rfl, trivial⟩ rfl rfl rfl)
      ·refine wH_iff rfl hc_26 (wH_skip (wH_seq ?_))
       obtain ⟨v_27, h_28, hc_14⟩ := bind_some hc_14
       refine wH_join (β := Unit) (fun _ => ([(2, (vI atv_3)), (18, (vL Play.enc plays_2)), (19, (vI (plays_2.length : Int))), (20, (vI (k_8 : Int))), (42, (vB v_27))] : List (Nat × V))) (fun _ => ([(n_18, some (.cells 4 [(vS x_10.Player), (vS x_10.Item), (vI x_10.At), (vI x_10.Long)]))] : Hp)) (fun _ => True) ?_ ?_
       ·refine wH_region (h_far pl95_2 rfl 2 rfl wz (h_ldr 0 0 (.inl rfl) (fun _ _ _ => trivial) sz3 ag3 rfl rfl (vI x_10.At) rfl wz ?_))
        obtain ⟨r_29, hr_30, h_28⟩ := bind_some h_28
        refine h_call0 (kit_IsMoment_ok hr_30) rfl hb74 rfl rfl rfl rfl wz (h_op (vB (!r_29)) wz rfl ?_)
        rcases cond_some h_28 with ⟨hc_31, h_28⟩ | ⟨hc_31, h_28⟩
        ·refine h_movb rfl hc_31 wz (h_skip (wg rfl rfl rfl) (h_skip (wg rfl rfl rfl) (h_skip (wg rfl rfl rfl) (h_op (vB true) wz rfl (h_nil ?_)))))
         obtain rfl := some_inj h_28
         exact cut_mk () trivial rfl (pre_r rfl)
        ·refine h_movb rfl hc_31 wz (h_far pl95_3 rfl 3 rfl (wg rfl rfl rfl) (h_ldr 0 0 (.inl rfl) (fun _ _ _ => trivial) sz3 ag3 rfl rfl (vI x_10.Long) rfl (wg rfl rfl rfl) ?_))
         obtain ⟨r_32, hr_33, h_28⟩ := bind_some h_28
         refine h_call0 (kit_Outside_ok hr_33) rfl hb79 rfl rfl rfl rfl (wg rfl rfl rfl) (h_op (vB r_32) wz rfl (h_nil ?_))
         obtain rfl := some_inj h_28
         exact cut_mk () trivial rfl (pre_r rfl)
       ·rintro ⟨⟩ _ sl_ H_ hp_ hq_
        refine wH_at _ hp_ hq_ ?_
        rcases cond_some hc_14 with ⟨hc_34, hc_14⟩ | ⟨hc_34, hc_14⟩
        ·refine wH_ift rfl hc_34 (wH_seq (wH_region (h_op (vI 1) wz rfl (h_nil ?_))))
         obtain rfl := some_inj hc_14
         obtain rfl := some_inj hL_15
         obtain rfl := some_inj hF
         exact wH_ret (fin0 (.inr rfl) [(vI 1)] ⟨rfl, trivial⟩ rfl rfl rfl)
        ·refine wH_iff rfl hc_34 (wH_skip (wH_region (h_opw (w64_next hD_11 hn_12) wz rfl (h_op (vI ((k_8 + 1 : Nat) : Int)) wz rfl (h_nil ?_)))))
         obtain rfl := some_inj hc_14
         exact loop_mk (k_8 + 1, l_9, ()) ⟨hL_15, drop_next hD_11⟩ (Nat.lt_succ_self _) rfl (pre_r rfl)
   ·rintro s_13 ho_ sl_ H_ hp_ hq_
    subst ho_
    refine wH_at _ hp_ hq_ (wH_seq (wH_seq (wH_region (h_op (vI atv_3) wz rfl ?_))))
    obtain ⟨r_35, hr_36, hF⟩ := bind_some hF
    refine h_call0 (kit_IsMoment_ok hr_36) rfl hb74 rfl rfl rfl rfl wz (h_op (vB (!r_35)) wz rfl (h_nil ?_))
    rcases cond_some hF with ⟨hc_37, hF⟩ | ⟨hc_37, hF⟩
    ·refine wH_ift rfl hc_37 (wH_seq (wH_region (h_op (vI 1) wz rfl (h_nil ?_))))
     obtain rfl := some_inj hF
     exact wH_ret (fin0 (.inr rfl) [(vI 1)] ⟨rfl, trivial⟩ rfl rfl rfl)
    ·refine wH_iff rfl hc_37 (wH_skip (wH_seq (wH_region (h_op (vI 0) wz rfl (h_nil ?_)))))
     obtain rfl := some_inj hF
     exact wH_ret (fin0 (.inr rfl) [(vI 0)] ⟨rfl, trivial⟩ rfl rfl rfl)
theorem booking_paces_ok {l_1 : (List Campaign)} {plays_2 : (List Play)} {atv_3 : Int} {r : (List Pace)} (hF : booking_paces l_1 plays_2 atv_3 = some r) :
  FnM Tryz.prog 77 [(vL Campaign.enc l_1), (vL Play.enc plays_2), (vI atv_3)] [] (vL Pace.enc r) [] := by
 refine FnM.of_wH ⟨Tryz.prog, 69, [], []⟩ rfl Tryz.func77 rfl rfl (Nat.le_of_ble_eq_true rfl) (by kernel_rfl) ?_
 unfold booking_paces at hF
 refine wH_seq (wH_region (h_op .nil wz rfl (h_nil (wH_seq (wH_region (h_op .nil wz rfl (h_nil (wH_seq (wH_seq (wH_region (h_op (vL Campaign.enc l_1) wz rfl (h_len un85 rfl wz (h_op (vI 0) wz rfl (h_nil (wH_new (fun n_10 => ?_))))))))))))))))
 obtain ⟨o_15, hj_16, hF⟩ := bind_some hF
 obtain ⟨hn_8, hj_16⟩ := forL_some hj_16
 refine wH_join (β := ((List Pace)) × Nm) (fun p => (fun (s_9 : (List Pace)) (n_12 : Nm) => ([(7, (gV n_12 3 s_9))] : List (Nat × V))) p.1 p.2) (fun p => (fun (s_9 : (List Pace)) (n_12 : Nm) => ([(n_12, gB 3 Pace.enc s_9)] : Hp)) p.1 p.2) (fun p => o_15 = .go p.1) ?_ ?_
 ·refine wH_block (wH_loop (β := Nat × (List Campaign) × ((List Pace)) × Nm) (fun p => (fun (k_4 : Nat) (l_5 : List Campaign) (s_9 : (List Pace)) (n_12 : Nm) => ([(1, (vL Play.enc plays_2)), (2, (vI atv_3)), (7, (gV n_12 3 s_9)), (13, (vL Campaign.enc l_1)), (14, (vI (l_1.length : Int))), (15, (vI (k_4 : Int)))] : List (Nat × V))) p.1 p.2.1 p.2.2.1 p.2.2.2) (fun p => (fun (k_4 : Nat) (l_5 : List Campaign) (s_9 : (List Pace)) (n_12 : Nm) => ([(n_12, gB 3 Pace.enc s_9)] : Hp)) p.1 p.2.1 p.2.2.1 p.2.2.2) (fun p => forR (fun k x s => booking_paces_L2 atv_3 plays_2 k x s) p.2.1 p.1 p.2.2.1 = some o_15 ∧ (l_1).drop p.1 = p.2.1) (fun p => p.2.1.length) (0, l_1, ([] : List Pace), n_10) ⟨hj_16, rfl⟩ rfl (pre_r rfl) ?_)
  rintro ⟨k_4, l_5, s_9, n_12⟩ ⟨hL_14, hD_7⟩
  dsimp only at hL_14 hD_7
  cases l_5 with
  | nil =>
   obtain rfl := some_inj hL_14
   refine wH_seq (wH_region (h_op (vB (decide ((k_4 : Int) < (l_1.length : Int)))) wz rfl (h_nil ?_)))
   refine wH_seq (wH_iff rfl (drop_nil hD_7) (wH_exit ?_))
   exact cut_mk (s_9, n_12) rfl rfl (pre_r rfl)
  | cons x_6 l_5 =>
   obtain ⟨c_, hc_13, hL_14⟩ := bind_some hL_14
   refine wH_seq (wH_region (h_op (vB (decide ((k_4 : Int) < (l_1.length : Int)))) wz rfl (h_nil ?_)))
   refine wH_seq (wH_ift rfl (drop_cons hD_7) (wH_skip ?_))
   unfold booking_paces_L2 at hc_13
   refine wH_seq (wH_block (wH_seq (wH_region (h_ia es85 rfl rfl (drop_idx hD_7) rfl wz (h_ldc sz90 ag90 rfl (.d (.agg (Campaign.enc x_6))) rfl wz (h_alloc 0 (.inl rfl) z90 rfl wz (fun n_17 => h_str 0 (.inl rfl) (fun _ _ _ => trivial) 1 sz90 rfl rfl [(vS x_6.Key), (vS x_6.Class), (vI x_6.Time.From), (vI x_6.Time.To), (vL eS x_6.Tags), (vI x_6.Goal), (vI x_6.Most), (vI x_6.Cents)] rfl wz (h_nil (wH_seq (wH_draws (h_far pl90_0 rfl 0 rfl wz (h_ldr 1 1 (.inr (by kernel_rfl)) (fun _ _ ag => trivial) sz9 ag9 rfl rfl (vS x_6.Key) rfl wz (h_ldr 2 1 (.inr (by kernel_rfl)) (fun _ _ ag => ⟨.inl ⟨rfl, rfl⟩, trivial⟩) sz90 ag90 rfl rfl (.d (.agg (Campaign.enc x_6))) rfl wz (h_op (vI atv_3) wz rfl ?_))))))))))))))
   obtain ⟨r_18, hr_19, hc_13⟩ := bind_some hc_13
   refine h_call0 (booking_due_ok hr_19) rfl hb75 rfl rfl rfl rfl wz (h_op (.d (.agg (Pace.enc (⟨x_6.Key, r_18, 0⟩ : Pace)))) wz (by kernel_rfl) (h_alloc 6 (.inr (by kernel_rfl)) z101 rfl wz (fun n_20 => h_str 7 (.inr (by kernel_rfl)) (fun _ _ ag => ⟨.inr (.inr (by kernel_rfl)), ⟨.inr (.inr (by kernel_rfl)), ⟨.inr (.inr (by kernel_rfl)), trivial⟩⟩⟩) 2 sz101 rfl rfl [(vS x_6.Key), (vI r_18), (vI 0)] rfl wz (h_nil (wH_seq (wH_seq (wH_region (h_op (vL Play.enc plays_2) wz rfl (h_len un92 rfl wz (h_op (vI 0) wz rfl (h_nil ?_)))))))))))
   obtain ⟨o_29, hj_30, hc_13⟩ := bind_some hc_13
   obtain ⟨hn_25, hj_30⟩ := forL_some hj_30
   refine wH_join (β := (Int)) (fun (s_26 : Int) => ([(1, (vL Play.enc plays_2)), (2, (vI atv_3)), (7, (gV n_12 3 s_9)), (10, (.ref n_20 0 0)), (13, (vL Campaign.enc l_1)), (14, (vI (l_1.length : Int))), (15, (vI (k_4 : Int)))] : List (Nat × V))) (fun (s_26 : Int) => ([(n_12, gB 3 Pace.enc s_9), (n_17, some (.cells 8 [(vS x_6.Key), (vS x_6.Class), (vI x_6.Time.From), (vI x_6.Time.To), (vL eS x_6.Tags), (vI x_6.Goal), (vI x_6.Most), (vI x_6.Cents)])), (n_20, some (.cells 3 [(vS x_6.Key), (vI r_18), (vI s_26)]))] : Hp)) (fun p => o_29 = .go p) ?_ ?_
   ·refine wH_block (wH_loop (β := Nat × (List Play) × (Int)) (fun p => (fun (k_21 : Nat) (l_22 : List Play) (s_26 : Int) => ([(1, (vL Play.enc plays_2)), (2, (vI atv_3)), (7, (gV n_12 3 s_9)), (9, (.ref n_17 0 0)), (10, (.ref n_20 0 0)), (13, (vL Campaign.enc l_1)), (14, (vI (l_1.length : Int))), (15, (vI (k_4 : Int))), (25, (vL Play.enc plays_2)), (26, (vI (plays_2.length : Int))), (27, (vI (k_21 : Int)))] : List (Nat × V))) p.1 p.2.1 p.2.2) (fun p => (fun (k_21 : Nat) (l_22 : List Play) (s_26 : Int) => ([(n_12, gB 3 Pace.enc s_9), (n_17, some (.cells 8 [(vS x_6.Key), (vS x_6.Class), (vI x_6.Time.From), (vI x_6.Time.To), (vL eS x_6.Tags), (vI x_6.Goal), (vI x_6.Most), (vI x_6.Cents)])), (n_20, some (.cells 3 [(vS x_6.Key), (vI r_18), (vI s_26)]))] : Hp)) p.1 p.2.1 p.2.2) (fun p => forR (fun k x s => booking_paces_L1 x_6 atv_3 k x s) p.2.1 p.1 p.2.2 = some o_29 ∧ (plays_2).drop p.1 = p.2.1) (fun p => p.2.1.length) (0, plays_2, 0) ⟨hj_30, rfl⟩ rfl (pre_r rfl) ?_)
    rintro ⟨k_21, l_22, s_26⟩ ⟨hL_28, hD_24⟩
    dsimp only at hL_28 hD_24
    cases l_22 with
    | nil =>
     obtain rfl := some_inj hL_28
     refine wH_seq (wH_region (h_op (vB (decide ((k_21 : Int) < (plays_2.length : Int)))) wz rfl (h_nil ?_)))
     refine wH_seq (wH_iff rfl (drop_nil hD_24) (wH_exit ?_))
     exact cut_mk (s_26) rfl rfl (pre_r rfl)
    | cons x_23 l_22 =>
     obtain ⟨c_, hc_27, hL_28⟩ := bind_some hL_28
     refine wH_seq (wH_region (h_op (vB (decide ((k_21 : Int) < (plays_2.length : Int)))) wz rfl (h_nil ?_)))
     refine wH_seq (wH_ift rfl (drop_cons hD_24) (wH_skip ?_))
     unfold booking_paces_L1 at hc_27
     refine wH_seq (wH_block (wH_seq (wH_region (h_ia es92 rfl rfl (drop_idx hD_24) rfl wz (h_ldc sz95 ag95 rfl (.d (.agg (Play.enc x_23))) rfl wz (h_alloc 0 (.inl rfl) z95 rfl wz (fun n_31 => h_str 0 (.inl rfl) (fun _ _ _ => trivial) 3 sz95 rfl rfl [(vS x_23.Player), (vS x_23.Item), (vI x_23.At), (vI x_23.Long)] rfl wz (h_nil (wH_seq ?_)))))))))
     obtain ⟨v_32, h_33, hc_27⟩ := bind_some hc_27
     refine wH_join (β := Unit) (fun _ => ([(1, (vL Play.enc plays_2)), (2, (vI atv_3)), (7, (gV n_12 3 s_9)), (9, (.ref n_17 0 0)), (10, (.ref n_20 0 0)), (13, (vL Campaign.enc l_1)), (14, (vI (l_1.length : Int))), (15, (vI (k_4 : Int))), (25, (vL Play.enc plays_2)), (26, (vI (plays_2.length : Int))), (27, (vI (k_21 : Int))), (57, (vB v_32))] : List (Nat × V))) (fun _ => ([(n_12, gB 3 Pace.enc s_9), (n_17, some (.cells 8 [(vS x_6.Key), (vS x_6.Class), (vI x_6.Time.From), (vI x_6.Time.To), (vL eS x_6.Tags), (vI x_6.Goal), (vI x_6.Most), (vI x_6.Cents)])), (n_20, some (.cells 3 [(vS x_6.Key), (vI r_18), (vI s_26)])), (n_31, some (.cells 4 [(vS x_23.Player), (vS x_23.Item), (vI x_23.At), (vI x_23.Long)]))] : Hp)) (fun _ => True) ?_ ?_
     ·refine wH_region (h_far pl95_1 rfl 1 rfl wz (h_ldr 0 3 (.inl rfl) (fun _ _ _ => trivial) sz9 ag9 rfl rfl (vS x_23.Item) rfl wz (h_far pl90_0 rfl 0 rfl wz (h_ldr 0 1 (.inl rfl) (fun _ _ _ => trivial) sz9 ag9 rfl rfl (vS x_6.Key) rfl wz (h_op (vB (sEq x_23.Item x_6.Key)) wz rfl ?_)))))
      rcases cond_some h_33 with ⟨hc_34, h_33⟩ | ⟨hc_34, h_33⟩
      ·refine h_movb rfl hc_34 wz (h_far pl90_2 rfl 2 rfl (wg rfl rfl rfl) (h_far pl88_0 rfl 2 rfl (wg rfl rfl rfl) (h_ldr 0 1 (.inl rfl) (fun _ _ _ => trivial) sz3 ag3 rfl rfl (vI x_6.Time.From) rfl (wg rfl rfl rfl) (h_far pl95_2 rfl 2 rfl (wg rfl rfl rfl) (h_ldr 0 3 (.inl rfl) (fun _ _ _ => trivial) sz3 ag3 rfl rfl (vI x_23.At) rfl (wg rfl rfl rfl) (h_op (vB (decide (x_6.Time.From ≤ x_23.At))) (wg rfl rfl rfl) rfl (h_op (vB (decide (x_6.Time.From ≤ x_23.At))) wz rfl ?_)))))))
       rcases cond_some h_33 with ⟨hc_35, h_33⟩ | ⟨hc_35, h_33⟩
       ·refine h_movb rfl hc_35 wz (h_far pl95_2 rfl 2 rfl (wg rfl rfl rfl) (h_ldr 0 3 (.inl rfl) (fun _ _ _ => trivial) sz3 ag3 rfl rfl (vI x_23.At) rfl (wg rfl rfl rfl) (h_far pl90_2 rfl 2 rfl (wg rfl rfl rfl) (h_far pl88_1 rfl 3 rfl (wg rfl rfl rfl) (h_ldr 0 1 (.inl rfl) (fun _ _ _ => trivial) sz3 ag3 rfl rfl (vI x_6.Time.To) rfl (wg rfl rfl rfl) (h_op (vB (decide (x_23.At < x_6.Time.To))) (wg rfl rfl rfl) rfl (h_op (vB (decide (x_23.At < x_6.Time.To))) wz rfl ?_)))))))
        rcases cond_some h_33 with ⟨hc_36, h_33⟩ | ⟨hc_36, h_33⟩
        ·refine h_movb rfl hc_36 wz (h_far pl95_2 rfl 2 rfl (wg rfl rfl rfl) (h_ldr 0 3 (.inl rfl) (fun _ _ _ => trivial) sz3 ag3 rfl rfl (vI x_23.At) rfl (wg rfl rfl rfl) (h_op (vI atv_3) (wg rfl rfl rfl) rfl (h_op (vB (decide (x_23.At < atv_3))) (wg rfl rfl rfl) rfl (h_op (vB (decide (x_23.At < atv_3))) wz rfl (h_nil ?_))))))
         obtain rfl := some_inj h_33
         exact cut_mk () trivial rfl (pre_r rfl)
        ·refine h_movb rfl hc_36 wz (h_skip (wg rfl rfl rfl) (h_skip (wg rfl rfl rfl) (h_skip (wg rfl rfl rfl) (h_skip (wg rfl rfl rfl) (h_op (vB false) wz rfl (h_nil ?_))))))
         obtain rfl := some_inj h_33
         exact cut_mk () trivial rfl (pre_r rfl)
       ·refine h_movb rfl hc_35 wz (h_skip (wg rfl rfl rfl) (h_skip (wg rfl rfl rfl) (h_skip (wg rfl rfl rfl) (h_skip (wg rfl rfl rfl) (h_skip (wg rfl rfl rfl) (h_skip (wg rfl rfl rfl) (h_op (vB false) wz rfl (h_op (vB false) wz rfl (h_skip (wg rfl rfl rfl) (h_skip (wg rfl rfl rfl) (h_skip (wg rfl rfl rfl) (h_skip (wg rfl rfl rfl) (h_op (vB false) wz rfl (h_nil ?_))))))))))))))
        obtain rfl := some_inj h_33
        exact cut_mk () trivial rfl (pre_r rfl)
      ·refine h_movb rfl hc_34 wz (h_skip (wg rfl rfl rfl) (h_skip (wg rfl rfl rfl) (h_skip (wg rfl rfl rfl) (h_skip (wg rfl rfl rfl) (h_skip (wg rfl rfl rfl) (h_skip (wg rfl rfl rfl) (h_op (vB false) wz rfl (h_op (vB false) wz rfl (h_skip (wg rfl rfl rfl) (h_skip (wg rfl rfl rfl) (h_skip (wg rfl rfl rfl) (h_skip (wg rfl rfl rfl) (h_skip (wg rfl rfl rfl) (h_skip (wg rfl rfl rfl) (h_op (vB false) wz rfl (h_op (vB false) wz rfl (h_skip (wg rfl rfl rfl) (h_skip (wg rfl rfl rfl) (h_skip (wg rfl rfl rfl) (h_skip (wg rfl rfl rfl) (h_op (vB false) wz rfl (h_nil ?_))))))))))))))))))))))
       obtain rfl := some_inj h_33
       exact cut_mk () trivial rfl (pre_r rfl)
     ·rintro ⟨⟩ _ sl_ H_ hp_ hq_
      refine wH_at _ hp_ hq_ ?_
      obtain ⟨v_37, h_38, hc_27⟩ := bind_some hc_27
      refine wH_join (β := Unit) (fun _ => ([(1, (vL Play.enc plays_2)), (2, (vI atv_3)), (7, (gV n_12 3 s_9)), (9, (.ref n_17 0 0)), (10, (.ref n_20 0 0)), (13, (vL Campaign.enc l_1)), (14, (vI (l_1.length : Int))), (15, (vI (k_4 : Int))), (25, (vL Play.enc plays_2)), (26, (vI (plays_2.length : Int))), (27, (vI (k_21 : Int)))] : List (Nat × V))) (fun _ => ([(n_12, gB 3 Pace.enc s_9), (n_17, some (.cells 8 [(vS x_6.Key), (vS x_6.Class), (vI x_6.Time.From), (vI x_6.Time.To), (vL eS x_6.Tags), (vI x_6.Goal), (vI x_6.Most), (vI x_6.Cents)])), (n_20, some (.cells 3 [(vS x_6.Key), (vI r_18), (vI v_37)])), (n_31, some (.cells 4 [(vS x_23.Player), (vS x_23.Item), (vI x_23.At), (vI x_23.Long)]))] : Hp)) (fun _ => True) ?_ ?_
      ·rcases cond_some h_38 with ⟨hc_39, h_38⟩ | ⟨hc_39, h_38⟩
       ·refine wH_ift rfl hc_39 (wH_region (h_far pl101_2 rfl 2 rfl wz (h_ldr 0 2 (.inl rfl) (fun _ _ _ => trivial) sz3 ag3 rfl rfl (vI s_26) rfl wz (h_op (vI (w64 (s_26 + 1))) wz rfl (h_far pl101_2 rfl 2 rfl wz (h_str 0 (.inl rfl) (fun _ _ _ => trivial) 2 sz3 rfl rfl [(vS x_6.Key), (vI r_18), (vI (w64 (s_26 + 1)))] rfl wz (h_nil ?_)))))))
        obtain rfl := some_inj h_38
        exact cut_mk () trivial rfl (pre_r rfl)
       ·refine wH_iff rfl hc_39 (wH_skip ?_)
        obtain rfl := some_inj h_38
        exact cut_mk () trivial rfl (pre_r rfl)
      ·rintro ⟨⟩ _ sl_ H_ hp_ hq_
       refine wH_at _ hp_ hq_ (wH_region (h_opw (w64_next hD_24 hn_25) wz rfl (h_op (vI ((k_21 + 1 : Nat) : Int)) wz rfl (h_nil ?_))))
       obtain rfl := some_inj hc_27
       exact loop_mk (k_21 + 1, l_22, v_37) ⟨hL_28, drop_next hD_24⟩ (Nat.lt_succ_self _) rfl (pre_r rfl)
   ·rintro s_26 ho_ sl_ H_ hp_ hq_
    subst ho_
    refine wH_at _ hp_ hq_ (wH_region (h_op (gV n_12 3 s_9) wz rfl (h_ldr 0 2 (.inl rfl) (fun _ _ _ => trivial) sz101 ag101 rfl rfl (.d (.agg (Pace.enc (⟨x_6.Key, r_18, s_26⟩ : Pace)))) rfl wz (h_lit (([(⟨x_6.Key, r_18, s_26⟩ : Pace)] : List Pace).map Pace.enc) es97 ez97 rfl rfl rfl rfl rfl wz ?_))))
    obtain ⟨a_40, hz_41, hc_13⟩ := bind_some hc_13
    refine h_appg 0 (.inl rfl) (fun _ _ _ => trivial) (i := 0) el97 el97 sz101 z101 rfl (by decide) by101 (by decide) (fun _ => rfl) rfl rfl rfl hz_41 wz (fun n_42 => h_op (gV n_42 3 a_40) wz rfl (h_nil (wH_region (h_opw (w64_next hD_7 hn_8) wz rfl (h_op (vI ((k_4 + 1 : Nat) : Int)) wz rfl (h_nil ?_))))))
    obtain rfl := some_inj hc_13
    exact loop_mk (k_4 + 1, l_5, a_40, n_42) ⟨hL_14, drop_next hD_7⟩ (Nat.lt_succ_self _) rfl (pre_r rfl)
 ·rintro ⟨s_9, n_12⟩ ho_ sl_ H_ hp_ hq_
  subst ho_
  refine wH_at _ hp_ hq_ (wH_seq (wH_region (h_op (gV n_12 3 s_9) wz rfl (h_op (gV n_12 3 s_9) wz rfl (h_nil (wH_frozg 0 rfl (wH_cog 6 0 rfl rfl (wH_cog 7 0 rfl rfl (wH_cog 68 0 rfl rfl ?_)))))))))
  obtain rfl := some_inj hF
  exact wH_ret (fin0 (.inr rfl) [(vL Pace.enc s_9)] ⟨rfl, trivial⟩ rfl rfl rfl)
theorem booking_Choose_ok {l_1 : (List Campaign)} {plays_2 : (List Play)} {atv_3 : Int} {r : ByteArray × Bool × Int} (hF : booking_Choose l_1 plays_2 atv_3 = some r) :
  FnM Tryz.prog 40 [(vL Campaign.enc l_1), (vL Play.enc plays_2), (vI atv_3)] [] (.tup [(vS r.1), (vB r.2.1), (vI r.2.2)]) [] := by
 refine FnM.of_wH ⟨Tryz.prog, 99, [], []⟩ rfl Tryz.func40 rfl rfl (Nat.le_of_ble_eq_true rfl) (by kernel_rfl) ?_
 unfold booking_Choose at hF
 refine wH_seq (wH_region (h_op (vS (⟨#[]⟩ : ByteArray)) wz rfl (h_op (vB false) wz rfl (h_op (vI 0) wz rfl (h_nil (wH_seq (wH_seq (wH_region (h_op (vL Campaign.enc l_1) wz rfl (h_op (vL Play.enc plays_2) wz rfl (h_op (vI atv_3) wz rfl ?_)))))))))))
 obtain ⟨r_4, hr_5, hF⟩ := bind_some hF
 refine h_call0 (booking_paceFault_ok hr_5) rfl hb76 rfl rfl rfl rfl wz (h_op (vI r_4) wz rfl (h_nil (wH_seq (wH_region (h_op (vI r_4) wz rfl (h_op (vB (r_4 != 0)) wz rfl (h_nil ?_)))))))
 rcases cond_some hF with ⟨hc_6, hF⟩ | ⟨hc_6, hF⟩
 ·refine wH_ift rfl hc_6 (wH_seq (wH_region (h_op (vI r_4) wz rfl (h_op (vS (⟨#[]⟩ : ByteArray)) wz rfl (h_op (vB false) wz rfl (h_op (vI r_4) wz rfl (h_nil ?_)))))))
  obtain rfl := some_inj hF
  exact wH_ret (fin0 (.inr rfl) [(vS (⟨#[]⟩ : ByteArray)), (vB false), (vI r_4)] ⟨rfl, ⟨rfl, ⟨rfl, trivial⟩⟩⟩ rfl rfl rfl)
 ·refine wH_iff rfl hc_6 (wH_skip (wH_seq (wH_region (h_op (vL Campaign.enc l_1) wz rfl (h_op (vL Play.enc plays_2) wz rfl (h_op (vI atv_3) wz rfl ?_))))))
  obtain ⟨r_7, hr_8, hF⟩ := bind_some hF
  refine h_call0 (booking_paces_ok hr_8) rfl hb77 rfl rfl rfl rfl wz (h_op (vL Pace.enc r_7) wz rfl (h_nil (wH_seq (wH_region (h_op (vI (-1)) wz rfl (h_nil (wH_seq (wH_seq (wH_region (h_op (vL Campaign.enc l_1) wz rfl (h_len un85 rfl wz (h_op (vI 0) wz rfl (h_nil ?_)))))))))))))
  obtain ⟨o_17, hj_18, hF⟩ := bind_some hF
  obtain ⟨hn_13, hj_18⟩ := forL_some hj_18
  refine wH_join (β := (Int)) (fun (s_14 : Int) => ([(0, (vL Campaign.enc l_1)), (11, (vI s_14))] : List (Nat × V))) (fun (s_14 : Int) => ([] : Hp)) (fun p => o_17 = .go p) ?_ ?_
  ·refine wH_block (wH_loop (β := Nat × (List Campaign) × (Int)) (fun p => (fun (k_9 : Nat) (l_10 : List Campaign) (s_14 : Int) => ([(0, (vL Campaign.enc l_1)), (2, (vI atv_3)), (10, (vL Pace.enc r_7)), (11, (vI s_14)), (25, (vL Campaign.enc l_1)), (26, (vI (l_1.length : Int))), (27, (vI (k_9 : Int)))] : List (Nat × V))) p.1 p.2.1 p.2.2) (fun p => (fun (k_9 : Nat) (l_10 : List Campaign) (s_14 : Int) => ([] : Hp)) p.1 p.2.1 p.2.2) (fun p => forR (fun k x s => booking_Choose_L1 atv_3 r_7 l_1 k x s) p.2.1 p.1 p.2.2 = some o_17 ∧ (l_1).drop p.1 = p.2.1) (fun p => p.2.1.length) (0, l_1, (-1)) ⟨hj_18, rfl⟩ rfl (pre_r rfl) ?_)
   rintro ⟨k_9, l_10, s_14⟩ ⟨hL_16, hD_12⟩
   dsimp only at hL_16 hD_12
   cases l_10 with
   | nil =>
    obtain rfl := some_inj hL_16
    refine wH_seq (wH_region (h_op (vB (decide ((k_9 : Int) < (l_1.length : Int)))) wz rfl (h_nil ?_)))
    refine wH_seq (wH_iff rfl (drop_nil hD_12) (wH_exit ?_))
    exact cut_mk (s_14) rfl rfl (pre_r rfl)
   | cons x_11 l_10 =>
    obtain ⟨c_, hc_15, hL_16⟩ := bind_some hL_16
    refine wH_seq (wH_region (h_op (vB (decide ((k_9 : Int) < (l_1.length : Int)))) wz rfl (h_nil ?_)))
    refine wH_seq (wH_ift rfl (drop_cons hD_12) (wH_skip ?_))
    unfold booking_Choose_L1 at hc_15
    refine wH_seq (wH_block (wH_seq (wH_region (h_op (vI (k_9 : Int)) wz rfl (h_ia es85 rfl rfl (drop_idx hD_12) rfl wz (h_ldc sz90 ag90 rfl (.d (.agg (Campaign.enc x_11))) rfl wz (h_alloc 0 (.inl rfl) z90 rfl wz (fun n_19 => h_op (vI (k_9 : Int)) wz rfl (h_str 0 (.inl rfl) (fun _ _ _ => trivial) 0 sz90 rfl rfl [(vS x_11.Key), (vS x_11.Class), (vI x_11.Time.From), (vI x_11.Time.To), (vL eS x_11.Tags), (vI x_11.Goal), (vI x_11.Most), (vI x_11.Cents)] rfl wz (h_nil (wH_seq (wH_seq ?_))))))))))))
    obtain ⟨v_20, h_21, hc_15⟩ := bind_some hc_15
    refine wH_join (β := Unit) (fun _ => ([(0, (vL Campaign.enc l_1)), (2, (vI atv_3)), (10, (vL Pace.enc r_7)), (11, (vI s_14)), (12, (vI (k_9 : Int))), (13, (.ref n_19 0 0)), (25, (vL Campaign.enc l_1)), (26, (vI (l_1.length : Int))), (27, (vI (k_9 : Int))), (53, (vB v_20))] : List (Nat × V))) (fun _ => ([(n_19, some (.cells 8 [(vS x_11.Key), (vS x_11.Class), (vI x_11.Time.From), (vI x_11.Time.To), (vL eS x_11.Tags), (vI x_11.Goal), (vI x_11.Most), (vI x_11.Cents)]))] : Hp)) (fun _ => True) ?_ ?_
    ·refine wH_draws (h_op (vI atv_3) wz rfl (h_far pl90_2 rfl 2 rfl wz (h_far pl88_0 rfl 2 rfl wz (h_ldr 3 0 (.inr (by kernel_rfl)) (fun _ _ ag => trivial) sz3 ag3 rfl rfl (vI x_11.Time.From) rfl wz (h_op (vB (decide (atv_3 < x_11.Time.From))) wz rfl ?_)))))
     rcases cond_some h_21 with ⟨hc_22, h_21⟩ | ⟨hc_22, h_21⟩
     ·refine h_movb rfl hc_22 wz (h_skip (wg rfl rfl rfl) (h_skip (wg rfl rfl rfl) (h_skip (wg rfl rfl rfl) (h_skip (wg rfl rfl rfl) (h_skip (wg rfl rfl rfl) (h_op (vB true) wz rfl (h_op (vB true) wz rfl (h_skip (wg rfl rfl rfl) (h_skip (wg rfl rfl rfl) (h_skip (wg rfl rfl rfl) (h_skip (wg rfl rfl rfl) (h_skip (wg rfl rfl rfl) (h_skip (wg rfl rfl rfl) (h_skip (wg rfl rfl rfl) (h_skip (wg rfl rfl rfl) (h_op (vB true) wz rfl (h_nil ?_)))))))))))))))))
      obtain rfl := some_inj h_21
      exact cut_mk () trivial rfl (pre_r rfl)
     ·refine h_movb rfl hc_22 wz (h_op (vI atv_3) (wg rfl rfl rfl) rfl (h_far pl90_2 rfl 2 rfl (wg rfl rfl rfl) (h_far pl88_1 rfl 3 rfl (wg rfl rfl rfl) (h_ldr 9 0 (.inr (by kernel_rfl)) (fun _ _ ag => ⟨.inl ⟨rfl, rfl⟩, trivial⟩) sz3 ag3 rfl rfl (vI x_11.Time.To) rfl (wg rfl rfl rfl) (h_op (vB (decide (atv_3 ≥ x_11.Time.To))) (wg rfl rfl rfl) rfl (h_op (vB (decide (atv_3 ≥ x_11.Time.To))) wz rfl ?_))))))
      rcases cond_some h_21 with ⟨hc_23, h_21⟩ | ⟨hc_23, h_21⟩
      ·refine h_movb rfl hc_23 wz (h_skip (wg rfl rfl rfl) (h_skip (wg rfl rfl rfl) (h_skip (wg rfl rfl rfl) (h_skip (wg rfl rfl rfl) (h_skip (wg rfl rfl rfl) (h_skip (wg rfl rfl rfl) (h_skip (wg rfl rfl rfl) (h_skip (wg rfl rfl rfl) (h_op (vB true) wz rfl (h_nil ?_))))))))))
       obtain rfl := some_inj h_21
       exact cut_mk () trivial rfl (pre_r rfl)
      ·refine h_movb rfl hc_23 wz (h_op (vL Pace.enc r_7) (wg rfl rfl rfl) rfl (h_op (vI (k_9 : Int)) (wg rfl rfl rfl) rfl ?_))
       obtain ⟨y_24, hy_25, h_21⟩ := bind_some h_21
       refine h_ia es97 rfl rfl hy_25 rfl (wg rfl rfl rfl) (h_fac pl101_2 rfl [.int .i64 y_24.Done] rfl rfl (wg rfl rfl rfl) (h_ldc sz3 ag3 rfl (vI y_24.Done) rfl (wg rfl rfl rfl) (h_far pl90_4 rfl 5 rfl (wg rfl rfl rfl) (h_ldr 19 0 (.inr (by kernel_rfl)) (fun _ _ ag => ⟨.inl ⟨rfl, rfl⟩, ⟨.inl ⟨rfl, rfl⟩, trivial⟩⟩) sz3 ag3 rfl rfl (vI x_11.Goal) rfl (wg rfl rfl rfl) (h_op (vB (decide (y_24.Done ≥ x_11.Goal))) (wg rfl rfl rfl) rfl (h_op (vB (decide (y_24.Done ≥ x_11.Goal))) wz rfl (h_nil ?_)))))))
       obtain rfl := some_inj h_21
       exact cut_mk () trivial rfl (pre_r rfl)
    ·rintro ⟨⟩ _ sl_ H_ hp_ hq_
     refine wH_at _ hp_ hq_ ?_
     rcases cond_some hc_15 with ⟨hc_26, hc_15⟩ | ⟨hc_26, hc_15⟩
     ·refine wH_ift rfl hc_26 (wH_exit (wH_region (h_opw (w64_next hD_12 hn_13) wz rfl (h_op (vI ((k_9 + 1 : Nat) : Int)) wz rfl (h_nil ?_)))))
      obtain rfl := some_inj hc_15
      exact loop_mk (k_9 + 1, l_10, s_14) ⟨hL_16, drop_next hD_12⟩ (Nat.lt_succ_self _) rfl (pre_r rfl)
     ·refine wH_iff rfl hc_26 (wH_skip (wH_seq ?_))
      obtain ⟨v_27, h_28, hc_15⟩ := bind_some hc_15
      refine wH_join (β := Unit) (fun _ => ([(0, (vL Campaign.enc l_1)), (2, (vI atv_3)), (10, (vL Pace.enc r_7)), (11, (vI s_14)), (12, (vI (k_9 : Int))), (25, (vL Campaign.enc l_1)), (26, (vI (l_1.length : Int))), (27, (vI (k_9 : Int))), (89, (vB v_27))] : List (Nat × V))) (fun _ => ([(n_19, some (.cells 8 [(vS x_11.Key), (vS x_11.Class), (vI x_11.Time.From), (vI x_11.Time.To), (vL eS x_11.Tags), (vI x_11.Goal), (vI x_11.Most), (vI x_11.Cents)]))] : Hp)) (fun _ => True) ?_ ?_
      ·refine wH_draws (h_op (vI s_14) wz rfl (h_op (vB (decide (s_14 < 0))) wz rfl ?_))
       rcases cond_some h_28 with ⟨hc_29, h_28⟩ | ⟨hc_29, h_28⟩
       ·refine h_movb rfl hc_29 wz (h_skip (wg rfl rfl rfl) (h_skip (wg rfl rfl rfl) (h_skip (wg rfl rfl rfl) (h_skip (wg rfl rfl rfl) (h_skip (wg rfl rfl rfl) (h_skip (wg rfl rfl rfl) (h_skip (wg rfl rfl rfl) (h_skip (wg rfl rfl rfl) (h_skip (wg rfl rfl rfl) (h_skip (wg rfl rfl rfl) (h_skip (wg rfl rfl rfl) (h_skip (wg rfl rfl rfl) (h_skip (wg rfl rfl rfl) (h_skip (wg rfl rfl rfl) (h_skip (wg rfl rfl rfl) (h_skip (wg rfl rfl rfl) (h_skip (wg rfl rfl rfl) (h_skip (wg rfl rfl rfl) (h_skip (wg rfl rfl rfl) (h_skip (wg rfl rfl rfl) (h_skip (wg rfl rfl rfl) (h_skip (wg rfl rfl rfl) (h_skip (wg rfl rfl rfl) ?_)))))))))))))))))))))))
        refine h_skip (wg rfl rfl rfl) (h_skip (wg rfl rfl rfl) (h_skip (wg rfl rfl rfl) (h_skip (wg rfl rfl rfl) (h_skip (wg rfl rfl rfl) (h_skip (wg rfl rfl rfl) (h_skip (wg rfl rfl rfl) (h_skip (wg rfl rfl rfl) (h_skip (wg rfl rfl rfl) (h_op (vB true) wz rfl (h_nil ?_))))))))))
        obtain rfl := some_inj h_28
        exact cut_mk () trivial rfl (pre_r rfl)
       ·refine h_movb rfl hc_29 wz (h_op (vL Pace.enc r_7) (wg rfl rfl rfl) rfl (h_op (vI (k_9 : Int)) (wg rfl rfl rfl) rfl ?_))
        obtain ⟨y_30, hy_31, h_28⟩ := bind_some h_28
        refine h_ia es97 rfl rfl hy_31 rfl (wg rfl rfl rfl) (h_fac pl101_1 rfl [.int .i64 y_30.Due, .int .i64 y_30.Done] rfl rfl (wg rfl rfl rfl) (h_ldc sz3 ag3 rfl (vI y_30.Due) rfl (wg rfl rfl rfl) (h_op (vL Pace.enc r_7) (wg rfl rfl rfl) rfl (h_op (vI (k_9 : Int)) (wg rfl rfl rfl) rfl ?_))))
        obtain ⟨y_32, hy_33, h_28⟩ := bind_some h_28
        refine h_ia es97 rfl rfl hy_33 rfl (wg rfl rfl rfl) (h_fac pl101_2 rfl [.int .i64 y_32.Done] rfl rfl (wg rfl rfl rfl) (h_ldc sz3 ag3 rfl (vI y_32.Done) rfl (wg rfl rfl rfl) (h_op (vI (w64 (y_30.Due - y_32.Done))) (wg rfl rfl rfl) rfl (h_op (vL Campaign.enc l_1) (wg rfl rfl rfl) rfl (h_op (vI s_14) (wg rfl rfl rfl) rfl ?_)))))
        obtain ⟨y_34, hy_35, h_28⟩ := bind_some h_28
        refine h_ia es85 rfl rfl hy_35 rfl (wg rfl rfl rfl) (h_fac pl90_4 rfl [.int .i64 y_34.Goal, .int .i64 y_34.Most, .int .i64 y_34.Cents] rfl rfl (wg rfl rfl rfl) (h_ldc sz3 ag3 rfl (vI y_34.Goal) rfl (wg rfl rfl rfl) (h_op (vI (w64 ((w64 (y_30.Due - y_32.Done)) * y_34.Goal))) (wg rfl rfl rfl) rfl (h_op (vL Pace.enc r_7) (wg rfl rfl rfl) rfl (h_op (vI s_14) (wg rfl rfl rfl) rfl ?_)))))
        obtain ⟨y_36, hy_37, h_28⟩ := bind_some h_28
        refine h_ia es97 rfl rfl hy_37 rfl (wg rfl rfl rfl) (h_fac pl101_1 rfl [.int .i64 y_36.Due, .int .i64 y_36.Done] rfl rfl (wg rfl rfl rfl) (h_ldc sz3 ag3 rfl (vI y_36.Due) rfl (wg rfl rfl rfl) (h_op (vL Pace.enc r_7) (wg rfl rfl rfl) rfl (h_op (vI s_14) (wg rfl rfl rfl) rfl ?_))))
        obtain ⟨y_38, hy_39, h_28⟩ := bind_some h_28
        refine h_ia es97 rfl rfl hy_39 rfl (wg rfl rfl rfl) (h_fac pl101_2 rfl [.int .i64 y_38.Done] rfl rfl (wg rfl rfl rfl) (h_ldc sz3 ag3 rfl (vI y_38.Done) rfl (wg rfl rfl rfl) (h_op (vI (w64 (y_36.Due - y_38.Done))) (wg rfl rfl rfl) rfl (h_far pl90_4 rfl 5 rfl (wg rfl rfl rfl) (h_ldr 32 0 (.inr (by kernel_rfl)) (fun _ _ ag => trivial) sz3 ag3 rfl rfl (vI x_11.Goal) rfl (wg rfl rfl rfl) (h_op (vI (w64 ((w64 (y_36.Due - y_38.Done)) * x_11.Goal))) (wg rfl rfl rfl) rfl (h_op (vB (decide ((w64 ((w64 (y_30.Due - y_32.Done)) * y_34.Goal)) > (w64 ((w64 (y_36.Due - y_38.Done)) * x_11.Goal))))) (wg rfl rfl rfl) rfl (h_op (vB (decide ((w64 ((w64 (y_30.Due - y_32.Done)) * y_34.Goal)) > (w64 ((w64 (y_36.Due - y_38.Done)) * x_11.Goal))))) wz rfl (h_nil ?_)))))))))
        obtain rfl := some_inj h_28
        exact cut_mk () trivial rfl (pre_r rfl)
      ·rintro ⟨⟩ _ sl_ H_ hp_ hq_
       refine wH_at _ hp_ hq_ ?_
       obtain ⟨v_40, h_41, hc_15⟩ := bind_some hc_15
       refine wH_join (β := Unit) (fun _ => ([(0, (vL Campaign.enc l_1)), (2, (vI atv_3)), (10, (vL Pace.enc r_7)), (11, (vI v_40)), (25, (vL Campaign.enc l_1)), (26, (vI (l_1.length : Int))), (27, (vI (k_9 : Int)))] : List (Nat × V))) (fun _ => ([(n_19, some (.cells 8 [(vS x_11.Key), (vS x_11.Class), (vI x_11.Time.From), (vI x_11.Time.To), (vL eS x_11.Tags), (vI x_11.Goal), (vI x_11.Most), (vI x_11.Cents)]))] : Hp)) (fun _ => True) ?_ ?_
       ·rcases cond_some h_41 with ⟨hc_42, h_41⟩ | ⟨hc_42, h_41⟩
        ·refine wH_ift rfl hc_42 (wH_region (h_op (vI (k_9 : Int)) wz rfl (h_op (vI (k_9 : Int)) wz rfl (h_nil ?_))))
         obtain rfl := some_inj h_41
         exact cut_mk () trivial rfl (pre_r rfl)
        ·refine wH_iff rfl hc_42 (wH_skip ?_)
         obtain rfl := some_inj h_41
         exact cut_mk () trivial rfl (pre_r rfl)
       ·rintro ⟨⟩ _ sl_ H_ hp_ hq_
        refine wH_at _ hp_ hq_ (wH_region (h_opw (w64_next hD_12 hn_13) wz rfl (h_op (vI ((k_9 + 1 : Nat) : Int)) wz rfl (h_nil ?_))))
        obtain rfl := some_inj hc_15
        exact loop_mk (k_9 + 1, l_10, v_40) ⟨hL_16, drop_next hD_12⟩ (Nat.lt_succ_self _) rfl (pre_r rfl)
  ·rintro s_14 ho_ sl_ H_ hp_ hq_
   subst ho_
   refine wH_at _ hp_ hq_ (wH_seq (wH_seq (wH_region (h_op (vI s_14) wz rfl (h_op (vB (decide (s_14 < 0))) wz rfl (h_nil ?_))))))
   rcases cond_some hF with ⟨hc_43, hF⟩ | ⟨hc_43, hF⟩
   ·refine wH_ift rfl hc_43 (wH_seq (wH_region (h_op (vS (⟨#[]⟩ : ByteArray)) wz rfl (h_op (vB false) wz rfl (h_op (vI 0) wz rfl (h_nil ?_))))))
    obtain rfl := some_inj hF
    exact wH_ret (fin0 (.inr rfl) [(vS (⟨#[]⟩ : ByteArray)), (vB false), (vI 0)] ⟨rfl, ⟨rfl, ⟨rfl, trivial⟩⟩⟩ rfl rfl rfl)
   ·refine wH_iff rfl hc_43 (wH_skip (wH_seq (wH_region (h_op (vL Campaign.enc l_1) wz rfl (h_op (vI s_14) wz rfl ?_)))))
    obtain ⟨y_44, hy_45, hF⟩ := bind_some hF
    refine h_ia es85 rfl rfl hy_45 rfl wz (h_fac pl90_0 rfl [.str y_44.Key, .str y_44.Class, .int .i64 y_44.Time.From, .int .i64 y_44.Time.To, dl eS y_44.Tags, .int .i64 y_44.Goal, .int .i64 y_44.Most, .int .i64 y_44.Cents] rfl rfl wz (h_ldc sz9 ag9 rfl (vS y_44.Key) rfl wz (h_op (vS y_44.Key) wz rfl (h_op (vB true) wz rfl (h_op (vI 0) wz rfl (h_nil ?_))))))
    obtain rfl := some_inj hF
    exact wH_ret (fin0 (.inr rfl) [(vS y_44.Key), (vB true), (vI 0)] ⟨rfl, ⟨rfl, ⟨rfl, trivial⟩⟩⟩ rfl rfl rfl)
theorem booking_Paces_ok {l_1 : (List Campaign)} {plays_2 : (List Play)} {atv_3 : Int} {r : (List Pace) × Int} (hF : booking_Paces l_1 plays_2 atv_3 = some r) :
  FnM Tryz.prog 41 [(vL Campaign.enc l_1), (vL Play.enc plays_2), (vI atv_3)] [] (.tup [(vL Pace.enc r.1), (vI r.2)]) [] := by
 refine FnM.of_wH ⟨Tryz.prog, 20, [], []⟩ rfl Tryz.func41 rfl rfl (Nat.le_of_ble_eq_true rfl) (by kernel_rfl) ?_
 unfold booking_Paces at hF
 refine wH_seq (wH_region (h_op .nil wz rfl (h_op (vI 0) wz rfl (h_nil (wH_seq (wH_seq (wH_region (h_op (vL Campaign.enc l_1) wz rfl (h_op (vL Play.enc plays_2) wz rfl (h_op (vI atv_3) wz rfl ?_))))))))))
 obtain ⟨r_4, hr_5, hF⟩ := bind_some hF
 refine h_call0 (booking_paceFault_ok hr_5) rfl hb76 rfl rfl rfl rfl wz (h_op (vI r_4) wz rfl (h_nil (wH_seq (wH_region (h_op (vI r_4) wz rfl (h_op (vB (r_4 != 0)) wz rfl (h_nil ?_)))))))
 rcases cond_some hF with ⟨hc_6, hF⟩ | ⟨hc_6, hF⟩
 ·refine wH_ift rfl hc_6 (wH_seq (wH_region (h_op (vI r_4) wz rfl (h_op .nil wz rfl (h_op (vI r_4) wz rfl (h_nil ?_))))))
  obtain rfl := some_inj hF
  exact wH_ret (fin0 (.inr rfl) [.nil, (vI r_4)] ⟨rfl, ⟨rfl, trivial⟩⟩ rfl rfl rfl)
 ·refine wH_iff rfl hc_6 (wH_skip (wH_seq (wH_region (h_op (vL Campaign.enc l_1) wz rfl (h_op (vL Play.enc plays_2) wz rfl (h_op (vI atv_3) wz rfl ?_))))))
  obtain ⟨r_7, hr_8, hF⟩ := bind_some hF
  refine h_call0 (booking_paces_ok hr_8) rfl hb77 rfl rfl rfl rfl wz (h_op (vL Pace.enc r_7) wz rfl (h_op (vI 0) wz rfl (h_nil ?_)))
  obtain rfl := some_inj hF
  exact wH_ret (fin0 (.inr rfl) [(vL Pace.enc r_7), (vI 0)] ⟨rfl, ⟨rfl, trivial⟩⟩ rfl rfl rfl)
end Go.Proofs.YtipcgokielgnhaaGreatDoor.Law

