/-
 The machine computes these plain functions (written by a program of ours).
-/
import Derived.Test.YtpojeclokolkaaaGreatDoorFacts
import Derived.Test.YtpojeclokolkaaaGreatDoorDefs
import Derived.Test.YtpojeclokolkaaaGreatDoorPf4
open Go Go.Eng Go.Proofs
namespace Go.Proofs.YtpojeclokolkaaaGreatDoor.Law
set_option maxRecDepth 100000
set_option linter.unusedVariables false
set_option maxHeartbeats 1000000
theorem alert_CheckPosts_ok {l_1 : (List Post)} {r : Int} (hF : alert_CheckPosts l_1 = some r) :
  FnM Tryz.prog 41 [(vL Post.enc l_1)] [] (vI r) [] := by
 refine FnM.of_wH ⟨Tryz.prog, 44, [], []⟩ rfl Tryz.func41 rfl rfl (Nat.le_of_ble_eq_true rfl) (by kernel_rfl) ?_
 unfold alert_CheckPosts at hF
 refine wH_seq (wH_region (h_op (vI 0) wz rfl (h_nil (wH_seq (wH_seq (wH_region (h_op (vL Post.enc l_1) wz rfl (h_len un86 rfl wz (h_op (vB (decide ((l_1.length : Int) > 500))) wz rfl (h_nil ?_))))))))))
 rcases cond_some hF with ⟨hc_2, hF⟩ | ⟨hc_2, hF⟩
 ·refine wH_ift rfl hc_2 (wH_seq (wH_region (h_op (vI 2) wz rfl (h_nil ?_))))
  obtain rfl := some_inj hF
  exact wH_ret (fin0 (.inr rfl) [(vI 2)] ⟨rfl, trivial⟩ rfl rfl rfl)
 ·refine wH_iff rfl hc_2 (wH_skip (wH_seq (wH_seq (wH_region (h_op (vL Post.enc l_1) wz rfl (h_len un86 rfl wz (h_op (vI 0) wz rfl (h_nil ?_))))))))
  obtain ⟨o_11, hj_12, hF⟩ := bind_some hF
  obtain ⟨hn_7, hj_12⟩ := forL_some hj_12
  refine wH_join (β := (Unit)) (fun (s_8 : Unit) => ([] : List (Nat × V))) (fun (s_8 : Unit) => ([] : Hp)) (fun p => o_11 = .go p) ?_ ?_
  ·refine wH_block (wH_loop (β := Nat × (List Post) × (Unit)) (fun p => (fun (k_3 : Nat) (l_4 : List Post) (s_8 : Unit) => ([(0, (vL Post.enc l_1)), (8, (vL Post.enc l_1)), (9, (vI (l_1.length : Int))), (10, (vI (k_3 : Int)))] : List (Nat × V))) p.1 p.2.1 p.2.2) (fun p => (fun (k_3 : Nat) (l_4 : List Post) (s_8 : Unit) => ([] : Hp)) p.1 p.2.1 p.2.2) (fun p => forR (fun k x s => alert_CheckPosts_L1 l_1 k x s) p.2.1 p.1 p.2.2 = some o_11 ∧ (l_1).drop p.1 = p.2.1) (fun p => p.2.1.length) (0, l_1, ()) ⟨hj_12, rfl⟩ rfl (pre_r rfl) ?_)
   rintro ⟨k_3, l_4, s_8⟩ ⟨hL_10, hD_6⟩
   dsimp only at hL_10 hD_6
   cases l_4 with
   | nil =>
    obtain rfl := some_inj hL_10
    refine wH_seq (wH_region (h_op (vB (decide ((k_3 : Int) < (l_1.length : Int)))) wz rfl (h_nil ?_)))
    refine wH_seq (wH_iff rfl (drop_nil hD_6) (wH_exit ?_))
    exact cut_mk (s_8) rfl rfl (pre_r rfl)
   | cons x_5 l_4 =>
    obtain ⟨c_, hc_9, hL_10⟩ := bind_some hL_10
    refine wH_seq (wH_region (h_op (vB (decide ((k_3 : Int) < (l_1.length : Int)))) wz rfl (h_nil ?_)))
    refine wH_seq (wH_ift rfl (drop_cons hD_6) (wH_skip ?_))
    unfold alert_CheckPosts_L1 at hc_9
    refine wH_seq (wH_block (wH_seq (wH_region (h_op (vI (k_3 : Int)) wz rfl (h_ia es86 rfl rfl (drop_idx hD_6) rfl wz (h_ldc sz77 ag77 rfl (.d (.agg (Post.enc x_5))) rfl wz (h_alloc 0 (.inl rfl) z77 rfl wz (fun n_13 => h_op (vI (k_3 : Int)) wz rfl (h_str 0 il ft 0 sz77 rfl rfl [(vS x_5.Player), (vI x_5.X), (vI x_5.Y)] rfl wz (h_nil (wH_block (wH_seq (wH_region (h_far pl77_0 rfl 0 rfl wz (h_ldr 0 0 il ft sz9 ag9 rfl rfl (vS x_5.Player) rfl wz ?_)))))))))))))))
    obtain ⟨r_14, hr_15, hc_9⟩ := bind_some hc_9
    refine h_call0 (kit_IsKey_ok hr_15) rfl hb124 rfl rfl rfl rfl wz (h_op (vB (!r_14)) wz rfl (h_op (vB (!r_14)) wz rfl (h_nil ?_)))
    rcases cond_some hc_9 with ⟨hc_16, hc_9⟩ | ⟨hc_16, hc_9⟩
    ·refine wH_ift rfl hc_16 (wH_seq (wH_region (h_op (vI 5) wz rfl (h_nil ?_))))
     obtain rfl := some_inj hc_9
     obtain rfl := some_inj hL_10
     obtain rfl := some_inj hF
     exact wH_ret (fin0 (.inr rfl) [(vI 5)] ⟨rfl, trivial⟩ rfl rfl rfl)
    ·refine wH_iff rfl hc_16 (wH_seq ?_)
     obtain ⟨v_17, h_18, hc_9⟩ := bind_some hc_9
     refine wH_join (β := Unit) (fun _ => ([(0, (vL Post.enc l_1)), (3, (vI (k_3 : Int))), (4, (.ref n_13 0 0)), (8, (vL Post.enc l_1)), (9, (vI (l_1.length : Int))), (10, (vI (k_3 : Int))), (20, (vB v_17))] : List (Nat × V))) (fun _ => ([(n_13, some (.cells 3 [(vS x_5.Player), (vI x_5.X), (vI x_5.Y)]))] : Hp)) (fun _ => True) ?_ ?_
     ·refine wH_region (h_far pl77_1 rfl 1 rfl wz (h_ldr 0 0 il ft sz3 ag3 rfl rfl (vI x_5.X) rfl wz ?_))
      obtain ⟨r_19, hr_20, h_18⟩ := bind_some h_18
      refine h_call0 (kit_Outside_ok hr_20) rfl hb86 rfl rfl rfl rfl wz ?_
      rcases cond_some h_18 with ⟨hc_21, h_18⟩ | ⟨hc_21, h_18⟩
      ·refine h_movb rfl hc_21 wz (h_skip wa (h_skip wa (h_skip wa (h_op (vB true) wz rfl (h_op (vB true) wz rfl (h_nil ?_))))))
       obtain rfl := some_inj h_18
       exact cu
      ·refine h_movb rfl hc_21 wz (h_far pl77_2 rfl 2 rfl wa (h_ldr 0 0 il ft sz3 ag3 rfl rfl (vI x_5.Y) rfl wa ?_))
       obtain ⟨r_22, hr_23, h_18⟩ := bind_some h_18
       refine h_call0 (kit_Outside_ok hr_23) rfl hb86 rfl rfl rfl rfl wa (h_op (vB r_22) wz rfl (h_op (vB r_22) wz rfl (h_nil ?_)))
       obtain rfl := some_inj h_18
       exact cu
     ·rintro ⟨⟩ _ sl_ H_ hp_ hq_
      refine wH_at _ hp_ hq_ ?_
      rcases cond_some hc_9 with ⟨hc_24, hc_9⟩ | ⟨hc_24, hc_9⟩
      ·refine wH_ift rfl hc_24 (wH_seq (wH_region (h_op (vI 1) wz rfl (h_nil ?_))))
       obtain rfl := some_inj hc_9
       obtain rfl := some_inj hL_10
       obtain rfl := some_inj hF
       exact wH_ret (fin0 (.inr rfl) [(vI 1)] ⟨rfl, trivial⟩ rfl rfl rfl)
      ·refine wH_iff rfl hc_24 (wH_seq ?_)
       obtain ⟨v_25, h_26, hc_9⟩ := bind_some hc_9
       refine wH_join (β := Unit) (fun _ => ([(0, (vL Post.enc l_1)), (8, (vL Post.enc l_1)), (9, (vI (l_1.length : Int))), (10, (vI (k_3 : Int))), (29, (vB v_25))] : List (Nat × V))) (fun _ => ([(n_13, some (.cells 3 [(vS x_5.Player), (vI x_5.X), (vI x_5.Y)]))] : Hp)) (fun _ => True) ?_ ?_
       ·refine wH_draws (h_op (vI (k_3 : Int)) wz rfl (h_op (vB (decide ((k_3 : Int) > 0))) wz rfl ?_))
        rcases cond_some h_26 with ⟨hc_27, h_26⟩ | ⟨hc_27, h_26⟩
        ·refine h_movb rfl hc_27 wz (h_far pl77_0 rfl 0 rfl wa (h_ldr 4 0 (.inr (by kernel_rfl)) (fun _ _ ag => trivial) sz9 ag9 rfl rfl (vS x_5.Player) rfl wa (h_op (vL Post.enc l_1) wa rfl (h_op (vI (k_3 : Int)) wa rfl (h_op (vI (w64 ((k_3 : Int) - 1))) wa rfl ?_)))))
         obtain ⟨y_28, hy_29, h_26⟩ := bind_some h_26
         refine h_ia es86 rfl rfl hy_29 rfl wa (h_fac pl77_0 rfl [.str y_28.Player, .int .i64 y_28.X, .int .i64 y_28.Y] rfl rfl wa (h_ldc sz9 ag9 rfl (vS y_28.Player) rfl wa (h_op (vB (sLe x_5.Player y_28.Player)) wa rfl (h_op (vB (sLe x_5.Player y_28.Player)) wz rfl (h_op (vB (sLe x_5.Player y_28.Player)) wz rfl (h_nil ?_))))))
         obtain rfl := some_inj h_26
         exact cu
        ·refine h_movb rfl hc_27 wz (h_skip wa (h_skip wa (h_skip wa (h_skip wa (h_skip wa (h_skip wa (h_skip wa (h_skip wa (h_skip wa (h_op (vB false) wz rfl (h_op (vB false) wz rfl (h_nil ?_))))))))))))
         obtain rfl := some_inj h_26
         exact cu
       ·rintro ⟨⟩ _ sl_ H_ hp_ hq_
        refine wH_at _ hp_ hq_ ?_
        rcases cond_some hc_9 with ⟨hc_30, hc_9⟩ | ⟨hc_30, hc_9⟩
        ·refine wH_ift rfl hc_30 (wH_seq (wH_region (h_op (vI 7) wz rfl (h_nil ?_))))
         obtain rfl := some_inj hc_9
         obtain rfl := some_inj hL_10
         obtain rfl := some_inj hF
         exact wH_ret (fin0 (.inr rfl) [(vI 7)] ⟨rfl, trivial⟩ rfl rfl rfl)
        ·refine wH_iff rfl hc_30 (wH_skip (wH_region (h_opw (w64_next hD_6 hn_7) wz rfl (h_op (vI ((k_3 + 1 : Nat) : Int)) wz rfl (h_nil ?_)))))
         obtain rfl := some_inj hc_9
         exact loop_mk (k_3 + 1, l_4, ()) ⟨hL_10, drop_next hD_6⟩ (Nat.lt_succ_self _) rfl (pre_r rfl)
  ·rintro s_8 ho_ sl_ H_ hp_ hq_
   subst ho_
   refine wH_at _ hp_ hq_ (wH_seq (wH_region (h_op (vI 0) wz rfl (h_nil ?_))))
   obtain rfl := some_inj hF
   exact wH_ret (fin0 (.inr rfl) [(vI 0)] ⟨rfl, trivial⟩ rfl rfl rfl)
theorem alert_checkBoth_ok {l_1 : (List Alert)} {posts_2 : (List Post)} {r : Int} (hF : alert_checkBoth l_1 posts_2 = some r) :
  FnM Tryz.prog 112 [(vL Alert.enc l_1), (vL Post.enc posts_2)] [] (vI r) [] := by
 refine FnM.of_wH ⟨Tryz.prog, 13, [], []⟩ rfl Tryz.func112 rfl rfl (Nat.le_of_ble_eq_true rfl) (by kernel_rfl) ?_
 unfold alert_checkBoth at hF
 refine wH_seq (wH_region (h_op (vI 0) wz rfl (h_nil (wH_seq (wH_seq (wH_region (h_op (vL Alert.enc l_1) wz rfl ?_)))))))
 obtain ⟨r_3, hr_4, hF⟩ := bind_some hF
 refine h_call0 (alert_CheckAlerts_ok hr_4) rfl hb132 rfl rfl rfl rfl wz (h_op (vI r_3) wz rfl (h_nil (wH_seq (wH_region (h_op (vI r_3) wz rfl (h_op (vB (r_3 != 0)) wz rfl (h_nil ?_)))))))
 rcases cond_some hF with ⟨hc_5, hF⟩ | ⟨hc_5, hF⟩
 ·refine wH_ift rfl hc_5 (wH_seq (wH_region (h_op (vI r_3) wz rfl (h_op (vI r_3) wz rfl (h_nil ?_)))))
  obtain rfl := some_inj hF
  exact wH_ret (fin0 (.inr rfl) [(vI r_3)] ⟨rfl, trivial⟩ rfl rfl rfl)
 ·refine wH_iff rfl hc_5 (wH_skip (wH_seq (wH_region (h_op (vL Post.enc posts_2) wz rfl ?_))))
  obtain ⟨r_6, hr_7, hF⟩ := bind_some hF
  refine h_call0 (alert_CheckPosts_ok hr_7) rfl hb41 rfl rfl rfl rfl wz (h_op (vI r_6) wz rfl (h_nil ?_))
  obtain rfl := some_inj hF
  exact wH_ret (fin0 (.inr rfl) [(vI r_6)] ⟨rfl, trivial⟩ rfl rfl rfl)
theorem alert_reaches_1_ok {r_1 : Rect} {p_2 : Post} {r : Bool} (hF : alert_reaches_1 r_1 p_2 = some r) :
  FnM Tryz.prog 191 [(.d (.agg (Rect.enc r_1))), (.ref (extN 0) 0 0)] [(.cells 3 [(vS p_2.Player), (vI p_2.X), (vI p_2.Y)])] (vB r) [some (.cells 3 [(vS p_2.Player), (vI p_2.X), (vI p_2.Y)])] := by
 refine FnM.of_wH ⟨Tryz.prog, 36, [], []⟩ rfl Tryz.func191 rfl rfl (Nat.le_of_ble_eq_true rfl) (by kernel_rfl) ?_
 unfold alert_reaches_1 at hF
 refine wH_seq (wH_region (h_box 0 (.inl rfl) [(vI r_1.X), (vI r_1.Y), (vI r_1.W), (vI r_1.H)] rfl rfl wz (fun n_3 => h_op (vB false) wz rfl (h_nil (wH_seq ?_)))))
 obtain ⟨v_4, h_5, hF⟩ := bind_some hF
 refine wH_join (β := Unit) (fun _ => ([(3, (vB v_4))] : List (Nat × V))) (fun _ => ([((extN 0), some (.cells 3 [(vS p_2.Player), (vI p_2.X), (vI p_2.Y)])), (n_3, some (.cells 4 [(vI r_1.X), (vI r_1.Y), (vI r_1.W), (vI r_1.H)]))] : Hp)) (fun _ => True) ?_ ?_
 ·refine wH_region (h_far pl45_0 rfl 0 rfl wz (h_ldr 0 1 il ft sz3 ag3 rfl rfl (vI r_1.X) rfl wz (h_far pl77_1 rfl 1 rfl wz (h_ldr 0 0 il ft sz3 ag3 rfl rfl (vI p_2.X) rfl wz (h_op (vB (decide (r_1.X ≤ p_2.X))) wz rfl ?_)))))
  rcases cond_some h_5 with ⟨hc_6, h_5⟩ | ⟨hc_6, h_5⟩
  ·refine h_movb rfl hc_6 wz (h_far pl77_1 rfl 1 rfl wa (h_ldr 0 0 il ft sz3 ag3 rfl rfl (vI p_2.X) rfl wa (h_far pl45_0 rfl 0 rfl wa (h_ldr 0 1 il ft sz3 ag3 rfl rfl (vI r_1.X) rfl wa (h_far pl45_2 rfl 2 rfl wa (h_ldr 0 1 il ft sz3 ag3 rfl rfl (vI r_1.W) rfl wa (h_op (vI (w64 (r_1.X + r_1.W))) wa rfl (h_op (vB (decide (p_2.X < (w64 (r_1.X + r_1.W))))) wa rfl (h_op (vB (decide (p_2.X < (w64 (r_1.X + r_1.W))))) wz rfl ?_)))))))))
   rcases cond_some h_5 with ⟨hc_7, h_5⟩ | ⟨hc_7, h_5⟩
   ·refine h_movb rfl hc_7 wz (h_far pl45_1 rfl 1 rfl wa (h_ldr 0 1 il ft sz3 ag3 rfl rfl (vI r_1.Y) rfl wa (h_far pl77_2 rfl 2 rfl wa (h_ldr 0 0 il ft sz3 ag3 rfl rfl (vI p_2.Y) rfl wa (h_op (vB (decide (r_1.Y ≤ p_2.Y))) wa rfl (h_op (vB (decide (r_1.Y ≤ p_2.Y))) wz rfl ?_))))))
    rcases cond_some h_5 with ⟨hc_8, h_5⟩ | ⟨hc_8, h_5⟩
    ·refine h_movb rfl hc_8 wz (h_far pl77_2 rfl 2 rfl wa (h_ldr 0 0 il ft sz3 ag3 rfl rfl (vI p_2.Y) rfl wa (h_far pl45_1 rfl 1 rfl wa (h_ldr 0 1 il ft sz3 ag3 rfl rfl (vI r_1.Y) rfl wa (h_far pl45_3 rfl 3 rfl wa (h_ldr 0 1 il ft sz3 ag3 rfl rfl (vI r_1.H) rfl wa (h_op (vI (w64 (r_1.Y + r_1.H))) wa rfl (h_op (vB (decide (p_2.Y < (w64 (r_1.Y + r_1.H))))) wa rfl (h_op (vB (decide (p_2.Y < (w64 (r_1.Y + r_1.H))))) wz rfl (h_op (vB (decide (p_2.Y < (w64 (r_1.Y + r_1.H))))) wz rfl (h_nil ?_)))))))))))
     obtain rfl := some_inj h_5
     exact cu
    ·refine h_movb rfl hc_8 wz (h_skip wa (h_skip wa (h_skip wa (h_skip wa (h_skip wa (h_skip wa (h_skip wa (h_skip wa (h_op (vB false) wz rfl (h_op (vB false) wz rfl (h_nil ?_)))))))))))
     obtain rfl := some_inj h_5
     exact cu
   ·refine h_movb rfl hc_7 wz (h_skip wa (h_skip wa (h_skip wa (h_skip wa (h_skip wa (h_op (vB false) wz rfl (h_op (vB false) wz rfl (h_skip wa (h_skip wa (h_skip wa (h_skip wa (h_skip wa (h_skip wa (h_skip wa (h_skip wa (h_op (vB false) wz rfl (h_op (vB false) wz rfl (h_nil ?_))))))))))))))))))
    obtain rfl := some_inj h_5
    exact cu
  ·refine h_movb rfl hc_6 wz (h_skip wa (h_skip wa (h_skip wa (h_skip wa (h_skip wa (h_skip wa (h_skip wa (h_skip wa (h_op (vB false) wz rfl (h_op (vB false) wz rfl (h_skip wa (h_skip wa (h_skip wa (h_skip wa (h_skip wa (h_op (vB false) wz rfl (h_op (vB false) wz rfl (h_skip wa (h_skip wa (h_skip wa (h_skip wa (h_skip wa (h_skip wa ?_)))))))))))))))))))))))
   refine h_skip wa (h_skip wa (h_op (vB false) wz rfl (h_op (vB false) wz rfl (h_nil ?_))))
   obtain rfl := some_inj h_5
   exact cu
 ·rintro ⟨⟩ _ sl_ H_ hp_ hq_
  refine wH_at _ hp_ hq_ ?_
  obtain rfl := some_inj hF
  exact wH_ret (finB (.inr rfl) [(vB v_4)] _ [0] [extN 0] ⟨rfl, trivial⟩ (.cons (co_data rfl rfl) (.nil)) (by kernel_rfl) ⟨(by kernel_rfl), trivial⟩ (by decide) (by kernel_rfl))
theorem slices_IndexFunc_api_Rect_api_Rect_ok {s_1 : (List Rect)} {f_2 : Rect → Option Bool} {r : Int} {gid : FuncId} {caps : List V} {Sin : List Box} (hfn : ∀ x0 r, f_2 x0 = some r → FnM Tryz.prog gid ([(.d (.agg (Rect.enc x0)))] ++ caps) Sin (vB r) (Sin.map some)) (hbF : hasBody Tryz.prog gid = true) (hcapF : caps.flatMap frz = [] ∧ caps.map co0 = caps) (hokF : okL Sin.length caps = true) (hsF : ∀ b ∈ Sin, b.ok Sin.length = true) (hmF : ∀ b ∈ Sin, b.mut = true) (hF : slices_IndexFunc_api_Rect_api_Rect s_1 f_2 = some r) :
  FnM Tryz.prog 233 [(vL Rect.enc s_1), (.fn gid caps)] Sin (vI r) (Sin.map some) := by
 refine FnM.of_wH ⟨Tryz.prog, 19, [], []⟩ rfl Tryz.func233 rfl rfl (Nat.le_of_ble_eq_true rfl) (by kernel_rfl) ?_
 unfold slices_IndexFunc_api_Rect_api_Rect at hF
 refine wH_seq (wH_region (h_op (vI 0) wz rfl (h_nil (wH_seq (wH_seq (wH_region (h_op (vL Rect.enc s_1) wz rfl (h_len un50 rfl wz (h_op (vI 0) wz rfl (h_nil ?_))))))))))
 obtain ⟨o_11, hj_12, hF⟩ := bind_some hF
 obtain ⟨hn_7, hj_12⟩ := forL_some hj_12
 refine wH_join (β := (Unit)) (fun (s_8 : Unit) => ([] : List (Nat × V))) (fun (s_8 : Unit) => (initH 0 Sin)) (fun p => o_11 = .go p) ?_ ?_
 ·refine wH_block (wH_loop (β := Nat × (List Rect) × (Unit)) (fun p => (fun (k_3 : Nat) (l_4 : List Rect) (s_8 : Unit) => ([(0, (vL Rect.enc s_1)), (1, (.fn gid caps)), (7, (vI (s_1.length : Int))), (8, (vI (k_3 : Int)))] : List (Nat × V))) p.1 p.2.1 p.2.2) (fun p => (fun (k_3 : Nat) (l_4 : List Rect) (s_8 : Unit) => (initH 0 Sin)) p.1 p.2.1 p.2.2) (fun p => forR (fun k x s => slices_IndexFunc_api_Rect_api_Rect_L1 f_2 k x s) p.2.1 p.1 p.2.2 = some o_11 ∧ (s_1).drop p.1 = p.2.1) (fun p => p.2.1.length) (0, s_1, ()) ⟨hj_12, rfl⟩ rfl (pre_self _) ?_)
  rintro ⟨k_3, l_4, s_8⟩ ⟨hL_10, hD_6⟩
  dsimp only at hL_10 hD_6
  cases l_4 with
  | nil =>
   obtain rfl := some_inj hL_10
   refine wH_seq (wH_region (h_op (vB (decide ((k_3 : Int) < (s_1.length : Int)))) wz rfl (h_nil ?_)))
   refine wH_seq (wH_iff rfl (drop_nil hD_6) (wH_exit ?_))
   exact cut_mk (s_8) rfl rfl (pre_self _)
  | cons x_5 l_4 =>
   obtain ⟨c_, hc_9, hL_10⟩ := bind_some hL_10
   refine wH_seq (wH_region (h_op (vB (decide ((k_3 : Int) < (s_1.length : Int)))) wz rfl (h_nil ?_)))
   refine wH_seq (wH_ift rfl (drop_cons hD_6) (wH_skip ?_))
   unfold slices_IndexFunc_api_Rect_api_Rect_L1 at hc_9
   refine wH_seq (wH_block (wH_seq (wH_region (h_op (vI (k_3 : Int)) wz rfl (h_op (vI (k_3 : Int)) wz rfl (h_nil (wH_seq (wH_region (h_op (.fn gid caps) wz rfl (h_op (vL Rect.enc s_1) wz rfl (h_op (vI (k_3 : Int)) wz rfl (h_ia es50 rfl rfl (drop_idx hD_6) rfl wz (h_ldc sz45 ag45 rfl (.d (.agg (Rect.enc x_5))) rfl wz ?_)))))))))))))
   obtain ⟨r_13, hr_14, hc_9⟩ := bind_some hc_9
   refine h_callS (hfn _ _ hr_14) rfl hbF rfl rfl hcapF hokF hsF hmF rfl wz rfl (h_nil ?_)
   rcases cond_some hc_9 with ⟨hc_15, hc_9⟩ | ⟨hc_15, hc_9⟩
   ·refine wH_ift rfl hc_15 (wH_seq (wH_region (h_op (vI (k_3 : Int)) wz rfl (h_op (vI (k_3 : Int)) wz rfl (h_nil ?_)))))
    obtain rfl := some_inj hc_9
    obtain rfl := some_inj hL_10
    obtain rfl := some_inj hF
    exact wH_ret (finS hsF (.inr rfl) [(vI (k_3 : Int))] ⟨rfl, trivial⟩ rfl rfl rfl)
   ·refine wH_iff rfl hc_15 (wH_skip (wH_region (h_opw (w64_next hD_6 hn_7) wz rfl (h_op (vI ((k_3 + 1 : Nat) : Int)) wz rfl (h_nil ?_)))))
    obtain rfl := some_inj hc_9
    exact loop_mk (k_3 + 1, l_4, ()) ⟨hL_10, drop_next hD_6⟩ (Nat.lt_succ_self _) rfl (pre_self _)
 ·rintro s_8 ho_ sl_ H_ hp_ hq_
  subst ho_
  refine wH_at _ hp_ hq_ (wH_seq (wH_region (h_op (vI (-1)) wz rfl (h_nil ?_))))
  obtain rfl := some_inj hF
  exact wH_ret (finS hsF (.inr rfl) [(vI (-1))] ⟨rfl, trivial⟩ rfl rfl rfl)
theorem slices_ContainsFunc_api_Rect_api_Rect_ok {s_1 : (List Rect)} {f_2 : Rect → Option Bool} {r : Bool} {gid : FuncId} {caps : List V} {Sin : List Box} (hfn : ∀ x0 r, f_2 x0 = some r → FnM Tryz.prog gid ([(.d (.agg (Rect.enc x0)))] ++ caps) Sin (vB r) (Sin.map some)) (hbF : hasBody Tryz.prog gid = true) (hcapF : caps.flatMap frz = [] ∧ caps.map co0 = caps) (hokF : okL Sin.length caps = true) (hsF : ∀ b ∈ Sin, b.ok Sin.length = true) (hmF : ∀ b ∈ Sin, b.mut = true) (hF : slices_ContainsFunc_api_Rect_api_Rect s_1 f_2 = some r) :
  FnM Tryz.prog 190 [(vL Rect.enc s_1), (.fn gid caps)] Sin (vB r) (Sin.map some) := by
 refine FnM.of_wH ⟨Tryz.prog, 9, [], []⟩ rfl Tryz.func190 rfl rfl (Nat.le_of_ble_eq_true rfl) (by kernel_rfl) ?_
 unfold slices_ContainsFunc_api_Rect_api_Rect at hF
 refine wH_seq (wH_region (h_op (vB false) wz rfl (h_nil (wH_seq (wH_region (h_op (vL Rect.enc s_1) wz rfl (h_op (.fn gid caps) wz rfl ?_)))))))
 obtain ⟨r_3, hr_4, hF⟩ := bind_some hF
 refine h_callS (slices_IndexFunc_api_Rect_api_Rect_ok (gid := gid) (caps := caps) (Sin := Sin) hfn hbF hcapF hokF hsF hmF hr_4) rfl hb233 rfl rfl ⟨rfl, rfl⟩ (by simp [okL, okV, hokF]) hsF hmF rfl wz rfl (h_op (vB (decide (r_3 ≥ 0))) wz rfl (h_op (vB (decide (r_3 ≥ 0))) wz rfl (h_nil ?_)))
 obtain rfl := some_inj hF
 exact wH_ret (finS hsF (.inr rfl) [(vB (decide (r_3 ≥ 0)))] ⟨rfl, trivial⟩ rfl rfl rfl)
theorem alert_reaches_ok {a_1 : Alert} {p_2 : Post} {r : Bool} (hF : alert_reaches a_1 p_2 = some r) :
  FnM Tryz.prog 113 [(.d (.agg (Alert.enc a_1))), (.d (.agg (Post.enc p_2)))] [] (vB r) [] := by
 refine FnM.of_wH ⟨Tryz.prog, 9, [], []⟩ rfl Tryz.func113 rfl rfl (Nat.le_of_ble_eq_true rfl) (by kernel_rfl) ?_
 unfold alert_reaches at hF
 refine wH_seq (wH_region (h_box 0 (.inl rfl) [(vS a_1.Id), (vS a_1.Sender), (vI a_1.Kind), (vL eS a_1.Refs), (vI a_1.At), (vI a_1.Until), (vI a_1.Weight), (vL Rect.enc a_1.Areas), (vS a_1.Text)] rfl rfl wz (fun n_3 => h_box 0 (.inl rfl) [(vS p_2.Player), (vI p_2.X), (vI p_2.Y)] rfl rfl wz (fun n_4 => h_op (vB false) wz rfl (h_nil (wH_seq (wH_region (h_far pl82_7 rfl 7 rfl wz (h_ldr 0 0 il ft sz50 ag50 rfl rfl (vL Rect.enc a_1.Areas) rfl wz (h_op (.fn 191 [(.ref n_4 0 0)]) wz rfl ?_))))))))))
 obtain ⟨r_5, hr_6, hF⟩ := bind_some hF
 refine h_callq 0 [1] il ft (slices_ContainsFunc_api_Rect_api_Rect_ok (gid := 191) (caps := [.ref (extN 0) 0 0]) (Sin := [(.cells 3 [(vS p_2.Player), (vI p_2.X), (vI p_2.Y)])]) (fun _ _ h_ => alert_reaches_1_ok h_) hb191 ⟨rfl, rfl⟩ (by kernel_rfl) (all_ok (by kernel_rfl)) (all_mut (by kernel_rfl)) hr_6) rfl hb190 rfl (by kernel_rfl) (by kernel_rfl) (by kernel_rfl) (by kernel_rfl) (by kernel_rfl) (by kernel_rfl) (by kernel_rfl) (by decide) (by kernel_rfl) wz (vB r_5) (by kernel_rfl) ([(n_3, some (.cells 9 [(vS a_1.Id), (vS a_1.Sender), (vI a_1.Kind), (vL eS a_1.Refs), (vI a_1.At), (vI a_1.Until), (vI a_1.Weight), (vL Rect.enc a_1.Areas), (vS a_1.Text)])), (n_4, some (.cells 3 [(vS p_2.Player), (vI p_2.X), (vI p_2.Y)]))] : Hp) (by kernel_rfl) (h_op (vB r_5) wz rfl (h_nil ?_))
 obtain rfl := some_inj hF
 exact wH_ret (fin0 (.inr rfl) [(vB r_5)] ⟨rfl, trivial⟩ rfl rfl rfl)
theorem alert_Reaches_ok {a_1 : Alert} {p_2 : Post} {r : Bool × Int} (hF : alert_Reaches a_1 p_2 = some r) :
  FnM Tryz.prog 30 [(.d (.agg (Alert.enc a_1))), (.d (.agg (Post.enc p_2)))] [] (.tup [(vB r.1), (vI r.2)]) [] := by
 refine FnM.of_wH ⟨Tryz.prog, 18, [], []⟩ rfl Tryz.func30 rfl rfl (Nat.le_of_ble_eq_true rfl) (by kernel_rfl) ?_
 unfold alert_Reaches at hF
 refine wH_seq (wH_region (h_box 0 (.inl rfl) [(vS a_1.Id), (vS a_1.Sender), (vI a_1.Kind), (vL eS a_1.Refs), (vI a_1.At), (vI a_1.Until), (vI a_1.Weight), (vL Rect.enc a_1.Areas), (vS a_1.Text)] rfl rfl wz (fun n_3 => h_box 0 (.inl rfl) [(vS p_2.Player), (vI p_2.X), (vI p_2.Y)] rfl rfl wz (fun n_4 => h_op (vB false) wz rfl (h_op (vI 0) wz rfl (h_nil (wH_seq (wH_seq (wH_region (h_ldr 0 0 il ft sz82 ag82 rfl rfl (.d (.agg (Alert.enc a_1))) rfl wz (h_lit (([a_1] : List Alert).map Alert.enc) es78 ez78 rfl rfl rfl rfl rfl wz (h_ldr 0 1 il ft sz77 ag77 rfl rfl (.d (.agg (Post.enc p_2))) rfl wz (h_lit (([p_2] : List Post).map Post.enc) es86 ez86 rfl rfl rfl rfl rfl wz ?_)))))))))))))
 obtain ⟨r_5, hr_6, hF⟩ := bind_some hF
 refine h_call0 (alert_checkBoth_ok hr_6) rfl hb112 rfl rfl rfl rfl wz (h_op (vI r_5) wz rfl (h_nil (wH_seq (wH_region (h_op (vI r_5) wz rfl (h_op (vB (r_5 != 0)) wz rfl (h_nil ?_)))))))
 rcases cond_some hF with ⟨hc_7, hF⟩ | ⟨hc_7, hF⟩
 ·refine wH_ift rfl hc_7 (wH_seq (wH_region (h_op (vI r_5) wz rfl (h_op (vB false) wz rfl (h_op (vI r_5) wz rfl (h_nil ?_))))))
  obtain rfl := some_inj hF
  exact wH_ret (fin0 (.inr rfl) [(vB false), (vI r_5)] ⟨rfl, ⟨rfl, trivial⟩⟩ rfl rfl rfl)
 ·refine wH_iff rfl hc_7 (wH_skip (wH_seq (wH_region (h_ldr 0 0 il ft sz82 ag82 rfl rfl (.d (.agg (Alert.enc a_1))) rfl wz (h_ldr 0 1 il ft sz77 ag77 rfl rfl (.d (.agg (Post.enc p_2))) rfl wz ?_)))))
  obtain ⟨r_8, hr_9, hF⟩ := bind_some hF
  refine h_call0 (alert_reaches_ok hr_9) rfl hb113 rfl rfl rfl rfl wz (h_op (vB r_8) wz rfl (h_op (vI 0) wz rfl (h_nil ?_)))
  obtain rfl := some_inj hF
  exact wH_ret (fin0 (.inr rfl) [(vB r_8), (vI 0)] ⟨rfl, ⟨rfl, trivial⟩⟩ rfl rfl rfl)
theorem keep_errs_ok {l_1 : (List Int)} {r : Int} (hF : keep_errs l_1 = some r) :
  FnM Tryz.prog 26 [(vL eI l_1)] [] (vI r) [] := by
 refine FnM.of_wH ⟨Tryz.prog, 15, [], []⟩ rfl Tryz.func26 rfl rfl (Nat.le_of_ble_eq_true rfl) (by kernel_rfl) ?_
 unfold keep_errs at hF
 refine wH_seq (wH_region (h_op (vI 0) wz rfl (h_nil (wH_seq (wH_seq (wH_region (h_op (vL eI l_1) wz rfl (h_len un192 rfl wz (h_op (vI 0) wz rfl (h_nil ?_))))))))))
 obtain ⟨o_10, hj_11, hF⟩ := bind_some hF
 obtain ⟨hn_6, hj_11⟩ := forL_some hj_11
 refine wH_join (β := (Unit)) (fun (s_7 : Unit) => ([] : List (Nat × V))) (fun (s_7 : Unit) => ([] : Hp)) (fun p => o_10 = .go p) ?_ ?_
 ·refine wH_block (wH_loop (β := Nat × (List Int) × (Unit)) (fun p => (fun (k_2 : Nat) (l_3 : List Int) (s_7 : Unit) => ([(5, (vL eI l_1)), (6, (vI (l_1.length : Int))), (7, (vI (k_2 : Int)))] : List (Nat × V))) p.1 p.2.1 p.2.2) (fun p => (fun (k_2 : Nat) (l_3 : List Int) (s_7 : Unit) => ([] : Hp)) p.1 p.2.1 p.2.2) (fun p => forR (fun k x s => keep_errs_L1 k x s) p.2.1 p.1 p.2.2 = some o_10 ∧ (l_1).drop p.1 = p.2.1) (fun p => p.2.1.length) (0, l_1, ()) ⟨hj_11, rfl⟩ rfl (pre_r rfl) ?_)
  rintro ⟨k_2, l_3, s_7⟩ ⟨hL_9, hD_5⟩
  dsimp only at hL_9 hD_5
  cases l_3 with
  | nil =>
   obtain rfl := some_inj hL_9
   refine wH_seq (wH_region (h_op (vB (decide ((k_2 : Int) < (l_1.length : Int)))) wz rfl (h_nil ?_)))
   refine wH_seq (wH_iff rfl (drop_nil hD_5) (wH_exit ?_))
   exact cut_mk (s_7) rfl rfl (pre_r rfl)
  | cons x_4 l_3 =>
   obtain ⟨c_, hc_8, hL_9⟩ := bind_some hL_9
   refine wH_seq (wH_region (h_op (vB (decide ((k_2 : Int) < (l_1.length : Int)))) wz rfl (h_nil ?_)))
   refine wH_seq (wH_ift rfl (drop_cons hD_5) (wH_skip ?_))
   unfold keep_errs_L1 at hc_8
   refine wH_seq (wH_block (wH_seq (wH_region (h_ia es192 rfl rfl (drop_idx hD_5) rfl wz (h_ldc sz30 ag30 rfl (vI x_4) rfl wz (h_op (vI x_4) wz rfl (h_nil (wH_seq (wH_region (h_op (vI x_4) wz rfl (h_op (vB (x_4 != 0)) wz rfl (h_nil ?_))))))))))))
   rcases cond_some hc_8 with ⟨hc_12, hc_8⟩ | ⟨hc_12, hc_8⟩
   ·refine wH_ift rfl hc_12 (wH_seq (wH_region (h_op (vI x_4) wz rfl (h_op (vI x_4) wz rfl (h_nil ?_)))))
    obtain rfl := some_inj hc_8
    obtain rfl := some_inj hL_9
    obtain rfl := some_inj hF
    exact wH_ret (fin0 (.inr rfl) [(vI x_4)] ⟨rfl, trivial⟩ rfl rfl rfl)
   ·refine wH_iff rfl hc_12 (wH_skip (wH_region (h_opw (w64_next hD_5 hn_6) wz rfl (h_op (vI ((k_2 + 1 : Nat) : Int)) wz rfl (h_nil ?_)))))
    obtain rfl := some_inj hc_8
    exact loop_mk (k_2 + 1, l_3, ()) ⟨hL_9, drop_next hD_5⟩ (Nat.lt_succ_self _) rfl (pre_r rfl)
 ·rintro s_7 ho_ sl_ H_ hp_ hq_
  subst ho_
  refine wH_at _ hp_ hq_ (wH_seq (wH_region (h_op (vI 0) wz rfl (h_nil ?_))))
  obtain rfl := some_inj hF
  exact wH_ret (fin0 (.inr rfl) [(vI 0)] ⟨rfl, trivial⟩ rfl rfl rfl)
theorem keep_ready_ok {r : Bool} (hF : keep_ready  = some r) :
  FnM Tryz.prog 16 [] [] (vB r) [] := by
 refine FnM.of_wH ⟨Tryz.prog, 75, [], []⟩ rfl Tryz.func16 rfl rfl (Nat.le_of_ble_eq_true rfl) (by kernel_rfl) ?_
 unfold keep_ready at hF
 refine wH_seq (wH_region (h_op (vB false) wz rfl (h_nil (wH_seq (wH_region (h_op (.d (.agg (Rect.enc (⟨0, 0, 2, 2⟩ : Rect)))) wz (by kernel_rfl) (h_op (.d (.agg (Rect.enc (⟨1, 1, 2, 2⟩ : Rect)))) wz (by kernel_rfl) (h_lit (([(⟨0, 0, 2, 2⟩ : Rect), (⟨1, 1, 2, 2⟩ : Rect)] : List Rect).map Rect.enc) es50 ez50 rfl rfl rfl rfl rfl wz ?_))))))))
 obtain ⟨r_1, hr_2, hF⟩ := bind_some hF
 refine h_call0 (screen_Area_ok hr_2) rfl hb89 rfl rfl rfl rfl wz (h_op (.tup [(vI r_1.1), (vI r_1.2)]) wz rfl (h_op (vI r_1.1) wz rfl (h_op (vI r_1.2) wz rfl (h_op (vI r_1.1) wz rfl (h_op (vI r_1.2) wz rfl (h_nil (wH_seq (wH_region (h_op (.agg [(vS (⟨#[97]⟩ : ByteArray)), (vS (⟨#[98]⟩ : ByteArray)), (vI 0), (vI 0), (vI 0), (vI 1), (vI 127), .nil, (vI 1), (vI 2), (vI 0), .nil, (vB false)]) wz (by kernel_rfl) (h_op (.d (.agg (Window.enc (⟨0, 86400000⟩ : Window)))) wz (by kernel_rfl) ?_))))))))))
 obtain ⟨r_3, hr_4, hF⟩ := bind_some hF
 refine h_call0 (schedule_Times_ok hr_4) rfl hb90 rfl rfl rfl rfl wz (h_op (.tup [(vL Window.enc r_3.1), (vI r_3.2)]) wz rfl (h_op (vL Window.enc r_3.1) wz rfl (h_op (vI r_3.2) wz rfl (h_op (vL Window.enc r_3.1) wz rfl (h_op (vI r_3.2) wz rfl (h_nil (wH_seq (wH_region (h_op (.d (.agg (Window.enc (⟨0, 100⟩ : Window)))) wz (by kernel_rfl) (h_op (.agg [(vS (⟨#[97]⟩ : ByteArray)), (vS (⟨#[]⟩ : ByteArray)), (vI 0), (vI 100), .nil, (vI 10), (vI 0), (vI 0)]) wz (by kernel_rfl) ?_))))))))))
 obtain ⟨r_5, hr_6, hF⟩ := bind_some hF
 refine h_call0 (booking_Due_ok hr_6) rfl hb91 rfl rfl rfl rfl wz (h_op (.tup [(vI r_5.1), (vI r_5.2)]) wz rfl (h_op (vI r_5.1) wz rfl (h_op (vI r_5.2) wz rfl (h_op (vI r_5.1) wz rfl (h_op (vI r_5.2) wz rfl (h_nil (wH_seq (wH_region (h_op (.d (.agg (Beat.enc (⟨(⟨#[112]⟩ : ByteArray), 0, 100⟩ : Beat)))) wz (by kernel_rfl) (h_op (.d (.agg (Beat.enc (⟨(⟨#[112]⟩ : ByteArray), 1000, 1300⟩ : Beat)))) wz (by kernel_rfl) (h_lit (([(⟨(⟨#[112]⟩ : ByteArray), 0, 100⟩ : Beat), (⟨(⟨#[112]⟩ : ByteArray), 1000, 1300⟩ : Beat)] : List Beat).map Beat.enc) es177 ez177 rfl rfl rfl rfl rfl wz ?_)))))))))))
 obtain ⟨r_7, hr_8, hF⟩ := bind_some hF
 refine h_call0 (proof_Right_ok hr_8) rfl hb92 rfl rfl rfl rfl wz (h_op (.tup [(vI r_7.1), (vI r_7.2)]) wz rfl (h_op (vI r_7.1) wz rfl (h_op (vI r_7.2) wz rfl (h_op (vI r_7.1) wz rfl (h_op (vI r_7.2) wz rfl (h_nil (wH_at (H0 := ([] : Hp)) ([(1, (vI r_1.1)), (2, (vI r_1.2)), (3, (vL Window.enc r_3.1)), (4, (vI r_3.2)), (5, (vI r_5.1)), (6, (vI r_5.2)), (7, (vI r_7.1)), (8, (vI r_7.2))] : List (Nat × V)) (by kernel_rfl) (pre_mk (by kernel_rfl)) (wH_seq (wH_region (h_op (.d (.agg (Rect.enc (⟨0, 0, 2, 2⟩ : Rect)))) wz (by kernel_rfl) (h_lit (([(⟨0, 0, 2, 2⟩ : Rect)] : List Rect).map Rect.enc) es50 ez50 rfl rfl rfl rfl rfl wz (h_op (.agg [(vS (⟨#[97]⟩ : ByteArray)), (vS (⟨#[115]⟩ : ByteArray)), (vI 1), .nil, (vI 0), (vI 5), (vI 1), (vL Rect.enc ([(⟨0, 0, 2, 2⟩ : Rect)] : List Rect)), (vS (⟨#[120]⟩ : ByteArray))]) wz (by kernel_rfl) (h_alloc 0 (.inl rfl) z82 rfl wz (fun n_9 => h_str 0 il ft 0 sz82 rfl rfl [(vS (⟨#[97]⟩ : ByteArray)), (vS (⟨#[115]⟩ : ByteArray)), (vI 1), .nil, (vI 0), (vI 5), (vI 1), (vL Rect.enc ([(⟨0, 0, 2, 2⟩ : Rect)] : List Rect)), (vS (⟨#[120]⟩ : ByteArray))] rfl wz (h_nil (wH_seq (wH_region (h_ldr 0 0 il ft sz82 ag82 rfl rfl (.agg [(vS (⟨#[97]⟩ : ByteArray)), (vS (⟨#[115]⟩ : ByteArray)), (vI 1), .nil, (vI 0), (vI 5), (vI 1), (vL Rect.enc ([(⟨0, 0, 2, 2⟩ : Rect)] : List Rect)), (vS (⟨#[120]⟩ : ByteArray))]) rfl wz (h_op (.d (.agg (Post.enc (⟨(⟨#[112]⟩ : ByteArray), 1, 1⟩ : Post)))) wz (by kernel_rfl) ?_)))))))))))))))))))
 obtain ⟨r_10, hr_11, hF⟩ := bind_some hF
 refine h_call0 (alert_Reaches_ok hr_11) rfl hb30 rfl rfl rfl rfl wz (h_op (.tup [(vB r_10.1), (vI r_10.2)]) wz rfl (h_op (vB r_10.1) wz rfl (h_op (vI r_10.2) wz rfl (h_op (vB r_10.1) wz rfl (h_op (vI r_10.2) wz rfl (h_nil (wH_seq ?_)))))))
 obtain ⟨v_12, h_13, hF⟩ := bind_some hF
 refine wH_join (β := Unit) (fun _ => ([(0, (vB v_12))] : List (Nat × V))) (fun _ => ([(n_9, some (.cells 9 [(vS (⟨#[97]⟩ : ByteArray)), (vS (⟨#[115]⟩ : ByteArray)), (vI 1), .nil, (vI 0), (vI 5), (vI 1), (vL Rect.enc ([(⟨0, 0, 2, 2⟩ : Rect)] : List Rect)), (vS (⟨#[120]⟩ : ByteArray))]))] : Hp)) (fun _ => True) ?_ ?_
 ·refine wH_region (h_op (vI r_1.2) wz rfl (h_op (vI r_3.2) wz rfl (h_op (vI r_5.2) wz rfl (h_op (vI r_7.2) wz rfl (h_op (vI r_10.2) wz rfl (h_lit (([r_1.2, r_3.2, r_5.2, r_7.2, r_10.2] : List Int).map eI) es192 ez192 rfl rfl rfl rfl rfl wz ?_))))))
  obtain ⟨r_14, hr_15, h_13⟩ := bind_some h_13
  refine h_call0 (keep_errs_ok hr_15) rfl hb26 rfl rfl rfl rfl wz (h_op (vB (r_14 == 0)) wz rfl ?_)
  rcases cond_some h_13 with ⟨hc_16, h_13⟩ | ⟨hc_16, h_13⟩
  ·refine h_movb rfl hc_16 wz (h_op (vI r_1.1) wa rfl (h_op (vB (r_1.1 == 7)) wa rfl (h_op (vB (r_1.1 == 7)) wz rfl ?_)))
   rcases cond_some h_13 with ⟨hc_17, h_13⟩ | ⟨hc_17, h_13⟩
   ·refine h_movb rfl hc_17 wz (h_op (vL Window.enc r_3.1) wa rfl (h_len un166 rfl wa (h_op (vB ((r_3.1.length : Int) == 1)) wa rfl (h_op (vB ((r_3.1.length : Int) == 1)) wz rfl ?_))))
    rcases cond_some h_13 with ⟨hc_18, h_13⟩ | ⟨hc_18, h_13⟩
    ·refine h_movb rfl hc_18 wz (h_op (vI r_5.1) wa rfl (h_op (vB (r_5.1 == 5)) wa rfl (h_op (vB (r_5.1 == 5)) wz rfl ?_)))
     rcases cond_some h_13 with ⟨hc_19, h_13⟩ | ⟨hc_19, h_13⟩
     ·refine h_movb rfl hc_19 wz (h_op (vI r_7.1) wa rfl (h_op (vB (r_7.1 == 500)) wa rfl (h_op (vB (r_7.1 == 500)) wz rfl ?_)))
      rcases cond_some h_13 with ⟨hc_20, h_13⟩ | ⟨hc_20, h_13⟩
      ·refine h_movb rfl hc_20 wz (h_op (vB r_10.1) wa rfl (h_op (vB r_10.1) wz rfl (h_op (vB r_10.1) wz rfl (h_nil ?_))))
       obtain rfl := some_inj h_13
       exact cu
      ·refine h_movb rfl hc_20 wz (h_skip wa (h_op (vB false) wz rfl (h_op (vB false) wz rfl (h_nil ?_))))
       obtain rfl := some_inj h_13
       exact cu
     ·refine h_movb rfl hc_19 wz (h_skip wa (h_skip wa (h_op (vB false) wz rfl (h_op (vB false) wz rfl (h_skip wa (h_op (vB false) wz rfl (h_op (vB false) wz rfl (h_nil ?_))))))))
      obtain rfl := some_inj h_13
      exact cu
    ·refine h_movb rfl hc_18 wz (h_skip wa (h_skip wa (h_op (vB false) wz rfl (h_op (vB false) wz rfl (h_skip wa (h_skip wa (h_op (vB false) wz rfl (h_op (vB false) wz rfl (h_skip wa (h_op (vB false) wz rfl (h_op (vB false) wz rfl (h_nil ?_))))))))))))
     obtain rfl := some_inj h_13
     exact cu
   ·refine h_movb rfl hc_17 wz (h_skip wa (h_skip wa (h_skip wa (h_op (vB false) wz rfl (h_op (vB false) wz rfl (h_skip wa (h_skip wa (h_op (vB false) wz rfl (h_op (vB false) wz rfl (h_skip wa (h_skip wa (h_op (vB false) wz rfl (h_op (vB false) wz rfl (h_skip wa (h_op (vB false) wz rfl (h_op (vB false) wz rfl (h_nil ?_)))))))))))))))))
    obtain rfl := some_inj h_13
    exact cu
  ·refine h_movb rfl hc_16 wz (h_skip wa (h_skip wa (h_op (vB false) wz rfl (h_op (vB false) wz rfl (h_skip wa (h_skip wa (h_skip wa (h_op (vB false) wz rfl (h_op (vB false) wz rfl (h_skip wa (h_skip wa (h_op (vB false) wz rfl (h_op (vB false) wz rfl (h_skip wa (h_skip wa (h_op (vB false) wz rfl (h_op (vB false) wz rfl (h_skip wa (h_op (vB false) wz rfl (h_op (vB false) wz rfl (h_nil ?_)))))))))))))))))))))
   obtain rfl := some_inj h_13
   exact cu
 ·rintro ⟨⟩ _ sl_ H_ hp_ hq_
  refine wH_at _ hp_ hq_ ?_
  obtain rfl := some_inj hF
  exact wH_ret (fin0 (.inr rfl) [(vB v_12)] ⟨rfl, trivial⟩ rfl rfl rfl)
theorem slices_Clone_api_Screen_api_Screen_okb {s_1 : (List Screen)} {r : (List Screen)} (hF : slices_Clone_api_Screen_api_Screen s_1 = some r) :
  FnM Tryz.prog 93 [(vL Screen.enc s_1)] [] (gV (extN 0) 5 r) (([] : List Box).map some ++ gO 5 Screen.enc r) := by
 refine FnM.of_wH ⟨Tryz.prog, 8, [], []⟩ rfl Tryz.func93 rfl rfl (Nat.le_of_ble_eq_true rfl) (by kernel_rfl) ?_
 unfold slices_Clone_api_Screen_api_Screen at hF
 refine wH_seq (wH_region (h_op .nil wz rfl (h_nil (wH_seq (wH_seq (wH_region (h_op (vL Screen.enc s_1) wz rfl (h_nileq un40 rfl wz (fun b_2 hb_3 => h_nil ?_)))))))))
 cases b_2 with
 | true =>
  refine wH_ift rfl rfl ?_
  obtain rfl := hb_3 rfl
  replace hF := clone_nil hF
  refine wH_seq (wH_region (h_op .nil wz rfl (h_nil (wH_new (fun n_4 => ?_)))))
  obtain rfl := some_inj hF
  exact wH_ret (finG (outs := ([] : List Box)) (.inr rfl) 0 rfl rfl rfl (by kernel_rfl) (by kernel_rfl))
 | false =>
  refine wH_iff rfl rfl (wH_skip (wH_seq (wH_region (h_lit0 es40 ez40 rfl wz (h_op (vL Screen.enc s_1) wz rfl ?_)))))
  obtain ⟨a_5, hz_6, hF⟩ := bind_some hF
  refine h_appn 0 (.inl rfl) el40 el40 sz139 z139 rfl (by decide) by139 (by decide) (fun _ => rfl) rfl rfl hz_6 wz (fun n_7 => h_op (gV n_7 5 a_5) wz rfl (h_nil ?_))
  obtain rfl := some_inj hF
  exact wH_ret (finG (outs := ([] : List Box)) (.inr rfl) 0 rfl rfl rfl (by kernel_rfl) (by kernel_rfl))
theorem mk_Stream_Flip_ok {s_1 : Stream} {n_2 : Int} {r : Bool × Stream} (hF : mk_Stream_Flip s_1 n_2 = some r) :
  FnM Tryz.prog 56 [(.ref (extN 0) 0 0), (vI n_2)] [(.cells 2 [(vL eI s_1.L), (vI s_1.f_at)])] (vB r.1) [some (.cells 2 [(vL eI r.2.L), (vI r.2.f_at)])] := by
 refine FnM.of_wH ⟨Tryz.prog, 9, [], []⟩ rfl Tryz.func56 rfl rfl (Nat.le_of_ble_eq_true rfl) (by kernel_rfl) ?_
 unfold mk_Stream_Flip at hF
 refine wH_seq (wH_region (h_op (vB false) wz rfl (h_nil (wH_seq (wH_region (h_op (.ref (extN 0) 0 0) wz rfl (h_op (vI n_2) wz rfl ?_)))))))
 obtain ⟨r_3, hr_4, hF⟩ := bind_some hF
 refine h_callq 0 [0] il ft (mk_Stream_Next_ok hr_4) rfl hb84 rfl (by kernel_rfl) (by kernel_rfl) (by kernel_rfl) (by kernel_rfl) (by kernel_rfl) (by kernel_rfl) (by kernel_rfl) (by decide) (by kernel_rfl) wz (vI r_3.1) (by kernel_rfl) ([((extN 0), some (.cells 2 [(vL eI r_3.2.L), (vI r_3.2.f_at)]))] : Hp) (by kernel_rfl) (h_op (vB (r_3.1 == 0)) wz rfl (h_op (vB (r_3.1 == 0)) wz rfl (h_nil ?_)))
 obtain rfl := some_inj hF
 exact wH_ret (finB (.inr rfl) [(vB (r_3.1 == 0))] _ [0] [extN 0] ⟨rfl, trivial⟩ (.cons (co_data rfl rfl) (.nil)) (by kernel_rfl) ⟨(by kernel_rfl), trivial⟩ (by decide) (by kernel_rfl))
theorem ref_in_ok {n_1 : Int} {low_2 : Int} {high_3 : Int} {r : Bool} (hF : ref_in n_1 low_2 high_3 = some r) :
  FnM Tryz.prog 122 [(vI n_1), (vI low_2), (vI high_3)] [] (vB r) [] := by
 refine FnM.of_wH ⟨Tryz.prog, 15, [], []⟩ rfl Tryz.func122 rfl rfl (Nat.le_of_ble_eq_true rfl) (by kernel_rfl) ?_
 unfold ref_in at hF
 refine wH_seq (wH_region (h_op (vB false) wz rfl (h_nil (wH_seq ?_))))
 obtain ⟨v_4, h_5, hF⟩ := bind_some hF
 refine wH_join (β := Unit) (fun _ => ([(6, (vB v_4))] : List (Nat × V))) (fun _ => ([] : Hp)) (fun _ => True) ?_ ?_
 ·refine wH_region (h_op (vI low_2) wz rfl (h_op (vI n_1) wz rfl (h_op (vB (decide (low_2 ≤ n_1))) wz rfl ?_)))
  rcases cond_some h_5 with ⟨hc_6, h_5⟩ | ⟨hc_6, h_5⟩
  ·refine h_movb rfl hc_6 wz (h_op (vI n_1) wa rfl (h_op (vI high_3) wa rfl (h_op (vB (decide (n_1 ≤ high_3))) wa rfl (h_op (vB (decide (n_1 ≤ high_3))) wz rfl (h_op (vB (decide (n_1 ≤ high_3))) wz rfl (h_nil ?_))))))
   obtain rfl := some_inj h_5
   exact cu
  ·refine h_movb rfl hc_6 wz (h_skip wa (h_skip wa (h_skip wa (h_op (vB false) wz rfl (h_op (vB false) wz rfl (h_nil ?_))))))
   obtain rfl := some_inj h_5
   exact cu
 ·rintro ⟨⟩ _ sl_ H_ hp_ hq_
  refine wH_at _ hp_ hq_ ?_
  obtain rfl := some_inj hF
  exact wH_ret (fin0 (.inr rfl) [(vB v_4)] ⟨rfl, trivial⟩ rfl rfl rfl)
theorem strings_IndexByte_ok {s_1 : ByteArray} {c_2 : Int} {r : Int} (hF : strings_IndexByte s_1 c_2 = some r) :
  FnM Tryz.prog 240 [(vS s_1), (.d (.int .u8 c_2))] [] (vI r) [] := by
 refine FnM.of_wH ⟨Tryz.prog, 8, [], []⟩ rfl Tryz.func240 rfl rfl (Nat.le_of_ble_eq_true rfl) (by kernel_rfl) ?_
 unfold strings_IndexByte at hF
 refine wH_seq (wH_region (h_op (vI 0) wz rfl (h_nil (wH_seq (wH_region (h_op (vS s_1) wz rfl (h_op (.d (.int .u8 c_2)) wz rfl ?_)))))))
 obtain ⟨r_3, hr_4, hF⟩ := bind_some hF
 refine h_call0 (internal_stringslite_IndexByte_ok hr_4) rfl hb292 rfl rfl rfl rfl wz (h_op (vI r_3) wz rfl (h_nil ?_))
 obtain rfl := some_inj hF
 exact wH_ret (fin0 (.inr rfl) [(vI r_3)] ⟨rfl, trivial⟩ rfl rfl rfl)
theorem ref_only_ok {s_1 : ByteArray} {somev_2 : ByteArray} {r : Bool} (hF : ref_only s_1 somev_2 = some r) :
  FnM Tryz.prog 196 [(vS s_1), (vS somev_2)] [] (vB r) [] := by
 refine FnM.of_wH ⟨Tryz.prog, 18, [], []⟩ rfl Tryz.func196 rfl rfl (Nat.le_of_ble_eq_true rfl) (by kernel_rfl) ?_
 unfold ref_only at hF
 refine wH_seq (wH_region (h_op (vB false) wz rfl (h_nil (wH_seq (wH_seq (wH_region (h_op (vS s_1) wz rfl (h_lens un9 rfl wz (h_op (vI 0) wz rfl (h_nil ?_))))))))))
 obtain ⟨o_11, hj_12, hF⟩ := bind_some hF
 obtain ⟨hn_7, hj_12⟩ := forL_some hj_12
 refine wH_join (β := (Unit)) (fun (s_8 : Unit) => ([] : List (Nat × V))) (fun (s_8 : Unit) => ([] : Hp)) (fun p => o_11 = .go p) ?_ ?_
 ·refine wH_block (wH_loop (β := Nat × (List Nat) × (Unit)) (fun p => (fun (k_3 : Nat) (l_4 : List Nat) (s_8 : Unit) => ([(0, (vS s_1)), (1, (vS somev_2)), (7, (vI (s_1.size : Int))), (8, (vI (k_3 : Int)))] : List (Nat × V))) p.1 p.2.1 p.2.2) (fun p => (fun (k_3 : Nat) (l_4 : List Nat) (s_8 : Unit) => ([] : Hp)) p.1 p.2.1 p.2.2) (fun p => forR (fun k x s => ref_only_L1 s_1 somev_2 k x s) p.2.1 p.1 p.2.2 = some o_11 ∧ ((List.range ((s_1.size : Int)).toNat)).drop p.1 = p.2.1) (fun p => p.2.1.length) (0, (List.range ((s_1.size : Int)).toNat), ()) ⟨hj_12, rfl⟩ rfl (pre_r rfl) ?_)
  rintro ⟨k_3, l_4, s_8⟩ ⟨hL_10, hD_6⟩
  dsimp only at hL_10 hD_6
  cases l_4 with
  | nil =>
   obtain rfl := some_inj hL_10
   refine wH_seq (wH_region (h_op (vB (decide ((k_3 : Int) < (s_1.size : Int)))) wz rfl (h_nil ?_)))
   refine wH_seq (wH_iff rfl (range_nil hD_6) (wH_exit ?_))
   exact cut_mk (s_8) rfl rfl (pre_r rfl)
  | cons x_5 l_4 =>
   obtain ⟨c_, hc_9, hL_10⟩ := bind_some hL_10
   refine wH_seq (wH_region (h_op (vB (decide ((k_3 : Int) < (s_1.size : Int)))) wz rfl (h_nil ?_)))
   refine wH_seq (wH_ift rfl (range_cons hD_6) (wH_skip ?_))
   unfold ref_only_L1 at hc_9
   refine wH_seq (wH_block (wH_seq (wH_region (h_op (vI (k_3 : Int)) wz rfl (h_op (vI (k_3 : Int)) wz rfl (h_nil (wH_seq (wH_region (h_op (vS somev_2) wz rfl (h_op (vS s_1) wz rfl (h_op (vI (k_3 : Int)) wz rfl ?_)))))))))))
   obtain ⟨b_13, hy_14, hc_9⟩ := bind_some hc_9
   refine h_idxs un9 rfl rfl hy_14 wz ?_
   obtain ⟨r_15, hr_16, hc_9⟩ := bind_some hc_9
   refine h_call0 (strings_IndexByte_ok hr_16) rfl hb240 rfl rfl rfl rfl wz (h_op (vB (decide (r_15 < 0))) wz rfl (h_nil ?_))
   rcases cond_some hc_9 with ⟨hc_17, hc_9⟩ | ⟨hc_17, hc_9⟩
   ·refine wH_ift rfl hc_17 (wH_seq (wH_region (h_op (vB false) wz rfl (h_nil ?_))))
    obtain rfl := some_inj hc_9
    obtain rfl := some_inj hL_10
    obtain rfl := some_inj hF
    exact wH_ret (fin0 (.inr rfl) [(vB false)] ⟨rfl, trivial⟩ rfl rfl rfl)
   ·refine wH_iff rfl hc_17 (wH_skip (wH_region (h_opw (w64_nextr hD_6 hn_7) wz rfl (h_op (vI ((k_3 + 1 : Nat) : Int)) wz rfl (h_nil ?_)))))
    obtain rfl := some_inj hc_9
    exact loop_mk (k_3 + 1, l_4, ()) ⟨hL_10, drop_next hD_6⟩ (Nat.lt_succ_self _) rfl (pre_r rfl)
 ·rintro s_8 ho_ sl_ H_ hp_ hq_
  subst ho_
  refine wH_at _ hp_ hq_ (wH_seq (wH_region (h_op (vB true) wz rfl (h_nil ?_))))
  obtain rfl := some_inj hF
  exact wH_ret (fin0 (.inr rfl) [(vB true)] ⟨rfl, trivial⟩ rfl rfl rfl)
theorem ref_Key_ok {s_1 : ByteArray} {r : Bool} (hF : ref_Key s_1 = some r) :
  FnM Tryz.prog 121 [(vS s_1)] [] (vB r) [] := by
 refine FnM.of_wH ⟨Tryz.prog, 15, [], []⟩ rfl Tryz.func121 rfl rfl (Nat.le_of_ble_eq_true rfl) (by kernel_rfl) ?_
 unfold ref_Key at hF
 refine wH_seq (wH_region (h_op (vB false) wz rfl (h_nil (wH_seq ?_))))
 obtain ⟨v_2, h_3, hF⟩ := bind_some hF
 refine wH_join (β := Unit) (fun _ => ([(2, (vB v_2))] : List (Nat × V))) (fun _ => ([] : Hp)) (fun _ => True) ?_ ?_
 ·refine wH_region (h_op (vS s_1) wz rfl (h_lens un9 rfl wz ?_))
  obtain ⟨r_4, hr_5, h_3⟩ := bind_some h_3
  refine h_call0 (ref_in_ok hr_5) rfl hb122 rfl rfl rfl rfl wz ?_
  rcases cond_some h_3 with ⟨hc_6, h_3⟩ | ⟨hc_6, h_3⟩
  ·refine h_movb rfl hc_6 wz (h_op (vS s_1) wa rfl ?_)
   obtain ⟨y_7, hy_8, h_3⟩ := bind_some h_3
   refine h_subFalseTrue un9 rfl rfl hy_8 wa ?_
   obtain ⟨r_9, hr_10, h_3⟩ := bind_some h_3
   refine h_call0 (ref_only_ok hr_10) rfl hb196 rfl rfl rfl rfl wa (h_op (vB r_9) wz rfl ?_)
   rcases cond_some h_3 with ⟨hc_11, h_3⟩ | ⟨hc_11, h_3⟩
   ·refine h_movb rfl hc_11 wz (h_op (vS s_1) wa rfl ?_)
    obtain ⟨r_12, hr_13, h_3⟩ := bind_some h_3
    refine h_call0 (ref_only_ok hr_13) rfl hb196 rfl rfl rfl rfl wa (h_op (vB r_12) wz rfl (h_op (vB r_12) wz rfl (h_nil ?_)))
    obtain rfl := some_inj h_3
    exact cu
   ·refine h_movb rfl hc_11 wz (h_skip wa (h_skip wa (h_op (vB false) wz rfl (h_op (vB false) wz rfl (h_nil ?_)))))
    obtain rfl := some_inj h_3
    exact cu
  ·refine h_movb rfl hc_6 wz (h_skip wa (h_skip wa (h_skip wa (h_op (vB false) wz rfl (h_op (vB false) wz rfl (h_skip wa (h_skip wa (h_op (vB false) wz rfl (h_op (vB false) wz rfl (h_nil ?_))))))))))
   obtain rfl := some_inj h_3
   exact cu
 ·rintro ⟨⟩ _ sl_ H_ hp_ hq_
  refine wH_at _ hp_ hq_ ?_
  obtain rfl := some_inj hF
  exact wH_ret (fin0 (.inr rfl) [(vB v_2)] ⟨rfl, trivial⟩ rfl rfl rfl)
theorem ref_side_ok {n_1 : Int} {r : Bool} (hF : ref_side n_1 = some r) :
  FnM Tryz.prog 176 [(vI n_1)] [] (vB r) [] := by
 refine FnM.of_wH ⟨Tryz.prog, 5, [], []⟩ rfl Tryz.func176 rfl rfl (Nat.le_of_ble_eq_true rfl) (by kernel_rfl) ?_
 unfold ref_side at hF
 refine wH_seq (wH_region (h_op (vB false) wz rfl (h_nil (wH_seq (wH_region (h_op (vI n_1) wz rfl ?_))))))
 obtain ⟨r_2, hr_3, hF⟩ := bind_some hF
 refine h_call0 (ref_in_ok hr_3) rfl hb122 rfl rfl rfl rfl wz (h_op (vB r_2) wz rfl (h_nil ?_))
 obtain rfl := some_inj hF
 exact wH_ret (fin0 (.inr rfl) [(vB r_2)] ⟨rfl, trivial⟩ rfl rfl rfl)
theorem ref_RectFault_ok {r_1 : Rect} {r : Int} (hF : ref_RectFault r_1 = some r) :
  FnM Tryz.prog 177 [(.d (.agg (Rect.enc r_1)))] [] (vI r) [] := by
 refine FnM.of_wH ⟨Tryz.prog, 31, [], []⟩ rfl Tryz.func177 rfl rfl (Nat.le_of_ble_eq_true rfl) (by kernel_rfl) ?_
 unfold ref_RectFault at hF
 refine wH_seq (wH_region (h_box 0 (.inl rfl) [(vI r_1.X), (vI r_1.Y), (vI r_1.W), (vI r_1.H)] rfl rfl wz (fun n_2 => h_op (vI 0) wz rfl (h_nil (wH_seq (wH_seq ?_))))))
 obtain ⟨v_3, h_4, hF⟩ := bind_some hF
 refine wH_join (β := Unit) (fun _ => ([(30, (vB v_3))] : List (Nat × V))) (fun _ => ([(n_2, some (.cells 4 [(vI r_1.X), (vI r_1.Y), (vI r_1.W), (vI r_1.H)]))] : Hp)) (fun _ => True) ?_ ?_
 ·refine wH_region (h_far pl45_0 rfl 0 rfl wz (h_ldr 0 0 il ft sz3 ag3 rfl rfl (vI r_1.X) rfl wz ?_))
  obtain ⟨r_5, hr_6, h_4⟩ := bind_some h_4
  refine h_call0 (ref_in_ok hr_6) rfl hb122 rfl rfl rfl rfl wz (h_op (vB (!r_5)) wz rfl ?_)
  rcases cond_some h_4 with ⟨hc_7, h_4⟩ | ⟨hc_7, h_4⟩
  ·refine h_movb rfl hc_7 wz (h_skip wa (h_skip wa (h_skip wa (h_skip wa (h_op (vB true) wz rfl (h_op (vB true) wz rfl (h_skip wa (h_skip wa (h_skip wa (h_skip wa (h_skip wa (h_skip wa (h_skip wa (h_op (vB true) wz rfl (h_op (vB true) wz rfl (h_skip wa (h_skip wa (h_skip wa (h_skip wa (h_skip wa (h_skip wa (h_skip wa (h_op (vB true) wz rfl ?_)))))))))))))))))))))))
   refine h_nil ?_
   obtain rfl := some_inj h_4
   exact cu
  ·refine h_movb rfl hc_7 wz (h_far pl45_1 rfl 1 rfl wa (h_ldr 0 0 il ft sz3 ag3 rfl rfl (vI r_1.Y) rfl wa ?_))
   obtain ⟨r_8, hr_9, h_4⟩ := bind_some h_4
   refine h_call0 (ref_in_ok hr_9) rfl hb122 rfl rfl rfl rfl wa (h_op (vB (!r_8)) wa rfl (h_op (vB (!r_8)) wz rfl ?_))
   rcases cond_some h_4 with ⟨hc_10, h_4⟩ | ⟨hc_10, h_4⟩
   ·refine h_movb rfl hc_10 wz (h_skip wa (h_skip wa (h_skip wa (h_skip wa (h_skip wa (h_skip wa (h_skip wa (h_op (vB true) wz rfl (h_op (vB true) wz rfl (h_skip wa (h_skip wa (h_skip wa (h_skip wa (h_skip wa (h_skip wa (h_skip wa (h_op (vB true) wz rfl (h_nil ?_))))))))))))))))))
    obtain rfl := some_inj h_4
    exact cu
   ·refine h_movb rfl hc_10 wz (h_far pl45_2 rfl 2 rfl wa (h_ldr 0 0 il ft sz3 ag3 rfl rfl (vI r_1.W) rfl wa (h_far pl45_0 rfl 0 rfl wa (h_ldr 0 0 il ft sz3 ag3 rfl rfl (vI r_1.X) rfl wa (h_op (vI (w64 (100000 - r_1.X))) wa rfl ?_)))))
    obtain ⟨r_11, hr_12, h_4⟩ := bind_some h_4
    refine h_call0 (ref_in_ok hr_12) rfl hb122 rfl rfl rfl rfl wa (h_op (vB (!r_11)) wa rfl (h_op (vB (!r_11)) wz rfl ?_))
    rcases cond_some h_4 with ⟨hc_13, h_4⟩ | ⟨hc_13, h_4⟩
    ·refine h_movb rfl hc_13 wz (h_skip wa (h_skip wa (h_skip wa (h_skip wa (h_skip wa (h_skip wa (h_skip wa (h_op (vB true) wz rfl (h_nil ?_)))))))))
     obtain rfl := some_inj h_4
     exact cu
    ·refine h_movb rfl hc_13 wz (h_far pl45_3 rfl 3 rfl wa (h_ldr 0 0 il ft sz3 ag3 rfl rfl (vI r_1.H) rfl wa (h_far pl45_1 rfl 1 rfl wa (h_ldr 0 0 il ft sz3 ag3 rfl rfl (vI r_1.Y) rfl wa (h_op (vI (w64 (100000 - r_1.Y))) wa rfl ?_)))))
     obtain ⟨r_14, hr_15, h_4⟩ := bind_some h_4
     refine h_call0 (ref_in_ok hr_15) rfl hb122 rfl rfl rfl rfl wa (h_op (vB (!r_14)) wa rfl (h_op (vB (!r_14)) wz rfl (h_nil ?_)))
     obtain rfl := some_inj h_4
     exact cu
 ·rintro ⟨⟩ _ sl_ H_ hp_ hq_
  refine wH_at _ hp_ hq_ ?_
  rcases cond_some hF with ⟨hc_16, hF⟩ | ⟨hc_16, hF⟩
  ·refine wH_ift rfl hc_16 (wH_seq (wH_region (h_op (vI 1) wz rfl (h_nil ?_))))
   obtain rfl := some_inj hF
   exact wH_ret (fin0 (.inr rfl) [(vI 1)] ⟨rfl, trivial⟩ rfl rfl rfl)
  ·refine wH_iff rfl hc_16 (wH_skip (wH_seq (wH_region (h_op (vI 0) wz rfl (h_nil ?_)))))
   obtain rfl := some_inj hF
   exact wH_ret (fin0 (.inr rfl) [(vI 0)] ⟨rfl, trivial⟩ rfl rfl rfl)
theorem ref_within_ok {r_1 : Rect} {wv_2 : Int} {h_3 : Int} {r : Bool} (hF : ref_within r_1 wv_2 h_3 = some r) :
  FnM Tryz.prog 178 [(.d (.agg (Rect.enc r_1))), (vI wv_2), (vI h_3)] [] (vB r) [] := by
 refine FnM.of_wH ⟨Tryz.prog, 33, [], []⟩ rfl Tryz.func178 rfl rfl (Nat.le_of_ble_eq_true rfl) (by kernel_rfl) ?_
 unfold ref_within at hF
 refine wH_seq (wH_region (h_box 0 (.inl rfl) [(vI r_1.X), (vI r_1.Y), (vI r_1.W), (vI r_1.H)] rfl rfl wz (fun n_4 => h_op (vB false) wz rfl (h_nil (wH_seq ?_)))))
 obtain ⟨v_5, h_6, hF⟩ := bind_some hF
 refine wH_join (β := Unit) (fun _ => ([(6, (vB v_5))] : List (Nat × V))) (fun _ => ([(n_4, some (.cells 4 [(vI r_1.X), (vI r_1.Y), (vI r_1.W), (vI r_1.H)]))] : Hp)) (fun _ => True) ?_ ?_
 ·refine wH_region (h_far pl45_0 rfl 0 rfl wz (h_ldr 0 0 il ft sz3 ag3 rfl rfl (vI r_1.X) rfl wz (h_op (vB (decide (r_1.X ≥ 0))) wz rfl ?_)))
  rcases cond_some h_6 with ⟨hc_7, h_6⟩ | ⟨hc_7, h_6⟩
  ·refine h_movb rfl hc_7 wz (h_far pl45_1 rfl 1 rfl wa (h_ldr 0 0 il ft sz3 ag3 rfl rfl (vI r_1.Y) rfl wa (h_op (vB (decide (r_1.Y ≥ 0))) wa rfl (h_op (vB (decide (r_1.Y ≥ 0))) wz rfl ?_))))
   rcases cond_some h_6 with ⟨hc_8, h_6⟩ | ⟨hc_8, h_6⟩
   ·refine h_movb rfl hc_8 wz (h_far pl45_0 rfl 0 rfl wa (h_ldr 0 0 il ft sz3 ag3 rfl rfl (vI r_1.X) rfl wa (h_far pl45_2 rfl 2 rfl wa (h_ldr 0 0 il ft sz3 ag3 rfl rfl (vI r_1.W) rfl wa (h_op (vI (w64 (r_1.X + r_1.W))) wa rfl (h_op (vI wv_2) wa rfl (h_op (vB (decide ((w64 (r_1.X + r_1.W)) ≤ wv_2))) wa rfl (h_op (vB (decide ((w64 (r_1.X + r_1.W)) ≤ wv_2))) wz rfl ?_))))))))
    rcases cond_some h_6 with ⟨hc_9, h_6⟩ | ⟨hc_9, h_6⟩
    ·refine h_movb rfl hc_9 wz (h_far pl45_1 rfl 1 rfl wa (h_ldr 0 0 il ft sz3 ag3 rfl rfl (vI r_1.Y) rfl wa (h_far pl45_3 rfl 3 rfl wa (h_ldr 0 0 il ft sz3 ag3 rfl rfl (vI r_1.H) rfl wa (h_op (vI (w64 (r_1.Y + r_1.H))) wa rfl (h_op (vI h_3) wa rfl (h_op (vB (decide ((w64 (r_1.Y + r_1.H)) ≤ h_3))) wa rfl (h_op (vB (decide ((w64 (r_1.Y + r_1.H)) ≤ h_3))) wz rfl (h_op (vB (decide ((w64 (r_1.Y + r_1.H)) ≤ h_3))) wz rfl (h_nil ?_))))))))))
     obtain rfl := some_inj h_6
     exact cu
    ·refine h_movb rfl hc_9 wz (h_skip wa (h_skip wa (h_skip wa (h_skip wa (h_skip wa (h_skip wa (h_skip wa (h_op (vB false) wz rfl (h_op (vB false) wz rfl (h_nil ?_))))))))))
     obtain rfl := some_inj h_6
     exact cu
   ·refine h_movb rfl hc_8 wz (h_skip wa (h_skip wa (h_skip wa (h_skip wa (h_skip wa (h_skip wa (h_skip wa (h_op (vB false) wz rfl (h_op (vB false) wz rfl (h_skip wa (h_skip wa (h_skip wa (h_skip wa (h_skip wa (h_skip wa (h_skip wa (h_op (vB false) wz rfl (h_op (vB false) wz rfl (h_nil ?_)))))))))))))))))))
    obtain rfl := some_inj h_6
    exact cu
  ·refine h_movb rfl hc_7 wz (h_skip wa (h_skip wa (h_skip wa (h_op (vB false) wz rfl (h_op (vB false) wz rfl (h_skip wa (h_skip wa (h_skip wa (h_skip wa (h_skip wa (h_skip wa (h_skip wa (h_op (vB false) wz rfl (h_op (vB false) wz rfl (h_skip wa (h_skip wa (h_skip wa (h_skip wa (h_skip wa (h_skip wa (h_skip wa (h_op (vB false) wz rfl (h_op (vB false) wz rfl ?_)))))))))))))))))))))))
   refine h_nil ?_
   obtain rfl := some_inj h_6
   exact cu
 ·rintro ⟨⟩ _ sl_ H_ hp_ hq_
  refine wH_at _ hp_ hq_ ?_
  obtain rfl := some_inj hF
  exact wH_ret (fin0 (.inr rfl) [(vB v_5)] ⟨rfl, trivial⟩ rfl rfl rfl)
theorem ref_MeetOf_ok {a_1 : Rect} {b_2 : Rect} {r : Rect × Bool} (hF : ref_MeetOf a_1 b_2 = some r) :
  FnM Tryz.prog 179 [(.d (.agg (Rect.enc a_1))), (.d (.agg (Rect.enc b_2)))] [] (.tup [(.d (.agg (Rect.enc r.1))), (vB r.2)]) [] := by
 refine FnM.of_wH ⟨Tryz.prog, 58, [], []⟩ rfl Tryz.func179 rfl rfl (Nat.le_of_ble_eq_true rfl) (by kernel_rfl) ?_
 unfold ref_MeetOf at hF
 refine wH_seq (wH_region (h_box 0 (.inl rfl) [(vI a_1.X), (vI a_1.Y), (vI a_1.W), (vI a_1.H)] rfl rfl wz (fun n_3 => h_box 0 (.inl rfl) [(vI b_2.X), (vI b_2.Y), (vI b_2.W), (vI b_2.H)] rfl rfl wz (fun n_4 => h_alloc 0 (.inl rfl) z45 rfl wz (fun n_5 => h_op (vB false) wz rfl (h_nil (wH_seq (wH_draws (h_far pl45_0 rfl 0 rfl wz (h_ldr 1 0 (.inr (by kernel_rfl)) (fun _ _ ag => trivial) sz3 ag3 rfl rfl (vI a_1.X) rfl wz (h_far pl45_0 rfl 0 rfl wz (h_ldr 3 1 (.inr (by kernel_rfl)) (fun _ _ ag => ⟨.inl ⟨rfl, rfl⟩, trivial⟩) sz3 ag3 rfl rfl (vI b_2.X) rfl wz (h_minmax (vI (maxI a_1.X b_2.X)) rfl (.inr rfl) wz (h_far pl45_1 rfl 1 rfl wz (h_ldr 6 0 (.inr (by kernel_rfl)) (fun _ _ ag => ⟨.inl ⟨rfl, rfl⟩, ⟨.inl ⟨rfl, rfl⟩, trivial⟩⟩) sz3 ag3 rfl rfl (vI a_1.Y) rfl wz (h_far pl45_1 rfl 1 rfl wz (h_ldr 8 1 (.inr (by kernel_rfl)) (fun _ _ ag => ⟨.inl ⟨rfl, rfl⟩, ⟨.inl ⟨rfl, rfl⟩, ⟨.inl ⟨rfl, rfl⟩, trivial⟩⟩⟩) sz3 ag3 rfl rfl (vI b_2.Y) rfl wz (h_minmax (vI (maxI a_1.Y b_2.Y)) rfl (.inr rfl) wz (h_op (vI (maxI a_1.X b_2.X)) wz rfl (h_op (vI (maxI a_1.Y b_2.Y)) wz rfl (h_nil (wH_seq (wH_draws ?_)))))))))))))))))))))))
 refine h_far pl45_0 rfl 0 rfl wz (h_ldr 1 0 (.inr (by kernel_rfl)) (fun _ _ ag => trivial) sz3 ag3 rfl rfl (vI a_1.X) rfl wz (h_far pl45_2 rfl 2 rfl wz (h_ldr 3 0 (.inr (by kernel_rfl)) (fun _ _ ag => ⟨.inl ⟨rfl, rfl⟩, trivial⟩) sz3 ag3 rfl rfl (vI a_1.W) rfl wz (h_op (vI (w64 (a_1.X + a_1.W))) wz rfl (h_far pl45_0 rfl 0 rfl wz (h_ldr 6 1 (.inr (by kernel_rfl)) (fun _ _ ag => ⟨.inl ⟨rfl, rfl⟩, ⟨.inl ⟨rfl, rfl⟩, trivial⟩⟩) sz3 ag3 rfl rfl (vI b_2.X) rfl wz (h_far pl45_2 rfl 2 rfl wz (h_ldr 8 1 (.inr (by kernel_rfl)) (fun _ _ ag => ⟨.inl ⟨rfl, rfl⟩, ⟨.inl ⟨rfl, rfl⟩, ⟨.inl ⟨rfl, rfl⟩, trivial⟩⟩⟩) sz3 ag3 rfl rfl (vI b_2.W) rfl wz (h_op (vI (w64 (b_2.X + b_2.W))) wz rfl (h_minmax (vI (minI (w64 (a_1.X + a_1.W)) (w64 (b_2.X + b_2.W)))) rfl (.inl rfl) wz (h_op (vI (maxI a_1.X b_2.X)) wz rfl (h_op (vI (w64 ((minI (w64 (a_1.X + a_1.W)) (w64 (b_2.X + b_2.W))) - (maxI a_1.X b_2.X)))) wz rfl (h_far pl45_1 rfl 1 rfl wz (h_ldr 14 0 (.inr (by kernel_rfl)) (fun _ _ ag => ⟨.inl ⟨rfl, rfl⟩, ⟨.inl ⟨rfl, rfl⟩, ⟨.inl ⟨rfl, rfl⟩, ⟨.inl ⟨rfl, rfl⟩, trivial⟩⟩⟩⟩) sz3 ag3 rfl rfl (vI a_1.Y) rfl wz (h_far pl45_3 rfl 3 rfl wz (h_ldr 16 0 (.inr (by kernel_rfl)) (fun _ _ ag => ⟨.inl ⟨rfl, rfl⟩, ⟨.inl ⟨rfl, rfl⟩, ⟨.inl ⟨rfl, rfl⟩, ⟨.inl ⟨rfl, rfl⟩, ⟨.inl ⟨rfl, rfl⟩, trivial⟩⟩⟩⟩⟩) sz3 ag3 rfl rfl (vI a_1.H) rfl wz (h_op (vI (w64 (a_1.Y + a_1.H))) wz rfl (h_far pl45_1 rfl 1 rfl wz (h_ldr 19 1 (.inr (by kernel_rfl)) (fun _ _ ag => ⟨.inl ⟨rfl, rfl⟩, ⟨.inl ⟨rfl, rfl⟩, ⟨.inl ⟨rfl, rfl⟩, ⟨.inl ⟨rfl, rfl⟩, ⟨.inl ⟨rfl, rfl⟩, ⟨.inl ⟨rfl, rfl⟩, trivial⟩⟩⟩⟩⟩⟩) sz3 ag3 rfl rfl (vI b_2.Y) rfl wz (h_far pl45_3 rfl 3 rfl wz (h_ldr 21 1 (.inr (by kernel_rfl)) (fun _ _ ag => ⟨.inl ⟨rfl, rfl⟩, ⟨.inl ⟨rfl, rfl⟩, ⟨.inl ⟨rfl, rfl⟩, ⟨.inl ⟨rfl, rfl⟩, ⟨.inl ⟨rfl, rfl⟩, ⟨.inl ⟨rfl, rfl⟩, ⟨.inl ⟨rfl, rfl⟩, trivial⟩⟩⟩⟩⟩⟩⟩) sz3 ag3 rfl rfl (vI b_2.H) rfl wz (h_op (vI (w64 (b_2.Y + b_2.H))) wz rfl (h_minmax (vI (minI (w64 (a_1.Y + a_1.H)) (w64 (b_2.Y + b_2.H)))) rfl (.inl rfl) wz ?_)))))))))))))))))))))))
 refine h_op (vI (maxI a_1.Y b_2.Y)) wz rfl (h_op (vI (w64 ((minI (w64 (a_1.Y + a_1.H)) (w64 (b_2.Y + b_2.H))) - (maxI a_1.Y b_2.Y)))) wz rfl (h_op (vI (w64 ((minI (w64 (a_1.X + a_1.W)) (w64 (b_2.X + b_2.W))) - (maxI a_1.X b_2.X)))) wz rfl (h_op (vI (w64 ((minI (w64 (a_1.Y + a_1.H)) (w64 (b_2.Y + b_2.H))) - (maxI a_1.Y b_2.Y)))) wz rfl (h_nil (wH_at (H0 := ([(n_3, some (.cells 4 [(vI a_1.X), (vI a_1.Y), (vI a_1.W), (vI a_1.H)])), (n_4, some (.cells 4 [(vI b_2.X), (vI b_2.Y), (vI b_2.W), (vI b_2.H)])), (n_5, some (.cells 4 [(vI 0), (vI 0), (vI 0), (vI 0)]))] : Hp)) ([(4, (.ref n_5 0 0)), (6, (vI (maxI a_1.X b_2.X))), (7, (vI (maxI a_1.Y b_2.Y))), (8, (vI (w64 ((minI (w64 (a_1.X + a_1.W)) (w64 (b_2.X + b_2.W))) - (maxI a_1.X b_2.X))))), (9, (vI (w64 ((minI (w64 (a_1.Y + a_1.H)) (w64 (b_2.Y + b_2.H))) - (maxI a_1.Y b_2.Y)))))] : List (Nat × V)) (by kernel_rfl) (pre_mk (by kernel_rfl)) (wH_seq (wH_seq ?_)))))))
 obtain ⟨v_6, h_7, hF⟩ := bind_some hF
 refine wH_join (β := Unit) (fun _ => ([(4, (.ref n_5 0 0)), (6, (vI (maxI a_1.X b_2.X))), (7, (vI (maxI a_1.Y b_2.Y))), (8, (vI (w64 ((minI (w64 (a_1.X + a_1.W)) (w64 (b_2.X + b_2.W))) - (maxI a_1.X b_2.X))))), (9, (vI (w64 ((minI (w64 (a_1.Y + a_1.H)) (w64 (b_2.Y + b_2.H))) - (maxI a_1.Y b_2.Y))))), (51, (vB v_6))] : List (Nat × V))) (fun _ => ([(n_3, some (.cells 4 [(vI a_1.X), (vI a_1.Y), (vI a_1.W), (vI a_1.H)])), (n_4, some (.cells 4 [(vI b_2.X), (vI b_2.Y), (vI b_2.W), (vI b_2.H)])), (n_5, some (.cells 4 [(vI 0), (vI 0), (vI 0), (vI 0)]))] : Hp)) (fun _ => True) ?_ ?_
 ·refine wH_region (h_op (vI (w64 ((minI (w64 (a_1.X + a_1.W)) (w64 (b_2.X + b_2.W))) - (maxI a_1.X b_2.X)))) wz rfl (h_op (vB (decide ((w64 ((minI (w64 (a_1.X + a_1.W)) (w64 (b_2.X + b_2.W))) - (maxI a_1.X b_2.X))) ≤ 0))) wz rfl ?_))
  rcases cond_some h_7 with ⟨hc_8, h_7⟩ | ⟨hc_8, h_7⟩
  ·refine h_movb rfl hc_8 wz (h_skip wa (h_skip wa (h_op (vB true) wz rfl (h_nil ?_))))
   obtain rfl := some_inj h_7
   exact cu
  ·refine h_movb rfl hc_8 wz (h_op (vI (w64 ((minI (w64 (a_1.Y + a_1.H)) (w64 (b_2.Y + b_2.H))) - (maxI a_1.Y b_2.Y)))) wa rfl (h_op (vB (decide ((w64 ((minI (w64 (a_1.Y + a_1.H)) (w64 (b_2.Y + b_2.H))) - (maxI a_1.Y b_2.Y))) ≤ 0))) wa rfl (h_op (vB (decide ((w64 ((minI (w64 (a_1.Y + a_1.H)) (w64 (b_2.Y + b_2.H))) - (maxI a_1.Y b_2.Y))) ≤ 0))) wz rfl (h_nil ?_))))
   obtain rfl := some_inj h_7
   exact cu
 ·rintro ⟨⟩ _ sl_ H_ hp_ hq_
  refine wH_at _ hp_ hq_ ?_
  rcases cond_some hF with ⟨hc_9, hF⟩ | ⟨hc_9, hF⟩
  ·refine wH_ift rfl hc_9 (wH_seq (wH_region (h_op (.d (.agg (Rect.enc (⟨0, 0, 0, 0⟩ : Rect)))) wz (by kernel_rfl) (h_str 0 il ft 2 sz45 rfl rfl [(vI 0), (vI 0), (vI 0), (vI 0)] rfl wz (h_op (vB false) wz rfl (h_nil ?_))))))
   obtain rfl := some_inj hF
   exact wH_ret (fin0 (.inr rfl) [(.d (.agg (Rect.enc (⟨0, 0, 0, 0⟩ : Rect)))), (vB false)] ⟨⟨2, _, _, _, _, _, _, _, rfl, rfl, sz45, ag45, rfl⟩, ⟨rfl, trivial⟩⟩ rfl rfl rfl)
  ·refine wH_iff rfl hc_9 (wH_skip (wH_seq (wH_region (h_op (vI (maxI a_1.X b_2.X)) wz rfl (h_op (vI (maxI a_1.Y b_2.Y)) wz rfl (h_op (vI (w64 ((minI (w64 (a_1.X + a_1.W)) (w64 (b_2.X + b_2.W))) - (maxI a_1.X b_2.X)))) wz rfl (h_op (vI (w64 ((minI (w64 (a_1.Y + a_1.H)) (w64 (b_2.Y + b_2.H))) - (maxI a_1.Y b_2.Y)))) wz rfl (h_op (.d (.agg (Rect.enc (⟨(maxI a_1.X b_2.X), (maxI a_1.Y b_2.Y), (w64 ((minI (w64 (a_1.X + a_1.W)) (w64 (b_2.X + b_2.W))) - (maxI a_1.X b_2.X))), (w64 ((minI (w64 (a_1.Y + a_1.H)) (w64 (b_2.Y + b_2.H))) - (maxI a_1.Y b_2.Y)))⟩ : Rect)))) wz (by kernel_rfl) (h_str 0 il ft 2 sz45 rfl rfl [(vI (maxI a_1.X b_2.X)), (vI (maxI a_1.Y b_2.Y)), (vI (w64 ((minI (w64 (a_1.X + a_1.W)) (w64 (b_2.X + b_2.W))) - (maxI a_1.X b_2.X)))), (vI (w64 ((minI (w64 (a_1.Y + a_1.H)) (w64 (b_2.Y + b_2.H))) - (maxI a_1.Y b_2.Y))))] rfl wz (h_op (vB true) wz rfl (h_nil ?_)))))))))))
   obtain rfl := some_inj hF
   exact wH_ret (fin0 (.inr rfl) [(.d (.agg (Rect.enc (⟨(maxI a_1.X b_2.X), (maxI a_1.Y b_2.Y), (w64 ((minI (w64 (a_1.X + a_1.W)) (w64 (b_2.X + b_2.W))) - (maxI a_1.X b_2.X))), (w64 ((minI (w64 (a_1.Y + a_1.H)) (w64 (b_2.Y + b_2.H))) - (maxI a_1.Y b_2.Y)))⟩ : Rect)))), (vB true)] ⟨⟨2, _, _, _, _, _, _, _, rfl, rfl, sz45, ag45, rfl⟩, ⟨rfl, trivial⟩⟩ rfl rfl rfl)
theorem ref_WallFault_ok {wv_1 : Wall} {r : Int} (hF : ref_WallFault wv_1 = some r) :
  FnM Tryz.prog 94 [(.d (.agg (Wall.enc wv_1)))] [] (vI r) [] := by
 refine FnM.of_wH ⟨Tryz.prog, 96, [], []⟩ rfl Tryz.func94 rfl rfl (Nat.le_of_ble_eq_true rfl) (by kernel_rfl) ?_
 unfold ref_WallFault at hF
 refine wH_seq (wH_region (h_box 0 (.inl rfl) [(vS wv_1.Key), (vI wv_1.W), (vI wv_1.H), (vL Screen.enc wv_1.Screens)] rfl rfl wz (fun n_2 => h_op (vI 0) wz rfl (h_nil (wH_seq (wH_block (wH_seq (wH_region (h_far pl42_0 rfl 0 rfl wz (h_ldr 0 0 il ft sz9 ag9 rfl rfl (vS wv_1.Key) rfl wz ?_))))))))))
 obtain ⟨r_3, hr_4, hF⟩ := bind_some hF
 refine h_call0 (ref_Key_ok hr_4) rfl hb121 rfl rfl rfl rfl wz (h_op (vB (!r_3)) wz rfl (h_op (vB (!r_3)) wz rfl (h_nil ?_)))
 rcases cond_some hF with ⟨hc_5, hF⟩ | ⟨hc_5, hF⟩
 ·refine wH_ift rfl hc_5 (wH_seq (wH_region (h_op (vI 5) wz rfl (h_nil ?_))))
  obtain rfl := some_inj hF
  exact wH_ret (fin0 (.inr rfl) [(vI 5)] ⟨rfl, trivial⟩ rfl rfl rfl)
 ·refine wH_iff rfl hc_5 (wH_seq ?_)
  obtain ⟨v_6, h_7, hF⟩ := bind_some hF
  refine wH_join (β := Unit) (fun _ => ([(1, (.ref n_2 0 0)), (18, (vB v_6))] : List (Nat × V))) (fun _ => ([(n_2, some (.cells 4 [(vS wv_1.Key), (vI wv_1.W), (vI wv_1.H), (vL Screen.enc wv_1.Screens)]))] : Hp)) (fun _ => True) ?_ ?_
  ·refine wH_region (h_far pl42_1 rfl 1 rfl wz (h_ldr 0 0 il ft sz3 ag3 rfl rfl (vI wv_1.W) rfl wz ?_))
   obtain ⟨r_8, hr_9, h_7⟩ := bind_some h_7
   refine h_call0 (ref_side_ok hr_9) rfl hb176 rfl rfl rfl rfl wz (h_op (vB (!r_8)) wz rfl ?_)
   rcases cond_some h_7 with ⟨hc_10, h_7⟩ | ⟨hc_10, h_7⟩
   ·refine h_movb rfl hc_10 wz (h_skip wa (h_skip wa (h_skip wa (h_skip wa (h_op (vB true) wz rfl (h_op (vB true) wz rfl (h_nil ?_)))))))
    obtain rfl := some_inj h_7
    exact cu
   ·refine h_movb rfl hc_10 wz (h_far pl42_2 rfl 2 rfl wa (h_ldr 0 0 il ft sz3 ag3 rfl rfl (vI wv_1.H) rfl wa ?_))
    obtain ⟨r_11, hr_12, h_7⟩ := bind_some h_7
    refine h_call0 (ref_side_ok hr_12) rfl hb176 rfl rfl rfl rfl wa (h_op (vB (!r_11)) wa rfl (h_op (vB (!r_11)) wz rfl (h_op (vB (!r_11)) wz rfl (h_nil ?_))))
    obtain rfl := some_inj h_7
    exact cu
  ·rintro ⟨⟩ _ sl_ H_ hp_ hq_
   refine wH_at _ hp_ hq_ ?_
   rcases cond_some hF with ⟨hc_13, hF⟩ | ⟨hc_13, hF⟩
   ·refine wH_ift rfl hc_13 (wH_seq (wH_region (h_op (vI 1) wz rfl (h_nil ?_))))
    obtain rfl := some_inj hF
    exact wH_ret (fin0 (.inr rfl) [(vI 1)] ⟨rfl, trivial⟩ rfl rfl rfl)
   ·refine wH_iff rfl hc_13 (wH_seq (wH_region (h_far pl42_3 rfl 3 rfl wz (h_ldr 0 0 il ft sz40 ag40 rfl rfl (vL Screen.enc wv_1.Screens) rfl wz (h_len un40 rfl wz (h_op (vB (decide ((wv_1.Screens.length : Int) > 50))) wz rfl (h_op (vB (decide ((wv_1.Screens.length : Int) > 50))) wz rfl (h_nil ?_))))))))
    rcases cond_some hF with ⟨hc_14, hF⟩ | ⟨hc_14, hF⟩
    ·refine wH_ift rfl hc_14 (wH_seq (wH_region (h_op (vI 2) wz rfl (h_nil ?_))))
     obtain rfl := some_inj hF
     exact wH_ret (fin0 (.inr rfl) [(vI 2)] ⟨rfl, trivial⟩ rfl rfl rfl)
    ·refine wH_iff rfl hc_14 (wH_skip (wH_seq (wH_region (h_op (vS (⟨#[]⟩ : ByteArray)) wz rfl (h_nil (wH_seq (wH_seq (wH_region (h_far pl42_3 rfl 3 rfl wz (h_ldr 0 0 il ft sz40 ag40 rfl rfl (vL Screen.enc wv_1.Screens) rfl wz (h_len un40 rfl wz (h_op (vI 0) wz rfl (h_nil ?_)))))))))))))
     obtain ⟨o_23, hj_24, hF⟩ := bind_some hF
     obtain ⟨hn_19, hj_24⟩ := forL_some hj_24
     refine wH_join (β := (ByteArray)) (fun (s_20 : ByteArray) => ([(1, (.ref n_2 0 0))] : List (Nat × V))) (fun (s_20 : ByteArray) => ([(n_2, some (.cells 4 [(vS wv_1.Key), (vI wv_1.W), (vI wv_1.H), (vL Screen.enc wv_1.Screens)]))] : Hp)) (fun p => o_23 = .go p) ?_ ?_
     ·refine wH_block (wH_loop (β := Nat × (List Screen) × (ByteArray)) (fun p => (fun (k_15 : Nat) (l_16 : List Screen) (s_20 : ByteArray) => ([(1, (.ref n_2 0 0)), (3, (vS s_20)), (35, (vL Screen.enc wv_1.Screens)), (36, (vI (wv_1.Screens.length : Int))), (37, (vI (k_15 : Int)))] : List (Nat × V))) p.1 p.2.1 p.2.2) (fun p => (fun (k_15 : Nat) (l_16 : List Screen) (s_20 : ByteArray) => ([(n_2, some (.cells 4 [(vS wv_1.Key), (vI wv_1.W), (vI wv_1.H), (vL Screen.enc wv_1.Screens)]))] : Hp)) p.1 p.2.1 p.2.2) (fun p => forR (fun k x s => ref_WallFault_L1 wv_1 k x s) p.2.1 p.1 p.2.2 = some o_23 ∧ (wv_1.Screens).drop p.1 = p.2.1) (fun p => p.2.1.length) (0, wv_1.Screens, (⟨#[]⟩ : ByteArray)) ⟨hj_24, rfl⟩ rfl (pre_r rfl) ?_)
      rintro ⟨k_15, l_16, s_20⟩ ⟨hL_22, hD_18⟩
      dsimp only at hL_22 hD_18
      cases l_16 with
      | nil =>
       obtain rfl := some_inj hL_22
       refine wH_seq (wH_region (h_op (vB (decide ((k_15 : Int) < (wv_1.Screens.length : Int)))) wz rfl (h_nil ?_)))
       refine wH_seq (wH_iff rfl (drop_nil hD_18) (wH_exit ?_))
       exact cut_mk (s_20) rfl rfl (pre_r rfl)
      | cons x_17 l_16 =>
       obtain ⟨c_, hc_21, hL_22⟩ := bind_some hL_22
       refine wH_seq (wH_region (h_op (vB (decide ((k_15 : Int) < (wv_1.Screens.length : Int)))) wz rfl (h_nil ?_)))
       refine wH_seq (wH_ift rfl (drop_cons hD_18) (wH_skip ?_))
       unfold ref_WallFault_L1 at hc_21
       refine wH_seq (wH_block (wH_seq (wH_region (h_ia es40 rfl rfl (drop_idx hD_18) rfl wz (h_ldc sz139 ag139 rfl (.d (.agg (Screen.enc x_17))) rfl wz (h_alloc 0 (.inl rfl) z139 rfl wz (fun n_25 => h_str 0 il ft 1 sz139 rfl rfl [(vS x_17.Key), (vI x_17.On.X), (vI x_17.On.Y), (vI x_17.On.W), (vI x_17.On.H)] rfl wz (h_nil (wH_seq (wH_seq (wH_region (h_far pl139_0 rfl 0 rfl wz (h_ldr 0 1 il ft sz9 ag9 rfl rfl (vS x_17.Key) rfl wz ?_)))))))))))))
       obtain ⟨r_26, hr_27, hc_21⟩ := bind_some hc_21
       refine h_call0 (ref_Key_ok hr_27) rfl hb121 rfl rfl rfl rfl wz (h_op (vB (!r_26)) wz rfl (h_nil ?_))
       rcases cond_some hc_21 with ⟨hc_28, hc_21⟩ | ⟨hc_28, hc_21⟩
       ·refine wH_ift rfl hc_28 (wH_seq (wH_region (h_op (vI 5) wz rfl (h_nil ?_))))
        obtain rfl := some_inj hc_21
        obtain rfl := some_inj hL_22
        obtain rfl := some_inj hF
        exact wH_ret (fin0 (.inr rfl) [(vI 5)] ⟨rfl, trivial⟩ rfl rfl rfl)
       ·refine wH_iff rfl hc_28 (wH_skip (wH_seq (wH_seq (wH_region (h_far pl139_1 rfl 1 rfl wz (h_ldr 0 1 il ft sz45 ag45 rfl rfl (.d (.agg (Rect.enc x_17.On))) rfl wz ?_))))))
        obtain ⟨r_29, hr_30, hc_21⟩ := bind_some hc_21
        refine h_call0 (ref_RectFault_ok hr_30) rfl hb177 rfl rfl rfl rfl wz (h_op (vI r_29) wz rfl (h_nil (wH_seq (wH_region (h_op (vI r_29) wz rfl (h_op (vB (r_29 != 0)) wz rfl (h_nil ?_)))))))
        rcases cond_some hc_21 with ⟨hc_31, hc_21⟩ | ⟨hc_31, hc_21⟩
        ·refine wH_ift rfl hc_31 (wH_seq (wH_region (h_op (vI r_29) wz rfl (h_op (vI r_29) wz rfl (h_nil ?_)))))
         obtain rfl := some_inj hc_21
         obtain rfl := some_inj hL_22
         obtain rfl := some_inj hF
         exact wH_ret (fin0 (.inr rfl) [(vI r_29)] ⟨rfl, trivial⟩ rfl rfl rfl)
        ·refine wH_iff rfl hc_31 (wH_skip (wH_seq (wH_block (wH_seq (wH_region (h_far pl139_1 rfl 1 rfl wz (h_ldr 0 1 il ft sz45 ag45 rfl rfl (.d (.agg (Rect.enc x_17.On))) rfl wz (h_far pl42_1 rfl 1 rfl wz (h_ldr 0 0 il ft sz3 ag3 rfl rfl (vI wv_1.W) rfl wz (h_far pl42_2 rfl 2 rfl wz (h_ldr 0 0 il ft sz3 ag3 rfl rfl (vI wv_1.H) rfl wz ?_)))))))))))
         obtain ⟨r_32, hr_33, hc_21⟩ := bind_some hc_21
         refine h_call0 (ref_within_ok hr_33) rfl hb178 rfl rfl rfl rfl wz (h_op (vB (!r_32)) wz rfl (h_op (vB (!r_32)) wz rfl (h_nil ?_)))
         rcases cond_some hc_21 with ⟨hc_34, hc_21⟩ | ⟨hc_34, hc_21⟩
         ·refine wH_ift rfl hc_34 (wH_seq (wH_region (h_op (vI 3) wz rfl (h_nil ?_))))
          obtain rfl := some_inj hc_21
          obtain rfl := some_inj hL_22
          obtain rfl := some_inj hF
          exact wH_ret (fin0 (.inr rfl) [(vI 3)] ⟨rfl, trivial⟩ rfl rfl rfl)
         ·refine wH_iff rfl hc_34 (wH_seq (wH_region (h_far pl139_0 rfl 0 rfl wz (h_ldr 0 1 il ft sz9 ag9 rfl rfl (vS x_17.Key) rfl wz (h_op (vS s_20) wz rfl (h_op (vB (sLe x_17.Key s_20)) wz rfl (h_op (vB (sLe x_17.Key s_20)) wz rfl (h_nil ?_))))))))
          rcases cond_some hc_21 with ⟨hc_35, hc_21⟩ | ⟨hc_35, hc_21⟩
          ·refine wH_ift rfl hc_35 (wH_seq (wH_region (h_op (vI 7) wz rfl (h_nil ?_))))
           obtain rfl := some_inj hc_21
           obtain rfl := some_inj hL_22
           obtain rfl := some_inj hF
           exact wH_ret (fin0 (.inr rfl) [(vI 7)] ⟨rfl, trivial⟩ rfl rfl rfl)
          ·refine wH_iff rfl hc_35 (wH_skip (wH_region (h_far pl139_0 rfl 0 rfl wz (h_ldr 0 1 il ft sz9 ag9 rfl rfl (vS x_17.Key) rfl wz (h_op (vS x_17.Key) wz rfl (h_nil (wH_at (H0 := ([(n_2, some (.cells 4 [(vS wv_1.Key), (vI wv_1.W), (vI wv_1.H), (vL Screen.enc wv_1.Screens)])), (n_25, some (.cells 5 [(vS x_17.Key), (vI x_17.On.X), (vI x_17.On.Y), (vI x_17.On.W), (vI x_17.On.H)]))] : Hp)) ([(1, (.ref n_2 0 0)), (3, (vS x_17.Key)), (35, (vL Screen.enc wv_1.Screens)), (36, (vI (wv_1.Screens.length : Int))), (37, (vI (k_15 : Int)))] : List (Nat × V)) (by kernel_rfl) (pre_mk (by kernel_rfl)) (wH_region (h_opw (w64_next hD_18 hn_19) wz rfl (h_op (vI ((k_15 + 1 : Nat) : Int)) wz rfl (h_nil ?_)))))))))))
           obtain rfl := some_inj hc_21
           exact loop_mk (k_15 + 1, l_16, x_17.Key) ⟨hL_22, drop_next hD_18⟩ (Nat.lt_succ_self _) rfl (pre_r rfl)
     ·rintro s_20 ho_ sl_ H_ hp_ hq_
      subst ho_
      refine wH_at _ hp_ hq_ (wH_seq (wH_seq (wH_region (h_far pl42_3 rfl 3 rfl wz (h_ldr 0 0 il ft sz40 ag40 rfl rfl (vL Screen.enc wv_1.Screens) rfl wz (h_len un40 rfl wz (h_op (vI 0) wz rfl (h_nil ?_))))))))
      obtain ⟨o_44, hj_45, hF⟩ := bind_some hF
      obtain ⟨hn_40, hj_45⟩ := forL_some hj_45
      refine wH_join (β := (Unit)) (fun (s_41 : Unit) => ([] : List (Nat × V))) (fun (s_41 : Unit) => ([(n_2, some (.cells 4 [(vS wv_1.Key), (vI wv_1.W), (vI wv_1.H), (vL Screen.enc wv_1.Screens)]))] : Hp)) (fun p => o_44 = .go p) ?_ ?_
      ·refine wH_block (wH_loop (β := Nat × (List Screen) × (Unit)) (fun p => (fun (k_36 : Nat) (l_37 : List Screen) (s_41 : Unit) => ([(1, (.ref n_2 0 0)), (69, (vL Screen.enc wv_1.Screens)), (70, (vI (wv_1.Screens.length : Int))), (71, (vI (k_36 : Int)))] : List (Nat × V))) p.1 p.2.1 p.2.2) (fun p => (fun (k_36 : Nat) (l_37 : List Screen) (s_41 : Unit) => ([(n_2, some (.cells 4 [(vS wv_1.Key), (vI wv_1.W), (vI wv_1.H), (vL Screen.enc wv_1.Screens)]))] : Hp)) p.1 p.2.1 p.2.2) (fun p => forR (fun k x s => ref_WallFault_L3 wv_1 k x s) p.2.1 p.1 p.2.2 = some o_44 ∧ (wv_1.Screens).drop p.1 = p.2.1) (fun p => p.2.1.length) (0, wv_1.Screens, ()) ⟨hj_45, rfl⟩ rfl (pre_r rfl) ?_)
       rintro ⟨k_36, l_37, s_41⟩ ⟨hL_43, hD_39⟩
       dsimp only at hL_43 hD_39
       cases l_37 with
       | nil =>
        obtain rfl := some_inj hL_43
        refine wH_seq (wH_region (h_op (vB (decide ((k_36 : Int) < (wv_1.Screens.length : Int)))) wz rfl (h_nil ?_)))
        refine wH_seq (wH_iff rfl (drop_nil hD_39) (wH_exit ?_))
        exact cut_mk (s_41) rfl rfl (pre_r rfl)
       | cons x_38 l_37 =>
        obtain ⟨c_, hc_42, hL_43⟩ := bind_some hL_43
        refine wH_seq (wH_region (h_op (vB (decide ((k_36 : Int) < (wv_1.Screens.length : Int)))) wz rfl (h_nil ?_)))
        refine wH_seq (wH_ift rfl (drop_cons hD_39) (wH_skip ?_))
        unfold ref_WallFault_L3 at hc_42
        refine wH_seq (wH_block (wH_seq (wH_region (h_op (vI (k_36 : Int)) wz rfl (h_ia es40 rfl rfl (drop_idx hD_39) rfl wz (h_ldc sz139 ag139 rfl (.d (.agg (Screen.enc x_38))) rfl wz (h_alloc 0 (.inl rfl) z139 rfl wz (fun n_46 => h_op (vI (k_36 : Int)) wz rfl (h_str 0 il ft 1 sz139 rfl rfl [(vS x_38.Key), (vI x_38.On.X), (vI x_38.On.Y), (vI x_38.On.W), (vI x_38.On.H)] rfl wz (h_nil (wH_seq (wH_region (h_far pl42_3 rfl 3 rfl wz (h_ldr 0 0 il ft sz40 ag40 rfl rfl (vL Screen.enc wv_1.Screens) rfl wz (h_op (vI (k_36 : Int)) wz rfl ?_)))))))))))))))
        obtain ⟨y_47, hy_48, hc_42⟩ := bind_some hc_42
        refine h_sublFalseTrue un40 sz139 (fun _ => rfl) rfl rfl hy_48 wz (h_len un40 rfl wz (h_op (vI 0) wz rfl (h_nil ?_)))
        obtain ⟨o_57, hj_58, hc_42⟩ := bind_some hc_42
        obtain ⟨hn_53, hj_58⟩ := forL_some hj_58
        refine wH_join (β := (Unit)) (fun (s_54 : Unit) => ([(1, (.ref n_2 0 0)), (69, (vL Screen.enc wv_1.Screens)), (70, (vI (wv_1.Screens.length : Int))), (71, (vI (k_36 : Int)))] : List (Nat × V))) (fun (s_54 : Unit) => ([(n_2, some (.cells 4 [(vS wv_1.Key), (vI wv_1.W), (vI wv_1.H), (vL Screen.enc wv_1.Screens)])), (n_46, some (.cells 5 [(vS x_38.Key), (vI x_38.On.X), (vI x_38.On.Y), (vI x_38.On.W), (vI x_38.On.H)]))] : Hp)) (fun p => o_57 = .go p) ?_ ?_
        ·refine wH_block (wH_loop (β := Nat × (List Screen) × (Unit)) (fun p => (fun (k_49 : Nat) (l_50 : List Screen) (s_54 : Unit) => ([(1, (.ref n_2 0 0)), (8, (.ref n_46 0 0)), (69, (vL Screen.enc wv_1.Screens)), (70, (vI (wv_1.Screens.length : Int))), (71, (vI (k_36 : Int))), (79, (vL Screen.enc y_47)), (80, (vI (y_47.length : Int))), (81, (vI (k_49 : Int)))] : List (Nat × V))) p.1 p.2.1 p.2.2) (fun p => (fun (k_49 : Nat) (l_50 : List Screen) (s_54 : Unit) => ([(n_2, some (.cells 4 [(vS wv_1.Key), (vI wv_1.W), (vI wv_1.H), (vL Screen.enc wv_1.Screens)])), (n_46, some (.cells 5 [(vS x_38.Key), (vI x_38.On.X), (vI x_38.On.Y), (vI x_38.On.W), (vI x_38.On.H)]))] : Hp)) p.1 p.2.1 p.2.2) (fun p => forR (fun k x s => ref_WallFault_L2 x_38 k x s) p.2.1 p.1 p.2.2 = some o_57 ∧ (y_47).drop p.1 = p.2.1) (fun p => p.2.1.length) (0, y_47, ()) ⟨hj_58, rfl⟩ rfl (pre_r rfl) ?_)
         rintro ⟨k_49, l_50, s_54⟩ ⟨hL_56, hD_52⟩
         dsimp only at hL_56 hD_52
         cases l_50 with
         | nil =>
          obtain rfl := some_inj hL_56
          refine wH_seq (wH_region (h_op (vB (decide ((k_49 : Int) < (y_47.length : Int)))) wz rfl (h_nil ?_)))
          refine wH_seq (wH_iff rfl (drop_nil hD_52) (wH_exit ?_))
          exact cut_mk (s_54) rfl rfl (pre_r rfl)
         | cons x_51 l_50 =>
          obtain ⟨c_, hc_55, hL_56⟩ := bind_some hL_56
          refine wH_seq (wH_region (h_op (vB (decide ((k_49 : Int) < (y_47.length : Int)))) wz rfl (h_nil ?_)))
          refine wH_seq (wH_ift rfl (drop_cons hD_52) (wH_skip ?_))
          unfold ref_WallFault_L2 at hc_55
          refine wH_seq (wH_block (wH_seq (wH_region (h_ia es40 rfl rfl (drop_idx hD_52) rfl wz (h_ldc sz139 ag139 rfl (.d (.agg (Screen.enc x_51))) rfl wz (h_alloc 0 (.inl rfl) z139 rfl wz (fun n_59 => h_str 0 il ft 2 sz139 rfl rfl [(vS x_51.Key), (vI x_51.On.X), (vI x_51.On.Y), (vI x_51.On.W), (vI x_51.On.H)] rfl wz (h_nil (wH_seq (wH_region (h_far pl139_1 rfl 1 rfl wz (h_ldr 0 1 il ft sz45 ag45 rfl rfl (.d (.agg (Rect.enc x_38.On))) rfl wz (h_far pl139_1 rfl 1 rfl wz (h_ldr 0 2 il ft sz45 ag45 rfl rfl (.d (.agg (Rect.enc x_51.On))) rfl wz ?_))))))))))))))
          obtain ⟨r_60, hr_61, hc_55⟩ := bind_some hc_55
          refine h_call0 (ref_MeetOf_ok hr_61) rfl hb179 rfl rfl rfl rfl wz (h_op (.tup [(.d (.agg (Rect.enc r_60.1))), (vB r_60.2)]) wz rfl (h_op (.d (.agg (Rect.enc r_60.1))) wz rfl (h_op (vB r_60.2) wz rfl (h_alloc 0 (.inl rfl) z45 rfl wz (fun n_62 => h_str 0 il ft 3 sz45 rfl rfl [(vI r_60.1.X), (vI r_60.1.Y), (vI r_60.1.W), (vI r_60.1.H)] rfl wz (h_op (vB r_60.2) wz rfl (h_nil (wH_seq (wH_region (h_op (vB r_60.2) wz rfl (h_nil ?_)))))))))))
          rcases cond_some hc_55 with ⟨hc_63, hc_55⟩ | ⟨hc_63, hc_55⟩
          ·refine wH_ift rfl hc_63 (wH_seq (wH_region (h_op (vI 13) wz rfl (h_nil ?_))))
           obtain rfl := some_inj hc_55
           obtain rfl := some_inj hL_56
           obtain rfl := some_inj hc_42
           obtain rfl := some_inj hL_43
           obtain rfl := some_inj hF
           exact wH_ret (fin0 (.inr rfl) [(vI 13)] ⟨rfl, trivial⟩ rfl rfl rfl)
          ·refine wH_iff rfl hc_63 (wH_skip (wH_region (h_opw (w64_next hD_52 hn_53) wz rfl (h_op (vI ((k_49 + 1 : Nat) : Int)) wz rfl (h_nil ?_)))))
           obtain rfl := some_inj hc_55
           exact loop_mk (k_49 + 1, l_50, ()) ⟨hL_56, drop_next hD_52⟩ (Nat.lt_succ_self _) rfl (pre_r rfl)
        ·rintro s_54 ho_ sl_ H_ hp_ hq_
         subst ho_
         refine wH_at _ hp_ hq_ (wH_region (h_opw (w64_next hD_39 hn_40) wz rfl (h_op (vI ((k_36 + 1 : Nat) : Int)) wz rfl (h_nil ?_))))
         obtain rfl := some_inj hc_42
         exact loop_mk (k_36 + 1, l_37, ()) ⟨hL_43, drop_next hD_39⟩ (Nat.lt_succ_self _) rfl (pre_r rfl)
      ·rintro s_41 ho_ sl_ H_ hp_ hq_
       subst ho_
       refine wH_at _ hp_ hq_ (wH_seq (wH_region (h_op (vI 0) wz rfl (h_nil ?_))))
       obtain rfl := some_inj hF
       exact wH_ret (fin0 (.inr rfl) [(vI 0)] ⟨rfl, trivial⟩ rfl rfl rfl)
theorem mk_Stream_RightWall_ok {s_1 : Stream} {r : Wall × Stream} (hF : mk_Stream_RightWall s_1 = some r) :
  FnM Tryz.prog 17 [(.ref (extN 0) 0 0)] [(.cells 2 [(vL eI s_1.L), (vI s_1.f_at)])] (.d (.agg (Wall.enc r.1))) [some (.cells 2 [(vL eI r.2.L), (vI r.2.f_at)])] := by
 refine FnM.of_wH ⟨Tryz.prog, 73, [], []⟩ rfl Tryz.func17 rfl rfl (Nat.le_of_ble_eq_true rfl) (by kernel_rfl) ?_
 unfold mk_Stream_RightWall at hF
 refine wH_seq (wH_region (h_alloc 0 (.inl rfl) z42 rfl wz (fun n_2 => h_nil (wH_seq (wH_region (h_op (.ref (extN 0) 0 0) wz rfl (h_lit (([10, 20, 24, 100] : List Int).map eI) es22 ez22 rfl rfl rfl rfl rfl wz ?_)))))))
 obtain ⟨r_3, hr_4, hF⟩ := bind_some hF
 refine h_callq 0 [0] il ft (mk_Stream_Pick_ok hr_4) rfl hb34 rfl (by kernel_rfl) (by kernel_rfl) (by kernel_rfl) (by kernel_rfl) (by kernel_rfl) (by kernel_rfl) (by kernel_rfl) (by decide) (by kernel_rfl) wz (vI r_3.1) (by kernel_rfl) ([((extN 0), some (.cells 2 [(vL eI r_3.2.L), (vI r_3.2.f_at)])), (n_2, some (.cells 4 [(vS (⟨#[]⟩ : ByteArray)), (vI 0), (vI 0), .nil]))] : Hp) (by kernel_rfl) (h_op (.ref (extN 0) 0 0) wz rfl (h_lit (([6, 10, 30] : List Int).map eI) es22 ez22 rfl rfl rfl rfl rfl wz ?_))
 obtain ⟨r_6, hr_7, hF⟩ := bind_some hF
 refine h_callq 0 [0] il ft (mk_Stream_Pick_ok hr_7) rfl hb34 rfl (by kernel_rfl) (by kernel_rfl) (by kernel_rfl) (by kernel_rfl) (by kernel_rfl) (by kernel_rfl) (by kernel_rfl) (by decide) (by kernel_rfl) wz (vI r_6.1) (by kernel_rfl) ([((extN 0), some (.cells 2 [(vL eI r_6.2.L), (vI r_6.2.f_at)])), (n_2, some (.cells 4 [(vS (⟨#[]⟩ : ByteArray)), (vI 0), (vI 0), .nil]))] : Hp) (by kernel_rfl) (h_op (.agg [(vS (⟨#[119]⟩ : ByteArray)), (vI r_3.1), (vI r_6.1), .nil]) wz (by kernel_rfl) (h_alloc 0 (.inl rfl) z42 rfl wz (fun n_9 => h_str 0 il ft 2 sz42 rfl rfl [(vS (⟨#[119]⟩ : ByteArray)), (vI r_3.1), (vI r_6.1), .nil] rfl wz (h_nil (wH_seq (wH_seq (wH_region (h_lit (([(⟨#[115, 97]⟩ : ByteArray), (⟨#[115, 98]⟩ : ByteArray), (⟨#[115, 99]⟩ : ByteArray), (⟨#[115, 100]⟩ : ByteArray)] : List ByteArray).map eS) es80 ez80 rfl rfl rfl rfl rfl wz (h_len un80 rfl wz (h_op (vI 0) wz rfl (h_nil (wH_coc0 2 [(vS (⟨#[119]⟩ : ByteArray)), (vI r_3.1), (vI r_6.1), (vL Screen.enc ([] : List Screen))] rfl (fun S => cons_eq (rfl) (cons_eq (rfl) (cons_eq (rfl) (cons_eq (rfl) (rfl))))) ?_))))))))))))
 obtain ⟨o_18, hj_19, hF⟩ := bind_some hF
 obtain ⟨hn_14, hj_19⟩ := forL_some hj_19
 refine wH_join (β := ((List Int) × Int × (List Screen))) (fun (s_15 : (List Int) × Int × (List Screen)) => ([(2, (.ref n_2 0 0)), (3, (.ref n_9 0 0))] : List (Nat × V))) (fun (s_15 : (List Int) × Int × (List Screen)) => ([((extN 0), some (.cells 2 [(vL eI s_15.1), (vI s_15.2.1)])), (n_2, some (.cells 4 [(vS (⟨#[]⟩ : ByteArray)), (vI 0), (vI 0), .nil])), (n_9, some (.cells 4 [(vS (⟨#[119]⟩ : ByteArray)), (vI r_3.1), (vI r_6.1), (vL Screen.enc s_15.2.2)]))] : Hp)) (fun p => o_18 = .go p) ?_ ?_
 ·refine wH_block (wH_loop (β := Nat × (List ByteArray) × ((List Int) × Int × (List Screen))) (fun p => (fun (k_10 : Nat) (l_11 : List ByteArray) (s_15 : (List Int) × Int × (List Screen)) => ([(0, (.ref (extN 0) 0 0)), (2, (.ref n_2 0 0)), (3, (.ref n_9 0 0)), (16, (vL eS ([(⟨#[115, 97]⟩ : ByteArray), (⟨#[115, 98]⟩ : ByteArray), (⟨#[115, 99]⟩ : ByteArray), (⟨#[115, 100]⟩ : ByteArray)] : List ByteArray))), (17, (vI (([(⟨#[115, 97]⟩ : ByteArray), (⟨#[115, 98]⟩ : ByteArray), (⟨#[115, 99]⟩ : ByteArray), (⟨#[115, 100]⟩ : ByteArray)] : List ByteArray).length : Int))), (18, (vI (k_10 : Int)))] : List (Nat × V))) p.1 p.2.1 p.2.2) (fun p => (fun (k_10 : Nat) (l_11 : List ByteArray) (s_15 : (List Int) × Int × (List Screen)) => ([((extN 0), some (.cells 2 [(vL eI s_15.1), (vI s_15.2.1)])), (n_2, some (.cells 4 [(vS (⟨#[]⟩ : ByteArray)), (vI 0), (vI 0), .nil])), (n_9, some (.cells 4 [(vS (⟨#[119]⟩ : ByteArray)), (vI r_3.1), (vI r_6.1), (vL Screen.enc s_15.2.2)]))] : Hp)) p.1 p.2.1 p.2.2) (fun p => forR (fun k x s => mk_Stream_RightWall_L1 r_3 r_6 k x s) p.2.1 p.1 p.2.2 = some o_18 ∧ (([(⟨#[115, 97]⟩ : ByteArray), (⟨#[115, 98]⟩ : ByteArray), (⟨#[115, 99]⟩ : ByteArray), (⟨#[115, 100]⟩ : ByteArray)] : List ByteArray)).drop p.1 = p.2.1) (fun p => p.2.1.length) (0, ([(⟨#[115, 97]⟩ : ByteArray), (⟨#[115, 98]⟩ : ByteArray), (⟨#[115, 99]⟩ : ByteArray), (⟨#[115, 100]⟩ : ByteArray)] : List ByteArray), (r_6.2.L, r_6.2.f_at, ([] : List Screen))) ⟨hj_19, rfl⟩ rfl (pre_r rfl) ?_)
  rintro ⟨k_10, l_11, s_15⟩ ⟨hL_17, hD_13⟩
  dsimp only at hL_17 hD_13
  cases l_11 with
  | nil =>
   obtain rfl := some_inj hL_17
   refine wH_seq (wH_region (h_op (vB (decide ((k_10 : Int) < (([(⟨#[115, 97]⟩ : ByteArray), (⟨#[115, 98]⟩ : ByteArray), (⟨#[115, 99]⟩ : ByteArray), (⟨#[115, 100]⟩ : ByteArray)] : List ByteArray).length : Int)))) wz rfl (h_nil ?_)))
   refine wH_seq (wH_iff rfl (drop_nil hD_13) (wH_exit ?_))
   exact cut_mk (s_15) rfl rfl (pre_r rfl)
  | cons x_12 l_11 =>
   obtain ⟨c_, hc_16, hL_17⟩ := bind_some hL_17
   refine wH_seq (wH_region (h_op (vB (decide ((k_10 : Int) < (([(⟨#[115, 97]⟩ : ByteArray), (⟨#[115, 98]⟩ : ByteArray), (⟨#[115, 99]⟩ : ByteArray), (⟨#[115, 100]⟩ : ByteArray)] : List ByteArray).length : Int)))) wz rfl (h_nil ?_)))
   refine wH_seq (wH_ift rfl (drop_cons hD_13) (wH_skip ?_))
   unfold mk_Stream_RightWall_L1 at hc_16
   refine wH_seq (wH_block (wH_seq (wH_region (h_ia es80 rfl rfl (drop_idx hD_13) rfl wz (h_ldc sz9 ag9 rfl (vS x_12) rfl wz (h_op (vS x_12) wz rfl (h_nil (wH_seq (wH_draws (h_op (vS x_12) wz rfl (h_op (.ref (extN 0) 0 0) wz rfl (h_far pl42_1 rfl 1 rfl wz (h_ldr 3 2 (.inr (by kernel_rfl)) (fun _ _ ag => trivial) sz3 ag3 rfl rfl (vI r_3.1) rfl wz (h_op (vI (w64 (r_3.1 - 1))) wz rfl ?_))))))))))))))
   obtain ⟨r_20, hr_21, hc_16⟩ := bind_some hc_16
   refine h_callq 5 [0] (.inr (by kernel_rfl)) (fun _ _ ag => by exact ⟨.inr (.inr (by kernel_rfl)), trivial⟩) (mk_Stream_Range_ok hr_21) rfl hb13 rfl (by kernel_rfl) (by kernel_rfl) (by kernel_rfl) (by kernel_rfl) (by kernel_rfl) (by kernel_rfl) (by kernel_rfl) (by decide) (by kernel_rfl) wz (vI r_20.1) (by kernel_rfl) ([((extN 0), some (.cells 2 [(vL eI r_20.2.L), (vI r_20.2.f_at)])), (n_2, some (.cells 4 [(vS (⟨#[]⟩ : ByteArray)), (vI 0), (vI 0), .nil])), (n_9, some (.cells 4 [(vS (⟨#[119]⟩ : ByteArray)), (vI r_3.1), (vI r_6.1), (vL Screen.enc s_15.2.2)]))] : Hp) (by kernel_rfl) (h_op (.ref (extN 0) 0 0) wz rfl (h_far pl42_2 rfl 2 rfl wz (h_ldr 8 2 (.inr (by kernel_rfl)) (fun _ _ ag => ⟨.inl ⟨rfl, rfl⟩, ⟨.inr (.inl (dis1 (ag_ne ag (i := 2) (j := 0) rfl rfl (by decide)))), trivial⟩⟩) sz3 ag3 rfl rfl (vI r_6.1) rfl wz (h_op (vI (w64 (r_6.1 - 1))) wz rfl ?_))))
   obtain ⟨r_23, hr_24, hc_16⟩ := bind_some hc_16
   refine h_callq 10 [0] (.inr (by kernel_rfl)) (fun _ _ ag => by exact ⟨.inr (.inr (by kernel_rfl)), ⟨.inr (.inr (by kernel_rfl)), ⟨.inr (.inr (by kernel_rfl)), trivial⟩⟩⟩) (mk_Stream_Range_ok hr_24) rfl hb13 rfl (by kernel_rfl) (by kernel_rfl) (by kernel_rfl) (by kernel_rfl) (by kernel_rfl) (by kernel_rfl) (by kernel_rfl) (by decide) (by kernel_rfl) wz (vI r_23.1) (by kernel_rfl) ([((extN 0), some (.cells 2 [(vL eI r_23.2.L), (vI r_23.2.f_at)])), (n_2, some (.cells 4 [(vS (⟨#[]⟩ : ByteArray)), (vI 0), (vI 0), .nil])), (n_9, some (.cells 4 [(vS (⟨#[119]⟩ : ByteArray)), (vI r_3.1), (vI r_6.1), (vL Screen.enc s_15.2.2)]))] : Hp) (by kernel_rfl) (h_op (.d (.agg (Rect.enc (⟨r_20.1, r_23.1, 0, 0⟩ : Rect)))) wz (by kernel_rfl) (h_op (.d (.agg (Screen.enc (⟨x_12, (⟨r_20.1, r_23.1, 0, 0⟩ : Rect)⟩ : Screen)))) wz (by kernel_rfl) (h_alloc 13 (.inr (by kernel_rfl)) z139 rfl wz (fun n_26 => h_str 14 (.inr (by kernel_rfl)) (fun _ _ ag => ⟨.inr (.inr (by kernel_rfl)), ⟨.inr (.inr (by kernel_rfl)), ⟨.inr (.inr (by kernel_rfl)), ⟨.inr (.inr (by kernel_rfl)), ⟨.inr (.inr (by kernel_rfl)), trivial⟩⟩⟩⟩⟩) 3 sz139 rfl rfl [(vS x_12), (vI r_20.1), (vI r_23.1), (vI 0), (vI 0)] rfl wz (h_nil (wH_seq (wH_draws (h_op (.ref (extN 0) 0 0) wz rfl (h_far pl42_1 rfl 1 rfl wz (h_ldr 2 2 (.inr (by kernel_rfl)) (fun _ _ ag => trivial) sz3 ag3 rfl rfl (vI r_3.1) rfl wz (h_far pl139_1 rfl 1 rfl wz (h_far pl45_0 rfl 1 rfl wz (h_ldr 5 3 (.inr (by kernel_rfl)) (fun _ _ ag => ⟨.inl ⟨rfl, rfl⟩, trivial⟩) sz3 ag3 rfl rfl (vI r_20.1) rfl wz (h_op (vI (w64 (r_3.1 - r_20.1))) wz rfl ?_))))))))))))))
   obtain ⟨r_27, hr_28, hc_16⟩ := bind_some hc_16
   refine h_callq 7 [0] (.inr (by kernel_rfl)) (fun _ _ ag => by exact ⟨.inr (.inr (by kernel_rfl)), ⟨.inr (.inr (by kernel_rfl)), trivial⟩⟩) (mk_Stream_Range_ok hr_28) rfl hb13 rfl (by kernel_rfl) (by kernel_rfl) (by kernel_rfl) (by kernel_rfl) (by kernel_rfl) (by kernel_rfl) (by kernel_rfl) (by decide) (by kernel_rfl) wz (vI r_27.1) (by kernel_rfl) ([((extN 0), some (.cells 2 [(vL eI r_27.2.L), (vI r_27.2.f_at)])), (n_2, some (.cells 4 [(vS (⟨#[]⟩ : ByteArray)), (vI 0), (vI 0), .nil])), (n_9, some (.cells 4 [(vS (⟨#[119]⟩ : ByteArray)), (vI r_3.1), (vI r_6.1), (vL Screen.enc s_15.2.2)])), (n_26, some (.cells 5 [(vS x_12), (vI r_20.1), (vI r_23.1), (vI 0), (vI 0)]))] : Hp) (by kernel_rfl) (h_op (.ref (extN 0) 0 0) wz rfl (h_far pl42_2 rfl 2 rfl wz (h_ldr 10 2 (.inr (by kernel_rfl)) (fun _ _ ag => ⟨.inl ⟨rfl, rfl⟩, ⟨.inl ⟨rfl, rfl⟩, ⟨.inr (.inl (dis1 (ag_ne ag (i := 2) (j := 0) rfl rfl (by decide)))), trivial⟩⟩⟩) sz3 ag3 rfl rfl (vI r_6.1) rfl wz (h_far pl139_1 rfl 1 rfl wz (h_far pl45_1 rfl 2 rfl wz (h_ldr 13 3 (.inr (by kernel_rfl)) (fun _ _ ag => ⟨.inl ⟨rfl, rfl⟩, ⟨.inl ⟨rfl, rfl⟩, ⟨.inr (.inl (dis1 (ag_ne ag (i := 3) (j := 0) rfl rfl (by decide)))), ⟨.inl ⟨rfl, rfl⟩, trivial⟩⟩⟩⟩) sz3 ag3 rfl rfl (vI r_23.1) rfl wz (h_op (vI (w64 (r_6.1 - r_23.1))) wz rfl ?_)))))))
   obtain ⟨r_30, hr_31, hc_16⟩ := bind_some hc_16
   refine h_callq 15 [0] (.inr (by kernel_rfl)) (fun _ _ ag => by exact ⟨.inr (.inr (by kernel_rfl)), ⟨.inr (.inr (by kernel_rfl)), ⟨.inr (.inr (by kernel_rfl)), ⟨.inr (.inr (by kernel_rfl)), ⟨.inr (.inr (by kernel_rfl)), trivial⟩⟩⟩⟩⟩) (mk_Stream_Range_ok hr_31) rfl hb13 rfl (by kernel_rfl) (by kernel_rfl) (by kernel_rfl) (by kernel_rfl) (by kernel_rfl) (by kernel_rfl) (by kernel_rfl) (by decide) (by kernel_rfl) wz (vI r_30.1) (by kernel_rfl) ([((extN 0), some (.cells 2 [(vL eI r_30.2.L), (vI r_30.2.f_at)])), (n_2, some (.cells 4 [(vS (⟨#[]⟩ : ByteArray)), (vI 0), (vI 0), .nil])), (n_9, some (.cells 4 [(vS (⟨#[119]⟩ : ByteArray)), (vI r_3.1), (vI r_6.1), (vL Screen.enc s_15.2.2)])), (n_26, some (.cells 5 [(vS x_12), (vI r_20.1), (vI r_23.1), (vI 0), (vI 0)]))] : Hp) (by kernel_rfl) (h_far pl139_1 rfl 1 rfl wz (h_far pl45_2 rfl 3 rfl wz (h_str 18 (.inr (by kernel_rfl)) (fun _ _ ag => ⟨.inr (.inr (by kernel_rfl)), ⟨.inr (.inr (by kernel_rfl)), ⟨.inr (.inr (by kernel_rfl)), ⟨.inr (.inr (by kernel_rfl)), ⟨.inr (.inr (by kernel_rfl)), ⟨.inr (.inr (by kernel_rfl)), trivial⟩⟩⟩⟩⟩⟩) 3 sz3 rfl rfl [(vS x_12), (vI r_20.1), (vI r_23.1), (vI r_27.1), (vI 0)] rfl wz (h_far pl139_1 rfl 1 rfl wz (h_far pl45_3 rfl 4 rfl wz (h_str 21 (.inr (by kernel_rfl)) (fun _ _ ag => ⟨.inr (.inr (by kernel_rfl)), ⟨.inr (.inr (by kernel_rfl)), ⟨.inr (.inr (by kernel_rfl)), ⟨.inr (.inr (by kernel_rfl)), ⟨.inr (.inr (by kernel_rfl)), ⟨.inr (.inr (by kernel_rfl)), ⟨.inr (.inr (by kernel_rfl)), trivial⟩⟩⟩⟩⟩⟩⟩) 3 sz3 rfl rfl [(vS x_12), (vI r_20.1), (vI r_23.1), (vI r_27.1), (vI r_30.1)] rfl wz (h_nil (wH_at (H0 := ([((extN 0), some (.cells 2 [(vL eI r_30.2.L), (vI r_30.2.f_at)])), (n_2, some (.cells 4 [(vS (⟨#[]⟩ : ByteArray)), (vI 0), (vI 0), .nil])), (n_9, some (.cells 4 [(vS (⟨#[119]⟩ : ByteArray)), (vI r_3.1), (vI r_6.1), (vL Screen.enc s_15.2.2)])), (n_26, some (.cells 5 [(vS x_12), (vI r_20.1), (vI r_23.1), (vI r_27.1), (vI r_30.1)]))] : Hp)) ([(0, (.ref (extN 0) 0 0)), (2, (.ref n_2 0 0)), (3, (.ref n_9 0 0)), (6, (.ref n_26 0 0)), (16, (vL eS ([(⟨#[115, 97]⟩ : ByteArray), (⟨#[115, 98]⟩ : ByteArray), (⟨#[115, 99]⟩ : ByteArray), (⟨#[115, 100]⟩ : ByteArray)] : List ByteArray))), (17, (vI (([(⟨#[115, 97]⟩ : ByteArray), (⟨#[115, 98]⟩ : ByteArray), (⟨#[115, 99]⟩ : ByteArray), (⟨#[115, 100]⟩ : ByteArray)] : List ByteArray).length : Int))), (18, (vI (k_10 : Int)))] : List (Nat × V)) (by kernel_rfl) (pre_mk (by kernel_rfl)) (wH_seq (wH_draws (h_far pl42_3 rfl 3 rfl wz (h_ldr 1 2 (.inr (by kernel_rfl)) (fun _ _ ag => trivial) sz40 ag40 rfl rfl (vL Screen.enc s_15.2.2) rfl wz ?_))))))))))))
   obtain ⟨r_33, hr_34, hc_16⟩ := bind_some hc_16
   refine h_callgq 2 (.inr (by kernel_rfl)) (slices_Clone_api_Screen_api_Screen_okb hr_34) rfl hb93 (by kernel_rfl) (by kernel_rfl) (by kernel_rfl) wz (fun n_35 => h_ldr 3 3 (.inr (by kernel_rfl)) (fun _ _ ag => ⟨.inl ⟨rfl, rfl⟩, ⟨.inr (.inl (dis1 (ag_ne ag (i := 3) (j := 4) rfl rfl (by decide)))), trivial⟩⟩) sz139 ag139 rfl rfl (.d (.agg (Screen.enc (⟨x_12, (⟨r_20.1, r_23.1, r_27.1, r_30.1⟩ : Rect)⟩ : Screen)))) rfl wz (h_lit (([(⟨x_12, (⟨r_20.1, r_23.1, r_27.1, r_30.1⟩ : Rect)⟩ : Screen)] : List Screen).map Screen.enc) es40 ez40 rfl rfl rfl rfl rfl wz ?_))
   obtain ⟨a_36, hz_37, hc_16⟩ := bind_some hc_16
   refine h_appg 5 (.inr (by kernel_rfl)) (fun _ _ ag => ⟨.inr (.inr (by kernel_rfl)), ⟨.inr (.inr (by kernel_rfl)), ⟨.inr (.inr (by kernel_rfl)), trivial⟩⟩⟩) (i := 4) el40 el40 sz139 z139 rfl (by decide) by139 (by decide) (fun _ => rfl) rfl rfl rfl hz_37 wz (fun n_38 => h_op (gV n_38 5 a_36) wz rfl (h_nil (wH_seq (wH_region (h_ldr 0 2 il ft sz42 ag42 rfl rfl (.d (.agg (Wall.enc (⟨(⟨#[119]⟩ : ByteArray), r_3.1, r_6.1, s_15.2.2⟩ : Wall)))) rfl wz (h_alloc 0 (.inl rfl) z42 rfl wz (fun n_39 => h_str 0 il ft 5 sz42 rfl rfl [(vS (⟨#[119]⟩ : ByteArray)), (vI r_3.1), (vI r_6.1), (vL Screen.enc s_15.2.2)] rfl wz (h_nil (wH_seq (wH_region (h_op (.ref (extN 0) 0 0) wz rfl ?_)))))))))))
   obtain ⟨r_40, hr_41, hc_16⟩ := bind_some hc_16
   refine h_callq 0 [0] il ft (mk_Stream_Flip_ok hr_41) rfl hb56 rfl (by kernel_rfl) (by kernel_rfl) (by kernel_rfl) (by kernel_rfl) (by kernel_rfl) (by kernel_rfl) (by kernel_rfl) (by decide) (by kernel_rfl) wz (vB r_40.1) (by kernel_rfl) ([((extN 0), some (.cells 2 [(vL eI r_40.2.L), (vI r_40.2.f_at)])), (n_2, some (.cells 4 [(vS (⟨#[]⟩ : ByteArray)), (vI 0), (vI 0), .nil])), (n_9, some (.cells 4 [(vS (⟨#[119]⟩ : ByteArray)), (vI r_3.1), (vI r_6.1), (vL Screen.enc s_15.2.2)])), (n_26, some (.cells 5 [(vS x_12), (vI r_20.1), (vI r_23.1), (vI r_27.1), (vI r_30.1)])), (n_38, gB 5 Screen.enc a_36), (n_39, some (.cells 4 [(vS (⟨#[119]⟩ : ByteArray)), (vI r_3.1), (vI r_6.1), (vL Screen.enc s_15.2.2)]))] : Hp) (by kernel_rfl) (h_op (vB (!r_40.1)) wz rfl (h_nil ?_))
   obtain ⟨v_43, h_44, hc_16⟩ := bind_some hc_16
   refine wH_join (β := Unit) (fun _ => ([(0, (.ref (extN 0) 0 0)), (2, (.ref n_2 0 0)), (3, (.ref n_9 0 0)), (16, (vL eS ([(⟨#[115, 97]⟩ : ByteArray), (⟨#[115, 98]⟩ : ByteArray), (⟨#[115, 99]⟩ : ByteArray), (⟨#[115, 100]⟩ : ByteArray)] : List ByteArray))), (17, (vI (([(⟨#[115, 97]⟩ : ByteArray), (⟨#[115, 98]⟩ : ByteArray), (⟨#[115, 99]⟩ : ByteArray), (⟨#[115, 100]⟩ : ByteArray)] : List ByteArray).length : Int))), (18, (vI (k_10 : Int)))] : List (Nat × V))) (fun _ => ([((extN 0), some (.cells 2 [(vL eI r_40.2.L), (vI r_40.2.f_at)])), (n_2, some (.cells 4 [(vS (⟨#[]⟩ : ByteArray)), (vI 0), (vI 0), .nil])), (n_9, some (.cells 4 [(vS (⟨#[119]⟩ : ByteArray)), (vI r_3.1), (vI r_6.1), (vL Screen.enc v_43.1)])), (n_26, some (.cells 5 [(vS x_12), (vI r_20.1), (vI r_23.1), (vI r_27.1), (vI r_30.1)])), (n_39, some (.cells 4 [(vS (⟨#[119]⟩ : ByteArray)), (vI r_3.1), (vI r_6.1), (vL Screen.enc v_43.2)]))] : Hp)) (fun _ => True) ?_ ?_
   ·rcases cond_some h_44 with ⟨hc_45, h_44⟩ | ⟨hc_45, h_44⟩
    ·refine wH_ift rfl hc_45 (wH_seq (wH_region (h_op (gV n_38 5 a_36) wz rfl (h_far pl42_3 rfl 3 rfl wz (h_str 0 il ft 5 sz40 rfl rfl [(vS (⟨#[119]⟩ : ByteArray)), (vI r_3.1), (vI r_6.1), (gV n_38 5 a_36)] (stC_g rfl) wz (h_nil (wH_seq (wH_frozg 4 rfl (wH_cog 7 4 rfl rfl (wH_cog 60 4 rfl rfl (wH_cog 65 4 rfl rfl (wH_coc 4 5 [(vS (⟨#[119]⟩ : ByteArray)), (vI r_3.1), (vI r_6.1), (vL Screen.enc a_36)] rfl rfl (fun S hS => cons_eq (rfl) (cons_eq (rfl) (cons_eq (rfl) (cons_eq (hS) (rfl))))) (wH_region (h_ldr 0 5 il ft sz42 ag42 rfl rfl (.d (.agg (Wall.enc (⟨(⟨#[119]⟩ : ByteArray), r_3.1, r_6.1, a_36⟩ : Wall)))) rfl wz ?_))))))))))))))
     obtain ⟨r_46, hr_47, h_44⟩ := bind_some h_44
     refine h_call0 (ref_WallFault_ok hr_47) rfl hb94 rfl rfl rfl rfl wz (h_op (vB (r_46 == 0)) wz rfl (h_nil ?_))
     rcases cond_some h_44 with ⟨hc_48, h_44⟩ | ⟨hc_48, h_44⟩
     ·refine wH_ift rfl hc_48 (wH_region (h_ldr 0 5 il ft sz42 ag42 rfl rfl (.d (.agg (Wall.enc (⟨(⟨#[119]⟩ : ByteArray), r_3.1, r_6.1, a_36⟩ : Wall)))) rfl wz (h_str 0 il ft 2 sz42 rfl rfl [(vS (⟨#[119]⟩ : ByteArray)), (vI r_3.1), (vI r_6.1), (vL Screen.enc a_36)] rfl wz (h_nil ?_))))
      obtain rfl := some_inj h_44
      exact cut_mk () trivial rfl (pre_is [0, 1, 2, 3, 5] (by decide) rfl)
     ·refine wH_iff rfl hc_48 (wH_skip ?_)
      obtain rfl := some_inj h_44
      exact cut_mk () trivial rfl (pre_is [0, 1, 2, 3, 5] (by decide) rfl)
    ·refine wH_iff rfl hc_45 (wH_skip ?_)
     obtain rfl := some_inj h_44
     exact cut_mk () trivial rfl (pre_is [0, 1, 2, 3, 5] (by decide) rfl)
   ·rintro ⟨⟩ _ sl_ H_ hp_ hq_
    refine wH_at _ hp_ hq_ (wH_region (h_opw (w64_next hD_13 hn_14) wz rfl (h_op (vI ((k_10 + 1 : Nat) : Int)) wz rfl (h_nil ?_))))
    obtain rfl := some_inj hc_16
    exact loop_mk (k_10 + 1, l_11, (r_40.2.L, r_40.2.f_at, v_43.1)) ⟨hL_17, drop_next hD_13⟩ (Nat.lt_succ_self _) rfl (pre_r rfl)
 ·rintro s_15 ho_ sl_ H_ hp_ hq_
  subst ho_
  refine wH_at _ hp_ hq_ (wH_seq (wH_region (h_ldr 0 2 il ft sz42 ag42 rfl rfl (.d (.agg (Wall.enc (⟨(⟨#[119]⟩ : ByteArray), r_3.1, r_6.1, s_15.2.2⟩ : Wall)))) rfl wz (h_str 0 il ft 1 sz42 rfl rfl [(vS (⟨#[119]⟩ : ByteArray)), (vI r_3.1), (vI r_6.1), (vL Screen.enc s_15.2.2)] rfl wz (h_nil ?_)))))
  obtain rfl := some_inj hF
  exact wH_ret (finB (.inr rfl) [(.d (.agg (Wall.enc (⟨(⟨#[119]⟩ : ByteArray), r_3.1, r_6.1, s_15.2.2⟩ : Wall))))] _ [0] [extN 0] ⟨⟨1, _, _, _, _, _, _, _, rfl, rfl, sz42, ag42, rfl⟩, trivial⟩ (.cons (co_data rfl rfl) (.nil)) (by kernel_rfl) ⟨(by kernel_rfl), trivial⟩ (by decide) (by kernel_rfl))
end Go.Proofs.YtpojeclokolkaaaGreatDoor.Law

