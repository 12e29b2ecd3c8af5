/-
 The machine computes these plain functions (written by a program of ours).
-/
import Derived.Test.YtiekkaelpgahoaaGreatFacts
import Derived.Test.YtiekkaelpgahoaaGreatDefs
import Derived.Test.YtiekkaelpgahoaaGreatPf4
open Go Go.Eng Go.Proofs
namespace Go.Proofs.YtiekkaelpgahoaaGreat.Law
set_option maxRecDepth 100000
set_option linter.unusedVariables false
set_option maxHeartbeats 1000000
theorem ref_WallFault_ok {wv_1 : Wall} {r : Int} (hF : ref_WallFault wv_1 = some r) :
  FnM Tryz.prog 29 [(.d (.agg (Wall.enc wv_1)))] [] (vI r) [] := by
 refine FnM.of_wH ⟨Tryz.prog, 96, [], []⟩ rfl Tryz.func29 rfl rfl (Nat.le_of_ble_eq_true rfl) (by kernel_rfl) ?_
 unfold ref_WallFault at hF
 refine wH_seq (wH_region (h_box 0 (.inl rfl) [(vS wv_1.Key), (vI wv_1.W), (vI wv_1.H), (vL Screen.enc wv_1.Screens)] rfl rfl wz (fun n_2 => h_op (vI 0) wz rfl (h_nil (wH_seq (wH_block (wH_seq (wH_region (h_far pl58_0 rfl 0 rfl wz (h_ldr 0 0 (.inl rfl) (fun _ _ _ => trivial) sz9 ag9 rfl rfl (vS wv_1.Key) rfl wz ?_))))))))))
 obtain ⟨r_3, hr_4, hF⟩ := bind_some hF
 refine h_call0 (ref_Key_ok hr_4) rfl hb65 rfl rfl rfl rfl wz (h_op (vB (!r_3)) wz rfl (h_op (vB (!r_3)) wz rfl (h_nil ?_)))
 rcases cond_some hF with ⟨hc_5, hF⟩ | ⟨hc_5, hF⟩
 ·refine wH_ift rfl hc_5 (wH_seq (wH_region (h_op (vI 5) wz rfl (h_nil ?_))))
  obtain rfl := some_inj hF
  exact wH_ret (fin0 (.inr rfl) [(vI 5)] ⟨rfl, trivial⟩ rfl rfl rfl)
 ·refine wH_iff rfl hc_5 (wH_seq ?_)
  obtain ⟨v_6, h_7, hF⟩ := bind_some hF
  refine wH_join (β := Unit) (fun _ => ([(1, (.ref n_2 0 0)), (18, (vB v_6))] : List (Nat × V))) (fun _ => ([(n_2, some (.cells 4 [(vS wv_1.Key), (vI wv_1.W), (vI wv_1.H), (vL Screen.enc wv_1.Screens)]))] : Hp)) (fun _ => True) ?_ ?_
  ·refine wH_region (h_far pl58_1 rfl 1 rfl wz (h_ldr 0 0 (.inl rfl) (fun _ _ _ => trivial) sz3 ag3 rfl rfl (vI wv_1.W) rfl wz ?_))
   obtain ⟨r_8, hr_9, h_7⟩ := bind_some h_7
   refine h_call0 (ref_side_ok hr_9) rfl hb66 rfl rfl rfl rfl wz (h_op (vB (!r_8)) wz rfl ?_)
   rcases cond_some h_7 with ⟨hc_10, h_7⟩ | ⟨hc_10, h_7⟩
   ·refine h_movb rfl hc_10 wz (h_skip (wg rfl rfl rfl) (h_skip (wg rfl rfl rfl) (h_skip (wg rfl rfl rfl) (h_skip (wg rfl rfl rfl) (h_op (vB true) wz rfl (h_op (vB true) wz rfl (h_nil ?_)))))))
    obtain rfl := some_inj h_7
    exact cut_mk () trivial rfl (pre_r rfl)
   ·refine h_movb rfl hc_10 wz (h_far pl58_2 rfl 2 rfl (wg rfl rfl rfl) (h_ldr 0 0 (.inl rfl) (fun _ _ _ => trivial) sz3 ag3 rfl rfl (vI wv_1.H) rfl (wg rfl rfl rfl) ?_))
    obtain ⟨r_11, hr_12, h_7⟩ := bind_some h_7
    refine h_call0 (ref_side_ok hr_12) rfl hb66 rfl rfl rfl rfl (wg rfl rfl rfl) (h_op (vB (!r_11)) (wg rfl rfl rfl) rfl (h_op (vB (!r_11)) wz rfl (h_op (vB (!r_11)) wz rfl (h_nil ?_))))
    obtain rfl := some_inj h_7
    exact cut_mk () trivial rfl (pre_r rfl)
  ·rintro ⟨⟩ _ sl_ H_ hp_ hq_
   refine wH_at _ hp_ hq_ ?_
   rcases cond_some hF with ⟨hc_13, hF⟩ | ⟨hc_13, hF⟩
   ·refine wH_ift rfl hc_13 (wH_seq (wH_region (h_op (vI 1) wz rfl (h_nil ?_))))
    obtain rfl := some_inj hF
    exact wH_ret (fin0 (.inr rfl) [(vI 1)] ⟨rfl, trivial⟩ rfl rfl rfl)
   ·refine wH_iff rfl hc_13 (wH_seq (wH_region (h_far pl58_3 rfl 3 rfl wz (h_ldr 0 0 (.inl rfl) (fun _ _ _ => trivial) sz56 ag56 rfl rfl (vL Screen.enc wv_1.Screens) rfl wz (h_len un56 rfl wz (h_op (vB (decide ((wv_1.Screens.length : Int) > 50))) wz rfl (h_op (vB (decide ((wv_1.Screens.length : Int) > 50))) wz rfl (h_nil ?_))))))))
    rcases cond_some hF with ⟨hc_14, hF⟩ | ⟨hc_14, hF⟩
    ·refine wH_ift rfl hc_14 (wH_seq (wH_region (h_op (vI 2) wz rfl (h_nil ?_))))
     obtain rfl := some_inj hF
     exact wH_ret (fin0 (.inr rfl) [(vI 2)] ⟨rfl, trivial⟩ rfl rfl rfl)
    ·refine wH_iff rfl hc_14 (wH_skip (wH_seq (wH_region (h_op (vS (⟨#[]⟩ : ByteArray)) wz rfl (h_nil (wH_seq (wH_seq (wH_region (h_far pl58_3 rfl 3 rfl wz (h_ldr 0 0 (.inl rfl) (fun _ _ _ => trivial) sz56 ag56 rfl rfl (vL Screen.enc wv_1.Screens) rfl wz (h_len un56 rfl wz (h_op (vI 0) wz rfl (h_nil ?_)))))))))))))
     obtain ⟨o_23, hj_24, hF⟩ := bind_some hF
     obtain ⟨hn_19, hj_24⟩ := forL_some hj_24
     refine wH_join (β := (ByteArray)) (fun (s_20 : ByteArray) => ([(1, (.ref n_2 0 0))] : List (Nat × V))) (fun (s_20 : ByteArray) => ([(n_2, some (.cells 4 [(vS wv_1.Key), (vI wv_1.W), (vI wv_1.H), (vL Screen.enc wv_1.Screens)]))] : Hp)) (fun p => o_23 = .go p) ?_ ?_
     ·refine wH_block (wH_loop (β := Nat × (List Screen) × (ByteArray)) (fun p => (fun (k_15 : Nat) (l_16 : List Screen) (s_20 : ByteArray) => ([(1, (.ref n_2 0 0)), (3, (vS s_20)), (35, (vL Screen.enc wv_1.Screens)), (36, (vI (wv_1.Screens.length : Int))), (37, (vI (k_15 : Int)))] : List (Nat × V))) p.1 p.2.1 p.2.2) (fun p => (fun (k_15 : Nat) (l_16 : List Screen) (s_20 : ByteArray) => ([(n_2, some (.cells 4 [(vS wv_1.Key), (vI wv_1.W), (vI wv_1.H), (vL Screen.enc wv_1.Screens)]))] : Hp)) p.1 p.2.1 p.2.2) (fun p => forR (fun k x s => ref_WallFault_L1 wv_1 k x s) p.2.1 p.1 p.2.2 = some o_23 ∧ (wv_1.Screens).drop p.1 = p.2.1) (fun p => p.2.1.length) (0, wv_1.Screens, (⟨#[]⟩ : ByteArray)) ⟨hj_24, rfl⟩ rfl (pre_r rfl) ?_)
      rintro ⟨k_15, l_16, s_20⟩ ⟨hL_22, hD_18⟩
      dsimp only at hL_22 hD_18
      cases l_16 with
      | nil =>
       obtain rfl := some_inj hL_22
       refine wH_seq (wH_region (h_op (vB (decide ((k_15 : Int) < (wv_1.Screens.length : Int)))) wz rfl (h_nil ?_)))
       refine wH_seq (wH_iff rfl (drop_nil hD_18) (wH_exit ?_))
       exact cut_mk (s_20) rfl rfl (pre_r rfl)
      | cons x_17 l_16 =>
       obtain ⟨c_, hc_21, hL_22⟩ := bind_some hL_22
       refine wH_seq (wH_region (h_op (vB (decide ((k_15 : Int) < (wv_1.Screens.length : Int)))) wz rfl (h_nil ?_)))
       refine wH_seq (wH_ift rfl (drop_cons hD_18) (wH_skip ?_))
       unfold ref_WallFault_L1 at hc_21
       refine wH_seq (wH_block (wH_seq (wH_region (h_ia es56 rfl rfl (drop_idx hD_18) rfl wz (h_ldc sz123 ag123 rfl (.d (.agg (Screen.enc x_17))) rfl wz (h_alloc 0 (.inl rfl) z123 rfl wz (fun n_25 => h_str 0 (.inl rfl) (fun _ _ _ => trivial) 1 sz123 rfl rfl [(vS x_17.Key), (vI x_17.On.X), (vI x_17.On.Y), (vI x_17.On.W), (vI x_17.On.H)] rfl wz (h_nil (wH_seq (wH_seq (wH_region (h_far pl123_0 rfl 0 rfl wz (h_ldr 0 1 (.inl rfl) (fun _ _ _ => trivial) sz9 ag9 rfl rfl (vS x_17.Key) rfl wz ?_)))))))))))))
       obtain ⟨r_26, hr_27, hc_21⟩ := bind_some hc_21
       refine h_call0 (ref_Key_ok hr_27) rfl hb65 rfl rfl rfl rfl wz (h_op (vB (!r_26)) wz rfl (h_nil ?_))
       rcases cond_some hc_21 with ⟨hc_28, hc_21⟩ | ⟨hc_28, hc_21⟩
       ·refine wH_ift rfl hc_28 (wH_seq (wH_region (h_op (vI 5) wz rfl (h_nil ?_))))
        obtain rfl := some_inj hc_21
        obtain rfl := some_inj hL_22
        obtain rfl := some_inj hF
        exact wH_ret (fin0 (.inr rfl) [(vI 5)] ⟨rfl, trivial⟩ rfl rfl rfl)
       ·refine wH_iff rfl hc_28 (wH_skip (wH_seq (wH_seq (wH_region (h_far pl123_1 rfl 1 rfl wz (h_ldr 0 1 (.inl rfl) (fun _ _ _ => trivial) sz49 ag49 rfl rfl (.d (.agg (Rect.enc x_17.On))) rfl wz ?_))))))
        obtain ⟨r_29, hr_30, hc_21⟩ := bind_some hc_21
        refine h_call0 (ref_RectFault_ok hr_30) rfl hb31 rfl rfl rfl rfl wz (h_op (vI r_29) wz rfl (h_nil (wH_seq (wH_region (h_op (vI r_29) wz rfl (h_op (vB (r_29 != 0)) wz rfl (h_nil ?_)))))))
        rcases cond_some hc_21 with ⟨hc_31, hc_21⟩ | ⟨hc_31, hc_21⟩
        ·refine wH_ift rfl hc_31 (wH_seq (wH_region (h_op (vI r_29) wz rfl (h_op (vI r_29) wz rfl (h_nil ?_)))))
         obtain rfl := some_inj hc_21
         obtain rfl := some_inj hL_22
         obtain rfl := some_inj hF
         exact wH_ret (fin0 (.inr rfl) [(vI r_29)] ⟨rfl, trivial⟩ rfl rfl rfl)
        ·refine wH_iff rfl hc_31 (wH_skip (wH_seq (wH_block (wH_seq (wH_region (h_far pl123_1 rfl 1 rfl wz (h_ldr 0 1 (.inl rfl) (fun _ _ _ => trivial) sz49 ag49 rfl rfl (.d (.agg (Rect.enc x_17.On))) rfl wz (h_far pl58_1 rfl 1 rfl wz (h_ldr 0 0 (.inl rfl) (fun _ _ _ => trivial) sz3 ag3 rfl rfl (vI wv_1.W) rfl wz (h_far pl58_2 rfl 2 rfl wz (h_ldr 0 0 (.inl rfl) (fun _ _ _ => trivial) sz3 ag3 rfl rfl (vI wv_1.H) rfl wz ?_)))))))))))
         obtain ⟨r_32, hr_33, hc_21⟩ := bind_some hc_21
         refine h_call0 (ref_within_ok hr_33) rfl hb67 rfl rfl rfl rfl wz (h_op (vB (!r_32)) wz rfl (h_op (vB (!r_32)) wz rfl (h_nil ?_)))
         rcases cond_some hc_21 with ⟨hc_34, hc_21⟩ | ⟨hc_34, hc_21⟩
         ·refine wH_ift rfl hc_34 (wH_seq (wH_region (h_op (vI 3) wz rfl (h_nil ?_))))
          obtain rfl := some_inj hc_21
          obtain rfl := some_inj hL_22
          obtain rfl := some_inj hF
          exact wH_ret (fin0 (.inr rfl) [(vI 3)] ⟨rfl, trivial⟩ rfl rfl rfl)
         ·refine wH_iff rfl hc_34 (wH_seq (wH_region (h_far pl123_0 rfl 0 rfl wz (h_ldr 0 1 (.inl rfl) (fun _ _ _ => trivial) sz9 ag9 rfl rfl (vS x_17.Key) rfl wz (h_op (vS s_20) wz rfl (h_op (vB (sLe x_17.Key s_20)) wz rfl (h_op (vB (sLe x_17.Key s_20)) wz rfl (h_nil ?_))))))))
          rcases cond_some hc_21 with ⟨hc_35, hc_21⟩ | ⟨hc_35, hc_21⟩
          ·refine wH_ift rfl hc_35 (wH_seq (wH_region (h_op (vI 7) wz rfl (h_nil ?_))))
           obtain rfl := some_inj hc_21
           obtain rfl := some_inj hL_22
           obtain rfl := some_inj hF
           exact wH_ret (fin0 (.inr rfl) [(vI 7)] ⟨rfl, trivial⟩ rfl rfl rfl)
          ·refine wH_iff rfl hc_35 (wH_skip (wH_region (h_far pl123_0 rfl 0 rfl wz (h_ldr 0 1 (.inl rfl) (fun _ _ _ => trivial) sz9 ag9 rfl rfl (vS x_17.Key) rfl wz (h_op (vS x_17.Key) wz rfl (h_nil (wH_at (H0 := ([(n_2, some (.cells 4 [(vS wv_1.Key), (vI wv_1.W), (vI wv_1.H), (vL Screen.enc wv_1.Screens)])), (n_25, some (.cells 5 [(vS x_17.Key), (vI x_17.On.X), (vI x_17.On.Y), (vI x_17.On.W), (vI x_17.On.H)]))] : Hp)) ([(1, (.ref n_2 0 0)), (3, (vS x_17.Key)), (35, (vL Screen.enc wv_1.Screens)), (36, (vI (wv_1.Screens.length : Int))), (37, (vI (k_15 : Int)))] : List (Nat × V)) (by kernel_rfl) (pre_mk (by kernel_rfl)) (wH_region (h_opw (w64_next hD_18 hn_19) wz rfl (h_op (vI ((k_15 + 1 : Nat) : Int)) wz rfl (h_nil ?_)))))))))))
           obtain rfl := some_inj hc_21
           exact loop_mk (k_15 + 1, l_16, x_17.Key) ⟨hL_22, drop_next hD_18⟩ (Nat.lt_succ_self _) rfl (pre_r rfl)
     ·rintro s_20 ho_ sl_ H_ hp_ hq_
      subst ho_
      refine wH_at _ hp_ hq_ (wH_seq (wH_seq (wH_region (h_far pl58_3 rfl 3 rfl wz (h_ldr 0 0 (.inl rfl) (fun _ _ _ => trivial) sz56 ag56 rfl rfl (vL Screen.enc wv_1.Screens) rfl wz (h_len un56 rfl wz (h_op (vI 0) wz rfl (h_nil ?_))))))))
      obtain ⟨o_44, hj_45, hF⟩ := bind_some hF
      obtain ⟨hn_40, hj_45⟩ := forL_some hj_45
      refine wH_join (β := (Unit)) (fun (s_41 : Unit) => ([] : List (Nat × V))) (fun (s_41 : Unit) => ([(n_2, some (.cells 4 [(vS wv_1.Key), (vI wv_1.W), (vI wv_1.H), (vL Screen.enc wv_1.Screens)]))] : Hp)) (fun p => o_44 = .go p) ?_ ?_
      ·refine wH_block (wH_loop (β := Nat × (List Screen) × (Unit)) (fun p => (fun (k_36 : Nat) (l_37 : List Screen) (s_41 : Unit) => ([(1, (.ref n_2 0 0)), (69, (vL Screen.enc wv_1.Screens)), (70, (vI (wv_1.Screens.length : Int))), (71, (vI (k_36 : Int)))] : List (Nat × V))) p.1 p.2.1 p.2.2) (fun p => (fun (k_36 : Nat) (l_37 : List Screen) (s_41 : Unit) => ([(n_2, some (.cells 4 [(vS wv_1.Key), (vI wv_1.W), (vI wv_1.H), (vL Screen.enc wv_1.Screens)]))] : Hp)) p.1 p.2.1 p.2.2) (fun p => forR (fun k x s => ref_WallFault_L3 wv_1 k x s) p.2.1 p.1 p.2.2 = some o_44 ∧ (wv_1.Screens).drop p.1 = p.2.1) (fun p => p.2.1.length) (0, wv_1.Screens, ()) ⟨hj_45, rfl⟩ rfl (pre_r rfl) ?_)
       rintro ⟨k_36, l_37, s_41⟩ ⟨hL_43, hD_39⟩
       dsimp only at hL_43 hD_39
       cases l_37 with
       | nil =>
        obtain rfl := some_inj hL_43
        refine wH_seq (wH_region (h_op (vB (decide ((k_36 : Int) < (wv_1.Screens.length : Int)))) wz rfl (h_nil ?_)))
        refine wH_seq (wH_iff rfl (drop_nil hD_39) (wH_exit ?_))
        exact cut_mk (s_41) rfl rfl (pre_r rfl)
       | cons x_38 l_37 =>
        obtain ⟨c_, hc_42, hL_43⟩ := bind_some hL_43
        refine wH_seq (wH_region (h_op (vB (decide ((k_36 : Int) < (wv_1.Screens.length : Int)))) wz rfl (h_nil ?_)))
        refine wH_seq (wH_ift rfl (drop_cons hD_39) (wH_skip ?_))
        unfold ref_WallFault_L3 at hc_42
        refine wH_seq (wH_block (wH_seq (wH_region (h_op (vI (k_36 : Int)) wz rfl (h_ia es56 rfl rfl (drop_idx hD_39) rfl wz (h_ldc sz123 ag123 rfl (.d (.agg (Screen.enc x_38))) rfl wz (h_alloc 0 (.inl rfl) z123 rfl wz (fun n_46 => h_op (vI (k_36 : Int)) wz rfl (h_str 0 (.inl rfl) (fun _ _ _ => trivial) 1 sz123 rfl rfl [(vS x_38.Key), (vI x_38.On.X), (vI x_38.On.Y), (vI x_38.On.W), (vI x_38.On.H)] rfl wz (h_nil (wH_seq (wH_region (h_far pl58_3 rfl 3 rfl wz (h_ldr 0 0 (.inl rfl) (fun _ _ _ => trivial) sz56 ag56 rfl rfl (vL Screen.enc wv_1.Screens) rfl wz (h_op (vI (k_36 : Int)) wz rfl ?_)))))))))))))))
        obtain ⟨y_47, hy_48, hc_42⟩ := bind_some hc_42
        refine h_sublFalseTrue un56 sz123 (fun _ => rfl) rfl rfl hy_48 wz (h_len un56 rfl wz (h_op (vI 0) wz rfl (h_nil ?_)))
        obtain ⟨o_57, hj_58, hc_42⟩ := bind_some hc_42
        obtain ⟨hn_53, hj_58⟩ := forL_some hj_58
        refine wH_join (β := (Unit)) (fun (s_54 : Unit) => ([(1, (.ref n_2 0 0)), (69, (vL Screen.enc wv_1.Screens)), (70, (vI (wv_1.Screens.length : Int))), (71, (vI (k_36 : Int)))] : List (Nat × V))) (fun (s_54 : Unit) => ([(n_2, some (.cells 4 [(vS wv_1.Key), (vI wv_1.W), (vI wv_1.H), (vL Screen.enc wv_1.Screens)])), (n_46, some (.cells 5 [(vS x_38.Key), (vI x_38.On.X), (vI x_38.On.Y), (vI x_38.On.W), (vI x_38.On.H)]))] : Hp)) (fun p => o_57 = .go p) ?_ ?_
        ·refine wH_block (wH_loop (β := Nat × (List Screen) × (Unit)) (fun p => (fun (k_49 : Nat) (l_50 : List Screen) (s_54 : Unit) => ([(1, (.ref n_2 0 0)), (8, (.ref n_46 0 0)), (69, (vL Screen.enc wv_1.Screens)), (70, (vI (wv_1.Screens.length : Int))), (71, (vI (k_36 : Int))), (79, (vL Screen.enc y_47)), (80, (vI (y_47.length : Int))), (81, (vI (k_49 : Int)))] : List (Nat × V))) p.1 p.2.1 p.2.2) (fun p => (fun (k_49 : Nat) (l_50 : List Screen) (s_54 : Unit) => ([(n_2, some (.cells 4 [(vS wv_1.Key), (vI wv_1.W), (vI wv_1.H), (vL Screen.enc wv_1.Screens)])), (n_46, some (.cells 5 [(vS x_38.Key), (vI x_38.On.X), (vI x_38.On.Y), (vI x_38.On.W), (vI x_38.On.H)]))] : Hp)) p.1 p.2.1 p.2.2) (fun p => forR (fun k x s => ref_WallFault_L2 x_38 k x s) p.2.1 p.1 p.2.2 = some o_57 ∧ (y_47).drop p.1 = p.2.1) (fun p => p.2.1.length) (0, y_47, ()) ⟨hj_58, rfl⟩ rfl (pre_r rfl) ?_)
         rintro ⟨k_49, l_50, s_54⟩ ⟨hL_56, hD_52⟩
         dsimp only at hL_56 hD_52
         cases l_50 with
         | nil =>
          obtain rfl := some_inj hL_56
          refine wH_seq (wH_region (h_op (vB (decide ((k_49 : Int) < (y_47.length : Int)))) wz rfl (h_nil ?_)))
          refine wH_seq (wH_iff rfl (drop_nil hD_52) (wH_exit ?_))
          exact cut_mk (s_54) rfl rfl (pre_r rfl)
         | cons x_51 l_50 =>
          obtain ⟨c_, hc_55, hL_56⟩ := bind_some hL_56
          refine wH_seq (wH_region (h_op (vB (decide ((k_49 : Int) < (y_47.length : Int)))) wz rfl (h_nil ?_)))
          refine wH_seq (wH_ift rfl (drop_cons hD_52) (wH_skip ?_))
          unfold ref_WallFault_L2 at hc_55
          refine wH_seq (wH_block (wH_seq (wH_region (h_ia es56 rfl rfl (drop_idx hD_52) rfl wz (h_ldc sz123 ag123 rfl (.d (.agg (Screen.enc x_51))) rfl wz (h_alloc 0 (.inl rfl) z123 rfl wz (fun n_59 => h_str 0 (.inl rfl) (fun _ _ _ => trivial) 2 sz123 rfl rfl [(vS x_51.Key), (vI x_51.On.X), (vI x_51.On.Y), (vI x_51.On.W), (vI x_51.On.H)] rfl wz (h_nil (wH_seq (wH_region (h_far pl123_1 rfl 1 rfl wz (h_ldr 0 1 (.inl rfl) (fun _ _ _ => trivial) sz49 ag49 rfl rfl (.d (.agg (Rect.enc x_38.On))) rfl wz (h_far pl123_1 rfl 1 rfl wz (h_ldr 0 2 (.inl rfl) (fun _ _ _ => trivial) sz49 ag49 rfl rfl (.d (.agg (Rect.enc x_51.On))) rfl wz ?_))))))))))))))
          obtain ⟨r_60, hr_61, hc_55⟩ := bind_some hc_55
          refine h_call0 (ref_MeetOf_ok hr_61) rfl hb88 rfl rfl rfl rfl wz (h_op (.tup [(.d (.agg (Rect.enc r_60.1))), (vB r_60.2)]) wz rfl (h_op (.d (.agg (Rect.enc r_60.1))) wz rfl (h_op (vB r_60.2) wz rfl (h_alloc 0 (.inl rfl) z49 rfl wz (fun n_62 => h_str 0 (.inl rfl) (fun _ _ _ => trivial) 3 sz49 rfl rfl [(vI r_60.1.X), (vI r_60.1.Y), (vI r_60.1.W), (vI r_60.1.H)] rfl wz (h_op (vB r_60.2) wz rfl (h_nil (wH_seq (wH_region (h_op (vB r_60.2) wz rfl (h_nil ?_)))))))))))
          rcases cond_some hc_55 with ⟨hc_63, hc_55⟩ | ⟨hc_63, hc_55⟩
          ·refine wH_ift rfl hc_63 (wH_seq (wH_region (h_op (vI 13) wz rfl (h_nil ?_))))
           obtain rfl := some_inj hc_55
           obtain rfl := some_inj hL_56
           obtain rfl := some_inj hc_42
           obtain rfl := some_inj hL_43
           obtain rfl := some_inj hF
           exact wH_ret (fin0 (.inr rfl) [(vI 13)] ⟨rfl, trivial⟩ rfl rfl rfl)
          ·refine wH_iff rfl hc_63 (wH_skip (wH_region (h_opw (w64_next hD_52 hn_53) wz rfl (h_op (vI ((k_49 + 1 : Nat) : Int)) wz rfl (h_nil ?_)))))
           obtain rfl := some_inj hc_55
           exact loop_mk (k_49 + 1, l_50, ()) ⟨hL_56, drop_next hD_52⟩ (Nat.lt_succ_self _) rfl (pre_r rfl)
        ·rintro s_54 ho_ sl_ H_ hp_ hq_
         subst ho_
         refine wH_at _ hp_ hq_ (wH_region (h_opw (w64_next hD_39 hn_40) wz rfl (h_op (vI ((k_36 + 1 : Nat) : Int)) wz rfl (h_nil ?_))))
         obtain rfl := some_inj hc_42
         exact loop_mk (k_36 + 1, l_37, ()) ⟨hL_43, drop_next hD_39⟩ (Nat.lt_succ_self _) rfl (pre_r rfl)
      ·rintro s_41 ho_ sl_ H_ hp_ hq_
       subst ho_
       refine wH_at _ hp_ hq_ (wH_seq (wH_region (h_op (vI 0) wz rfl (h_nil ?_))))
       obtain rfl := some_inj hF
       exact wH_ret (fin0 (.inr rfl) [(vI 0)] ⟨rfl, trivial⟩ rfl rfl rfl)
theorem mk_Stream_RightWall_ok {s_1 : Stream} {r : Wall × Stream} (hF : mk_Stream_RightWall s_1 = some r) :
  FnM Tryz.prog 80 [(.ref (extN 0) 0 0)] [(.cells 2 [(vL eI s_1.L), (vI s_1.f_at)])] (.d (.agg (Wall.enc r.1))) [some (.cells 2 [(vL eI r.2.L), (vI r.2.f_at)])] := by
 refine FnM.of_wH ⟨Tryz.prog, 73, [], []⟩ rfl Tryz.func80 rfl rfl (Nat.le_of_ble_eq_true rfl) (by kernel_rfl) ?_
 unfold mk_Stream_RightWall at hF
 refine wH_seq (wH_region (h_alloc 0 (.inl rfl) z58 rfl wz (fun n_2 => h_nil (wH_seq (wH_region (h_op (.ref (extN 0) 0 0) wz rfl (h_lit (([10, 20, 24, 100] : List Int).map eI) es22 ez22 rfl rfl rfl rfl rfl wz ?_)))))))
 obtain ⟨r_3, hr_4, hF⟩ := bind_some hF
 refine h_callq 0 [0] (.inl rfl) (fun _ _ _ => trivial) (mk_Stream_Pick_ok hr_4) rfl hb45 rfl (by kernel_rfl) (by kernel_rfl) (by kernel_rfl) (by kernel_rfl) (by kernel_rfl) (by kernel_rfl) (by kernel_rfl) (by decide) (by kernel_rfl) wz (vI r_3.1) (by kernel_rfl) ([((extN 0), some (.cells 2 [(vL eI r_3.2.L), (vI r_3.2.f_at)])), (n_2, some (.cells 4 [(vS (⟨#[]⟩ : ByteArray)), (vI 0), (vI 0), .nil]))] : Hp) (by kernel_rfl) (h_op (.ref (extN 0) 0 0) wz rfl (h_lit (([6, 10, 30] : List Int).map eI) es22 ez22 rfl rfl rfl rfl rfl wz ?_))
 obtain ⟨r_6, hr_7, hF⟩ := bind_some hF
 refine h_callq 0 [0] (.inl rfl) (fun _ _ _ => trivial) (mk_Stream_Pick_ok hr_7) rfl hb45 rfl (by kernel_rfl) (by kernel_rfl) (by kernel_rfl) (by kernel_rfl) (by kernel_rfl) (by kernel_rfl) (by kernel_rfl) (by decide) (by kernel_rfl) wz (vI r_6.1) (by kernel_rfl) ([((extN 0), some (.cells 2 [(vL eI r_6.2.L), (vI r_6.2.f_at)])), (n_2, some (.cells 4 [(vS (⟨#[]⟩ : ByteArray)), (vI 0), (vI 0), .nil]))] : Hp) (by kernel_rfl) (h_op (.agg [(vS (⟨#[119]⟩ : ByteArray)), (vI r_3.1), (vI r_6.1), .nil]) wz (by kernel_rfl) (h_alloc 0 (.inl rfl) z58 rfl wz (fun n_9 => h_str 0 (.inl rfl) (fun _ _ _ => trivial) 2 sz58 rfl rfl [(vS (⟨#[119]⟩ : ByteArray)), (vI r_3.1), (vI r_6.1), .nil] rfl wz (h_nil (wH_seq (wH_seq (wH_region (h_lit (([(⟨#[115, 97]⟩ : ByteArray), (⟨#[115, 98]⟩ : ByteArray), (⟨#[115, 99]⟩ : ByteArray), (⟨#[115, 100]⟩ : ByteArray)] : List ByteArray).map eS) es38 ez38 rfl rfl rfl rfl rfl wz (h_len un38 rfl wz (h_op (vI 0) wz rfl (h_nil (wH_coc0 2 [(vS (⟨#[119]⟩ : ByteArray)), (vI r_3.1), (vI r_6.1), (vL Screen.enc ([] : List Screen))] rfl (fun S => cons_eq (rfl) (cons_eq (rfl) (cons_eq (rfl) (cons_eq (rfl) (rfl))))) ?_))))))))))))
 obtain ⟨o_18, hj_19, hF⟩ := bind_some hF
 obtain ⟨hn_14, hj_19⟩ := forL_some hj_19
 refine wH_join (β := ((List Int) × Int × (List Screen))) (fun (s_15 : (List Int) × Int × (List Screen)) => ([(2, (.ref n_2 0 0)), (3, (.ref n_9 0 0))] : List (Nat × V))) (fun (s_15 : (List Int) × Int × (List Screen)) => ([((extN 0), some (.cells 2 [(vL eI s_15.1), (vI s_15.2.1)])), (n_2, some (.cells 4 [(vS (⟨#[]⟩ : ByteArray)), (vI 0), (vI 0), .nil])), (n_9, some (.cells 4 [(vS (⟨#[119]⟩ : ByteArray)), (vI r_3.1), (vI r_6.1), (vL Screen.enc s_15.2.2)]))] : Hp)) (fun p => o_18 = .go p) ?_ ?_
 ·refine wH_block (wH_loop (β := Nat × (List ByteArray) × ((List Int) × Int × (List Screen))) (fun p => (fun (k_10 : Nat) (l_11 : List ByteArray) (s_15 : (List Int) × Int × (List Screen)) => ([(0, (.ref (extN 0) 0 0)), (2, (.ref n_2 0 0)), (3, (.ref n_9 0 0)), (16, (vL eS ([(⟨#[115, 97]⟩ : ByteArray), (⟨#[115, 98]⟩ : ByteArray), (⟨#[115, 99]⟩ : ByteArray), (⟨#[115, 100]⟩ : ByteArray)] : List ByteArray))), (17, (vI (([(⟨#[115, 97]⟩ : ByteArray), (⟨#[115, 98]⟩ : ByteArray), (⟨#[115, 99]⟩ : ByteArray), (⟨#[115, 100]⟩ : ByteArray)] : List ByteArray).length : Int))), (18, (vI (k_10 : Int)))] : List (Nat × V))) p.1 p.2.1 p.2.2) (fun p => (fun (k_10 : Nat) (l_11 : List ByteArray) (s_15 : (List Int) × Int × (List Screen)) => ([((extN 0), some (.cells 2 [(vL eI s_15.1), (vI s_15.2.1)])), (n_2, some (.cells 4 [(vS (⟨#[]⟩ : ByteArray)), (vI 0), (vI 0), .nil])), (n_9, some (.cells 4 [(vS (⟨#[119]⟩ : ByteArray)), (vI r_3.1), (vI r_6.1), (vL Screen.enc s_15.2.2)]))] : Hp)) p.1 p.2.1 p.2.2) (fun p => forR (fun k x s => mk_Stream_RightWall_L1 r_3 r_6 k x s) p.2.1 p.1 p.2.2 = some o_18 ∧ (([(⟨#[115, 97]⟩ : ByteArray), (⟨#[115, 98]⟩ : ByteArray), (⟨#[115, 99]⟩ : ByteArray), (⟨#[115, 100]⟩ : ByteArray)] : List ByteArray)).drop p.1 = p.2.1) (fun p => p.2.1.length) (0, ([(⟨#[115, 97]⟩ : ByteArray), (⟨#[115, 98]⟩ : ByteArray), (⟨#[115, 99]⟩ : ByteArray), (⟨#[115, 100]⟩ : ByteArray)] : List ByteArray), (r_6.2.L, r_6.2.f_at, ([] : List Screen))) ⟨hj_19, rfl⟩ rfl (pre_r rfl) ?_)
  rintro ⟨k_10, l_11, s_15⟩ ⟨hL_17, hD_13⟩
  dsimp only at hL_17 hD_13
  cases l_11 with
  | nil =>
   obtain rfl := some_inj hL_17
   refine wH_seq (wH_region (h_op (vB (decide ((k_10 : Int) < (([(⟨#[115, 97]⟩ : ByteArray), (⟨#[115, 98]⟩ : ByteArray), (⟨#[115, 99]⟩ : ByteArray), (⟨#[115, 100]⟩ : ByteArray)] : List ByteArray).length : Int)))) wz rfl (h_nil ?_)))
   refine wH_seq (wH_iff rfl (drop_nil hD_13) (wH_exit ?_))
   exact cut_mk (s_15) rfl rfl (pre_r rfl)
  | cons x_12 l_11 =>
   obtain ⟨c_, hc_16, hL_17⟩ := bind_some hL_17
   refine wH_seq (wH_region (h_op (vB (decide ((k_10 : Int) < (([(⟨#[115, 97]⟩ : ByteArray), (⟨#[115, 98]⟩ : ByteArray), (⟨#[115, 99]⟩ : ByteArray), (⟨#[115, 100]⟩ : ByteArray)] : List ByteArray).length : Int)))) wz rfl (h_nil ?_)))
   refine wH_seq (wH_ift rfl (drop_cons hD_13) (wH_skip ?_))
   unfold mk_Stream_RightWall_L1 at hc_16
   refine wH_seq (wH_block (wH_seq (wH_region (h_ia es38 rfl rfl (drop_idx hD_13) rfl wz (h_ldc sz9 ag9 rfl (vS x_12) rfl wz (h_op (vS x_12) wz rfl (h_nil (wH_seq (wH_draws (h_op (vS x_12) wz rfl (h_op (.ref (extN 0) 0 0) wz rfl (h_far pl58_1 rfl 1 rfl wz (h_ldr 3 2 (.inr (by kernel_rfl)) (fun _ _ ag => trivial) sz3 ag3 rfl rfl (vI r_3.1) rfl wz (h_op (vI (w64 (r_3.1 - 1))) wz rfl ?_))))))))))))))
   obtain ⟨r_20, hr_21, hc_16⟩ := bind_some hc_16
   refine h_callq 5 [0] (.inr (by kernel_rfl)) (fun _ _ ag => by exact ⟨.inr (.inr (by kernel_rfl)), trivial⟩) (mk_Stream_Range_ok hr_21) rfl hb8 rfl (by kernel_rfl) (by kernel_rfl) (by kernel_rfl) (by kernel_rfl) (by kernel_rfl) (by kernel_rfl) (by kernel_rfl) (by decide) (by kernel_rfl) wz (vI r_20.1) (by kernel_rfl) ([((extN 0), some (.cells 2 [(vL eI r_20.2.L), (vI r_20.2.f_at)])), (n_2, some (.cells 4 [(vS (⟨#[]⟩ : ByteArray)), (vI 0), (vI 0), .nil])), (n_9, some (.cells 4 [(vS (⟨#[119]⟩ : ByteArray)), (vI r_3.1), (vI r_6.1), (vL Screen.enc s_15.2.2)]))] : Hp) (by kernel_rfl) (h_op (.ref (extN 0) 0 0) wz rfl (h_far pl58_2 rfl 2 rfl wz (h_ldr 8 2 (.inr (by kernel_rfl)) (fun _ _ ag => ⟨.inl ⟨rfl, rfl⟩, ⟨.inr (.inl (dis1 (ag_ne ag (i := 2) (j := 0) rfl rfl (by decide)))), trivial⟩⟩) sz3 ag3 rfl rfl (vI r_6.1) rfl wz (h_op (vI (w64 (r_6.1 - 1))) wz rfl ?_))))
   obtain ⟨r_23, hr_24, hc_16⟩ := bind_some hc_16
   refine h_callq 10 [0] (.inr (by kernel_rfl)) (fun _ _ ag => by exact ⟨.inr (.inr (by kernel_rfl)), ⟨.inr (.inr (by kernel_rfl)), ⟨.inr (.inr (by kernel_rfl)), trivial⟩⟩⟩) (mk_Stream_Range_ok hr_24) rfl hb8 rfl (by kernel_rfl) (by kernel_rfl) (by kernel_rfl) (by kernel_rfl) (by kernel_rfl) (by kernel_rfl) (by kernel_rfl) (by decide) (by kernel_rfl) wz (vI r_23.1) (by kernel_rfl) ([((extN 0), some (.cells 2 [(vL eI r_23.2.L), (vI r_23.2.f_at)])), (n_2, some (.cells 4 [(vS (⟨#[]⟩ : ByteArray)), (vI 0), (vI 0), .nil])), (n_9, some (.cells 4 [(vS (⟨#[119]⟩ : ByteArray)), (vI r_3.1), (vI r_6.1), (vL Screen.enc s_15.2.2)]))] : Hp) (by kernel_rfl) (h_op (.d (.agg (Rect.enc (⟨r_20.1, r_23.1, 0, 0⟩ : Rect)))) wz (by kernel_rfl) (h_op (.d (.agg (Screen.enc (⟨x_12, (⟨r_20.1, r_23.1, 0, 0⟩ : Rect)⟩ : Screen)))) wz (by kernel_rfl) (h_alloc 13 (.inr (by kernel_rfl)) z123 rfl wz (fun n_26 => h_str 14 (.inr (by kernel_rfl)) (fun _ _ ag => ⟨.inr (.inr (by kernel_rfl)), ⟨.inr (.inr (by kernel_rfl)), ⟨.inr (.inr (by kernel_rfl)), ⟨.inr (.inr (by kernel_rfl)), ⟨.inr (.inr (by kernel_rfl)), trivial⟩⟩⟩⟩⟩) 3 sz123 rfl rfl [(vS x_12), (vI r_20.1), (vI r_23.1), (vI 0), (vI 0)] rfl wz (h_nil (wH_seq (wH_draws (h_op (.ref (extN 0) 0 0) wz rfl (h_far pl58_1 rfl 1 rfl wz (h_ldr 2 2 (.inr (by kernel_rfl)) (fun _ _ ag => trivial) sz3 ag3 rfl rfl (vI r_3.1) rfl wz (h_far pl123_1 rfl 1 rfl wz (h_far pl49_0 rfl 1 rfl wz (h_ldr 5 3 (.inr (by kernel_rfl)) (fun _ _ ag => ⟨.inl ⟨rfl, rfl⟩, trivial⟩) sz3 ag3 rfl rfl (vI r_20.1) rfl wz (h_op (vI (w64 (r_3.1 - r_20.1))) wz rfl ?_))))))))))))))
   obtain ⟨r_27, hr_28, hc_16⟩ := bind_some hc_16
   refine h_callq 7 [0] (.inr (by kernel_rfl)) (fun _ _ ag => by exact ⟨.inr (.inr (by kernel_rfl)), ⟨.inr (.inr (by kernel_rfl)), trivial⟩⟩) (mk_Stream_Range_ok hr_28) rfl hb8 rfl (by kernel_rfl) (by kernel_rfl) (by kernel_rfl) (by kernel_rfl) (by kernel_rfl) (by kernel_rfl) (by kernel_rfl) (by decide) (by kernel_rfl) wz (vI r_27.1) (by kernel_rfl) ([((extN 0), some (.cells 2 [(vL eI r_27.2.L), (vI r_27.2.f_at)])), (n_2, some (.cells 4 [(vS (⟨#[]⟩ : ByteArray)), (vI 0), (vI 0), .nil])), (n_9, some (.cells 4 [(vS (⟨#[119]⟩ : ByteArray)), (vI r_3.1), (vI r_6.1), (vL Screen.enc s_15.2.2)])), (n_26, some (.cells 5 [(vS x_12), (vI r_20.1), (vI r_23.1), (vI 0), (vI 0)]))] : Hp) (by kernel_rfl) (h_op (.ref (extN 0) 0 0) wz rfl (h_far pl58_2 rfl 2 rfl wz (h_ldr 10 2 (.inr (by kernel_rfl)) (fun _ _ ag => ⟨.inl ⟨rfl, rfl⟩, ⟨.inl ⟨rfl, rfl⟩, ⟨.inr (.inl (dis1 (ag_ne ag (i := 2) (j := 0) rfl rfl (by decide)))), trivial⟩⟩⟩) sz3 ag3 rfl rfl (vI r_6.1) rfl wz (h_far pl123_1 rfl 1 rfl wz (h_far pl49_1 rfl 2 rfl wz (h_ldr 13 3 (.inr (by kernel_rfl)) (fun _ _ ag => ⟨.inl ⟨rfl, rfl⟩, ⟨.inl ⟨rfl, rfl⟩, ⟨.inr (.inl (dis1 (ag_ne ag (i := 3) (j := 0) rfl rfl (by decide)))), ⟨.inl ⟨rfl, rfl⟩, trivial⟩⟩⟩⟩) sz3 ag3 rfl rfl (vI r_23.1) rfl wz (h_op (vI (w64 (r_6.1 - r_23.1))) wz rfl ?_)))))))
   obtain ⟨r_30, hr_31, hc_16⟩ := bind_some hc_16
   refine h_callq 15 [0] (.inr (by kernel_rfl)) (fun _ _ ag => by exact ⟨.inr (.inr (by kernel_rfl)), ⟨.inr (.inr (by kernel_rfl)), ⟨.inr (.inr (by kernel_rfl)), ⟨.inr (.inr (by kernel_rfl)), ⟨.inr (.inr (by kernel_rfl)), trivial⟩⟩⟩⟩⟩) (mk_Stream_Range_ok hr_31) rfl hb8 rfl (by kernel_rfl) (by kernel_rfl) (by kernel_rfl) (by kernel_rfl) (by kernel_rfl) (by kernel_rfl) (by kernel_rfl) (by decide) (by kernel_rfl) wz (vI r_30.1) (by kernel_rfl) ([((extN 0), some (.cells 2 [(vL eI r_30.2.L), (vI r_30.2.f_at)])), (n_2, some (.cells 4 [(vS (⟨#[]⟩ : ByteArray)), (vI 0), (vI 0), .nil])), (n_9, some (.cells 4 [(vS (⟨#[119]⟩ : ByteArray)), (vI r_3.1), (vI r_6.1), (vL Screen.enc s_15.2.2)])), (n_26, some (.cells 5 [(vS x_12), (vI r_20.1), (vI r_23.1), (vI 0), (vI 0)]))] : Hp) (by kernel_rfl) (h_far pl123_1 rfl 1 rfl wz (h_far pl49_2 rfl 3 rfl wz (h_str 18 (.inr (by kernel_rfl)) (fun _ _ ag => ⟨.inr (.inr (by kernel_rfl)), ⟨.inr (.inr (by kernel_rfl)), ⟨.inr (.inr (by kernel_rfl)), ⟨.inr (.inr (by kernel_rfl)), ⟨.inr (.inr (by kernel_rfl)), ⟨.inr (.inr (by kernel_rfl)), trivial⟩⟩⟩⟩⟩⟩) 3 sz3 rfl rfl [(vS x_12), (vI r_20.1), (vI r_23.1), (vI r_27.1), (vI 0)] rfl wz (h_far pl123_1 rfl 1 rfl wz (h_far pl49_3 rfl 4 rfl wz (h_str 21 (.inr (by kernel_rfl)) (fun _ _ ag => ⟨.inr (.inr (by kernel_rfl)), ⟨.inr (.inr (by kernel_rfl)), ⟨.inr (.inr (by kernel_rfl)), ⟨.inr (.inr (by kernel_rfl)), ⟨.inr (.inr (by kernel_rfl)), ⟨.inr (.inr (by kernel_rfl)), ⟨.inr (.inr (by kernel_rfl)), trivial⟩⟩⟩⟩⟩⟩⟩) 3 sz3 rfl rfl [(vS x_12), (vI r_20.1), (vI r_23.1), (vI r_27.1), (vI r_30.1)] rfl wz (h_nil (wH_at (H0 := ([((extN 0), some (.cells 2 [(vL eI r_30.2.L), (vI r_30.2.f_at)])), (n_2, some (.cells 4 [(vS (⟨#[]⟩ : ByteArray)), (vI 0), (vI 0), .nil])), (n_9, some (.cells 4 [(vS (⟨#[119]⟩ : ByteArray)), (vI r_3.1), (vI r_6.1), (vL Screen.enc s_15.2.2)])), (n_26, some (.cells 5 [(vS x_12), (vI r_20.1), (vI r_23.1), (vI r_27.1), (vI r_30.1)]))] : Hp)) ([(0, (.ref (extN 0) 0 0)), (2, (.ref n_2 0 0)), (3, (.ref n_9 0 0)), (6, (.ref n_26 0 0)), (16, (vL eS ([(⟨#[115, 97]⟩ : ByteArray), (⟨#[115, 98]⟩ : ByteArray), (⟨#[115, 99]⟩ : ByteArray), (⟨#[115, 100]⟩ : ByteArray)] : List ByteArray))), (17, (vI (([(⟨#[115, 97]⟩ : ByteArray), (⟨#[115, 98]⟩ : ByteArray), (⟨#[115, 99]⟩ : ByteArray), (⟨#[115, 100]⟩ : ByteArray)] : List ByteArray).length : Int))), (18, (vI (k_10 : Int)))] : List (Nat × V)) (by kernel_rfl) (pre_mk (by kernel_rfl)) (wH_seq (wH_draws (h_far pl58_3 rfl 3 rfl wz (h_ldr 1 2 (.inr (by kernel_rfl)) (fun _ _ ag => trivial) sz56 ag56 rfl rfl (vL Screen.enc s_15.2.2) rfl wz ?_))))))))))))
   obtain ⟨r_33, hr_34, hc_16⟩ := bind_some hc_16
   refine h_callgq 2 (.inr (by kernel_rfl)) (slices_Clone_api_Screen_api_Screen_okb hr_34) rfl hb81 (by kernel_rfl) (by kernel_rfl) (by kernel_rfl) wz (fun n_35 => h_ldr 3 3 (.inr (by kernel_rfl)) (fun _ _ ag => ⟨.inl ⟨rfl, rfl⟩, ⟨.inr (.inl (dis1 (ag_ne ag (i := 3) (j := 4) rfl rfl (by decide)))), trivial⟩⟩) sz123 ag123 rfl rfl (.d (.agg (Screen.enc (⟨x_12, (⟨r_20.1, r_23.1, r_27.1, r_30.1⟩ : Rect)⟩ : Screen)))) rfl wz (h_lit (([(⟨x_12, (⟨r_20.1, r_23.1, r_27.1, r_30.1⟩ : Rect)⟩ : Screen)] : List Screen).map Screen.enc) es56 ez56 rfl rfl rfl rfl rfl wz ?_))
   obtain ⟨a_36, hz_37, hc_16⟩ := bind_some hc_16
   refine h_appg 5 (.inr (by kernel_rfl)) (fun _ _ ag => ⟨.inr (.inr (by kernel_rfl)), ⟨.inr (.inr (by kernel_rfl)), ⟨.inr (.inr (by kernel_rfl)), trivial⟩⟩⟩) (i := 4) el56 el56 sz123 z123 rfl (by decide) by123 (by decide) (fun _ => rfl) rfl rfl rfl hz_37 wz (fun n_38 => h_op (gV n_38 5 a_36) wz rfl (h_nil (wH_seq (wH_region (h_ldr 0 2 (.inl rfl) (fun _ _ _ => trivial) sz58 ag58 rfl rfl (.d (.agg (Wall.enc (⟨(⟨#[119]⟩ : ByteArray), r_3.1, r_6.1, s_15.2.2⟩ : Wall)))) rfl wz (h_alloc 0 (.inl rfl) z58 rfl wz (fun n_39 => h_str 0 (.inl rfl) (fun _ _ _ => trivial) 5 sz58 rfl rfl [(vS (⟨#[119]⟩ : ByteArray)), (vI r_3.1), (vI r_6.1), (vL Screen.enc s_15.2.2)] rfl wz (h_nil (wH_seq (wH_region (h_op (.ref (extN 0) 0 0) wz rfl ?_)))))))))))
   obtain ⟨r_40, hr_41, hc_16⟩ := bind_some hc_16
   refine h_callq 0 [0] (.inl rfl) (fun _ _ _ => trivial) (mk_Stream_Flip_ok hr_41) rfl hb9 rfl (by kernel_rfl) (by kernel_rfl) (by kernel_rfl) (by kernel_rfl) (by kernel_rfl) (by kernel_rfl) (by kernel_rfl) (by decide) (by kernel_rfl) wz (vB r_40.1) (by kernel_rfl) ([((extN 0), some (.cells 2 [(vL eI r_40.2.L), (vI r_40.2.f_at)])), (n_2, some (.cells 4 [(vS (⟨#[]⟩ : ByteArray)), (vI 0), (vI 0), .nil])), (n_9, some (.cells 4 [(vS (⟨#[119]⟩ : ByteArray)), (vI r_3.1), (vI r_6.1), (vL Screen.enc s_15.2.2)])), (n_26, some (.cells 5 [(vS x_12), (vI r_20.1), (vI r_23.1), (vI r_27.1), (vI r_30.1)])), (n_38, gB 5 Screen.enc a_36), (n_39, some (.cells 4 [(vS (⟨#[119]⟩ : ByteArray)), (vI r_3.1), (vI r_6.1), (vL Screen.enc s_15.2.2)]))] : Hp) (by kernel_rfl) (h_op (vB (!r_40.1)) wz rfl (h_nil ?_))
   obtain ⟨v_43, h_44, hc_16⟩ := bind_some hc_16
   refine wH_join (β := Unit) (fun _ => ([(0, (.ref (extN 0) 0 0)), (2, (.ref n_2 0 0)), (3, (.ref n_9 0 0)), (16, (vL eS ([(⟨#[115, 97]⟩ : ByteArray), (⟨#[115, 98]⟩ : ByteArray), (⟨#[115, 99]⟩ : ByteArray), (⟨#[115, 100]⟩ : ByteArray)] : List ByteArray))), (17, (vI (([(⟨#[115, 97]⟩ : ByteArray), (⟨#[115, 98]⟩ : ByteArray), (⟨#[115, 99]⟩ : ByteArray), (⟨#[115, 100]⟩ : ByteArray)] : List ByteArray).length : Int))), (18, (vI (k_10 : Int)))] : List (Nat × V))) (fun _ => ([((extN 0), some (.cells 2 [(vL eI r_40.2.L), (vI r_40.2.f_at)])), (n_2, some (.cells 4 [(vS (⟨#[]⟩ : ByteArray)), (vI 0), (vI 0), .nil])), (n_9, some (.cells 4 [(vS (⟨#[119]⟩ : ByteArray)), (vI r_3.1), (vI r_6.1), (vL Screen.enc v_43.1)])), (n_26, some (.cells 5 [(vS x_12), (vI r_20.1), (vI r_23.1), (vI r_27.1), (vI r_30.1)])), (n_39, some (.cells 4 [(vS (⟨#[119]⟩ : ByteArray)), (vI r_3.1), (vI r_6.1), (vL Screen.enc v_43.2)]))] : Hp)) (fun _ => True) ?_ ?_
   ·rcases cond_some h_44 with ⟨hc_45, h_44⟩ | ⟨hc_45, h_44⟩
    ·refine wH_ift rfl hc_45 (wH_seq (wH_region (h_op (gV n_38 5 a_36) wz rfl (h_far pl58_3 rfl 3 rfl wz (h_str 0 (.inl rfl) (fun _ _ _ => trivial) 5 sz56 rfl rfl [(vS (⟨#[119]⟩ : ByteArray)), (vI r_3.1), (vI r_6.1), (gV n_38 5 a_36)] (stC_g rfl) wz (h_nil (wH_seq (wH_frozg 4 rfl (wH_cog 7 4 rfl rfl (wH_cog 60 4 rfl rfl (wH_cog 65 4 rfl rfl (wH_coc 4 5 [(vS (⟨#[119]⟩ : ByteArray)), (vI r_3.1), (vI r_6.1), (vL Screen.enc a_36)] rfl rfl (fun S hS => cons_eq (rfl) (cons_eq (rfl) (cons_eq (rfl) (cons_eq (hS) (rfl))))) (wH_region (h_ldr 0 5 (.inl rfl) (fun _ _ _ => trivial) sz58 ag58 rfl rfl (.d (.agg (Wall.enc (⟨(⟨#[119]⟩ : ByteArray), r_3.1, r_6.1, a_36⟩ : Wall)))) rfl wz ?_))))))))))))))
     obtain ⟨r_46, hr_47, h_44⟩ := bind_some h_44
     refine h_call0 (ref_WallFault_ok hr_47) rfl hb29 rfl rfl rfl rfl wz (h_op (vB (r_46 == 0)) wz rfl (h_nil ?_))
     rcases cond_some h_44 with ⟨hc_48, h_44⟩ | ⟨hc_48, h_44⟩
     ·refine wH_ift rfl hc_48 (wH_region (h_ldr 0 5 (.inl rfl) (fun _ _ _ => trivial) sz58 ag58 rfl rfl (.d (.agg (Wall.enc (⟨(⟨#[119]⟩ : ByteArray), r_3.1, r_6.1, a_36⟩ : Wall)))) rfl wz (h_str 0 (.inl rfl) (fun _ _ _ => trivial) 2 sz58 rfl rfl [(vS (⟨#[119]⟩ : ByteArray)), (vI r_3.1), (vI r_6.1), (vL Screen.enc a_36)] rfl wz (h_nil ?_))))
      obtain rfl := some_inj h_44
      exact cut_mk () trivial rfl (pre_is [0, 1, 2, 3, 5] (by decide) rfl)
     ·refine wH_iff rfl hc_48 (wH_skip ?_)
      obtain rfl := some_inj h_44
      exact cut_mk () trivial rfl (pre_is [0, 1, 2, 3, 5] (by decide) rfl)
    ·refine wH_iff rfl hc_45 (wH_skip ?_)
     obtain rfl := some_inj h_44
     exact cut_mk () trivial rfl (pre_is [0, 1, 2, 3, 5] (by decide) rfl)
   ·rintro ⟨⟩ _ sl_ H_ hp_ hq_
    refine wH_at _ hp_ hq_ (wH_region (h_opw (w64_next hD_13 hn_14) wz rfl (h_op (vI ((k_10 + 1 : Nat) : Int)) wz rfl (h_nil ?_))))
    obtain rfl := some_inj hc_16
    exact loop_mk (k_10 + 1, l_11, (r_40.2.L, r_40.2.f_at, v_43.1)) ⟨hL_17, drop_next hD_13⟩ (Nat.lt_succ_self _) rfl (pre_r rfl)
 ·rintro s_15 ho_ sl_ H_ hp_ hq_
  subst ho_
  refine wH_at _ hp_ hq_ (wH_seq (wH_region (h_ldr 0 2 (.inl rfl) (fun _ _ _ => trivial) sz58 ag58 rfl rfl (.d (.agg (Wall.enc (⟨(⟨#[119]⟩ : ByteArray), r_3.1, r_6.1, s_15.2.2⟩ : Wall)))) rfl wz (h_str 0 (.inl rfl) (fun _ _ _ => trivial) 1 sz58 rfl rfl [(vS (⟨#[119]⟩ : ByteArray)), (vI r_3.1), (vI r_6.1), (vL Screen.enc s_15.2.2)] rfl wz (h_nil ?_)))))
  obtain rfl := some_inj hF
  exact wH_ret (finB (.inr rfl) [(.d (.agg (Wall.enc (⟨(⟨#[119]⟩ : ByteArray), r_3.1, r_6.1, s_15.2.2⟩ : Wall))))] _ [0] [extN 0] ⟨⟨1, _, _, _, _, _, _, _, rfl, rfl, sz58, ag58, rfl⟩, trivial⟩ (.cons (co_data rfl rfl) (.nil)) (by kernel_rfl) ⟨(by kernel_rfl), trivial⟩ (by decide) (by kernel_rfl))
theorem mk_Stream_Wall_ok {s_1 : Stream} {r : Wall × Stream} (hF : mk_Stream_Wall s_1 = some r) :
  FnM Tryz.prog 24 [(.ref (extN 0) 0 0)] [(.cells 2 [(vL eI s_1.L), (vI s_1.f_at)])] (.d (.agg (Wall.enc r.1))) [some (.cells 2 [(vL eI r.2.L), (vI r.2.f_at)])] := by
 refine FnM.of_wH ⟨Tryz.prog, 34, [], []⟩ rfl Tryz.func24 rfl rfl (Nat.le_of_ble_eq_true rfl) (by kernel_rfl) ?_
 unfold mk_Stream_Wall at hF
 refine wH_seq (wH_region (h_alloc 0 (.inl rfl) z58 rfl wz (fun n_2 => h_nil (wH_seq (wH_region (h_op (.ref (extN 0) 0 0) wz rfl ?_))))))
 obtain ⟨r_3, hr_4, hF⟩ := bind_some hF
 refine h_callq 0 [0] (.inl rfl) (fun _ _ _ => trivial) (mk_Stream_RightWall_ok hr_4) rfl hb80 rfl (by kernel_rfl) (by kernel_rfl) (by kernel_rfl) (by kernel_rfl) (by kernel_rfl) (by kernel_rfl) (by kernel_rfl) (by decide) (by kernel_rfl) wz (.d (.agg (Wall.enc r_3.1))) (by kernel_rfl) ([((extN 0), some (.cells 2 [(vL eI r_3.2.L), (vI r_3.2.f_at)])), (n_2, some (.cells 4 [(vS (⟨#[]⟩ : ByteArray)), (vI 0), (vI 0), .nil]))] : Hp) (by kernel_rfl) (h_alloc 0 (.inl rfl) z58 rfl wz (fun n_6 => h_str 0 (.inl rfl) (fun _ _ _ => trivial) 2 sz58 rfl rfl [(vS r_3.1.Key), (vI r_3.1.W), (vI r_3.1.H), (vL Screen.enc r_3.1.Screens)] rfl wz (h_nil (wH_seq (wH_seq (wH_region (h_op (.ref (extN 0) 0 0) wz rfl ?_)))))))
 obtain ⟨r_7, hr_8, hF⟩ := bind_some hF
 refine h_callq 0 [0] (.inl rfl) (fun _ _ _ => trivial) (mk_Stream_Flip_ok hr_8) rfl hb9 rfl (by kernel_rfl) (by kernel_rfl) (by kernel_rfl) (by kernel_rfl) (by kernel_rfl) (by kernel_rfl) (by kernel_rfl) (by decide) (by kernel_rfl) wz (vB r_7.1) (by kernel_rfl) ([((extN 0), some (.cells 2 [(vL eI r_7.2.L), (vI r_7.2.f_at)])), (n_2, some (.cells 4 [(vS (⟨#[]⟩ : ByteArray)), (vI 0), (vI 0), .nil])), (n_6, some (.cells 4 [(vS r_3.1.Key), (vI r_3.1.W), (vI r_3.1.H), (vL Screen.enc r_3.1.Screens)]))] : Hp) (by kernel_rfl) (h_nil ?_)
 obtain ⟨v_12, h_13, hF⟩ := bind_some hF
 refine wH_join (β := Unit) (fun _ => ([(2, (.ref n_2 0 0)), (3, (.ref n_6 0 0))] : List (Nat × V))) (fun _ => ([((extN 0), some (.cells 2 [(vL eI v_12.1), (vI v_12.2.1)])), (n_2, some (.cells 4 [(vS (⟨#[]⟩ : ByteArray)), (vI 0), (vI 0), .nil])), (n_6, some (.cells 4 [(vS v_12.2.2.1), (vI v_12.2.2.2.1), (vI r_3.1.H), (vL Screen.enc v_12.2.2.2.2)]))] : Hp)) (fun _ => True) ?_ ?_
 ·rcases cond_some h_13 with ⟨hc_14, h_13⟩ | ⟨hc_14, h_13⟩
  ·refine wH_ift rfl hc_14 (wH_seq (wH_region (h_op (.ref (extN 0) 0 0) wz rfl ?_)))
   obtain ⟨r_15, hr_16, h_13⟩ := bind_some h_13
   refine h_callq 0 [0] (.inl rfl) (fun _ _ _ => trivial) (mk_Stream_Next_ok hr_16) rfl hb57 rfl (by kernel_rfl) (by kernel_rfl) (by kernel_rfl) (by kernel_rfl) (by kernel_rfl) (by kernel_rfl) (by kernel_rfl) (by decide) (by kernel_rfl) wz (vI r_15.1) (by kernel_rfl) ([((extN 0), some (.cells 2 [(vL eI r_15.2.L), (vI r_15.2.f_at)])), (n_2, some (.cells 4 [(vS (⟨#[]⟩ : ByteArray)), (vI 0), (vI 0), .nil])), (n_6, some (.cells 4 [(vS r_3.1.Key), (vI r_3.1.W), (vI r_3.1.H), (vL Screen.enc r_3.1.Screens)]))] : Hp) (by kernel_rfl) (h_nil (wH_block (wH_seq (wH_region (h_op (vB (r_15.1 == 0)) wz rfl (h_op (vB (r_15.1 == 0)) wz rfl (h_nil ?_)))))))
   rcases cond_some h_13 with ⟨hc_18, h_13⟩ | ⟨hc_18, h_13⟩
   ·refine wH_ift rfl hc_18 (wH_region (h_op (.ref (extN 0) 0 0) wz rfl (h_lit (([(⟨#[]⟩ : ByteArray), (⟨#[65]⟩ : ByteArray)] : List ByteArray).map eS) es38 ez38 rfl rfl rfl rfl rfl wz ?_)))
    obtain ⟨r_19, hr_20, h_13⟩ := bind_some h_13
    refine h_callq 0 [0] (.inl rfl) (fun _ _ _ => trivial) (mk_Stream_Some_ok hr_20) rfl hb58 rfl (by kernel_rfl) (by kernel_rfl) (by kernel_rfl) (by kernel_rfl) (by kernel_rfl) (by kernel_rfl) (by kernel_rfl) (by decide) (by kernel_rfl) wz (vS r_19.1) (by kernel_rfl) ([((extN 0), some (.cells 2 [(vL eI r_19.2.L), (vI r_19.2.f_at)])), (n_2, some (.cells 4 [(vS (⟨#[]⟩ : ByteArray)), (vI 0), (vI 0), .nil])), (n_6, some (.cells 4 [(vS r_3.1.Key), (vI r_3.1.W), (vI r_3.1.H), (vL Screen.enc r_3.1.Screens)]))] : Hp) (by kernel_rfl) (h_far pl58_0 rfl 0 rfl wz (h_str 0 (.inl rfl) (fun _ _ _ => trivial) 2 sz9 rfl rfl [(vS r_19.1), (vI r_3.1.W), (vI r_3.1.H), (vL Screen.enc r_3.1.Screens)] rfl wz (h_nil ?_)))
    obtain rfl := some_inj h_13
    exact cut_mk () trivial rfl (pre_r rfl)
   ·refine wH_iff rfl hc_18 (wH_seq (wH_region (h_op (vB (r_15.1 == 1)) wz rfl (h_op (vB (r_15.1 == 1)) wz rfl (h_nil ?_)))))
    rcases cond_some h_13 with ⟨hc_22, h_13⟩ | ⟨hc_22, h_13⟩
    ·refine wH_ift rfl hc_22 (wH_region (h_op (.ref (extN 0) 0 0) wz rfl ?_))
     obtain ⟨r_23, hr_24, h_13⟩ := bind_some h_13
     refine h_callq 0 [0] (.inl rfl) (fun _ _ _ => trivial) (mk_Stream_Odd_ok hr_24) rfl hb10 rfl (by kernel_rfl) (by kernel_rfl) (by kernel_rfl) (by kernel_rfl) (by kernel_rfl) (by kernel_rfl) (by kernel_rfl) (by decide) (by kernel_rfl) wz (vI r_23.1) (by kernel_rfl) ([((extN 0), some (.cells 2 [(vL eI r_23.2.L), (vI r_23.2.f_at)])), (n_2, some (.cells 4 [(vS (⟨#[]⟩ : ByteArray)), (vI 0), (vI 0), .nil])), (n_6, some (.cells 4 [(vS r_3.1.Key), (vI r_3.1.W), (vI r_3.1.H), (vL Screen.enc r_3.1.Screens)]))] : Hp) (by kernel_rfl) (h_far pl58_1 rfl 1 rfl wz (h_str 0 (.inl rfl) (fun _ _ _ => trivial) 2 sz3 rfl rfl [(vS r_3.1.Key), (vI r_23.1), (vI r_3.1.H), (vL Screen.enc r_3.1.Screens)] rfl wz (h_nil ?_)))
     obtain rfl := some_inj h_13
     exact cut_mk () trivial rfl (pre_r rfl)
    ·refine wH_iff rfl hc_22 (wH_region (h_far pl58_3 rfl 3 rfl wz (h_ldr 0 2 (.inl rfl) (fun _ _ _ => trivial) sz56 ag56 rfl rfl (vL Screen.enc r_3.1.Screens) rfl wz ?_)))
     obtain ⟨r_26, hr_27, h_13⟩ := bind_some h_13
     refine h_callg [] (slices_Clone_api_Screen_api_Screen_okb hr_27) rfl hb81 rfl (by kernel_rfl) (by kernel_rfl) (by kernel_rfl) (by kernel_rfl) (by kernel_rfl) rfl (by decide) (by kernel_rfl) wz ([((extN 0), some (.cells 2 [(vL eI r_15.2.L), (vI r_15.2.f_at)])), (n_2, some (.cells 4 [(vS (⟨#[]⟩ : ByteArray)), (vI 0), (vI 0), .nil])), (n_6, some (.cells 4 [(vS r_3.1.Key), (vI r_3.1.W), (vI r_3.1.H), (vL Screen.enc r_3.1.Screens)]))] : Hp) (fun _ => by kernel_rfl) (fun n_29 => h_op (.ref (extN 0) 0 0) wz rfl (h_lit (([(⟨#[]⟩ : ByteArray), (⟨#[115, 97]⟩ : ByteArray), (⟨#[115, 122]⟩ : ByteArray)] : List ByteArray).map eS) es38 ez38 rfl rfl rfl rfl rfl wz ?_))
     obtain ⟨r_30, hr_31, h_13⟩ := bind_some h_13
     refine h_callq 0 [0] (.inl rfl) (fun _ _ _ => trivial) (mk_Stream_Some_ok hr_31) rfl hb58 rfl (by kernel_rfl) (by kernel_rfl) (by kernel_rfl) (by kernel_rfl) (by kernel_rfl) (by kernel_rfl) (by kernel_rfl) (by decide) (by kernel_rfl) wz (vS r_30.1) (by kernel_rfl) ([((extN 0), some (.cells 2 [(vL eI r_30.2.L), (vI r_30.2.f_at)])), (n_2, some (.cells 4 [(vS (⟨#[]⟩ : ByteArray)), (vI 0), (vI 0), .nil])), (n_6, some (.cells 4 [(vS r_3.1.Key), (vI r_3.1.W), (vI r_3.1.H), (vL Screen.enc r_3.1.Screens)])), (n_29, gB 5 Screen.enc r_26)] : Hp) (by kernel_rfl) (h_op (.ref (extN 0) 0 0) wz rfl ?_)
     obtain ⟨r_33, hr_34, h_13⟩ := bind_some h_13
     refine h_callq 0 [0] (.inl rfl) (fun _ _ _ => trivial) (mk_Stream_Rect_ok hr_34) rfl hb25 rfl (by kernel_rfl) (by kernel_rfl) (by kernel_rfl) (by kernel_rfl) (by kernel_rfl) (by kernel_rfl) (by kernel_rfl) (by decide) (by kernel_rfl) wz (.d (.agg (Rect.enc r_33.1))) (by kernel_rfl) ([((extN 0), some (.cells 2 [(vL eI r_33.2.L), (vI r_33.2.f_at)])), (n_2, some (.cells 4 [(vS (⟨#[]⟩ : ByteArray)), (vI 0), (vI 0), .nil])), (n_6, some (.cells 4 [(vS r_3.1.Key), (vI r_3.1.W), (vI r_3.1.H), (vL Screen.enc r_3.1.Screens)])), (n_29, gB 5 Screen.enc r_26)] : Hp) (by kernel_rfl) (h_op (.d (.agg (Screen.enc (⟨r_30.1, r_33.1⟩ : Screen)))) wz (by kernel_rfl) (h_lit (([(⟨r_30.1, r_33.1⟩ : Screen)] : List Screen).map Screen.enc) es56 ez56 rfl rfl rfl rfl rfl wz ?_))
     obtain ⟨a_36, hz_37, h_13⟩ := bind_some h_13
     refine h_appg 0 (.inl rfl) (fun _ _ _ => trivial) (i := 3) el56 el56 sz123 z123 rfl (by decide) by123 (by decide) (fun _ => rfl) rfl rfl rfl hz_37 wz (fun n_38 => h_far pl58_3 rfl 3 rfl wz (h_ghost (fun hw => wH_frozg 3 rfl hw) (by kernel_rfl) (h_ghost (fun hw => wH_cog 20 3 rfl rfl hw) (by kernel_rfl) (h_str 0 (.inl rfl) (fun _ _ _ => trivial) 2 sz56 rfl rfl [(vS r_3.1.Key), (vI r_3.1.W), (vI r_3.1.H), (vL Screen.enc a_36)] rfl wz (h_nil ?_)))))
     obtain rfl := some_inj h_13
     exact cut_mk () trivial rfl (pre_r rfl)
  ·refine wH_iff rfl hc_14 (wH_skip ?_)
   obtain rfl := some_inj h_13
   exact cut_mk () trivial rfl (pre_r rfl)
 ·rintro ⟨⟩ _ sl_ H_ hp_ hq_
  refine wH_at _ hp_ hq_ (wH_seq (wH_region (h_ldr 0 2 (.inl rfl) (fun _ _ _ => trivial) sz58 ag58 rfl rfl (.d (.agg (Wall.enc (⟨v_12.2.2.1, v_12.2.2.2.1, r_3.1.H, v_12.2.2.2.2⟩ : Wall)))) rfl wz (h_str 0 (.inl rfl) (fun _ _ _ => trivial) 1 sz58 rfl rfl [(vS v_12.2.2.1), (vI v_12.2.2.2.1), (vI r_3.1.H), (vL Screen.enc v_12.2.2.2.2)] rfl wz (h_nil ?_)))))
  obtain rfl := some_inj hF
  exact wH_ret (finB (.inr rfl) [(.d (.agg (Wall.enc (⟨v_12.2.2.1, v_12.2.2.2.1, r_3.1.H, v_12.2.2.2.2⟩ : Wall))))] _ [0] [extN 0] ⟨⟨1, _, _, _, _, _, _, _, rfl, rfl, sz58, ag58, rfl⟩, trivial⟩ (.cons (co_data rfl rfl) (.nil)) (by kernel_rfl) ⟨(by kernel_rfl), trivial⟩ (by decide) (by kernel_rfl))
theorem screen_meet_ok {a_1 : Rect} {b_2 : Rect} {r : Rect × Bool} (hF : screen_meet a_1 b_2 = some r) :
  FnM Tryz.prog 86 [(.d (.agg (Rect.enc a_1))), (.d (.agg (Rect.enc b_2)))] [] (.tup [(.d (.agg (Rect.enc r.1))), (vB r.2)]) [] := by
 refine FnM.of_wH ⟨Tryz.prog, 58, [], []⟩ rfl Tryz.func86 rfl rfl (Nat.le_of_ble_eq_true rfl) (by kernel_rfl) ?_
 unfold screen_meet at hF
 refine wH_seq (wH_region (h_box 0 (.inl rfl) [(vI a_1.X), (vI a_1.Y), (vI a_1.W), (vI a_1.H)] rfl rfl wz (fun n_3 => h_box 0 (.inl rfl) [(vI b_2.X), (vI b_2.Y), (vI b_2.W), (vI b_2.H)] rfl rfl wz (fun n_4 => h_alloc 0 (.inl rfl) z49 rfl wz (fun n_5 => h_op (vB false) wz rfl (h_nil (wH_seq (wH_draws (h_far pl49_0 rfl 0 rfl wz (h_ldr 1 0 (.inr (by kernel_rfl)) (fun _ _ ag => trivial) sz3 ag3 rfl rfl (vI a_1.X) rfl wz (h_far pl49_0 rfl 0 rfl wz (h_ldr 3 1 (.inr (by kernel_rfl)) (fun _ _ ag => ⟨.inl ⟨rfl, rfl⟩, trivial⟩) sz3 ag3 rfl rfl (vI b_2.X) rfl wz (h_minmax (vI (maxI a_1.X b_2.X)) rfl (.inr rfl) wz (h_far pl49_1 rfl 1 rfl wz (h_ldr 6 0 (.inr (by kernel_rfl)) (fun _ _ ag => ⟨.inl ⟨rfl, rfl⟩, ⟨.inl ⟨rfl, rfl⟩, trivial⟩⟩) sz3 ag3 rfl rfl (vI a_1.Y) rfl wz (h_far pl49_1 rfl 1 rfl wz (h_ldr 8 1 (.inr (by kernel_rfl)) (fun _ _ ag => ⟨.inl ⟨rfl, rfl⟩, ⟨.inl ⟨rfl, rfl⟩, ⟨.inl ⟨rfl, rfl⟩, trivial⟩⟩⟩) sz3 ag3 rfl rfl (vI b_2.Y) rfl wz (h_minmax (vI (maxI a_1.Y b_2.Y)) rfl (.inr rfl) wz (h_op (vI (maxI a_1.X b_2.X)) wz rfl (h_op (vI (maxI a_1.Y b_2.Y)) wz rfl (h_nil (wH_seq (wH_draws ?_)))))))))))))))))))))))
 refine h_far pl49_0 rfl 0 rfl wz (h_ldr 1 0 (.inr (by kernel_rfl)) (fun _ _ ag => trivial) sz3 ag3 rfl rfl (vI a_1.X) rfl wz (h_far pl49_2 rfl 2 rfl wz (h_ldr 3 0 (.inr (by kernel_rfl)) (fun _ _ ag => ⟨.inl ⟨rfl, rfl⟩, trivial⟩) sz3 ag3 rfl rfl (vI a_1.W) rfl wz (h_op (vI (w64 (a_1.X + a_1.W))) wz rfl (h_far pl49_0 rfl 0 rfl wz (h_ldr 6 1 (.inr (by kernel_rfl)) (fun _ _ ag => ⟨.inl ⟨rfl, rfl⟩, ⟨.inl ⟨rfl, rfl⟩, trivial⟩⟩) sz3 ag3 rfl rfl (vI b_2.X) rfl wz (h_far pl49_2 rfl 2 rfl wz (h_ldr 8 1 (.inr (by kernel_rfl)) (fun _ _ ag => ⟨.inl ⟨rfl, rfl⟩, ⟨.inl ⟨rfl, rfl⟩, ⟨.inl ⟨rfl, rfl⟩, trivial⟩⟩⟩) sz3 ag3 rfl rfl (vI b_2.W) rfl wz (h_op (vI (w64 (b_2.X + b_2.W))) wz rfl (h_minmax (vI (minI (w64 (a_1.X + a_1.W)) (w64 (b_2.X + b_2.W)))) rfl (.inl rfl) wz (h_op (vI (maxI a_1.X b_2.X)) wz rfl (h_op (vI (w64 ((minI (w64 (a_1.X + a_1.W)) (w64 (b_2.X + b_2.W))) - (maxI a_1.X b_2.X)))) wz rfl (h_far pl49_1 rfl 1 rfl wz (h_ldr 14 0 (.inr (by kernel_rfl)) (fun _ _ ag => ⟨.inl ⟨rfl, rfl⟩, ⟨.inl ⟨rfl, rfl⟩, ⟨.inl ⟨rfl, rfl⟩, ⟨.inl ⟨rfl, rfl⟩, trivial⟩⟩⟩⟩) sz3 ag3 rfl rfl (vI a_1.Y) rfl wz (h_far pl49_3 rfl 3 rfl wz (h_ldr 16 0 (.inr (by kernel_rfl)) (fun _ _ ag => ⟨.inl ⟨rfl, rfl⟩, ⟨.inl ⟨rfl, rfl⟩, ⟨.inl ⟨rfl, rfl⟩, ⟨.inl ⟨rfl, rfl⟩, ⟨.inl ⟨rfl, rfl⟩, trivial⟩⟩⟩⟩⟩) sz3 ag3 rfl rfl (vI a_1.H) rfl wz (h_op (vI (w64 (a_1.Y + a_1.H))) wz rfl (h_far pl49_1 rfl 1 rfl wz (h_ldr 19 1 (.inr (by kernel_rfl)) (fun _ _ ag => ⟨.inl ⟨rfl, rfl⟩, ⟨.inl ⟨rfl, rfl⟩, ⟨.inl ⟨rfl, rfl⟩, ⟨.inl ⟨rfl, rfl⟩, ⟨.inl ⟨rfl, rfl⟩, ⟨.inl ⟨rfl, rfl⟩, trivial⟩⟩⟩⟩⟩⟩) sz3 ag3 rfl rfl (vI b_2.Y) rfl wz (h_far pl49_3 rfl 3 rfl wz (h_ldr 21 1 (.inr (by kernel_rfl)) (fun _ _ ag => ⟨.inl ⟨rfl, rfl⟩, ⟨.inl ⟨rfl, rfl⟩, ⟨.inl ⟨rfl, rfl⟩, ⟨.inl ⟨rfl, rfl⟩, ⟨.inl ⟨rfl, rfl⟩, ⟨.inl ⟨rfl, rfl⟩, ⟨.inl ⟨rfl, rfl⟩, trivial⟩⟩⟩⟩⟩⟩⟩) sz3 ag3 rfl rfl (vI b_2.H) rfl wz (h_op (vI (w64 (b_2.Y + b_2.H))) wz rfl (h_minmax (vI (minI (w64 (a_1.Y + a_1.H)) (w64 (b_2.Y + b_2.H)))) rfl (.inl rfl) wz ?_)))))))))))))))))))))))
 refine h_op (vI (maxI a_1.Y b_2.Y)) wz rfl (h_op (vI (w64 ((minI (w64 (a_1.Y + a_1.H)) (w64 (b_2.Y + b_2.H))) - (maxI a_1.Y b_2.Y)))) wz rfl (h_op (vI (w64 ((minI (w64 (a_1.X + a_1.W)) (w64 (b_2.X + b_2.W))) - (maxI a_1.X b_2.X)))) wz rfl (h_op (vI (w64 ((minI (w64 (a_1.Y + a_1.H)) (w64 (b_2.Y + b_2.H))) - (maxI a_1.Y b_2.Y)))) wz rfl (h_nil (wH_at (H0 := ([(n_3, some (.cells 4 [(vI a_1.X), (vI a_1.Y), (vI a_1.W), (vI a_1.H)])), (n_4, some (.cells 4 [(vI b_2.X), (vI b_2.Y), (vI b_2.W), (vI b_2.H)])), (n_5, some (.cells 4 [(vI 0), (vI 0), (vI 0), (vI 0)]))] : Hp)) ([(4, (.ref n_5 0 0)), (6, (vI (maxI a_1.X b_2.X))), (7, (vI (maxI a_1.Y b_2.Y))), (8, (vI (w64 ((minI (w64 (a_1.X + a_1.W)) (w64 (b_2.X + b_2.W))) - (maxI a_1.X b_2.X))))), (9, (vI (w64 ((minI (w64 (a_1.Y + a_1.H)) (w64 (b_2.Y + b_2.H))) - (maxI a_1.Y b_2.Y)))))] : List (Nat × V)) (by kernel_rfl) (pre_mk (by kernel_rfl)) (wH_seq (wH_seq ?_)))))))
 obtain ⟨v_6, h_7, hF⟩ := bind_some hF
 refine wH_join (β := Unit) (fun _ => ([(4, (.ref n_5 0 0)), (6, (vI (maxI a_1.X b_2.X))), (7, (vI (maxI a_1.Y b_2.Y))), (8, (vI (w64 ((minI (w64 (a_1.X + a_1.W)) (w64 (b_2.X + b_2.W))) - (maxI a_1.X b_2.X))))), (9, (vI (w64 ((minI (w64 (a_1.Y + a_1.H)) (w64 (b_2.Y + b_2.H))) - (maxI a_1.Y b_2.Y))))), (51, (vB v_6))] : List (Nat × V))) (fun _ => ([(n_3, some (.cells 4 [(vI a_1.X), (vI a_1.Y), (vI a_1.W), (vI a_1.H)])), (n_4, some (.cells 4 [(vI b_2.X), (vI b_2.Y), (vI b_2.W), (vI b_2.H)])), (n_5, some (.cells 4 [(vI 0), (vI 0), (vI 0), (vI 0)]))] : Hp)) (fun _ => True) ?_ ?_
 ·refine wH_region (h_op (vI (w64 ((minI (w64 (a_1.X + a_1.W)) (w64 (b_2.X + b_2.W))) - (maxI a_1.X b_2.X)))) wz rfl (h_op (vB (decide ((w64 ((minI (w64 (a_1.X + a_1.W)) (w64 (b_2.X + b_2.W))) - (maxI a_1.X b_2.X))) ≤ 0))) wz rfl ?_))
  rcases cond_some h_7 with ⟨hc_8, h_7⟩ | ⟨hc_8, h_7⟩
  ·refine h_movb rfl hc_8 wz (h_skip (wg rfl rfl rfl) (h_skip (wg rfl rfl rfl) (h_op (vB true) wz rfl (h_nil ?_))))
   obtain rfl := some_inj h_7
   exact cut_mk () trivial rfl (pre_r rfl)
  ·refine h_movb rfl hc_8 wz (h_op (vI (w64 ((minI (w64 (a_1.Y + a_1.H)) (w64 (b_2.Y + b_2.H))) - (maxI a_1.Y b_2.Y)))) (wg rfl rfl rfl) rfl (h_op (vB (decide ((w64 ((minI (w64 (a_1.Y + a_1.H)) (w64 (b_2.Y + b_2.H))) - (maxI a_1.Y b_2.Y))) ≤ 0))) (wg rfl rfl rfl) rfl (h_op (vB (decide ((w64 ((minI (w64 (a_1.Y + a_1.H)) (w64 (b_2.Y + b_2.H))) - (maxI a_1.Y b_2.Y))) ≤ 0))) wz rfl (h_nil ?_))))
   obtain rfl := some_inj h_7
   exact cut_mk () trivial rfl (pre_r rfl)
 ·rintro ⟨⟩ _ sl_ H_ hp_ hq_
  refine wH_at _ hp_ hq_ ?_
  rcases cond_some hF with ⟨hc_9, hF⟩ | ⟨hc_9, hF⟩
  ·refine wH_ift rfl hc_9 (wH_seq (wH_region (h_op (.d (.agg (Rect.enc (⟨0, 0, 0, 0⟩ : Rect)))) wz (by kernel_rfl) (h_str 0 (.inl rfl) (fun _ _ _ => trivial) 2 sz49 rfl rfl [(vI 0), (vI 0), (vI 0), (vI 0)] rfl wz (h_op (vB false) wz rfl (h_nil ?_))))))
   obtain rfl := some_inj hF
   exact wH_ret (fin0 (.inr rfl) [(.d (.agg (Rect.enc (⟨0, 0, 0, 0⟩ : Rect)))), (vB false)] ⟨⟨2, _, _, _, _, _, _, _, rfl, rfl, sz49, ag49, rfl⟩, ⟨rfl, trivial⟩⟩ rfl rfl rfl)
  ·refine wH_iff rfl hc_9 (wH_skip (wH_seq (wH_region (h_op (vI (maxI a_1.X b_2.X)) wz rfl (h_op (vI (maxI a_1.Y b_2.Y)) wz rfl (h_op (vI (w64 ((minI (w64 (a_1.X + a_1.W)) (w64 (b_2.X + b_2.W))) - (maxI a_1.X b_2.X)))) wz rfl (h_op (vI (w64 ((minI (w64 (a_1.Y + a_1.H)) (w64 (b_2.Y + b_2.H))) - (maxI a_1.Y b_2.Y)))) wz rfl (h_op (.d (.agg (Rect.enc (⟨(maxI a_1.X b_2.X), (maxI a_1.Y b_2.Y), (w64 ((minI (w64 (a_1.X + a_1.W)) (w64 (b_2.X + b_2.W))) - (maxI a_1.X b_2.X))), (w64 ((minI (w64 (a_1.Y + a_1.H)) (w64 (b_2.Y + b_2.H))) - (maxI a_1.Y b_2.Y)))⟩ : Rect)))) wz (by kernel_rfl) (h_str 0 (.inl rfl) (fun _ _ _ => trivial) 2 sz49 rfl rfl [(vI (maxI a_1.X b_2.X)), (vI (maxI a_1.Y b_2.Y)), (vI (w64 ((minI (w64 (a_1.X + a_1.W)) (w64 (b_2.X + b_2.W))) - (maxI a_1.X b_2.X)))), (vI (w64 ((minI (w64 (a_1.Y + a_1.H)) (w64 (b_2.Y + b_2.H))) - (maxI a_1.Y b_2.Y))))] rfl wz (h_op (vB true) wz rfl (h_nil ?_)))))))))))
   obtain rfl := some_inj hF
   exact wH_ret (fin0 (.inr rfl) [(.d (.agg (Rect.enc (⟨(maxI a_1.X b_2.X), (maxI a_1.Y b_2.Y), (w64 ((minI (w64 (a_1.X + a_1.W)) (w64 (b_2.X + b_2.W))) - (maxI a_1.X b_2.X))), (w64 ((minI (w64 (a_1.Y + a_1.H)) (w64 (b_2.Y + b_2.H))) - (maxI a_1.Y b_2.Y)))⟩ : Rect)))), (vB true)] ⟨⟨2, _, _, _, _, _, _, _, rfl, rfl, sz49, ag49, rfl⟩, ⟨rfl, trivial⟩⟩ rfl rfl rfl)
theorem screen_CheckWall_ok {wv_1 : Wall} {r : Int} (hF : screen_CheckWall wv_1 = some r) :
  FnM Tryz.prog 30 [(.d (.agg (Wall.enc wv_1)))] [] (vI r) [] := by
 refine FnM.of_wH ⟨Tryz.prog, 99, [], []⟩ rfl Tryz.func30 rfl rfl (Nat.le_of_ble_eq_true rfl) (by kernel_rfl) ?_
 unfold screen_CheckWall at hF
 refine wH_seq (wH_region (h_box 0 (.inl rfl) [(vS wv_1.Key), (vI wv_1.W), (vI wv_1.H), (vL Screen.enc wv_1.Screens)] rfl rfl wz (fun n_2 => h_op (vI 0) wz rfl (h_nil (wH_seq (wH_seq (wH_region (h_far pl58_0 rfl 0 rfl wz (h_ldr 0 0 (.inl rfl) (fun _ _ _ => trivial) sz9 ag9 rfl rfl (vS wv_1.Key) rfl wz ?_)))))))))
 obtain ⟨r_3, hr_4, hF⟩ := bind_some hF
 refine h_call0 (kit_IsKey_ok hr_4) rfl hb69 rfl rfl rfl rfl wz (h_op (vB (!r_3)) wz rfl (h_nil ?_))
 rcases cond_some hF with ⟨hc_5, hF⟩ | ⟨hc_5, hF⟩
 ·refine wH_ift rfl hc_5 (wH_seq (wH_region (h_op (vI 5) wz rfl (h_nil ?_))))
  obtain rfl := some_inj hF
  exact wH_ret (fin0 (.inr rfl) [(vI 5)] ⟨rfl, trivial⟩ rfl rfl rfl)
 ·refine wH_iff rfl hc_5 (wH_skip (wH_seq (wH_seq (wH_region (h_far pl58_1 rfl 1 rfl wz (h_ldr 0 0 (.inl rfl) (fun _ _ _ => trivial) sz3 ag3 rfl rfl (vI wv_1.W) rfl wz (h_far pl58_2 rfl 2 rfl wz (h_ldr 0 0 (.inl rfl) (fun _ _ _ => trivial) sz3 ag3 rfl rfl (vI wv_1.H) rfl wz (h_lit (([wv_1.W, wv_1.H] : List Int).map eI) es22 ez22 rfl rfl rfl rfl rfl wz ?_)))))))))
  obtain ⟨r_6, hr_7, hF⟩ := bind_some hF
  refine h_call0 (screen_sidesFault_ok hr_7) rfl hb70 rfl rfl rfl rfl wz (h_op (vI r_6) wz rfl (h_nil (wH_seq (wH_region (h_op (vI r_6) wz rfl (h_op (vB (r_6 != 0)) wz rfl (h_nil ?_)))))))
  rcases cond_some hF with ⟨hc_8, hF⟩ | ⟨hc_8, hF⟩
  ·refine wH_ift rfl hc_8 (wH_seq (wH_region (h_op (vI r_6) wz rfl (h_op (vI r_6) wz rfl (h_nil ?_)))))
   obtain rfl := some_inj hF
   exact wH_ret (fin0 (.inr rfl) [(vI r_6)] ⟨rfl, trivial⟩ rfl rfl rfl)
  ·refine wH_iff rfl hc_8 (wH_skip (wH_seq (wH_seq (wH_region (h_far pl58_3 rfl 3 rfl wz (h_ldr 0 0 (.inl rfl) (fun _ _ _ => trivial) sz56 ag56 rfl rfl (vL Screen.enc wv_1.Screens) rfl wz (h_len un56 rfl wz (h_op (vB (decide ((wv_1.Screens.length : Int) > 50))) wz rfl (h_nil ?_)))))))))
   rcases cond_some hF with ⟨hc_9, hF⟩ | ⟨hc_9, hF⟩
   ·refine wH_ift rfl hc_9 (wH_seq (wH_region (h_op (vI 2) wz rfl (h_nil ?_))))
    obtain rfl := some_inj hF
    exact wH_ret (fin0 (.inr rfl) [(vI 2)] ⟨rfl, trivial⟩ rfl rfl rfl)
   ·refine wH_iff rfl hc_9 (wH_skip (wH_seq (wH_seq (wH_region (h_far pl58_3 rfl 3 rfl wz (h_ldr 0 0 (.inl rfl) (fun _ _ _ => trivial) sz56 ag56 rfl rfl (vL Screen.enc wv_1.Screens) rfl wz (h_len un56 rfl wz (h_op (vI 0) wz rfl (h_nil ?_)))))))))
    obtain ⟨o_18, hj_19, hF⟩ := bind_some hF
    obtain ⟨hn_14, hj_19⟩ := forL_some hj_19
    refine wH_join (β := (Unit)) (fun (s_15 : Unit) => ([(1, (.ref n_2 0 0))] : List (Nat × V))) (fun (s_15 : Unit) => ([(n_2, some (.cells 4 [(vS wv_1.Key), (vI wv_1.W), (vI wv_1.H), (vL Screen.enc wv_1.Screens)]))] : Hp)) (fun p => o_18 = .go p) ?_ ?_
    ·refine wH_block (wH_loop (β := Nat × (List Screen) × (Unit)) (fun p => (fun (k_10 : Nat) (l_11 : List Screen) (s_15 : Unit) => ([(1, (.ref n_2 0 0)), (31, (vL Screen.enc wv_1.Screens)), (32, (vI (wv_1.Screens.length : Int))), (33, (vI (k_10 : Int)))] : List (Nat × V))) p.1 p.2.1 p.2.2) (fun p => (fun (k_10 : Nat) (l_11 : List Screen) (s_15 : Unit) => ([(n_2, some (.cells 4 [(vS wv_1.Key), (vI wv_1.W), (vI wv_1.H), (vL Screen.enc wv_1.Screens)]))] : Hp)) p.1 p.2.1 p.2.2) (fun p => forR (fun k x s => screen_CheckWall_L1 wv_1 k x s) p.2.1 p.1 p.2.2 = some o_18 ∧ (wv_1.Screens).drop p.1 = p.2.1) (fun p => p.2.1.length) (0, wv_1.Screens, ()) ⟨hj_19, rfl⟩ rfl (pre_r rfl) ?_)
     rintro ⟨k_10, l_11, s_15⟩ ⟨hL_17, hD_13⟩
     dsimp only at hL_17 hD_13
     cases l_11 with
     | nil =>
      obtain rfl := some_inj hL_17
      refine wH_seq (wH_region (h_op (vB (decide ((k_10 : Int) < (wv_1.Screens.length : Int)))) wz rfl (h_nil ?_)))
      refine wH_seq (wH_iff rfl (drop_nil hD_13) (wH_exit ?_))
      exact cut_mk (s_15) rfl rfl (pre_r rfl)
     | cons x_12 l_11 =>
      obtain ⟨c_, hc_16, hL_17⟩ := bind_some hL_17
      refine wH_seq (wH_region (h_op (vB (decide ((k_10 : Int) < (wv_1.Screens.length : Int)))) wz rfl (h_nil ?_)))
      refine wH_seq (wH_ift rfl (drop_cons hD_13) (wH_skip ?_))
      unfold screen_CheckWall_L1 at hc_16
      refine wH_seq (wH_block (wH_seq (wH_region (h_op (vI (k_10 : Int)) wz rfl (h_ia es56 rfl rfl (drop_idx hD_13) rfl wz (h_ldc sz123 ag123 rfl (.d (.agg (Screen.enc x_12))) rfl wz (h_alloc 0 (.inl rfl) z123 rfl wz (fun n_20 => h_op (vI (k_10 : Int)) wz rfl (h_str 0 (.inl rfl) (fun _ _ _ => trivial) 1 sz123 rfl rfl [(vS x_12.Key), (vI x_12.On.X), (vI x_12.On.Y), (vI x_12.On.W), (vI x_12.On.H)] rfl wz (h_nil (wH_seq (wH_seq (wH_region (h_far pl123_0 rfl 0 rfl wz (h_ldr 0 1 (.inl rfl) (fun _ _ _ => trivial) sz9 ag9 rfl rfl (vS x_12.Key) rfl wz ?_)))))))))))))))
      obtain ⟨r_21, hr_22, hc_16⟩ := bind_some hc_16
      refine h_call0 (kit_IsKey_ok hr_22) rfl hb69 rfl rfl rfl rfl wz (h_op (vB (!r_21)) wz rfl (h_nil ?_))
      rcases cond_some hc_16 with ⟨hc_23, hc_16⟩ | ⟨hc_23, hc_16⟩
      ·refine wH_ift rfl hc_23 (wH_seq (wH_region (h_op (vI 5) wz rfl (h_nil ?_))))
       obtain rfl := some_inj hc_16
       obtain rfl := some_inj hL_17
       obtain rfl := some_inj hF
       exact wH_ret (fin0 (.inr rfl) [(vI 5)] ⟨rfl, trivial⟩ rfl rfl rfl)
      ·refine wH_iff rfl hc_23 (wH_skip (wH_seq (wH_seq (wH_region (h_far pl123_1 rfl 1 rfl wz (h_ldr 0 1 (.inl rfl) (fun _ _ _ => trivial) sz49 ag49 rfl rfl (.d (.agg (Rect.enc x_12.On))) rfl wz ?_))))))
       obtain ⟨r_24, hr_25, hc_16⟩ := bind_some hc_16
       refine h_call0 (screen_CheckRect_ok hr_25) rfl hb71 rfl rfl rfl rfl wz (h_op (vI r_24) wz rfl (h_nil (wH_seq (wH_region (h_op (vI r_24) wz rfl (h_op (vB (r_24 != 0)) wz rfl (h_nil ?_)))))))
       rcases cond_some hc_16 with ⟨hc_26, hc_16⟩ | ⟨hc_26, hc_16⟩
       ·refine wH_ift rfl hc_26 (wH_seq (wH_region (h_op (vI r_24) wz rfl (h_op (vI r_24) wz rfl (h_nil ?_)))))
        obtain rfl := some_inj hc_16
        obtain rfl := some_inj hL_17
        obtain rfl := some_inj hF
        exact wH_ret (fin0 (.inr rfl) [(vI r_24)] ⟨rfl, trivial⟩ rfl rfl rfl)
       ·refine wH_iff rfl hc_26 (wH_skip (wH_seq (wH_seq (wH_region (h_far pl123_1 rfl 1 rfl wz (h_ldr 0 1 (.inl rfl) (fun _ _ _ => trivial) sz49 ag49 rfl rfl (.d (.agg (Rect.enc x_12.On))) rfl wz (h_far pl58_1 rfl 1 rfl wz (h_ldr 0 0 (.inl rfl) (fun _ _ _ => trivial) sz3 ag3 rfl rfl (vI wv_1.W) rfl wz (h_far pl58_2 rfl 2 rfl wz (h_ldr 0 0 (.inl rfl) (fun _ _ _ => trivial) sz3 ag3 rfl rfl (vI wv_1.H) rfl wz ?_))))))))))
        obtain ⟨r_27, hr_28, hc_16⟩ := bind_some hc_16
        refine h_call0 (screen_inside_ok hr_28) rfl hb72 rfl rfl rfl rfl wz (h_op (vB (!r_27)) wz rfl (h_nil ?_))
        rcases cond_some hc_16 with ⟨hc_29, hc_16⟩ | ⟨hc_29, hc_16⟩
        ·refine wH_ift rfl hc_29 (wH_seq (wH_region (h_op (vI 3) wz rfl (h_nil ?_))))
         obtain rfl := some_inj hc_16
         obtain rfl := some_inj hL_17
         obtain rfl := some_inj hF
         exact wH_ret (fin0 (.inr rfl) [(vI 3)] ⟨rfl, trivial⟩ rfl rfl rfl)
        ·refine wH_iff rfl hc_29 (wH_skip (wH_seq ?_))
         obtain ⟨v_30, h_31, hc_16⟩ := bind_some hc_16
         refine wH_join (β := Unit) (fun _ => ([(1, (.ref n_2 0 0)), (31, (vL Screen.enc wv_1.Screens)), (32, (vI (wv_1.Screens.length : Int))), (33, (vI (k_10 : Int))), (69, (vB v_30))] : List (Nat × V))) (fun _ => ([(n_2, some (.cells 4 [(vS wv_1.Key), (vI wv_1.W), (vI wv_1.H), (vL Screen.enc wv_1.Screens)])), (n_20, some (.cells 5 [(vS x_12.Key), (vI x_12.On.X), (vI x_12.On.Y), (vI x_12.On.W), (vI x_12.On.H)]))] : Hp)) (fun _ => True) ?_ ?_
         ·refine wH_draws (h_op (vI (k_10 : Int)) wz rfl (h_op (vB (decide ((k_10 : Int) > 0))) wz rfl ?_))
          rcases cond_some h_31 with ⟨hc_32, h_31⟩ | ⟨hc_32, h_31⟩
          ·refine h_movb rfl hc_32 wz (h_far pl123_0 rfl 0 rfl (wg rfl rfl rfl) (h_ldr 4 1 (.inr (by kernel_rfl)) (fun _ _ ag => trivial) sz9 ag9 rfl rfl (vS x_12.Key) rfl (wg rfl rfl rfl) (h_far pl58_3 rfl 3 rfl (wg rfl rfl rfl) (h_ldr 6 0 (.inr (by kernel_rfl)) (fun _ _ ag => ⟨.inl ⟨rfl, rfl⟩, trivial⟩) sz56 ag56 rfl rfl (vL Screen.enc wv_1.Screens) rfl (wg rfl rfl rfl) (h_op (vI (k_10 : Int)) (wg rfl rfl rfl) rfl (h_op (vI (w64 ((k_10 : Int) - 1))) (wg rfl rfl rfl) rfl ?_))))))
           obtain ⟨y_33, hy_34, h_31⟩ := bind_some h_31
           refine h_ia es56 rfl rfl hy_34 rfl (wg rfl rfl rfl) (h_fac pl123_0 rfl [.str y_33.Key, .int .i64 y_33.On.X, .int .i64 y_33.On.Y, .int .i64 y_33.On.W, .int .i64 y_33.On.H] rfl rfl (wg rfl rfl rfl) (h_ldc sz9 ag9 rfl (vS y_33.Key) rfl (wg rfl rfl rfl) (h_op (vB (sLe x_12.Key y_33.Key)) (wg rfl rfl rfl) rfl (h_op (vB (sLe x_12.Key y_33.Key)) wz rfl (h_nil ?_)))))
           obtain rfl := some_inj h_31
           exact cut_mk () trivial rfl (pre_r rfl)
          ·refine h_movb rfl hc_32 wz (h_skip (wg rfl rfl rfl) (h_skip (wg rfl rfl rfl) (h_skip (wg rfl rfl rfl) (h_skip (wg rfl rfl rfl) (h_skip (wg rfl rfl rfl) (h_skip (wg rfl rfl rfl) (h_skip (wg rfl rfl rfl) (h_skip (wg rfl rfl rfl) (h_skip (wg rfl rfl rfl) (h_skip (wg rfl rfl rfl) (h_op (vB false) wz rfl (h_nil ?_))))))))))))
           obtain rfl := some_inj h_31
           exact cut_mk () trivial rfl (pre_r rfl)
         ·rintro ⟨⟩ _ sl_ H_ hp_ hq_
          refine wH_at _ hp_ hq_ ?_
          rcases cond_some hc_16 with ⟨hc_35, hc_16⟩ | ⟨hc_35, hc_16⟩
          ·refine wH_ift rfl hc_35 (wH_seq (wH_region (h_op (vI 7) wz rfl (h_nil ?_))))
           obtain rfl := some_inj hc_16
           obtain rfl := some_inj hL_17
           obtain rfl := some_inj hF
           exact wH_ret (fin0 (.inr rfl) [(vI 7)] ⟨rfl, trivial⟩ rfl rfl rfl)
          ·refine wH_iff rfl hc_35 (wH_skip (wH_region (h_opw (w64_next hD_13 hn_14) wz rfl (h_op (vI ((k_10 + 1 : Nat) : Int)) wz rfl (h_nil ?_)))))
           obtain rfl := some_inj hc_16
           exact loop_mk (k_10 + 1, l_11, ()) ⟨hL_17, drop_next hD_13⟩ (Nat.lt_succ_self _) rfl (pre_r rfl)
    ·rintro s_15 ho_ sl_ H_ hp_ hq_
     subst ho_
     refine wH_at _ hp_ hq_ (wH_seq (wH_seq (wH_region (h_far pl58_3 rfl 3 rfl wz (h_ldr 0 0 (.inl rfl) (fun _ _ _ => trivial) sz56 ag56 rfl rfl (vL Screen.enc wv_1.Screens) rfl wz (h_len un56 rfl wz (h_op (vI 0) wz rfl (h_nil ?_))))))))
     obtain ⟨o_44, hj_45, hF⟩ := bind_some hF
     obtain ⟨hn_40, hj_45⟩ := forL_some hj_45
     refine wH_join (β := (Unit)) (fun (s_41 : Unit) => ([] : List (Nat × V))) (fun (s_41 : Unit) => ([(n_2, some (.cells 4 [(vS wv_1.Key), (vI wv_1.W), (vI wv_1.H), (vL Screen.enc wv_1.Screens)]))] : Hp)) (fun p => o_44 = .go p) ?_ ?_
     ·refine wH_block (wH_loop (β := Nat × (List Screen) × (Unit)) (fun p => (fun (k_36 : Nat) (l_37 : List Screen) (s_41 : Unit) => ([(1, (.ref n_2 0 0)), (72, (vL Screen.enc wv_1.Screens)), (73, (vI (wv_1.Screens.length : Int))), (74, (vI (k_36 : Int)))] : List (Nat × V))) p.1 p.2.1 p.2.2) (fun p => (fun (k_36 : Nat) (l_37 : List Screen) (s_41 : Unit) => ([(n_2, some (.cells 4 [(vS wv_1.Key), (vI wv_1.W), (vI wv_1.H), (vL Screen.enc wv_1.Screens)]))] : Hp)) p.1 p.2.1 p.2.2) (fun p => forR (fun k x s => screen_CheckWall_L3 wv_1 k x s) p.2.1 p.1 p.2.2 = some o_44 ∧ (wv_1.Screens).drop p.1 = p.2.1) (fun p => p.2.1.length) (0, wv_1.Screens, ()) ⟨hj_45, rfl⟩ rfl (pre_r rfl) ?_)
      rintro ⟨k_36, l_37, s_41⟩ ⟨hL_43, hD_39⟩
      dsimp only at hL_43 hD_39
      cases l_37 with
      | nil =>
       obtain rfl := some_inj hL_43
       refine wH_seq (wH_region (h_op (vB (decide ((k_36 : Int) < (wv_1.Screens.length : Int)))) wz rfl (h_nil ?_)))
       refine wH_seq (wH_iff rfl (drop_nil hD_39) (wH_exit ?_))
       exact cut_mk (s_41) rfl rfl (pre_r rfl)
      | cons x_38 l_37 =>
       obtain ⟨c_, hc_42, hL_43⟩ := bind_some hL_43
       refine wH_seq (wH_region (h_op (vB (decide ((k_36 : Int) < (wv_1.Screens.length : Int)))) wz rfl (h_nil ?_)))
       refine wH_seq (wH_ift rfl (drop_cons hD_39) (wH_skip ?_))
       unfold screen_CheckWall_L3 at hc_42
       refine wH_seq (wH_block (wH_seq (wH_region (h_op (vI (k_36 : Int)) wz rfl (h_ia es56 rfl rfl (drop_idx hD_39) rfl wz (h_ldc sz123 ag123 rfl (.d (.agg (Screen.enc x_38))) rfl wz (h_alloc 0 (.inl rfl) z123 rfl wz (fun n_46 => h_op (vI (k_36 : Int)) wz rfl (h_str 0 (.inl rfl) (fun _ _ _ => trivial) 1 sz123 rfl rfl [(vS x_38.Key), (vI x_38.On.X), (vI x_38.On.Y), (vI x_38.On.W), (vI x_38.On.H)] rfl wz (h_nil (wH_seq (wH_region (h_far pl58_3 rfl 3 rfl wz (h_ldr 0 0 (.inl rfl) (fun _ _ _ => trivial) sz56 ag56 rfl rfl (vL Screen.enc wv_1.Screens) rfl wz (h_op (vI (k_36 : Int)) wz rfl ?_)))))))))))))))
       obtain ⟨y_47, hy_48, hc_42⟩ := bind_some hc_42
       refine h_sublFalseTrue un56 sz123 (fun _ => rfl) rfl rfl hy_48 wz (h_len un56 rfl wz (h_op (vI 0) wz rfl (h_nil ?_)))
       obtain ⟨o_57, hj_58, hc_42⟩ := bind_some hc_42
       obtain ⟨hn_53, hj_58⟩ := forL_some hj_58
       refine wH_join (β := (Unit)) (fun (s_54 : Unit) => ([(1, (.ref n_2 0 0)), (72, (vL Screen.enc wv_1.Screens)), (73, (vI (wv_1.Screens.length : Int))), (74, (vI (k_36 : Int)))] : List (Nat × V))) (fun (s_54 : Unit) => ([(n_2, some (.cells 4 [(vS wv_1.Key), (vI wv_1.W), (vI wv_1.H), (vL Screen.enc wv_1.Screens)])), (n_46, some (.cells 5 [(vS x_38.Key), (vI x_38.On.X), (vI x_38.On.Y), (vI x_38.On.W), (vI x_38.On.H)]))] : Hp)) (fun p => o_57 = .go p) ?_ ?_
       ·refine wH_block (wH_loop (β := Nat × (List Screen) × (Unit)) (fun p => (fun (k_49 : Nat) (l_50 : List Screen) (s_54 : Unit) => ([(1, (.ref n_2 0 0)), (8, (.ref n_46 0 0)), (72, (vL Screen.enc wv_1.Screens)), (73, (vI (wv_1.Screens.length : Int))), (74, (vI (k_36 : Int))), (82, (vL Screen.enc y_47)), (83, (vI (y_47.length : Int))), (84, (vI (k_49 : Int)))] : List (Nat × V))) p.1 p.2.1 p.2.2) (fun p => (fun (k_49 : Nat) (l_50 : List Screen) (s_54 : Unit) => ([(n_2, some (.cells 4 [(vS wv_1.Key), (vI wv_1.W), (vI wv_1.H), (vL Screen.enc wv_1.Screens)])), (n_46, some (.cells 5 [(vS x_38.Key), (vI x_38.On.X), (vI x_38.On.Y), (vI x_38.On.W), (vI x_38.On.H)]))] : Hp)) p.1 p.2.1 p.2.2) (fun p => forR (fun k x s => screen_CheckWall_L2 x_38 k x s) p.2.1 p.1 p.2.2 = some o_57 ∧ (y_47).drop p.1 = p.2.1) (fun p => p.2.1.length) (0, y_47, ()) ⟨hj_58, rfl⟩ rfl (pre_r rfl) ?_)
        rintro ⟨k_49, l_50, s_54⟩ ⟨hL_56, hD_52⟩
        dsimp only at hL_56 hD_52
        cases l_50 with
        | nil =>
         obtain rfl := some_inj hL_56
         refine wH_seq (wH_region (h_op (vB (decide ((k_49 : Int) < (y_47.length : Int)))) wz rfl (h_nil ?_)))
         refine wH_seq (wH_iff rfl (drop_nil hD_52) (wH_exit ?_))
         exact cut_mk (s_54) rfl rfl (pre_r rfl)
        | cons x_51 l_50 =>
         obtain ⟨c_, hc_55, hL_56⟩ := bind_some hL_56
         refine wH_seq (wH_region (h_op (vB (decide ((k_49 : Int) < (y_47.length : Int)))) wz rfl (h_nil ?_)))
         refine wH_seq (wH_ift rfl (drop_cons hD_52) (wH_skip ?_))
         unfold screen_CheckWall_L2 at hc_55
         refine wH_seq (wH_block (wH_seq (wH_region (h_ia es56 rfl rfl (drop_idx hD_52) rfl wz (h_ldc sz123 ag123 rfl (.d (.agg (Screen.enc x_51))) rfl wz (h_alloc 0 (.inl rfl) z123 rfl wz (fun n_59 => h_str 0 (.inl rfl) (fun _ _ _ => trivial) 2 sz123 rfl rfl [(vS x_51.Key), (vI x_51.On.X), (vI x_51.On.Y), (vI x_51.On.W), (vI x_51.On.H)] rfl wz (h_nil (wH_seq (wH_region (h_far pl123_1 rfl 1 rfl wz (h_ldr 0 1 (.inl rfl) (fun _ _ _ => trivial) sz49 ag49 rfl rfl (.d (.agg (Rect.enc x_38.On))) rfl wz (h_far pl123_1 rfl 1 rfl wz (h_ldr 0 2 (.inl rfl) (fun _ _ _ => trivial) sz49 ag49 rfl rfl (.d (.agg (Rect.enc x_51.On))) rfl wz ?_))))))))))))))
         obtain ⟨r_60, hr_61, hc_55⟩ := bind_some hc_55
         refine h_call0 (screen_meet_ok hr_61) rfl hb86 rfl rfl rfl rfl wz (h_op (.tup [(.d (.agg (Rect.enc r_60.1))), (vB r_60.2)]) wz rfl (h_op (.d (.agg (Rect.enc r_60.1))) wz rfl (h_op (vB r_60.2) wz rfl (h_alloc 0 (.inl rfl) z49 rfl wz (fun n_62 => h_str 0 (.inl rfl) (fun _ _ _ => trivial) 3 sz49 rfl rfl [(vI r_60.1.X), (vI r_60.1.Y), (vI r_60.1.W), (vI r_60.1.H)] rfl wz (h_op (vB r_60.2) wz rfl (h_nil (wH_seq (wH_region (h_op (vB r_60.2) wz rfl (h_nil ?_)))))))))))
         rcases cond_some hc_55 with ⟨hc_63, hc_55⟩ | ⟨hc_63, hc_55⟩
         ·refine wH_ift rfl hc_63 (wH_seq (wH_region (h_op (vI 13) wz rfl (h_nil ?_))))
          obtain rfl := some_inj hc_55
          obtain rfl := some_inj hL_56
          obtain rfl := some_inj hc_42
          obtain rfl := some_inj hL_43
          obtain rfl := some_inj hF
          exact wH_ret (fin0 (.inr rfl) [(vI 13)] ⟨rfl, trivial⟩ rfl rfl rfl)
         ·refine wH_iff rfl hc_63 (wH_skip (wH_region (h_opw (w64_next hD_52 hn_53) wz rfl (h_op (vI ((k_49 + 1 : Nat) : Int)) wz rfl (h_nil ?_)))))
          obtain rfl := some_inj hc_55
          exact loop_mk (k_49 + 1, l_50, ()) ⟨hL_56, drop_next hD_52⟩ (Nat.lt_succ_self _) rfl (pre_r rfl)
       ·rintro s_54 ho_ sl_ H_ hp_ hq_
        subst ho_
        refine wH_at _ hp_ hq_ (wH_region (h_opw (w64_next hD_39 hn_40) wz rfl (h_op (vI ((k_36 + 1 : Nat) : Int)) wz rfl (h_nil ?_))))
        obtain rfl := some_inj hc_42
        exact loop_mk (k_36 + 1, l_37, ()) ⟨hL_43, drop_next hD_39⟩ (Nat.lt_succ_self _) rfl (pre_r rfl)
     ·rintro s_41 ho_ sl_ H_ hp_ hq_
      subst ho_
      refine wH_at _ hp_ hq_ (wH_seq (wH_region (h_op (vI 0) wz rfl (h_nil ?_))))
      obtain rfl := some_inj hF
      exact wH_ret (fin0 (.inr rfl) [(vI 0)] ⟨rfl, trivial⟩ rfl rfl rfl)
theorem screen_scale_ok {r_1 : Rect} {wv_2 : Int} {h_3 : Int} {toW_4 : Int} {toH_5 : Int} {r : Rect} (hF : screen_scale r_1 wv_2 h_3 toW_4 toH_5 = some r) :
  FnM Tryz.prog 126 [(.d (.agg (Rect.enc r_1))), (vI wv_2), (vI h_3), (vI toW_4), (vI toH_5)] [] (.d (.agg (Rect.enc r))) [] := by
 refine FnM.of_wH ⟨Tryz.prog, 61, [], []⟩ rfl Tryz.func126 rfl rfl (Nat.le_of_ble_eq_true rfl) (by kernel_rfl) ?_
 unfold screen_scale at hF
 refine wH_seq (wH_region (h_box 0 (.inl rfl) [(vI r_1.X), (vI r_1.Y), (vI r_1.W), (vI r_1.H)] rfl rfl wz (fun n_6 => h_alloc 0 (.inl rfl) z49 rfl wz (fun n_7 => h_nil (wH_seq (wH_draws (h_far pl49_0 rfl 0 rfl wz (h_ldr 1 0 (.inr (by kernel_rfl)) (fun _ _ ag => trivial) sz3 ag3 rfl rfl (vI r_1.X) rfl wz (h_op (vI toW_4) wz rfl (h_op (vI (w64 (r_1.X * toW_4))) wz rfl (h_op (vI wv_2) wz rfl ?_)))))))))))
 obtain ⟨q_8, hz_9, hF⟩ := bind_some hF
 refine h_quo rfl rfl hz_9 wz (h_far pl49_1 rfl 1 rfl wz (h_ldr 7 0 (.inr (by kernel_rfl)) (fun _ _ ag => ⟨.inl ⟨rfl, rfl⟩, trivial⟩) sz3 ag3 rfl rfl (vI r_1.Y) rfl wz (h_op (vI toH_5) wz rfl (h_op (vI (w64 (r_1.Y * toH_5))) wz rfl (h_op (vI h_3) wz rfl ?_)))))
 obtain ⟨q_10, hz_11, hF⟩ := bind_some hF
 refine h_quo rfl rfl hz_11 wz (h_op (vI q_8) wz rfl (h_op (vI q_10) wz rfl (h_nil (wH_seq (wH_draws (h_op (vI q_8) wz rfl (h_op (vI q_10) wz rfl (h_far pl49_0 rfl 0 rfl wz (h_ldr 3 0 (.inr (by kernel_rfl)) (fun _ _ ag => trivial) sz3 ag3 rfl rfl (vI r_1.X) rfl wz (h_far pl49_2 rfl 2 rfl wz (h_ldr 5 0 (.inr (by kernel_rfl)) (fun _ _ ag => ⟨.inl ⟨rfl, rfl⟩, trivial⟩) sz3 ag3 rfl rfl (vI r_1.W) rfl wz (h_op (vI (w64 (r_1.X + r_1.W))) wz rfl (h_op (vI toW_4) wz rfl (h_op (vI (w64 ((w64 (r_1.X + r_1.W)) * toW_4))) wz rfl (h_op (vI wv_2) wz rfl ?_)))))))))))))))
 obtain ⟨q_12, hz_13, hF⟩ := bind_some hF
 refine h_quo rfl rfl hz_13 wz (h_op (vI q_8) wz rfl (h_op (vI (w64 (q_12 - q_8))) wz rfl (h_far pl49_1 rfl 1 rfl wz (h_ldr 14 0 (.inr (by kernel_rfl)) (fun _ _ ag => ⟨.inl ⟨rfl, rfl⟩, ⟨.inl ⟨rfl, rfl⟩, trivial⟩⟩) sz3 ag3 rfl rfl (vI r_1.Y) rfl wz (h_far pl49_3 rfl 3 rfl wz (h_ldr 16 0 (.inr (by kernel_rfl)) (fun _ _ ag => ⟨.inl ⟨rfl, rfl⟩, ⟨.inl ⟨rfl, rfl⟩, ⟨.inl ⟨rfl, rfl⟩, trivial⟩⟩⟩) sz3 ag3 rfl rfl (vI r_1.H) rfl wz (h_op (vI (w64 (r_1.Y + r_1.H))) wz rfl (h_op (vI toH_5) wz rfl (h_op (vI (w64 ((w64 (r_1.Y + r_1.H)) * toH_5))) wz rfl (h_op (vI h_3) wz rfl ?_))))))))))
 obtain ⟨q_14, hz_15, hF⟩ := bind_some hF
 refine h_quo rfl rfl hz_15 wz (h_op (vI q_10) wz rfl (h_op (vI (w64 (q_14 - q_10))) wz rfl (h_op (.d (.agg (Rect.enc (⟨q_8, q_10, (w64 (q_12 - q_8)), (w64 (q_14 - q_10))⟩ : Rect)))) wz (by kernel_rfl) (h_alloc 25 (.inr (by kernel_rfl)) z49 rfl wz (fun n_16 => h_str 26 (.inr (by kernel_rfl)) (fun _ _ ag => ⟨.inr (.inr (by kernel_rfl)), ⟨.inr (.inr (by kernel_rfl)), ⟨.inr (.inr (by kernel_rfl)), ⟨.inr (.inr (by kernel_rfl)), ⟨.inr (.inr (by kernel_rfl)), trivial⟩⟩⟩⟩⟩) 2 sz49 rfl rfl [(vI q_8), (vI q_10), (vI (w64 (q_12 - q_8))), (vI (w64 (q_14 - q_10)))] rfl wz (h_nil (wH_at (H0 := ([(n_6, some (.cells 4 [(vI r_1.X), (vI r_1.Y), (vI r_1.W), (vI r_1.H)])), (n_7, some (.cells 4 [(vI 0), (vI 0), (vI 0), (vI 0)])), (n_16, some (.cells 4 [(vI q_8), (vI q_10), (vI (w64 (q_12 - q_8))), (vI (w64 (q_14 - q_10)))]))] : Hp)) ([(10, (.ref n_7 0 0)), (13, (.ref n_16 0 0))] : List (Nat × V)) (by kernel_rfl) (pre_mk (by kernel_rfl)) (wH_seq (wH_seq ?_)))))))))
 obtain ⟨v_17, h_18, hF⟩ := bind_some hF
 refine wH_join (β := Unit) (fun _ => ([(10, (.ref n_7 0 0)), (13, (.ref n_16 0 0)), (58, (vB v_17))] : List (Nat × V))) (fun _ => ([(n_6, some (.cells 4 [(vI r_1.X), (vI r_1.Y), (vI r_1.W), (vI r_1.H)])), (n_7, some (.cells 4 [(vI 0), (vI 0), (vI 0), (vI 0)])), (n_16, some (.cells 4 [(vI q_8), (vI q_10), (vI (w64 (q_12 - q_8))), (vI (w64 (q_14 - q_10)))]))] : Hp)) (fun _ => True) ?_ ?_
 ·refine wH_region (h_far pl49_2 rfl 2 rfl wz (h_ldr 0 2 (.inl rfl) (fun _ _ _ => trivial) sz3 ag3 rfl rfl (vI (w64 (q_12 - q_8))) rfl wz (h_op (vB ((w64 (q_12 - q_8)) == 0)) wz rfl ?_)))
  rcases cond_some h_18 with ⟨hc_19, h_18⟩ | ⟨hc_19, h_18⟩
  ·refine h_movb rfl hc_19 wz (h_skip (wg rfl rfl rfl) (h_skip (wg rfl rfl rfl) (h_skip (wg rfl rfl rfl) (h_op (vB true) wz rfl (h_nil ?_)))))
   obtain rfl := some_inj h_18
   exact cut_mk () trivial rfl (pre_r rfl)
  ·refine h_movb rfl hc_19 wz (h_far pl49_3 rfl 3 rfl (wg rfl rfl rfl) (h_ldr 0 2 (.inl rfl) (fun _ _ _ => trivial) sz3 ag3 rfl rfl (vI (w64 (q_14 - q_10))) rfl (wg rfl rfl rfl) (h_op (vB ((w64 (q_14 - q_10)) == 0)) (wg rfl rfl rfl) rfl (h_op (vB ((w64 (q_14 - q_10)) == 0)) wz rfl (h_nil ?_)))))
   obtain rfl := some_inj h_18
   exact cut_mk () trivial rfl (pre_r rfl)
 ·rintro ⟨⟩ _ sl_ H_ hp_ hq_
  refine wH_at _ hp_ hq_ ?_
  rcases cond_some hF with ⟨hc_20, hF⟩ | ⟨hc_20, hF⟩
  ·refine wH_ift rfl hc_20 (wH_seq (wH_region (h_op (.d (.agg (Rect.enc (⟨0, 0, 0, 0⟩ : Rect)))) wz (by kernel_rfl) (h_str 0 (.inl rfl) (fun _ _ _ => trivial) 1 sz49 rfl rfl [(vI 0), (vI 0), (vI 0), (vI 0)] rfl wz (h_nil ?_)))))
   obtain rfl := some_inj hF
   exact wH_ret (fin0 (.inr rfl) [(.d (.agg (Rect.enc (⟨0, 0, 0, 0⟩ : Rect))))] ⟨⟨1, _, _, _, _, _, _, _, rfl, rfl, sz49, ag49, rfl⟩, trivial⟩ rfl rfl rfl)
  ·refine wH_iff rfl hc_20 (wH_skip (wH_seq (wH_region (h_ldr 0 2 (.inl rfl) (fun _ _ _ => trivial) sz49 ag49 rfl rfl (.d (.agg (Rect.enc (⟨q_8, q_10, (w64 (q_12 - q_8)), (w64 (q_14 - q_10))⟩ : Rect)))) rfl wz (h_str 0 (.inl rfl) (fun _ _ _ => trivial) 1 sz49 rfl rfl [(vI q_8), (vI q_10), (vI (w64 (q_12 - q_8))), (vI (w64 (q_14 - q_10)))] rfl wz (h_nil ?_))))))
   obtain rfl := some_inj hF
   exact wH_ret (fin0 (.inr rfl) [(.d (.agg (Rect.enc (⟨q_8, q_10, (w64 (q_12 - q_8)), (w64 (q_14 - q_10))⟩ : Rect))))] ⟨⟨1, _, _, _, _, _, _, _, rfl, rfl, sz49, ag49, rfl⟩, trivial⟩ rfl rfl rfl)
theorem screen_scaled_ok {wv_1 : Wall} {l_2 : Layout} {r : (List Piece) × Int} (hF : screen_scaled wv_1 l_2 = some r) :
  FnM Tryz.prog 91 [(.d (.agg (Wall.enc wv_1))), (.d (.agg (Layout.enc l_2)))] [] (.tup [(vL Piece.enc r.1), (vI r.2)]) [] := by
 refine FnM.of_wH ⟨Tryz.prog, 61, [], []⟩ rfl Tryz.func91 rfl rfl (Nat.le_of_ble_eq_true rfl) (by kernel_rfl) ?_
 unfold screen_scaled at hF
 refine wH_seq (wH_region (h_box 0 (.inl rfl) [(vS wv_1.Key), (vI wv_1.W), (vI wv_1.H), (vL Screen.enc wv_1.Screens)] rfl rfl wz (fun n_3 => h_box 0 (.inl rfl) [(vS l_2.Key), (vI l_2.W), (vI l_2.H), (vL Zone.enc l_2.Zones)] rfl rfl wz (fun n_4 => h_op .nil wz rfl (h_op (vI 0) wz rfl (h_nil (wH_seq (wH_seq (wH_region (h_ldr 0 0 (.inl rfl) (fun _ _ _ => trivial) sz58 ag58 rfl rfl (.d (.agg (Wall.enc wv_1))) rfl wz ?_))))))))))
 obtain ⟨r_5, hr_6, hF⟩ := bind_some hF
 refine h_call0 (screen_CheckWall_ok hr_6) rfl hb30 rfl rfl rfl rfl wz (h_op (vI r_5) wz rfl (h_nil (wH_seq (wH_region (h_op (vI r_5) wz rfl (h_op (vB (r_5 != 0)) wz rfl (h_nil ?_)))))))
 rcases cond_some hF with ⟨hc_7, hF⟩ | ⟨hc_7, hF⟩
 ·refine wH_ift rfl hc_7 (wH_seq (wH_region (h_op (vI r_5) wz rfl (h_op .nil wz rfl (h_op (vI r_5) wz rfl (h_nil ?_))))))
  obtain rfl := some_inj hF
  exact wH_ret (fin0 (.inr rfl) [.nil, (vI r_5)] ⟨rfl, ⟨rfl, trivial⟩⟩ rfl rfl rfl)
 ·refine wH_iff rfl hc_7 (wH_skip (wH_seq (wH_seq (wH_region (h_ldr 0 1 (.inl rfl) (fun _ _ _ => trivial) sz28 ag28 rfl rfl (.d (.agg (Layout.enc l_2))) rfl wz ?_)))))
  obtain ⟨r_8, hr_9, hF⟩ := bind_some hF
  refine h_call0 (screen_CheckLayout_ok hr_9) rfl hb15 rfl rfl rfl rfl wz (h_op (vI r_8) wz rfl (h_nil (wH_seq (wH_region (h_op (vI r_8) wz rfl (h_op (vB (r_8 != 0)) wz rfl (h_nil ?_)))))))
  rcases cond_some hF with ⟨hc_10, hF⟩ | ⟨hc_10, hF⟩
  ·refine wH_ift rfl hc_10 (wH_seq (wH_region (h_op (vI r_8) wz rfl (h_op .nil wz rfl (h_op (vI r_8) wz rfl (h_nil ?_))))))
   obtain rfl := some_inj hF
   exact wH_ret (fin0 (.inr rfl) [.nil, (vI r_8)] ⟨rfl, ⟨rfl, trivial⟩⟩ rfl rfl rfl)
  ·refine wH_iff rfl hc_10 (wH_skip (wH_seq (wH_region (h_ldr 0 1 (.inl rfl) (fun _ _ _ => trivial) sz28 ag28 rfl rfl (.d (.agg (Layout.enc l_2))) rfl wz ?_))))
   obtain ⟨r_11, hr_12, hF⟩ := bind_some hF
   refine h_call0 (screen_seen_ok hr_12) rfl hb63 rfl rfl rfl rfl wz (h_op (.tup [(vL Piece.enc r_11.1), (vI r_11.2)]) wz rfl (h_op (vL Piece.enc r_11.1) wz rfl (h_op (vI r_11.2) wz rfl (h_op (vL Piece.enc r_11.1) wz rfl (h_op (vI r_11.2) wz rfl (h_nil (wH_seq (wH_seq (wH_region (h_op (vI r_11.2) wz rfl (h_op (vB (r_11.2 != 0)) wz rfl (h_nil ?_))))))))))))
   rcases cond_some hF with ⟨hc_13, hF⟩ | ⟨hc_13, hF⟩
   ·refine wH_ift rfl hc_13 (wH_seq (wH_region (h_op (vI r_11.2) wz rfl (h_op .nil wz rfl (h_op (vI r_11.2) wz rfl (h_nil ?_))))))
    obtain rfl := some_inj hF
    exact wH_ret (fin0 (.inr rfl) [.nil, (vI r_11.2)] ⟨rfl, ⟨rfl, trivial⟩⟩ rfl rfl rfl)
   ·refine wH_iff rfl hc_13 (wH_skip (wH_seq (wH_region (h_op .nil wz rfl (h_nil (wH_seq (wH_seq (wH_region (h_op (vL Piece.enc r_11.1) wz rfl (h_len un35 rfl wz (h_op (vI 0) wz rfl (h_nil (wH_new (fun n_20 => ?_))))))))))))))
    obtain ⟨o_25, hj_26, hF⟩ := bind_some hF
    obtain ⟨hn_18, hj_26⟩ := forL_some hj_26
    refine wH_join (β := ((List Piece)) × Nm) (fun p => (fun (s_19 : (List Piece)) (n_22 : Nm) => ([(10, (gV n_22 5 s_19))] : List (Nat × V))) p.1 p.2) (fun p => (fun (s_19 : (List Piece)) (n_22 : Nm) => ([(n_3, some (.cells 4 [(vS wv_1.Key), (vI wv_1.W), (vI wv_1.H), (vL Screen.enc wv_1.Screens)])), (n_4, some (.cells 4 [(vS l_2.Key), (vI l_2.W), (vI l_2.H), (vL Zone.enc l_2.Zones)])), (n_22, gB 5 Piece.enc s_19)] : Hp)) p.1 p.2) (fun p => o_25 = .go p.1) ?_ ?_
    ·refine wH_block (wH_loop (β := Nat × (List Piece) × ((List Piece)) × Nm) (fun p => (fun (k_14 : Nat) (l_15 : List Piece) (s_19 : (List Piece)) (n_22 : Nm) => ([(2, (.ref n_3 0 0)), (3, (.ref n_4 0 0)), (10, (gV n_22 5 s_19)), (32, (vL Piece.enc r_11.1)), (33, (vI (r_11.1.length : Int))), (34, (vI (k_14 : Int)))] : List (Nat × V))) p.1 p.2.1 p.2.2.1 p.2.2.2) (fun p => (fun (k_14 : Nat) (l_15 : List Piece) (s_19 : (List Piece)) (n_22 : Nm) => ([(n_3, some (.cells 4 [(vS wv_1.Key), (vI wv_1.W), (vI wv_1.H), (vL Screen.enc wv_1.Screens)])), (n_4, some (.cells 4 [(vS l_2.Key), (vI l_2.W), (vI l_2.H), (vL Zone.enc l_2.Zones)])), (n_22, gB 5 Piece.enc s_19)] : Hp)) p.1 p.2.1 p.2.2.1 p.2.2.2) (fun p => forR (fun k x s => screen_scaled_L1 l_2 wv_1 k x s) p.2.1 p.1 p.2.2.1 = some o_25 ∧ (r_11.1).drop p.1 = p.2.1) (fun p => p.2.1.length) (0, r_11.1, ([] : List Piece), n_20) ⟨hj_26, rfl⟩ rfl (pre_r rfl) ?_)
     rintro ⟨k_14, l_15, s_19, n_22⟩ ⟨hL_24, hD_17⟩
     dsimp only at hL_24 hD_17
     cases l_15 with
     | nil =>
      obtain rfl := some_inj hL_24
      refine wH_seq (wH_region (h_op (vB (decide ((k_14 : Int) < (r_11.1.length : Int)))) wz rfl (h_nil ?_)))
      refine wH_seq (wH_iff rfl (drop_nil hD_17) (wH_exit ?_))
      exact cut_mk (s_19, n_22) rfl rfl (pre_r rfl)
     | cons x_16 l_15 =>
      obtain ⟨c_, hc_23, hL_24⟩ := bind_some hL_24
      refine wH_seq (wH_region (h_op (vB (decide ((k_14 : Int) < (r_11.1.length : Int)))) wz rfl (h_nil ?_)))
      refine wH_seq (wH_ift rfl (drop_cons hD_17) (wH_skip ?_))
      unfold screen_scaled_L1 at hc_23
      refine wH_seq (wH_block (wH_seq (wH_region (h_ia es35 rfl rfl (drop_idx hD_17) rfl wz (h_ldc sz51 ag51 rfl (.d (.agg (Piece.enc x_16))) rfl wz (h_alloc 0 (.inl rfl) z51 rfl wz (fun n_27 => h_str 0 (.inl rfl) (fun _ _ _ => trivial) 3 sz51 rfl rfl [(vS x_16.Zone), (vI x_16.On.X), (vI x_16.On.Y), (vI x_16.On.W), (vI x_16.On.H)] rfl wz (h_nil (wH_seq (wH_region (h_far pl51_1 rfl 1 rfl wz (h_ldr 0 3 (.inl rfl) (fun _ _ _ => trivial) sz49 ag49 rfl rfl (.d (.agg (Rect.enc x_16.On))) rfl wz (h_far pl28_1 rfl 1 rfl wz (h_ldr 0 1 (.inl rfl) (fun _ _ _ => trivial) sz3 ag3 rfl rfl (vI l_2.W) rfl wz (h_far pl28_2 rfl 2 rfl wz (h_ldr 0 1 (.inl rfl) (fun _ _ _ => trivial) sz3 ag3 rfl rfl (vI l_2.H) rfl wz (h_far pl58_1 rfl 1 rfl wz (h_ldr 0 0 (.inl rfl) (fun _ _ _ => trivial) sz3 ag3 rfl rfl (vI wv_1.W) rfl wz (h_far pl58_2 rfl 2 rfl wz (h_ldr 0 0 (.inl rfl) (fun _ _ _ => trivial) sz3 ag3 rfl rfl (vI wv_1.H) rfl wz ?_))))))))))))))))))))
      obtain ⟨r_28, hr_29, hc_23⟩ := bind_some hc_23
      refine h_call0 (screen_scale_ok hr_29) rfl hb126 rfl rfl rfl rfl wz (h_alloc 0 (.inl rfl) z49 rfl wz (fun n_30 => h_str 0 (.inl rfl) (fun _ _ _ => trivial) 4 sz49 rfl rfl [(vI r_28.X), (vI r_28.Y), (vI r_28.W), (vI r_28.H)] rfl wz (h_nil (wH_seq (wH_region (h_far pl49_2 rfl 2 rfl wz (h_ldr 0 4 (.inl rfl) (fun _ _ _ => trivial) sz3 ag3 rfl rfl (vI r_28.W) rfl wz (h_op (vB (decide (r_28.W > 0))) wz rfl (h_nil ?_)))))))))
      obtain ⟨v_31, h_32, hc_23⟩ := bind_some hc_23
      refine wH_join (β := Nm) (fun (n_33 : Nm) => ([(2, (.ref n_3 0 0)), (3, (.ref n_4 0 0)), (10, (gV n_33 5 v_31)), (32, (vL Piece.enc r_11.1)), (33, (vI (r_11.1.length : Int))), (34, (vI (k_14 : Int)))] : List (Nat × V))) (fun (n_33 : Nm) => ([(n_3, some (.cells 4 [(vS wv_1.Key), (vI wv_1.W), (vI wv_1.H), (vL Screen.enc wv_1.Screens)])), (n_4, some (.cells 4 [(vS l_2.Key), (vI l_2.W), (vI l_2.H), (vL Zone.enc l_2.Zones)])), (n_33, gB 5 Piece.enc v_31), (n_27, some (.cells 5 [(vS x_16.Zone), (vI x_16.On.X), (vI x_16.On.Y), (vI x_16.On.W), (vI x_16.On.H)])), (n_30, some (.cells 4 [(vI r_28.X), (vI r_28.Y), (vI r_28.W), (vI r_28.H)]))] : Hp)) (fun _ => True) ?_ ?_
      ·rcases cond_some h_32 with ⟨hc_34, h_32⟩ | ⟨hc_34, h_32⟩
       ·refine wH_ift rfl hc_34 (wH_region (h_op (gV n_22 5 s_19) wz rfl (h_far pl51_0 rfl 0 rfl wz (h_ldr 0 3 (.inl rfl) (fun _ _ _ => trivial) sz9 ag9 rfl rfl (vS x_16.Zone) rfl wz (h_ldr 0 4 (.inl rfl) (fun _ _ _ => trivial) sz49 ag49 rfl rfl (.d (.agg (Rect.enc r_28))) rfl wz (h_op (.d (.agg (Piece.enc (⟨x_16.Zone, r_28⟩ : Piece)))) wz (by kernel_rfl) (h_lit (([(⟨x_16.Zone, r_28⟩ : Piece)] : List Piece).map Piece.enc) es35 ez35 rfl rfl rfl rfl rfl wz ?_)))))))
        obtain ⟨a_35, hz_36, h_32⟩ := bind_some h_32
        refine h_appg 0 (.inl rfl) (fun _ _ _ => trivial) (i := 2) el35 el35 sz51 z51 rfl (by decide) by51 (by decide) (fun _ => rfl) rfl rfl rfl hz_36 wz (fun n_37 => h_op (gV n_37 5 a_35) wz rfl (h_nil ?_))
        obtain rfl := some_inj h_32
        exact cut_mk n_37 trivial rfl (pre_r rfl)
       ·refine wH_iff rfl hc_34 (wH_skip ?_)
        obtain rfl := some_inj h_32
        exact cut_mk n_22 trivial rfl (pre_r rfl)
      ·rintro n_33 _ sl_ H_ hp_ hq_
       refine wH_at _ hp_ hq_ (wH_region (h_opw (w64_next hD_17 hn_18) wz rfl (h_op (vI ((k_14 + 1 : Nat) : Int)) wz rfl (h_nil ?_))))
       obtain rfl := some_inj hc_23
       exact loop_mk (k_14 + 1, l_15, v_31, n_33) ⟨hL_24, drop_next hD_17⟩ (Nat.lt_succ_self _) rfl (pre_r rfl)
    ·rintro ⟨s_19, n_22⟩ ho_ sl_ H_ hp_ hq_
     subst ho_
     refine wH_at _ hp_ hq_ (wH_seq (wH_region (h_op (gV n_22 5 s_19) wz rfl (h_op (gV n_22 5 s_19) wz rfl (h_op (vI 0) wz rfl (h_nil (wH_frozg 2 rfl (wH_cog 4 2 rfl rfl (wH_cog 10 2 rfl rfl (wH_cog 60 2 rfl rfl ?_))))))))))
     obtain rfl := some_inj hF
     exact wH_ret (fin0 (.inr rfl) [(vL Piece.enc s_19), (vI 0)] ⟨rfl, ⟨rfl, trivial⟩⟩ rfl rfl rfl)
theorem screen_moved_ok {r_1 : Rect} {byv_2 : Rect} {r : Rect} (hF : screen_moved r_1 byv_2 = some r) :
  FnM Tryz.prog 87 [(.d (.agg (Rect.enc r_1))), (.d (.agg (Rect.enc byv_2)))] [] (.d (.agg (Rect.enc r))) [] := by
 refine FnM.of_wH ⟨Tryz.prog, 20, [], []⟩ rfl Tryz.func87 rfl rfl (Nat.le_of_ble_eq_true rfl) (by kernel_rfl) ?_
 unfold screen_moved at hF
 refine wH_seq (wH_region (h_box 0 (.inl rfl) [(vI r_1.X), (vI r_1.Y), (vI r_1.W), (vI r_1.H)] rfl rfl wz (fun n_3 => h_box 0 (.inl rfl) [(vI byv_2.X), (vI byv_2.Y), (vI byv_2.W), (vI byv_2.H)] rfl rfl wz (fun n_4 => h_alloc 0 (.inl rfl) z49 rfl wz (fun n_5 => h_nil (wH_seq (wH_region (h_far pl49_0 rfl 0 rfl wz (h_ldr 0 0 (.inl rfl) (fun _ _ _ => trivial) sz3 ag3 rfl rfl (vI r_1.X) rfl wz (h_far pl49_0 rfl 0 rfl wz (h_ldr 0 1 (.inl rfl) (fun _ _ _ => trivial) sz3 ag3 rfl rfl (vI byv_2.X) rfl wz (h_op (vI (w64 (r_1.X - byv_2.X))) wz rfl (h_far pl49_1 rfl 1 rfl wz (h_ldr 0 0 (.inl rfl) (fun _ _ _ => trivial) sz3 ag3 rfl rfl (vI r_1.Y) rfl wz (h_far pl49_1 rfl 1 rfl wz (h_ldr 0 1 (.inl rfl) (fun _ _ _ => trivial) sz3 ag3 rfl rfl (vI byv_2.Y) rfl wz (h_op (vI (w64 (r_1.Y - byv_2.Y))) wz rfl (h_far pl49_2 rfl 2 rfl wz (h_ldr 0 0 (.inl rfl) (fun _ _ _ => trivial) sz3 ag3 rfl rfl (vI r_1.W) rfl wz (h_far pl49_3 rfl 3 rfl wz (h_ldr 0 0 (.inl rfl) (fun _ _ _ => trivial) sz3 ag3 rfl rfl (vI r_1.H) rfl wz (h_op (.d (.agg (Rect.enc (⟨(w64 (r_1.X - byv_2.X)), (w64 (r_1.Y - byv_2.Y)), r_1.W, r_1.H⟩ : Rect)))) wz (by kernel_rfl) (h_str 0 (.inl rfl) (fun _ _ _ => trivial) 2 sz49 rfl rfl [(vI (w64 (r_1.X - byv_2.X))), (vI (w64 (r_1.Y - byv_2.Y))), (vI r_1.W), (vI r_1.H)] rfl wz ?_)))))))))))))))))))))))
 refine h_nil ?_
 obtain rfl := some_inj hF
 exact wH_ret (fin0 (.inr rfl) [(.d (.agg (Rect.enc (⟨(w64 (r_1.X - byv_2.X)), (w64 (r_1.Y - byv_2.Y)), r_1.W, r_1.H⟩ : Rect))))] ⟨⟨2, _, _, _, _, _, _, _, rfl, rfl, sz49, ag49, rfl⟩, trivial⟩ rfl rfl rfl)
theorem screen_Views_ok {wv_1 : Wall} {l_2 : Layout} {r : (List View) × Int} (hF : screen_Views wv_1 l_2 = some r) :
  FnM Tryz.prog 37 [(.d (.agg (Wall.enc wv_1))), (.d (.agg (Layout.enc l_2)))] [] (.tup [(vL View.enc r.1), (vI r.2)]) [] := by
 refine FnM.of_wH ⟨Tryz.prog, 61, [], []⟩ rfl Tryz.func37 rfl rfl (Nat.le_of_ble_eq_true rfl) (by kernel_rfl) ?_
 unfold screen_Views at hF
 refine wH_seq (wH_region (h_box 0 (.inl rfl) [(vS wv_1.Key), (vI wv_1.W), (vI wv_1.H), (vL Screen.enc wv_1.Screens)] rfl rfl wz (fun n_3 => h_box 0 (.inl rfl) [(vS l_2.Key), (vI l_2.W), (vI l_2.H), (vL Zone.enc l_2.Zones)] rfl rfl wz (fun n_4 => h_op .nil wz rfl (h_op (vI 0) wz rfl (h_nil (wH_seq (wH_region (h_ldr 0 0 (.inl rfl) (fun _ _ _ => trivial) sz58 ag58 rfl rfl (.d (.agg (Wall.enc wv_1))) rfl wz (h_ldr 0 1 (.inl rfl) (fun _ _ _ => trivial) sz28 ag28 rfl rfl (.d (.agg (Layout.enc l_2))) rfl wz ?_))))))))))
 obtain ⟨r_5, hr_6, hF⟩ := bind_some hF
 refine h_call0 (screen_scaled_ok hr_6) rfl hb91 rfl rfl rfl rfl wz (h_op (.tup [(vL Piece.enc r_5.1), (vI r_5.2)]) wz rfl (h_op (vL Piece.enc r_5.1) wz rfl (h_op (vI r_5.2) wz rfl (h_op (vL Piece.enc r_5.1) wz rfl (h_op (vI r_5.2) wz rfl (h_nil (wH_seq (wH_seq (wH_region (h_op (vI r_5.2) wz rfl (h_op (vB (r_5.2 != 0)) wz rfl (h_nil ?_))))))))))))
 rcases cond_some hF with ⟨hc_7, hF⟩ | ⟨hc_7, hF⟩
 ·refine wH_ift rfl hc_7 (wH_seq (wH_region (h_op (vI r_5.2) wz rfl (h_op .nil wz rfl (h_op (vI r_5.2) wz rfl (h_nil ?_))))))
  obtain rfl := some_inj hF
  exact wH_ret (fin0 (.inr rfl) [.nil, (vI r_5.2)] ⟨rfl, ⟨rfl, trivial⟩⟩ rfl rfl rfl)
 ·refine wH_iff rfl hc_7 (wH_skip (wH_seq (wH_region (h_op .nil wz rfl (h_nil (wH_seq (wH_seq (wH_region (h_far pl58_3 rfl 3 rfl wz (h_ldr 0 0 (.inl rfl) (fun _ _ _ => trivial) sz56 ag56 rfl rfl (vL Screen.enc wv_1.Screens) rfl wz (h_len un56 rfl wz (h_op (vI 0) wz rfl (h_nil (wH_new (fun n_14 => ?_)))))))))))))))
  obtain ⟨o_19, hj_20, hF⟩ := bind_some hF
  obtain ⟨hn_12, hj_20⟩ := forL_some hj_20
  refine wH_join (β := ((List View)) × Nm) (fun p => (fun (s_13 : (List View)) (n_16 : Nm) => ([(8, (gV n_16 6 s_13))] : List (Nat × V))) p.1 p.2) (fun p => (fun (s_13 : (List View)) (n_16 : Nm) => ([(n_3, some (.cells 4 [(vS wv_1.Key), (vI wv_1.W), (vI wv_1.H), (vL Screen.enc wv_1.Screens)])), (n_4, some (.cells 4 [(vS l_2.Key), (vI l_2.W), (vI l_2.H), (vL Zone.enc l_2.Zones)])), (n_16, gB 6 View.enc s_13)] : Hp)) p.1 p.2) (fun p => o_19 = .go p.1) ?_ ?_
  ·refine wH_block (wH_loop (β := Nat × (List Screen) × ((List View)) × Nm) (fun p => (fun (k_8 : Nat) (l_9 : List Screen) (s_13 : (List View)) (n_16 : Nm) => ([(6, (vL Piece.enc r_5.1)), (8, (gV n_16 6 s_13)), (25, (vL Screen.enc wv_1.Screens)), (26, (vI (wv_1.Screens.length : Int))), (27, (vI (k_8 : Int)))] : List (Nat × V))) p.1 p.2.1 p.2.2.1 p.2.2.2) (fun p => (fun (k_8 : Nat) (l_9 : List Screen) (s_13 : (List View)) (n_16 : Nm) => ([(n_3, some (.cells 4 [(vS wv_1.Key), (vI wv_1.W), (vI wv_1.H), (vL Screen.enc wv_1.Screens)])), (n_4, some (.cells 4 [(vS l_2.Key), (vI l_2.W), (vI l_2.H), (vL Zone.enc l_2.Zones)])), (n_16, gB 6 View.enc s_13)] : Hp)) p.1 p.2.1 p.2.2.1 p.2.2.2) (fun p => forR (fun k x s => screen_Views_L2 r_5 k x s) p.2.1 p.1 p.2.2.1 = some o_19 ∧ (wv_1.Screens).drop p.1 = p.2.1) (fun p => p.2.1.length) (0, wv_1.Screens, ([] : List View), n_14) ⟨hj_20, rfl⟩ rfl (pre_r rfl) ?_)
   rintro ⟨k_8, l_9, s_13, n_16⟩ ⟨hL_18, hD_11⟩
   dsimp only at hL_18 hD_11
   cases l_9 with
   | nil =>
    obtain rfl := some_inj hL_18
    refine wH_seq (wH_region (h_op (vB (decide ((k_8 : Int) < (wv_1.Screens.length : Int)))) wz rfl (h_nil ?_)))
    refine wH_seq (wH_iff rfl (drop_nil hD_11) (wH_exit ?_))
    exact cut_mk (s_13, n_16) rfl rfl (pre_r rfl)
   | cons x_10 l_9 =>
    obtain ⟨c_, hc_17, hL_18⟩ := bind_some hL_18
    refine wH_seq (wH_region (h_op (vB (decide ((k_8 : Int) < (wv_1.Screens.length : Int)))) wz rfl (h_nil ?_)))
    refine wH_seq (wH_ift rfl (drop_cons hD_11) (wH_skip ?_))
    unfold screen_Views_L2 at hc_17
    refine wH_seq (wH_block (wH_seq (wH_region (h_ia es56 rfl rfl (drop_idx hD_11) rfl wz (h_ldc sz123 ag123 rfl (.d (.agg (Screen.enc x_10))) rfl wz (h_alloc 0 (.inl rfl) z123 rfl wz (fun n_21 => h_str 0 (.inl rfl) (fun _ _ _ => trivial) 3 sz123 rfl rfl [(vS x_10.Key), (vI x_10.On.X), (vI x_10.On.Y), (vI x_10.On.W), (vI x_10.On.H)] rfl wz (h_nil (wH_seq (wH_region (h_op (vL Piece.enc r_5.1) wz rfl (h_len un35 rfl wz (h_op (vI 0) wz rfl (h_nil ?_))))))))))))))
    obtain ⟨o_32, hj_33, hc_17⟩ := bind_some hc_17
    obtain ⟨hn_26, hj_33⟩ := forL_some hj_33
    refine wH_join (β := ((List View)) × Nm) (fun p => (fun (s_27 : (List View)) (n_29 : Nm) => ([(6, (vL Piece.enc r_5.1)), (8, (gV n_29 6 s_27)), (25, (vL Screen.enc wv_1.Screens)), (26, (vI (wv_1.Screens.length : Int))), (27, (vI (k_8 : Int)))] : List (Nat × V))) p.1 p.2) (fun p => (fun (s_27 : (List View)) (n_29 : Nm) => ([(n_3, some (.cells 4 [(vS wv_1.Key), (vI wv_1.W), (vI wv_1.H), (vL Screen.enc wv_1.Screens)])), (n_4, some (.cells 4 [(vS l_2.Key), (vI l_2.W), (vI l_2.H), (vL Zone.enc l_2.Zones)])), (n_29, gB 6 View.enc s_27), (n_21, some (.cells 5 [(vS x_10.Key), (vI x_10.On.X), (vI x_10.On.Y), (vI x_10.On.W), (vI x_10.On.H)]))] : Hp)) p.1 p.2) (fun p => o_32 = .go p.1) ?_ ?_
    ·refine wH_block (wH_loop (β := Nat × (List Piece) × ((List View)) × Nm) (fun p => (fun (k_22 : Nat) (l_23 : List Piece) (s_27 : (List View)) (n_29 : Nm) => ([(6, (vL Piece.enc r_5.1)), (8, (gV n_29 6 s_27)), (10, (.ref n_21 0 0)), (25, (vL Screen.enc wv_1.Screens)), (26, (vI (wv_1.Screens.length : Int))), (27, (vI (k_8 : Int))), (31, (vL Piece.enc r_5.1)), (32, (vI (r_5.1.length : Int))), (33, (vI (k_22 : Int)))] : List (Nat × V))) p.1 p.2.1 p.2.2.1 p.2.2.2) (fun p => (fun (k_22 : Nat) (l_23 : List Piece) (s_27 : (List View)) (n_29 : Nm) => ([(n_3, some (.cells 4 [(vS wv_1.Key), (vI wv_1.W), (vI wv_1.H), (vL Screen.enc wv_1.Screens)])), (n_4, some (.cells 4 [(vS l_2.Key), (vI l_2.W), (vI l_2.H), (vL Zone.enc l_2.Zones)])), (n_29, gB 6 View.enc s_27), (n_21, some (.cells 5 [(vS x_10.Key), (vI x_10.On.X), (vI x_10.On.Y), (vI x_10.On.W), (vI x_10.On.H)]))] : Hp)) p.1 p.2.1 p.2.2.1 p.2.2.2) (fun p => forR (fun k x s => screen_Views_L1 x_10 k x s) p.2.1 p.1 p.2.2.1 = some o_32 ∧ (r_5.1).drop p.1 = p.2.1) (fun p => p.2.1.length) (0, r_5.1, s_13, n_16) ⟨hj_33, rfl⟩ rfl (pre_r rfl) ?_)
     rintro ⟨k_22, l_23, s_27, n_29⟩ ⟨hL_31, hD_25⟩
     dsimp only at hL_31 hD_25
     cases l_23 with
     | nil =>
      obtain rfl := some_inj hL_31
      refine wH_seq (wH_region (h_op (vB (decide ((k_22 : Int) < (r_5.1.length : Int)))) wz rfl (h_nil ?_)))
      refine wH_seq (wH_iff rfl (drop_nil hD_25) (wH_exit ?_))
      exact cut_mk (s_27, n_29) rfl rfl (pre_r rfl)
     | cons x_24 l_23 =>
      obtain ⟨c_, hc_30, hL_31⟩ := bind_some hL_31
      refine wH_seq (wH_region (h_op (vB (decide ((k_22 : Int) < (r_5.1.length : Int)))) wz rfl (h_nil ?_)))
      refine wH_seq (wH_ift rfl (drop_cons hD_25) (wH_skip ?_))
      unfold screen_Views_L1 at hc_30
      refine wH_seq (wH_block (wH_seq (wH_region (h_ia es35 rfl rfl (drop_idx hD_25) rfl wz (h_ldc sz51 ag51 rfl (.d (.agg (Piece.enc x_24))) rfl wz (h_alloc 0 (.inl rfl) z51 rfl wz (fun n_34 => h_str 0 (.inl rfl) (fun _ _ _ => trivial) 4 sz51 rfl rfl [(vS x_24.Zone), (vI x_24.On.X), (vI x_24.On.Y), (vI x_24.On.W), (vI x_24.On.H)] rfl wz (h_nil (wH_seq (wH_region (h_far pl123_1 rfl 1 rfl wz (h_ldr 0 3 (.inl rfl) (fun _ _ _ => trivial) sz49 ag49 rfl rfl (.d (.agg (Rect.enc x_10.On))) rfl wz (h_far pl51_1 rfl 1 rfl wz (h_ldr 0 4 (.inl rfl) (fun _ _ _ => trivial) sz49 ag49 rfl rfl (.d (.agg (Rect.enc x_24.On))) rfl wz ?_))))))))))))))
      obtain ⟨r_35, hr_36, hc_30⟩ := bind_some hc_30
      refine h_call0 (screen_meet_ok hr_36) rfl hb86 rfl rfl rfl rfl wz (h_op (.tup [(.d (.agg (Rect.enc r_35.1))), (vB r_35.2)]) wz rfl (h_op (.d (.agg (Rect.enc r_35.1))) wz rfl (h_op (vB r_35.2) wz rfl (h_alloc 0 (.inl rfl) z49 rfl wz (fun n_37 => h_str 0 (.inl rfl) (fun _ _ _ => trivial) 5 sz49 rfl rfl [(vI r_35.1.X), (vI r_35.1.Y), (vI r_35.1.W), (vI r_35.1.H)] rfl wz (h_op (vB r_35.2) wz rfl (h_nil (wH_seq (wH_region (h_op (vB r_35.2) wz rfl (h_nil ?_)))))))))))
      obtain ⟨v_38, h_39, hc_30⟩ := bind_some hc_30
      refine wH_join (β := Nm) (fun (n_40 : Nm) => ([(6, (vL Piece.enc r_5.1)), (8, (gV n_40 6 v_38)), (10, (.ref n_21 0 0)), (25, (vL Screen.enc wv_1.Screens)), (26, (vI (wv_1.Screens.length : Int))), (27, (vI (k_8 : Int))), (31, (vL Piece.enc r_5.1)), (32, (vI (r_5.1.length : Int))), (33, (vI (k_22 : Int)))] : List (Nat × V))) (fun (n_40 : Nm) => ([(n_3, some (.cells 4 [(vS wv_1.Key), (vI wv_1.W), (vI wv_1.H), (vL Screen.enc wv_1.Screens)])), (n_4, some (.cells 4 [(vS l_2.Key), (vI l_2.W), (vI l_2.H), (vL Zone.enc l_2.Zones)])), (n_40, gB 6 View.enc v_38), (n_21, some (.cells 5 [(vS x_10.Key), (vI x_10.On.X), (vI x_10.On.Y), (vI x_10.On.W), (vI x_10.On.H)])), (n_34, some (.cells 5 [(vS x_24.Zone), (vI x_24.On.X), (vI x_24.On.Y), (vI x_24.On.W), (vI x_24.On.H)])), (n_37, some (.cells 4 [(vI r_35.1.X), (vI r_35.1.Y), (vI r_35.1.W), (vI r_35.1.H)]))] : Hp)) (fun _ => True) ?_ ?_
      ·rcases cond_some h_39 with ⟨hc_41, h_39⟩ | ⟨hc_41, h_39⟩
       ·refine wH_ift rfl hc_41 (wH_draws (h_op (gV n_29 6 s_27) wz rfl (h_far pl123_0 rfl 0 rfl wz (h_ldr 2 3 (.inr (by kernel_rfl)) (fun _ _ ag => trivial) sz9 ag9 rfl rfl (vS x_10.Key) rfl wz (h_far pl51_0 rfl 0 rfl wz (h_ldr 4 4 (.inr (by kernel_rfl)) (fun _ _ ag => ⟨.inl ⟨rfl, rfl⟩, trivial⟩) sz9 ag9 rfl rfl (vS x_24.Zone) rfl wz (h_ldr 5 5 (.inr (by kernel_rfl)) (fun _ _ ag => ⟨.inl ⟨rfl, rfl⟩, ⟨.inl ⟨rfl, rfl⟩, trivial⟩⟩) sz49 ag49 rfl rfl (.d (.agg (Rect.enc r_35.1))) rfl wz (h_far pl123_1 rfl 1 rfl wz (h_ldr 7 3 (.inr (by kernel_rfl)) (fun _ _ ag => ⟨.inl ⟨rfl, rfl⟩, ⟨.inl ⟨rfl, rfl⟩, ⟨.inl ⟨rfl, rfl⟩, trivial⟩⟩⟩) sz49 ag49 rfl rfl (.d (.agg (Rect.enc x_10.On))) rfl wz ?_)))))))))
        obtain ⟨r_42, hr_43, h_39⟩ := bind_some h_39
        refine h_call0 (screen_moved_ok hr_43) rfl hb87 rfl rfl rfl rfl wz (h_op (.d (.agg (View.enc (⟨x_10.Key, x_24.Zone, r_42⟩ : View)))) wz (by kernel_rfl) (h_lit (([(⟨x_10.Key, x_24.Zone, r_42⟩ : View)] : List View).map View.enc) es77 ez77 rfl rfl rfl rfl rfl wz ?_))
        obtain ⟨a_44, hz_45, h_39⟩ := bind_some h_39
        refine h_appg 11 (.inr (by kernel_rfl)) (fun _ _ ag => ⟨.inr (.inr (by kernel_rfl)), ⟨.inr (.inr (by kernel_rfl)), ⟨.inr (.inr (by kernel_rfl)), ⟨.inr (.inr (by kernel_rfl)), trivial⟩⟩⟩⟩) (i := 2) el77 el77 sz84 z84 rfl (by decide) by84 (by decide) (fun _ => rfl) rfl rfl rfl hz_45 wz (fun n_46 => h_op (gV n_46 6 a_44) wz rfl (h_nil ?_))
        obtain rfl := some_inj h_39
        exact cut_mk n_46 trivial rfl (pre_r rfl)
       ·refine wH_iff rfl hc_41 (wH_skip ?_)
        obtain rfl := some_inj h_39
        exact cut_mk n_29 trivial rfl (pre_r rfl)
      ·rintro n_40 _ sl_ H_ hp_ hq_
       refine wH_at _ hp_ hq_ (wH_region (h_opw (w64_next hD_25 hn_26) wz rfl (h_op (vI ((k_22 + 1 : Nat) : Int)) wz rfl (h_nil ?_))))
       obtain rfl := some_inj hc_30
       exact loop_mk (k_22 + 1, l_23, v_38, n_40) ⟨hL_31, drop_next hD_25⟩ (Nat.lt_succ_self _) rfl (pre_r rfl)
    ·rintro ⟨s_27, n_29⟩ ho_ sl_ H_ hp_ hq_
     subst ho_
     refine wH_at _ hp_ hq_ (wH_region (h_opw (w64_next hD_11 hn_12) wz rfl (h_op (vI ((k_8 + 1 : Nat) : Int)) wz rfl (h_nil ?_))))
     obtain rfl := some_inj hc_17
     exact loop_mk (k_8 + 1, l_9, s_27, n_29) ⟨hL_18, drop_next hD_11⟩ (Nat.lt_succ_self _) rfl (pre_r rfl)
  ·rintro ⟨s_13, n_16⟩ ho_ sl_ H_ hp_ hq_
   subst ho_
   refine wH_at _ hp_ hq_ (wH_seq (wH_region (h_op (gV n_16 6 s_13) wz rfl (h_op (gV n_16 6 s_13) wz rfl (h_op (vI 0) wz rfl (h_nil (wH_frozg 2 rfl (wH_cog 4 2 rfl rfl (wH_cog 8 2 rfl rfl (wH_cog 60 2 rfl rfl ?_))))))))))
   obtain rfl := some_inj hF
   exact wH_ret (fin0 (.inr rfl) [(vL View.enc s_13), (vI 0)] ⟨rfl, ⟨rfl, trivial⟩⟩ rfl rfl rfl)
end Go.Proofs.YtiekkaelpgahoaaGreat.Law

