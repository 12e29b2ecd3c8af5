/-
 The machine computes these plain functions (written by a program of ours).
-/
import Derived.Test.YtbdohgbccebocaaGreatDoorFacts
import Derived.Test.YtbdohgbccebocaaGreatDoorDefs
import Derived.Test.YtbdohgbccebocaaGreatDoorPf4
open Go Go.Eng Go.Proofs
namespace Go.Proofs.YtbdohgbccebocaaGreatDoor.Law
set_option maxRecDepth 100000
set_option linter.unusedVariables false
set_option maxHeartbeats 1000000
theorem alert_alertFault_ok {a_1 : Alert} {r : Int} (hF : alert_alertFault a_1 = some r) :
  FnM Tryz.prog 161 [(.d (.agg (Alert.enc a_1)))] [] (vI r) [] := by
 refine FnM.of_wH ⟨Tryz.prog, 92, [], []⟩ rfl Tryz.func161 rfl rfl (Nat.le_of_ble_eq_true rfl) (by kernel_rfl) ?_
 unfold alert_alertFault at hF
 refine wH_seq (wH_region (h_box 0 (.inl rfl) [(vS a_1.Id), (vS a_1.Sender), (vI a_1.Kind), (vL eS a_1.Refs), (vI a_1.At), (vI a_1.Until), (vI a_1.Weight), (vL Rect.enc a_1.Areas), (vS a_1.Text)] rfl rfl wz (fun n_2 => h_op (vI 0) wz rfl (h_nil (wH_seq (wH_seq ?_))))))
 obtain ⟨v_3, h_4, hF⟩ := bind_some hF
 refine wH_join (β := Unit) (fun _ => ([(1, (.ref n_2 0 0)), (17, (vB v_3))] : List (Nat × V))) (fun _ => ([(n_2, some (.cells 9 [(vS a_1.Id), (vS a_1.Sender), (vI a_1.Kind), (vL eS a_1.Refs), (vI a_1.At), (vI a_1.Until), (vI a_1.Weight), (vL Rect.enc a_1.Areas), (vS a_1.Text)]))] : Hp)) (fun _ => True) ?_ ?_
 ·refine wH_region (h_far pl68_0 rfl 0 rfl wz (h_ldr 0 0 il ft sz9 ag9 rfl rfl (vS a_1.Id) rfl wz ?_))
  obtain ⟨r_5, hr_6, h_4⟩ := bind_some h_4
  refine h_call0 (kit_IsKey_ok hr_6) rfl hb72 rfl rfl rfl rfl wz (h_op (vB (!r_5)) wz rfl ?_)
  rcases cond_some h_4 with ⟨hc_7, h_4⟩ | ⟨hc_7, h_4⟩
  ·refine h_movb rfl hc_7 wz (h_skip (wg rfl rfl rfl) (h_skip (wg rfl rfl rfl) (h_skip (wg rfl rfl rfl) (h_skip (wg rfl rfl rfl) (h_op (vB true) wz rfl (h_nil ?_))))))
   obtain rfl := some_inj h_4
   exact cut_mk () trivial rfl (pre_r rfl)
  ·refine h_movb rfl hc_7 wz (h_far pl68_1 rfl 1 rfl (wg rfl rfl rfl) (h_ldr 0 0 il ft sz9 ag9 rfl rfl (vS a_1.Sender) rfl (wg rfl rfl rfl) ?_))
   obtain ⟨r_8, hr_9, h_4⟩ := bind_some h_4
   refine h_call0 (kit_IsKey_ok hr_9) rfl hb72 rfl rfl rfl rfl (wg rfl rfl rfl) (h_op (vB (!r_8)) (wg rfl rfl rfl) rfl (h_op (vB (!r_8)) wz rfl (h_nil ?_)))
   obtain rfl := some_inj h_4
   exact cut_mk () trivial rfl (pre_r rfl)
 ·rintro ⟨⟩ _ sl_ H_ hp_ hq_
  refine wH_at _ hp_ hq_ ?_
  rcases cond_some hF with ⟨hc_10, hF⟩ | ⟨hc_10, hF⟩
  ·refine wH_ift rfl hc_10 (wH_seq (wH_region (h_op (vI 5) wz rfl (h_nil ?_))))
   obtain rfl := some_inj hF
   exact wH_ret (fin0 (.inr rfl) [(vI 5)] ⟨rfl, trivial⟩ rfl rfl rfl)
  ·refine wH_iff rfl hc_10 (wH_skip (wH_seq (wH_seq (wH_region (h_far pl68_2 rfl 2 rfl wz (h_ldr 0 0 il ft sz3 ag3 rfl rfl (vI a_1.Kind) rfl wz ?_))))))
   obtain ⟨r_11, hr_12, hF⟩ := bind_some hF
   refine h_call0 (kit_Outside_ok hr_12) rfl hb73 rfl rfl rfl rfl wz (h_nil ?_)
   rcases cond_some hF with ⟨hc_13, hF⟩ | ⟨hc_13, hF⟩
   ·refine wH_ift rfl hc_13 (wH_seq (wH_region (h_op (vI 4) wz rfl (h_nil ?_))))
    obtain rfl := some_inj hF
    exact wH_ret (fin0 (.inr rfl) [(vI 4)] ⟨rfl, trivial⟩ rfl rfl rfl)
   ·refine wH_iff rfl hc_13 (wH_skip (wH_seq (wH_seq (wH_region (h_ldr 0 0 il ft sz68 ag68 rfl rfl (.d (.agg (Alert.enc a_1))) rfl wz ?_)))))
    obtain ⟨r_14, hr_15, hF⟩ := bind_some hF
    refine h_call0 (alert_refsFault_ok hr_15) rfl hb207 rfl rfl rfl rfl wz (h_op (vI r_14) wz rfl (h_nil (wH_seq (wH_region (h_op (vI r_14) wz rfl (h_op (vB (r_14 != 0)) wz rfl (h_nil ?_)))))))
    rcases cond_some hF with ⟨hc_16, hF⟩ | ⟨hc_16, hF⟩
    ·refine wH_ift rfl hc_16 (wH_seq (wH_region (h_op (vI r_14) wz rfl (h_op (vI r_14) wz rfl (h_nil ?_)))))
     obtain rfl := some_inj hF
     exact wH_ret (fin0 (.inr rfl) [(vI r_14)] ⟨rfl, trivial⟩ rfl rfl rfl)
    ·refine wH_iff rfl hc_16 (wH_skip (wH_seq (wH_seq ?_)))
     obtain ⟨v_17, h_18, hF⟩ := bind_some hF
     refine wH_join (β := Unit) (fun _ => ([(1, (.ref n_2 0 0)), (45, (vB v_17))] : List (Nat × V))) (fun _ => ([(n_2, some (.cells 9 [(vS a_1.Id), (vS a_1.Sender), (vI a_1.Kind), (vL eS a_1.Refs), (vI a_1.At), (vI a_1.Until), (vI a_1.Weight), (vL Rect.enc a_1.Areas), (vS a_1.Text)]))] : Hp)) (fun _ => True) ?_ ?_
     ·refine wH_region (h_far pl68_4 rfl 4 rfl wz (h_ldr 0 0 il ft sz3 ag3 rfl rfl (vI a_1.At) rfl wz ?_))
      obtain ⟨r_19, hr_20, h_18⟩ := bind_some h_18
      refine h_call0 (kit_IsMoment_ok hr_20) rfl hb85 rfl rfl rfl rfl wz (h_op (vB (!r_19)) wz rfl ?_)
      rcases cond_some h_18 with ⟨hc_21, h_18⟩ | ⟨hc_21, h_18⟩
      ·refine h_movb rfl hc_21 wz (h_skip (wg rfl rfl rfl) (h_skip (wg rfl rfl rfl) (h_skip (wg rfl rfl rfl) (h_skip (wg rfl rfl rfl) (h_skip (wg rfl rfl rfl) (h_skip (wg rfl rfl rfl) (h_skip (wg rfl rfl rfl) (h_skip (wg rfl rfl rfl) (h_skip (wg rfl rfl rfl) (h_op (vB true) wz rfl (h_op (vB true) wz rfl (h_skip (wg rfl rfl rfl) (h_skip (wg rfl rfl rfl) (h_skip (wg rfl rfl rfl) (h_op (vB true) wz rfl (h_nil ?_))))))))))))))))
       obtain rfl := some_inj h_18
       exact cut_mk () trivial rfl (pre_r rfl)
      ·refine h_movb rfl hc_21 wz (h_far pl68_5 rfl 5 rfl (wg rfl rfl rfl) (h_ldr 0 0 il ft sz3 ag3 rfl rfl (vI a_1.Until) rfl (wg rfl rfl rfl) (h_far pl68_4 rfl 4 rfl (wg rfl rfl rfl) (h_ldr 0 0 il ft sz3 ag3 rfl rfl (vI a_1.At) rfl (wg rfl rfl rfl) (h_op (vI (w64 (a_1.At + 1))) (wg rfl rfl rfl) rfl (h_far pl68_4 rfl 4 rfl (wg rfl rfl rfl) (h_ldr 0 0 il ft sz3 ag3 rfl rfl (vI a_1.At) rfl (wg rfl rfl rfl) (h_op (vI (w64 (a_1.At + 2592000000))) (wg rfl rfl rfl) rfl ?_))))))))
       obtain ⟨r_22, hr_23, h_18⟩ := bind_some h_18
       refine h_call0 (kit_Outside_ok hr_23) rfl hb73 rfl rfl rfl rfl (wg rfl rfl rfl) (h_op (vB r_22) wz rfl ?_)
       rcases cond_some h_18 with ⟨hc_24, h_18⟩ | ⟨hc_24, h_18⟩
       ·refine h_movb rfl hc_24 wz (h_skip (wg rfl rfl rfl) (h_skip (wg rfl rfl rfl) (h_skip (wg rfl rfl rfl) (h_op (vB true) wz rfl (h_nil ?_)))))
        obtain rfl := some_inj h_18
        exact cut_mk () trivial rfl (pre_r rfl)
       ·refine h_movb rfl hc_24 wz (h_far pl68_6 rfl 6 rfl (wg rfl rfl rfl) (h_ldr 0 0 il ft sz3 ag3 rfl rfl (vI a_1.Weight) rfl (wg rfl rfl rfl) ?_))
        obtain ⟨r_25, hr_26, h_18⟩ := bind_some h_18
        refine h_call0 (kit_Outside_ok hr_26) rfl hb73 rfl rfl rfl rfl (wg rfl rfl rfl) (h_op (vB r_25) wz rfl (h_nil ?_))
        obtain rfl := some_inj h_18
        exact cut_mk () trivial rfl (pre_r rfl)
     ·rintro ⟨⟩ _ sl_ H_ hp_ hq_
      refine wH_at _ hp_ hq_ ?_
      rcases cond_some hF with ⟨hc_27, hF⟩ | ⟨hc_27, hF⟩
      ·refine wH_ift rfl hc_27 (wH_seq (wH_region (h_op (vI 1) wz rfl (h_nil ?_))))
       obtain rfl := some_inj hF
       exact wH_ret (fin0 (.inr rfl) [(vI 1)] ⟨rfl, trivial⟩ rfl rfl rfl)
      ·refine wH_iff rfl hc_27 (wH_skip (wH_seq (wH_seq (wH_region (h_far pl68_7 rfl 7 rfl wz (h_ldr 0 0 il ft sz66 ag66 rfl rfl (vL Rect.enc a_1.Areas) rfl wz (h_len un66 rfl wz (h_op (vB (decide ((a_1.Areas.length : Int) > 20))) wz rfl (h_nil ?_)))))))))
       rcases cond_some hF with ⟨hc_28, hF⟩ | ⟨hc_28, hF⟩
       ·refine wH_ift rfl hc_28 (wH_seq (wH_region (h_op (vI 2) wz rfl (h_nil ?_))))
        obtain rfl := some_inj hF
        exact wH_ret (fin0 (.inr rfl) [(vI 2)] ⟨rfl, trivial⟩ rfl rfl rfl)
       ·refine wH_iff rfl hc_28 (wH_skip (wH_seq (wH_seq (wH_region (h_far pl68_7 rfl 7 rfl wz (h_ldr 0 0 il ft sz66 ag66 rfl rfl (vL Rect.enc a_1.Areas) rfl wz (h_len un66 rfl wz (h_op (vI 0) wz rfl (h_nil ?_)))))))))
        obtain ⟨o_37, hj_38, hF⟩ := bind_some hF
        obtain ⟨hn_33, hj_38⟩ := forL_some hj_38
        refine wH_join (β := (Unit)) (fun (s_34 : Unit) => ([(1, (.ref n_2 0 0))] : List (Nat × V))) (fun (s_34 : Unit) => ([(n_2, some (.cells 9 [(vS a_1.Id), (vS a_1.Sender), (vI a_1.Kind), (vL eS a_1.Refs), (vI a_1.At), (vI a_1.Until), (vI a_1.Weight), (vL Rect.enc a_1.Areas), (vS a_1.Text)]))] : Hp)) (fun p => o_37 = .go p) ?_ ?_
        ·refine wH_block (wH_loop (β := Nat × (List Rect) × (Unit)) (fun p => (fun (k_29 : Nat) (l_30 : List Rect) (s_34 : Unit) => ([(1, (.ref n_2 0 0)), (51, (vL Rect.enc a_1.Areas)), (52, (vI (a_1.Areas.length : Int))), (53, (vI (k_29 : Int)))] : List (Nat × V))) p.1 p.2.1 p.2.2) (fun p => (fun (k_29 : Nat) (l_30 : List Rect) (s_34 : Unit) => ([(n_2, some (.cells 9 [(vS a_1.Id), (vS a_1.Sender), (vI a_1.Kind), (vL eS a_1.Refs), (vI a_1.At), (vI a_1.Until), (vI a_1.Weight), (vL Rect.enc a_1.Areas), (vS a_1.Text)]))] : Hp)) p.1 p.2.1 p.2.2) (fun p => forR (fun k x s => alert_alertFault_L1 k x s) p.2.1 p.1 p.2.2 = some o_37 ∧ (a_1.Areas).drop p.1 = p.2.1) (fun p => p.2.1.length) (0, a_1.Areas, ()) ⟨hj_38, rfl⟩ rfl (pre_r rfl) ?_)
         rintro ⟨k_29, l_30, s_34⟩ ⟨hL_36, hD_32⟩
         dsimp only at hL_36 hD_32
         cases l_30 with
         | nil =>
          obtain rfl := some_inj hL_36
          refine wH_seq (wH_region (h_op (vB (decide ((k_29 : Int) < (a_1.Areas.length : Int)))) wz rfl (h_nil ?_)))
          refine wH_seq (wH_iff rfl (drop_nil hD_32) (wH_exit ?_))
          exact cut_mk (s_34) rfl rfl (pre_r rfl)
         | cons x_31 l_30 =>
          obtain ⟨c_, hc_35, hL_36⟩ := bind_some hL_36
          refine wH_seq (wH_region (h_op (vB (decide ((k_29 : Int) < (a_1.Areas.length : Int)))) wz rfl (h_nil ?_)))
          refine wH_seq (wH_ift rfl (drop_cons hD_32) (wH_skip ?_))
          unfold alert_alertFault_L1 at hc_35
          refine wH_seq (wH_block (wH_seq (wH_region (h_ia es66 rfl rfl (drop_idx hD_32) rfl wz (h_ldc sz75 ag75 rfl (.d (.agg (Rect.enc x_31))) rfl wz (h_alloc 0 (.inl rfl) z75 rfl wz (fun n_39 => h_str 0 il ft 1 sz75 rfl rfl [(vI x_31.X), (vI x_31.Y), (vI x_31.W), (vI x_31.H)] rfl wz (h_nil (wH_seq (wH_region (h_ldr 0 1 il ft sz75 ag75 rfl rfl (.d (.agg (Rect.enc x_31))) rfl wz ?_)))))))))))
          obtain ⟨r_40, hr_41, hc_35⟩ := bind_some hc_35
          refine h_call0 (screen_CheckRect_ok hr_41) rfl hb115 rfl rfl rfl rfl wz (h_op (vI r_40) wz rfl (h_nil (wH_seq (wH_region (h_op (vI r_40) wz rfl (h_op (vB (r_40 != 0)) wz rfl (h_nil ?_)))))))
          rcases cond_some hc_35 with ⟨hc_42, hc_35⟩ | ⟨hc_42, hc_35⟩
          ·refine wH_ift rfl hc_42 (wH_seq (wH_region (h_op (vI r_40) wz rfl (h_op (vI r_40) wz rfl (h_nil ?_)))))
           obtain rfl := some_inj hc_35
           obtain rfl := some_inj hL_36
           obtain rfl := some_inj hF
           exact wH_ret (fin0 (.inr rfl) [(vI r_40)] ⟨rfl, trivial⟩ rfl rfl rfl)
          ·refine wH_iff rfl hc_42 (wH_skip (wH_region (h_opw (w64_next hD_32 hn_33) wz rfl (h_op (vI ((k_29 + 1 : Nat) : Int)) wz rfl (h_nil ?_)))))
           obtain rfl := some_inj hc_35
           exact loop_mk (k_29 + 1, l_30, ()) ⟨hL_36, drop_next hD_32⟩ (Nat.lt_succ_self _) rfl (pre_r rfl)
        ·rintro s_34 ho_ sl_ H_ hp_ hq_
         subst ho_
         refine wH_at _ hp_ hq_ (wH_seq (wH_region (h_far pl68_2 rfl 2 rfl wz (h_ldr 0 0 il ft sz3 ag3 rfl rfl (vI a_1.Kind) rfl wz (h_op (vB (a_1.Kind == 3)) wz rfl (h_op (vB (a_1.Kind == 3)) wz rfl (h_nil (wH_seq (wH_block (wH_seq (wH_region (h_op (vB (a_1.Kind == 3)) wz rfl (h_far pl68_7 rfl 7 rfl wz (h_ldr 0 0 il ft sz66 ag66 rfl rfl (vL Rect.enc a_1.Areas) rfl wz (h_len un66 rfl wz (h_op (vB ((a_1.Areas.length : Int) == 0)) wz rfl (h_bneq un4 rfl rfl wz (h_op (vB (!((a_1.Kind == 3) == ((a_1.Areas.length : Int) == 0)))) wz rfl (h_nil ?_)))))))))))))))))))
         rcases cond_some hF with ⟨hc_43, hF⟩ | ⟨hc_43, hF⟩
         ·refine wH_ift rfl hc_43 (wH_seq (wH_region (h_op (vI 3) wz rfl (h_nil ?_))))
          obtain rfl := some_inj hF
          exact wH_ret (fin0 (.inr rfl) [(vI 3)] ⟨rfl, trivial⟩ rfl rfl rfl)
         ·refine wH_iff rfl hc_43 (wH_seq (wH_region (h_far pl68_8 rfl 8 rfl wz (h_ldr 0 0 il ft sz9 ag9 rfl rfl (vS a_1.Text) rfl wz (h_lens un9 rfl wz (h_op (vB (decide ((a_1.Text.size : Int) > 500))) wz rfl (h_op (vB (decide ((a_1.Text.size : Int) > 500))) wz rfl (h_nil ?_))))))))
          rcases cond_some hF with ⟨hc_44, hF⟩ | ⟨hc_44, hF⟩
          ·refine wH_ift rfl hc_44 (wH_seq (wH_region (h_op (vI 2) wz rfl (h_nil ?_))))
           obtain rfl := some_inj hF
           exact wH_ret (fin0 (.inr rfl) [(vI 2)] ⟨rfl, trivial⟩ rfl rfl rfl)
          ·refine wH_iff rfl hc_44 (wH_seq ?_)
           obtain ⟨v_45, h_46, hF⟩ := bind_some hF
           refine wH_join (β := Unit) (fun _ => ([(78, (vB v_45))] : List (Nat × V))) (fun _ => ([(n_2, some (.cells 9 [(vS a_1.Id), (vS a_1.Sender), (vI a_1.Kind), (vL eS a_1.Refs), (vI a_1.At), (vI a_1.Until), (vI a_1.Weight), (vL Rect.enc a_1.Areas), (vS a_1.Text)]))] : Hp)) (fun _ => True) ?_ ?_
           ·refine wH_region (h_far pl68_8 rfl 8 rfl wz (h_ldr 0 0 il ft sz9 ag9 rfl rfl (vS a_1.Text) rfl wz ?_))
            obtain ⟨r_47, hr_48, h_46⟩ := bind_some h_46
            refine h_call0 (kit_IsPlain_ok hr_48) rfl hb208 rfl rfl rfl rfl wz (h_op (vB (!r_47)) wz rfl ?_)
            rcases cond_some h_46 with ⟨hc_49, h_46⟩ | ⟨hc_49, h_46⟩
            ·refine h_movb rfl hc_49 wz (h_skip (wg rfl rfl rfl) (h_skip (wg rfl rfl rfl) (h_skip (wg rfl rfl rfl) (h_skip (wg rfl rfl rfl) (h_skip (wn rfl rfl) (h_skip (wn rfl rfl) (h_skip (wg rfl rfl rfl) (h_op (vB true) wz rfl (h_op (vB true) wz rfl (h_nil ?_))))))))))
             obtain rfl := some_inj h_46
             exact cut_mk () trivial rfl (pre_r rfl)
            ·refine h_movb rfl hc_49 wz (h_far pl68_8 rfl 8 rfl (wg rfl rfl rfl) (h_ldr 0 0 il ft sz9 ag9 rfl rfl (vS a_1.Text) rfl (wg rfl rfl rfl) (h_op (vB (sEq a_1.Text (⟨#[]⟩ : ByteArray))) (wg rfl rfl rfl) rfl ?_)))
             rcases cond_some h_46 with ⟨hc_50, h_46⟩ | ⟨hc_50, h_46⟩
             ·refine h_movb rfl hc_50 (wg rfl rfl rfl) (h_op (vB (a_1.Kind == 3)) (wg rfl rfl rfl) rfl (h_op (vB (!(a_1.Kind == 3))) (wg rfl rfl rfl) rfl (h_op (vB (!(a_1.Kind == 3))) (wg rfl rfl rfl) rfl (h_op (vB (!(a_1.Kind == 3))) wz rfl (h_op (vB (!(a_1.Kind == 3))) wz rfl (h_nil ?_))))))
              obtain rfl := some_inj h_46
              exact cut_mk () trivial rfl (pre_r rfl)
             ·refine h_movb rfl hc_50 (wg rfl rfl rfl) (h_skip (wg rfl rfl rfl) (h_skip (wg rfl rfl rfl) (h_op (vB false) (wg rfl rfl rfl) rfl (h_op (vB false) wz rfl (h_op (vB false) wz rfl (h_nil ?_))))))
              obtain rfl := some_inj h_46
              exact cut_mk () trivial rfl (pre_r rfl)
           ·rintro ⟨⟩ _ sl_ H_ hp_ hq_
            refine wH_at _ hp_ hq_ ?_
            rcases cond_some hF with ⟨hc_51, hF⟩ | ⟨hc_51, hF⟩
            ·refine wH_ift rfl hc_51 (wH_seq (wH_region (h_op (vI 3) wz rfl (h_nil ?_))))
             obtain rfl := some_inj hF
             exact wH_ret (fin0 (.inr rfl) [(vI 3)] ⟨rfl, trivial⟩ rfl rfl rfl)
            ·refine wH_iff rfl hc_51 (wH_skip (wH_seq (wH_region (h_op (vI 0) wz rfl (h_nil ?_)))))
             obtain rfl := some_inj hF
             exact wH_ret (fin0 (.inr rfl) [(vI 0)] ⟨rfl, trivial⟩ rfl rfl rfl)
theorem alert_compare_ok {a_1 : Alert} {b_2 : Alert} {r : Int} (hF : alert_compare a_1 b_2 = some r) :
  FnM Tryz.prog 162 [(.d (.agg (Alert.enc a_1))), (.d (.agg (Alert.enc b_2)))] [] (vI r) [] := by
 refine FnM.of_wH ⟨Tryz.prog, 17, [], []⟩ rfl Tryz.func162 rfl rfl (Nat.le_of_ble_eq_true rfl) (by kernel_rfl) ?_
 unfold alert_compare at hF
 refine wH_seq (wH_region (h_box 0 (.inl rfl) [(vS a_1.Id), (vS a_1.Sender), (vI a_1.Kind), (vL eS a_1.Refs), (vI a_1.At), (vI a_1.Until), (vI a_1.Weight), (vL Rect.enc a_1.Areas), (vS a_1.Text)] rfl rfl wz (fun n_3 => h_box 0 (.inl rfl) [(vS b_2.Id), (vS b_2.Sender), (vI b_2.Kind), (vL eS b_2.Refs), (vI b_2.At), (vI b_2.Until), (vI b_2.Weight), (vL Rect.enc b_2.Areas), (vS b_2.Text)] rfl rfl wz (fun n_4 => h_op (vI 0) wz rfl (h_nil (wH_seq (wH_draws (h_far pl68_4 rfl 4 rfl wz (h_ldr 1 0 (.inr (by kernel_rfl)) (fun _ _ ag => trivial) sz3 ag3 rfl rfl (vI a_1.At) rfl wz (h_far pl68_4 rfl 4 rfl wz (h_ldr 3 1 (.inr (by kernel_rfl)) (fun _ _ ag => ⟨.inl ⟨rfl, rfl⟩, trivial⟩) sz3 ag3 rfl rfl (vI b_2.At) rfl wz ?_)))))))))))
 obtain ⟨r_5, hr_6, hF⟩ := bind_some hF
 refine h_call0 (cmp_Compare_int_ok hr_6) rfl hb168 rfl rfl rfl rfl wz (h_far pl68_0 rfl 0 rfl wz (h_ldr 6 0 (.inr (by kernel_rfl)) (fun _ _ ag => ⟨.inl ⟨rfl, rfl⟩, ⟨.inl ⟨rfl, rfl⟩, trivial⟩⟩) sz9 ag9 rfl rfl (vS a_1.Id) rfl wz (h_far pl68_0 rfl 0 rfl wz (h_ldr 8 1 (.inr (by kernel_rfl)) (fun _ _ ag => ⟨.inl ⟨rfl, rfl⟩, ⟨.inl ⟨rfl, rfl⟩, ⟨.inl ⟨rfl, rfl⟩, trivial⟩⟩⟩) sz9 ag9 rfl rfl (vS b_2.Id) rfl wz ?_))))
 obtain ⟨r_7, hr_8, hF⟩ := bind_some hF
 refine h_call0 (strings_Compare_ok hr_8) rfl hb92 rfl rfl rfl rfl wz (h_lit (([r_5, r_7] : List Int).map eI) es22 ez22 rfl rfl rfl rfl rfl wz ?_)
 obtain ⟨r_9, hr_10, hF⟩ := bind_some hF
 refine h_call0 (cmp_Or_int_ok hr_10) rfl hb91 rfl rfl rfl rfl wz (h_op (vI r_9) wz rfl (h_nil ?_))
 obtain rfl := some_inj hF
 exact wH_ret (fin0 (.inr rfl) [(vI r_9)] ⟨rfl, trivial⟩ rfl rfl rfl)
theorem alert_CheckAlerts_ok {l_1 : (List Alert)} {r : Int} (hF : alert_CheckAlerts l_1 = some r) :
  FnM Tryz.prog 111 [(vL Alert.enc l_1)] [] (vI r) [] := by
 refine FnM.of_wH ⟨Tryz.prog, 52, [], []⟩ rfl Tryz.func111 rfl rfl (Nat.le_of_ble_eq_true rfl) (by kernel_rfl) ?_
 unfold alert_CheckAlerts at hF
 refine wH_seq (wH_region (h_op (vI 0) wz rfl (h_nil (wH_seq (wH_seq (wH_region (h_op (vL Alert.enc l_1) wz rfl (h_len un49 rfl wz (h_op (vB (decide ((l_1.length : Int) > 300))) wz rfl (h_nil ?_))))))))))
 rcases cond_some hF with ⟨hc_2, hF⟩ | ⟨hc_2, hF⟩
 ·refine wH_ift rfl hc_2 (wH_seq (wH_region (h_op (vI 2) wz rfl (h_nil ?_))))
  obtain rfl := some_inj hF
  exact wH_ret (fin0 (.inr rfl) [(vI 2)] ⟨rfl, trivial⟩ rfl rfl rfl)
 ·refine wH_iff rfl hc_2 (wH_skip (wH_seq (wH_seq (wH_region (h_op (vL Alert.enc l_1) wz rfl (h_len un49 rfl wz (h_op (vI 0) wz rfl (h_nil ?_))))))))
  obtain ⟨o_11, hj_12, hF⟩ := bind_some hF
  obtain ⟨hn_7, hj_12⟩ := forL_some hj_12
  refine wH_join (β := (Unit)) (fun (s_8 : Unit) => ([(0, (vL Alert.enc l_1))] : List (Nat × V))) (fun (s_8 : Unit) => ([] : Hp)) (fun p => o_11 = .go p) ?_ ?_
  ·refine wH_block (wH_loop (β := Nat × (List Alert) × (Unit)) (fun p => (fun (k_3 : Nat) (l_4 : List Alert) (s_8 : Unit) => ([(0, (vL Alert.enc l_1)), (12, (vL Alert.enc l_1)), (13, (vI (l_1.length : Int))), (14, (vI (k_3 : Int)))] : List (Nat × V))) p.1 p.2.1 p.2.2) (fun p => (fun (k_3 : Nat) (l_4 : List Alert) (s_8 : Unit) => ([] : Hp)) p.1 p.2.1 p.2.2) (fun p => forR (fun k x s => alert_CheckAlerts_L1 l_1 k x s) p.2.1 p.1 p.2.2 = some o_11 ∧ (l_1).drop p.1 = p.2.1) (fun p => p.2.1.length) (0, l_1, ()) ⟨hj_12, rfl⟩ rfl (pre_r rfl) ?_)
   rintro ⟨k_3, l_4, s_8⟩ ⟨hL_10, hD_6⟩
   dsimp only at hL_10 hD_6
   cases l_4 with
   | nil =>
    obtain rfl := some_inj hL_10
    refine wH_seq (wH_region (h_op (vB (decide ((k_3 : Int) < (l_1.length : Int)))) wz rfl (h_nil ?_)))
    refine wH_seq (wH_iff rfl (drop_nil hD_6) (wH_exit ?_))
    exact cut_mk (s_8) rfl rfl (pre_r rfl)
   | cons x_5 l_4 =>
    obtain ⟨c_, hc_9, hL_10⟩ := bind_some hL_10
    refine wH_seq (wH_region (h_op (vB (decide ((k_3 : Int) < (l_1.length : Int)))) wz rfl (h_nil ?_)))
    refine wH_seq (wH_ift rfl (drop_cons hD_6) (wH_skip ?_))
    unfold alert_CheckAlerts_L1 at hc_9
    refine wH_seq (wH_block (wH_seq (wH_region (h_op (vI (k_3 : Int)) wz rfl (h_ia es49 rfl rfl (drop_idx hD_6) rfl wz (h_ldc sz68 ag68 rfl (.d (.agg (Alert.enc x_5))) rfl wz (h_alloc 0 (.inl rfl) z68 rfl wz (fun n_13 => h_op (vI (k_3 : Int)) wz rfl (h_str 0 il ft 0 sz68 rfl rfl [(vS x_5.Id), (vS x_5.Sender), (vI x_5.Kind), (vL eS x_5.Refs), (vI x_5.At), (vI x_5.Until), (vI x_5.Weight), (vL Rect.enc x_5.Areas), (vS x_5.Text)] rfl wz (h_nil (wH_seq (wH_seq (wH_region (h_ldr 0 0 il ft sz68 ag68 rfl rfl (.d (.agg (Alert.enc x_5))) rfl wz ?_))))))))))))))
    obtain ⟨r_14, hr_15, hc_9⟩ := bind_some hc_9
    refine h_call0 (alert_alertFault_ok hr_15) rfl hb161 rfl rfl rfl rfl wz (h_op (vI r_14) wz rfl (h_nil (wH_seq (wH_region (h_op (vI r_14) wz rfl (h_op (vB (r_14 != 0)) wz rfl (h_nil ?_)))))))
    rcases cond_some hc_9 with ⟨hc_16, hc_9⟩ | ⟨hc_16, hc_9⟩
    ·refine wH_ift rfl hc_16 (wH_seq (wH_region (h_op (vI r_14) wz rfl (h_op (vI r_14) wz rfl (h_nil ?_)))))
     obtain rfl := some_inj hc_9
     obtain rfl := some_inj hL_10
     obtain rfl := some_inj hF
     exact wH_ret (fin0 (.inr rfl) [(vI r_14)] ⟨rfl, trivial⟩ rfl rfl rfl)
    ·refine wH_iff rfl hc_16 (wH_skip (wH_seq ?_))
     obtain ⟨v_17, h_18, hc_9⟩ := bind_some hc_9
     refine wH_join (β := Unit) (fun _ => ([(0, (vL Alert.enc l_1)), (12, (vL Alert.enc l_1)), (13, (vI (l_1.length : Int))), (14, (vI (k_3 : Int))), (35, (vB v_17))] : List (Nat × V))) (fun _ => ([(n_13, some (.cells 9 [(vS x_5.Id), (vS x_5.Sender), (vI x_5.Kind), (vL eS x_5.Refs), (vI x_5.At), (vI x_5.Until), (vI x_5.Weight), (vL Rect.enc x_5.Areas), (vS x_5.Text)]))] : Hp)) (fun _ => True) ?_ ?_
     ·refine wH_draws (h_op (vI (k_3 : Int)) wz rfl (h_op (vB (decide ((k_3 : Int) > 0))) wz rfl ?_))
      rcases cond_some h_18 with ⟨hc_19, h_18⟩ | ⟨hc_19, h_18⟩
      ·refine h_movb rfl hc_19 wz (h_op (vL Alert.enc l_1) (wg rfl rfl rfl) rfl (h_op (vI (k_3 : Int)) (wg rfl rfl rfl) rfl (h_op (vI (w64 ((k_3 : Int) - 1))) (wg rfl rfl rfl) rfl ?_)))
       obtain ⟨y_20, hy_21, h_18⟩ := bind_some h_18
       refine h_ia es49 rfl rfl hy_21 rfl (wg rfl rfl rfl) (h_ldc sz68 ag68 rfl (.d (.agg (Alert.enc y_20))) rfl (wg rfl rfl rfl) (h_ldr 8 0 (.inr (by kernel_rfl)) (fun _ _ ag => trivial) sz68 ag68 rfl rfl (.d (.agg (Alert.enc x_5))) rfl (wg rfl rfl rfl) ?_))
       obtain ⟨r_22, hr_23, h_18⟩ := bind_some h_18
       refine h_call0 (alert_compare_ok hr_23) rfl hb162 rfl rfl rfl rfl (wg rfl rfl rfl) (h_op (vB (decide (r_22 ≥ 0))) (wg rfl rfl rfl) rfl (h_op (vB (decide (r_22 ≥ 0))) wz rfl (h_nil ?_)))
       obtain rfl := some_inj h_18
       exact cut_mk () trivial rfl (pre_r rfl)
      ·refine h_movb rfl hc_19 wz (h_skip (wg rfl rfl rfl) (h_skip (wg rfl rfl rfl) (h_skip (wg rfl rfl rfl) (h_skip (wg rfl rfl rfl) (h_skip (wg rfl rfl rfl) (h_skip (wg rfl rfl rfl) (h_skip (wg rfl rfl rfl) (h_skip (wg rfl rfl rfl) (h_op (vB false) wz rfl (h_nil ?_))))))))))
       obtain rfl := some_inj h_18
       exact cut_mk () trivial rfl (pre_r rfl)
     ·rintro ⟨⟩ _ sl_ H_ hp_ hq_
      refine wH_at _ hp_ hq_ ?_
      rcases cond_some hc_9 with ⟨hc_24, hc_9⟩ | ⟨hc_24, hc_9⟩
      ·refine wH_ift rfl hc_24 (wH_seq (wH_region (h_op (vI 7) wz rfl (h_nil ?_))))
       obtain rfl := some_inj hc_9
       obtain rfl := some_inj hL_10
       obtain rfl := some_inj hF
       exact wH_ret (fin0 (.inr rfl) [(vI 7)] ⟨rfl, trivial⟩ rfl rfl rfl)
      ·refine wH_iff rfl hc_24 (wH_skip (wH_region (h_opw (w64_next hD_6 hn_7) wz rfl (h_op (vI ((k_3 + 1 : Nat) : Int)) wz rfl (h_nil ?_)))))
       obtain rfl := some_inj hc_9
       exact loop_mk (k_3 + 1, l_4, ()) ⟨hL_10, drop_next hD_6⟩ (Nat.lt_succ_self _) rfl (pre_r rfl)
  ·rintro s_8 ho_ sl_ H_ hp_ hq_
   subst ho_
   refine wH_at _ hp_ hq_ (wH_seq (wH_region (h_mkmap 0 (.inl rfl) wz (fun n_25 => h_reH (b' := some (bM D.str D.bool ([] : List (ByteArray × Bool)))) 0 rfl rfl (h_op (.map n_25) wz rfl (h_nil (wH_seq (wH_seq (wH_region (h_op (vL Alert.enc l_1) wz rfl (h_len un49 rfl wz (h_op (vI 0) wz rfl (h_nil ?_)))))))))))))
   obtain ⟨o_34, hj_35, hF⟩ := bind_some hF
   obtain ⟨hn_30, hj_35⟩ := forL_some hj_35
   refine wH_join (β := ((List (ByteArray × Bool)))) (fun (s_31 : (List (ByteArray × Bool))) => ([] : List (Nat × V))) (fun (s_31 : (List (ByteArray × Bool))) => ([(n_25, some (bM D.str D.bool s_31))] : Hp)) (fun p => o_34 = .go p) ?_ ?_
   ·refine wH_block (wH_loop (β := Nat × (List Alert) × ((List (ByteArray × Bool)))) (fun p => (fun (k_26 : Nat) (l_27 : List Alert) (s_31 : (List (ByteArray × Bool))) => ([(6, (.map n_25)), (38, (vL Alert.enc l_1)), (39, (vI (l_1.length : Int))), (40, (vI (k_26 : Int)))] : List (Nat × V))) p.1 p.2.1 p.2.2) (fun p => (fun (k_26 : Nat) (l_27 : List Alert) (s_31 : (List (ByteArray × Bool))) => ([(n_25, some (bM D.str D.bool s_31))] : Hp)) p.1 p.2.1 p.2.2) (fun p => forR (fun k x s => alert_CheckAlerts_L2 k x s) p.2.1 p.1 p.2.2 = some o_34 ∧ (l_1).drop p.1 = p.2.1) (fun p => p.2.1.length) (0, l_1, ([] : List (ByteArray × Bool))) ⟨hj_35, rfl⟩ rfl (pre_r rfl) ?_)
    rintro ⟨k_26, l_27, s_31⟩ ⟨hL_33, hD_29⟩
    dsimp only at hL_33 hD_29
    cases l_27 with
    | nil =>
     obtain rfl := some_inj hL_33
     refine wH_seq (wH_region (h_op (vB (decide ((k_26 : Int) < (l_1.length : Int)))) wz rfl (h_nil ?_)))
     refine wH_seq (wH_iff rfl (drop_nil hD_29) (wH_exit ?_))
     exact cut_mk (s_31) rfl rfl (pre_r rfl)
    | cons x_28 l_27 =>
     obtain ⟨c_, hc_32, hL_33⟩ := bind_some hL_33
     refine wH_seq (wH_region (h_op (vB (decide ((k_26 : Int) < (l_1.length : Int)))) wz rfl (h_nil ?_)))
     refine wH_seq (wH_ift rfl (drop_cons hD_29) (wH_skip ?_))
     unfold alert_CheckAlerts_L2 at hc_32
     refine wH_seq (wH_block (wH_seq (wH_region (h_ia es49 rfl rfl (drop_idx hD_29) rfl wz (h_ldc sz68 ag68 rfl (.d (.agg (Alert.enc x_28))) rfl wz (h_alloc 0 (.inl rfl) z68 rfl wz (fun n_36 => h_str 0 il ft 1 sz68 rfl rfl [(vS x_28.Id), (vS x_28.Sender), (vI x_28.Kind), (vL eS x_28.Refs), (vI x_28.At), (vI x_28.Until), (vI x_28.Weight), (vL Rect.enc x_28.Areas), (vS x_28.Text)] rfl wz (h_nil (wH_seq (wH_seq (wH_region (h_op (.map n_25) wz rfl (h_far pl68_0 rfl 0 rfl wz (h_ldr 0 1 il ft sz9 ag9 rfl rfl (vS x_28.Id) rfl wz (h_lookup (eq := eqS) (kD := D.str) (vD := D.bool) (es := s_31) (k := x_28.Id) (z := false) 0 0 il ft (fun _ _ => rfl) mt202 (by kernel_rfl) (by kernel_rfl) rfl rfl rfl (vB ((mGet eqS s_31 x_28.Id).getD false)) rfl wz (h_nil ?_))))))))))))))))
     rcases cond_some hc_32 with ⟨hc_37, hc_32⟩ | ⟨hc_37, hc_32⟩
     ·refine wH_ift rfl hc_37 (wH_seq (wH_region (h_op (vI 6) wz rfl (h_nil ?_))))
      obtain rfl := some_inj hc_32
      obtain rfl := some_inj hL_33
      obtain rfl := some_inj hF
      exact wH_ret (fin0 (.inr rfl) [(vI 6)] ⟨rfl, trivial⟩ rfl rfl rfl)
     ·refine wH_iff rfl hc_37 (wH_skip (wH_region (h_op (.map n_25) wz rfl (h_far pl68_0 rfl 0 rfl wz (h_ldr 0 1 il ft sz9 ag9 rfl rfl (vS x_28.Id) rfl wz (h_mapset (eq := eqS) (kD := D.str) (vD := D.bool) (es := s_31) (k := x_28.Id) (v := true) 0 0 il ft (fun _ _ => rfl) mt202 (by kernel_rfl) rfl rfl rfl rfl wz (h_nil (wH_region (h_opw (w64_next hD_29 hn_30) wz rfl (h_op (vI ((k_26 + 1 : Nat) : Int)) wz rfl (h_nil ?_)))))))))))
      obtain rfl := some_inj hc_32
      exact loop_mk (k_26 + 1, l_27, (mSet eqS s_31 x_28.Id true)) ⟨hL_33, drop_next hD_29⟩ (Nat.lt_succ_self _) rfl (pre_r rfl)
   ·rintro s_31 ho_ sl_ H_ hp_ hq_
    subst ho_
    refine wH_at _ hp_ hq_ (wH_seq (wH_region (h_op (vI 0) wz rfl (h_nil ?_))))
    obtain rfl := some_inj hF
    exact wH_ret (fin0 (.inr rfl) [(vI 0)] ⟨rfl, trivial⟩ rfl rfl rfl)
theorem alert_CheckPosts_ok {l_1 : (List Post)} {r : Int} (hF : alert_CheckPosts l_1 = some r) :
  FnM Tryz.prog 62 [(vL Post.enc l_1)] [] (vI r) [] := by
 refine FnM.of_wH ⟨Tryz.prog, 44, [], []⟩ rfl Tryz.func62 rfl rfl (Nat.le_of_ble_eq_true rfl) (by kernel_rfl) ?_
 unfold alert_CheckPosts at hF
 refine wH_seq (wH_region (h_op (vI 0) wz rfl (h_nil (wH_seq (wH_seq (wH_region (h_op (vL Post.enc l_1) wz rfl (h_len un51 rfl wz (h_op (vB (decide ((l_1.length : Int) > 500))) wz rfl (h_nil ?_))))))))))
 rcases cond_some hF with ⟨hc_2, hF⟩ | ⟨hc_2, hF⟩
 ·refine wH_ift rfl hc_2 (wH_seq (wH_region (h_op (vI 2) wz rfl (h_nil ?_))))
  obtain rfl := some_inj hF
  exact wH_ret (fin0 (.inr rfl) [(vI 2)] ⟨rfl, trivial⟩ rfl rfl rfl)
 ·refine wH_iff rfl hc_2 (wH_skip (wH_seq (wH_seq (wH_region (h_op (vL Post.enc l_1) wz rfl (h_len un51 rfl wz (h_op (vI 0) wz rfl (h_nil ?_))))))))
  obtain ⟨o_11, hj_12, hF⟩ := bind_some hF
  obtain ⟨hn_7, hj_12⟩ := forL_some hj_12
  refine wH_join (β := (Unit)) (fun (s_8 : Unit) => ([] : List (Nat × V))) (fun (s_8 : Unit) => ([] : Hp)) (fun p => o_11 = .go p) ?_ ?_
  ·refine wH_block (wH_loop (β := Nat × (List Post) × (Unit)) (fun p => (fun (k_3 : Nat) (l_4 : List Post) (s_8 : Unit) => ([(0, (vL Post.enc l_1)), (8, (vL Post.enc l_1)), (9, (vI (l_1.length : Int))), (10, (vI (k_3 : Int)))] : List (Nat × V))) p.1 p.2.1 p.2.2) (fun p => (fun (k_3 : Nat) (l_4 : List Post) (s_8 : Unit) => ([] : Hp)) p.1 p.2.1 p.2.2) (fun p => forR (fun k x s => alert_CheckPosts_L1 l_1 k x s) p.2.1 p.1 p.2.2 = some o_11 ∧ (l_1).drop p.1 = p.2.1) (fun p => p.2.1.length) (0, l_1, ()) ⟨hj_12, rfl⟩ rfl (pre_r rfl) ?_)
   rintro ⟨k_3, l_4, s_8⟩ ⟨hL_10, hD_6⟩
   dsimp only at hL_10 hD_6
   cases l_4 with
   | nil =>
    obtain rfl := some_inj hL_10
    refine wH_seq (wH_region (h_op (vB (decide ((k_3 : Int) < (l_1.length : Int)))) wz rfl (h_nil ?_)))
    refine wH_seq (wH_iff rfl (drop_nil hD_6) (wH_exit ?_))
    exact cut_mk (s_8) rfl rfl (pre_r rfl)
   | cons x_5 l_4 =>
    obtain ⟨c_, hc_9, hL_10⟩ := bind_some hL_10
    refine wH_seq (wH_region (h_op (vB (decide ((k_3 : Int) < (l_1.length : Int)))) wz rfl (h_nil ?_)))
    refine wH_seq (wH_ift rfl (drop_cons hD_6) (wH_skip ?_))
    unfold alert_CheckPosts_L1 at hc_9
    refine wH_seq (wH_block (wH_seq (wH_region (h_op (vI (k_3 : Int)) wz rfl (h_ia es51 rfl rfl (drop_idx hD_6) rfl wz (h_ldc sz55 ag55 rfl (.d (.agg (Post.enc x_5))) rfl wz (h_alloc 0 (.inl rfl) z55 rfl wz (fun n_13 => h_op (vI (k_3 : Int)) wz rfl (h_str 0 il ft 0 sz55 rfl rfl [(vS x_5.Player), (vI x_5.X), (vI x_5.Y)] rfl wz (h_nil (wH_block (wH_seq (wH_region (h_far pl55_0 rfl 0 rfl wz (h_ldr 0 0 il ft sz9 ag9 rfl rfl (vS x_5.Player) rfl wz ?_)))))))))))))))
    obtain ⟨r_14, hr_15, hc_9⟩ := bind_some hc_9
    refine h_call0 (kit_IsKey_ok hr_15) rfl hb72 rfl rfl rfl rfl wz (h_op (vB (!r_14)) wz rfl (h_op (vB (!r_14)) wz rfl (h_nil ?_)))
    rcases cond_some hc_9 with ⟨hc_16, hc_9⟩ | ⟨hc_16, hc_9⟩
    ·refine wH_ift rfl hc_16 (wH_seq (wH_region (h_op (vI 5) wz rfl (h_nil ?_))))
     obtain rfl := some_inj hc_9
     obtain rfl := some_inj hL_10
     obtain rfl := some_inj hF
     exact wH_ret (fin0 (.inr rfl) [(vI 5)] ⟨rfl, trivial⟩ rfl rfl rfl)
    ·refine wH_iff rfl hc_16 (wH_seq ?_)
     obtain ⟨v_17, h_18, hc_9⟩ := bind_some hc_9
     refine wH_join (β := Unit) (fun _ => ([(0, (vL Post.enc l_1)), (3, (vI (k_3 : Int))), (4, (.ref n_13 0 0)), (8, (vL Post.enc l_1)), (9, (vI (l_1.length : Int))), (10, (vI (k_3 : Int))), (20, (vB v_17))] : List (Nat × V))) (fun _ => ([(n_13, some (.cells 3 [(vS x_5.Player), (vI x_5.X), (vI x_5.Y)]))] : Hp)) (fun _ => True) ?_ ?_
     ·refine wH_region (h_far pl55_1 rfl 1 rfl wz (h_ldr 0 0 il ft sz3 ag3 rfl rfl (vI x_5.X) rfl wz ?_))
      obtain ⟨r_19, hr_20, h_18⟩ := bind_some h_18
      refine h_call0 (kit_Outside_ok hr_20) rfl hb73 rfl rfl rfl rfl wz ?_
      rcases cond_some h_18 with ⟨hc_21, h_18⟩ | ⟨hc_21, h_18⟩
      ·refine h_movb rfl hc_21 wz (h_skip (wg rfl rfl rfl) (h_skip (wg rfl rfl rfl) (h_skip (wg rfl rfl rfl) (h_op (vB true) wz rfl (h_op (vB true) wz rfl (h_nil ?_))))))
       obtain rfl := some_inj h_18
       exact cut_mk () trivial rfl (pre_r rfl)
      ·refine h_movb rfl hc_21 wz (h_far pl55_2 rfl 2 rfl (wg rfl rfl rfl) (h_ldr 0 0 il ft sz3 ag3 rfl rfl (vI x_5.Y) rfl (wg rfl rfl rfl) ?_))
       obtain ⟨r_22, hr_23, h_18⟩ := bind_some h_18
       refine h_call0 (kit_Outside_ok hr_23) rfl hb73 rfl rfl rfl rfl (wg rfl rfl rfl) (h_op (vB r_22) wz rfl (h_op (vB r_22) wz rfl (h_nil ?_)))
       obtain rfl := some_inj h_18
       exact cut_mk () trivial rfl (pre_r rfl)
     ·rintro ⟨⟩ _ sl_ H_ hp_ hq_
      refine wH_at _ hp_ hq_ ?_
      rcases cond_some hc_9 with ⟨hc_24, hc_9⟩ | ⟨hc_24, hc_9⟩
      ·refine wH_ift rfl hc_24 (wH_seq (wH_region (h_op (vI 1) wz rfl (h_nil ?_))))
       obtain rfl := some_inj hc_9
       obtain rfl := some_inj hL_10
       obtain rfl := some_inj hF
       exact wH_ret (fin0 (.inr rfl) [(vI 1)] ⟨rfl, trivial⟩ rfl rfl rfl)
      ·refine wH_iff rfl hc_24 (wH_seq ?_)
       obtain ⟨v_25, h_26, hc_9⟩ := bind_some hc_9
       refine wH_join (β := Unit) (fun _ => ([(0, (vL Post.enc l_1)), (8, (vL Post.enc l_1)), (9, (vI (l_1.length : Int))), (10, (vI (k_3 : Int))), (29, (vB v_25))] : List (Nat × V))) (fun _ => ([(n_13, some (.cells 3 [(vS x_5.Player), (vI x_5.X), (vI x_5.Y)]))] : Hp)) (fun _ => True) ?_ ?_
       ·refine wH_draws (h_op (vI (k_3 : Int)) wz rfl (h_op (vB (decide ((k_3 : Int) > 0))) wz rfl ?_))
        rcases cond_some h_26 with ⟨hc_27, h_26⟩ | ⟨hc_27, h_26⟩
        ·refine h_movb rfl hc_27 wz (h_far pl55_0 rfl 0 rfl (wg rfl rfl rfl) (h_ldr 4 0 (.inr (by kernel_rfl)) (fun _ _ ag => trivial) sz9 ag9 rfl rfl (vS x_5.Player) rfl (wg rfl rfl rfl) (h_op (vL Post.enc l_1) (wg rfl rfl rfl) rfl (h_op (vI (k_3 : Int)) (wg rfl rfl rfl) rfl (h_op (vI (w64 ((k_3 : Int) - 1))) (wg rfl rfl rfl) rfl ?_)))))
         obtain ⟨y_28, hy_29, h_26⟩ := bind_some h_26
         refine h_ia es51 rfl rfl hy_29 rfl (wg rfl rfl rfl) (h_fac pl55_0 rfl [.str y_28.Player, .int .i64 y_28.X, .int .i64 y_28.Y] rfl rfl (wg rfl rfl rfl) (h_ldc sz9 ag9 rfl (vS y_28.Player) rfl (wg rfl rfl rfl) (h_op (vB (sLe x_5.Player y_28.Player)) (wg rfl rfl rfl) rfl (h_op (vB (sLe x_5.Player y_28.Player)) wz rfl (h_op (vB (sLe x_5.Player y_28.Player)) wz rfl (h_nil ?_))))))
         obtain rfl := some_inj h_26
         exact cut_mk () trivial rfl (pre_r rfl)
        ·refine h_movb rfl hc_27 wz (h_skip (wg rfl rfl rfl) (h_skip (wg rfl rfl rfl) (h_skip (wg rfl rfl rfl) (h_skip (wg rfl rfl rfl) (h_skip (wg rfl rfl rfl) (h_skip (wg rfl rfl rfl) (h_skip (wg rfl rfl rfl) (h_skip (wg rfl rfl rfl) (h_skip (wg rfl rfl rfl) (h_op (vB false) wz rfl (h_op (vB false) wz rfl (h_nil ?_))))))))))))
         obtain rfl := some_inj h_26
         exact cut_mk () trivial rfl (pre_r rfl)
       ·rintro ⟨⟩ _ sl_ H_ hp_ hq_
        refine wH_at _ hp_ hq_ ?_
        rcases cond_some hc_9 with ⟨hc_30, hc_9⟩ | ⟨hc_30, hc_9⟩
        ·refine wH_ift rfl hc_30 (wH_seq (wH_region (h_op (vI 7) wz rfl (h_nil ?_))))
         obtain rfl := some_inj hc_9
         obtain rfl := some_inj hL_10
         obtain rfl := some_inj hF
         exact wH_ret (fin0 (.inr rfl) [(vI 7)] ⟨rfl, trivial⟩ rfl rfl rfl)
        ·refine wH_iff rfl hc_30 (wH_skip (wH_region (h_opw (w64_next hD_6 hn_7) wz rfl (h_op (vI ((k_3 + 1 : Nat) : Int)) wz rfl (h_nil ?_)))))
         obtain rfl := some_inj hc_9
         exact loop_mk (k_3 + 1, l_4, ()) ⟨hL_10, drop_next hD_6⟩ (Nat.lt_succ_self _) rfl (pre_r rfl)
  ·rintro s_8 ho_ sl_ H_ hp_ hq_
   subst ho_
   refine wH_at _ hp_ hq_ (wH_seq (wH_region (h_op (vI 0) wz rfl (h_nil ?_))))
   obtain rfl := some_inj hF
   exact wH_ret (fin0 (.inr rfl) [(vI 0)] ⟨rfl, trivial⟩ rfl rfl rfl)
theorem alert_checkBoth_ok {l_1 : (List Alert)} {posts_2 : (List Post)} {r : Int} (hF : alert_checkBoth l_1 posts_2 = some r) :
  FnM Tryz.prog 93 [(vL Alert.enc l_1), (vL Post.enc posts_2)] [] (vI r) [] := by
 refine FnM.of_wH ⟨Tryz.prog, 13, [], []⟩ rfl Tryz.func93 rfl rfl (Nat.le_of_ble_eq_true rfl) (by kernel_rfl) ?_
 unfold alert_checkBoth at hF
 refine wH_seq (wH_region (h_op (vI 0) wz rfl (h_nil (wH_seq (wH_seq (wH_region (h_op (vL Alert.enc l_1) wz rfl ?_)))))))
 obtain ⟨r_3, hr_4, hF⟩ := bind_some hF
 refine h_call0 (alert_CheckAlerts_ok hr_4) rfl hb111 rfl rfl rfl rfl wz (h_op (vI r_3) wz rfl (h_nil (wH_seq (wH_region (h_op (vI r_3) wz rfl (h_op (vB (r_3 != 0)) wz rfl (h_nil ?_)))))))
 rcases cond_some hF with ⟨hc_5, hF⟩ | ⟨hc_5, hF⟩
 ·refine wH_ift rfl hc_5 (wH_seq (wH_region (h_op (vI r_3) wz rfl (h_op (vI r_3) wz rfl (h_nil ?_)))))
  obtain rfl := some_inj hF
  exact wH_ret (fin0 (.inr rfl) [(vI r_3)] ⟨rfl, trivial⟩ rfl rfl rfl)
 ·refine wH_iff rfl hc_5 (wH_skip (wH_seq (wH_region (h_op (vL Post.enc posts_2) wz rfl ?_))))
  obtain ⟨r_6, hr_7, hF⟩ := bind_some hF
  refine h_call0 (alert_CheckPosts_ok hr_7) rfl hb62 rfl rfl rfl rfl wz (h_op (vI r_6) wz rfl (h_nil ?_))
  obtain rfl := some_inj hF
  exact wH_ret (fin0 (.inr rfl) [(vI r_6)] ⟨rfl, trivial⟩ rfl rfl rfl)
theorem alert_reaches_1_ok {r_1 : Rect} {p_2 : Post} {r : Bool} (hF : alert_reaches_1 r_1 p_2 = some r) :
  FnM Tryz.prog 145 [(.d (.agg (Rect.enc r_1))), (.ref (extN 0) 0 0)] [(.cells 3 [(vS p_2.Player), (vI p_2.X), (vI p_2.Y)])] (vB r) [some (.cells 3 [(vS p_2.Player), (vI p_2.X), (vI p_2.Y)])] := by
 refine FnM.of_wH ⟨Tryz.prog, 36, [], []⟩ rfl Tryz.func145 rfl rfl (Nat.le_of_ble_eq_true rfl) (by kernel_rfl) ?_
 unfold alert_reaches_1 at hF
 refine wH_seq (wH_region (h_box 0 (.inl rfl) [(vI r_1.X), (vI r_1.Y), (vI r_1.W), (vI r_1.H)] rfl rfl wz (fun n_3 => h_op (vB false) wz rfl (h_nil (wH_seq ?_)))))
 obtain ⟨v_4, h_5, hF⟩ := bind_some hF
 refine wH_join (β := Unit) (fun _ => ([(3, (vB v_4))] : List (Nat × V))) (fun _ => ([((extN 0), some (.cells 3 [(vS p_2.Player), (vI p_2.X), (vI p_2.Y)])), (n_3, some (.cells 4 [(vI r_1.X), (vI r_1.Y), (vI r_1.W), (vI r_1.H)]))] : Hp)) (fun _ => True) ?_ ?_
 ·refine wH_region (h_far pl75_0 rfl 0 rfl wz (h_ldr 0 1 il ft sz3 ag3 rfl rfl (vI r_1.X) rfl wz (h_far pl55_1 rfl 1 rfl wz (h_ldr 0 0 il ft sz3 ag3 rfl rfl (vI p_2.X) rfl wz (h_op (vB (decide (r_1.X ≤ p_2.X))) wz rfl ?_)))))
  rcases cond_some h_5 with ⟨hc_6, h_5⟩ | ⟨hc_6, h_5⟩
  ·refine h_movb rfl hc_6 wz (h_far pl55_1 rfl 1 rfl (wg rfl rfl rfl) (h_ldr 0 0 il ft sz3 ag3 rfl rfl (vI p_2.X) rfl (wg rfl rfl rfl) (h_far pl75_0 rfl 0 rfl (wg rfl rfl rfl) (h_ldr 0 1 il ft sz3 ag3 rfl rfl (vI r_1.X) rfl (wg rfl rfl rfl) (h_far pl75_2 rfl 2 rfl (wg rfl rfl rfl) (h_ldr 0 1 il ft sz3 ag3 rfl rfl (vI r_1.W) rfl (wg rfl rfl rfl) (h_op (vI (w64 (r_1.X + r_1.W))) (wg rfl rfl rfl) rfl (h_op (vB (decide (p_2.X < (w64 (r_1.X + r_1.W))))) (wg rfl rfl rfl) rfl (h_op (vB (decide (p_2.X < (w64 (r_1.X + r_1.W))))) wz rfl ?_)))))))))
   rcases cond_some h_5 with ⟨hc_7, h_5⟩ | ⟨hc_7, h_5⟩
   ·refine h_movb rfl hc_7 wz (h_far pl75_1 rfl 1 rfl (wg rfl rfl rfl) (h_ldr 0 1 il ft sz3 ag3 rfl rfl (vI r_1.Y) rfl (wg rfl rfl rfl) (h_far pl55_2 rfl 2 rfl (wg rfl rfl rfl) (h_ldr 0 0 il ft sz3 ag3 rfl rfl (vI p_2.Y) rfl (wg rfl rfl rfl) (h_op (vB (decide (r_1.Y ≤ p_2.Y))) (wg rfl rfl rfl) rfl (h_op (vB (decide (r_1.Y ≤ p_2.Y))) wz rfl ?_))))))
    rcases cond_some h_5 with ⟨hc_8, h_5⟩ | ⟨hc_8, h_5⟩
    ·refine h_movb rfl hc_8 wz (h_far pl55_2 rfl 2 rfl (wg rfl rfl rfl) (h_ldr 0 0 il ft sz3 ag3 rfl rfl (vI p_2.Y) rfl (wg rfl rfl rfl) (h_far pl75_1 rfl 1 rfl (wg rfl rfl rfl) (h_ldr 0 1 il ft sz3 ag3 rfl rfl (vI r_1.Y) rfl (wg rfl rfl rfl) (h_far pl75_3 rfl 3 rfl (wg rfl rfl rfl) (h_ldr 0 1 il ft sz3 ag3 rfl rfl (vI r_1.H) rfl (wg rfl rfl rfl) (h_op (vI (w64 (r_1.Y + r_1.H))) (wg rfl rfl rfl) rfl (h_op (vB (decide (p_2.Y < (w64 (r_1.Y + r_1.H))))) (wg rfl rfl rfl) rfl (h_op (vB (decide (p_2.Y < (w64 (r_1.Y + r_1.H))))) wz rfl (h_op (vB (decide (p_2.Y < (w64 (r_1.Y + r_1.H))))) wz rfl (h_nil ?_)))))))))))
     obtain rfl := some_inj h_5
     exact cut_mk () trivial rfl (pre_r rfl)
    ·refine h_movb rfl hc_8 wz (h_skip (wg rfl rfl rfl) (h_skip (wg rfl rfl rfl) (h_skip (wg rfl rfl rfl) (h_skip (wg rfl rfl rfl) (h_skip (wg rfl rfl rfl) (h_skip (wg rfl rfl rfl) (h_skip (wg rfl rfl rfl) (h_skip (wg rfl rfl rfl) (h_op (vB false) wz rfl (h_op (vB false) wz rfl (h_nil ?_)))))))))))
     obtain rfl := some_inj h_5
     exact cut_mk () trivial rfl (pre_r rfl)
   ·refine h_movb rfl hc_7 wz (h_skip (wg rfl rfl rfl) (h_skip (wg rfl rfl rfl) (h_skip (wg rfl rfl rfl) (h_skip (wg rfl rfl rfl) (h_skip (wg rfl rfl rfl) (h_op (vB false) wz rfl (h_op (vB false) wz rfl (h_skip (wg rfl rfl rfl) (h_skip (wg rfl rfl rfl) (h_skip (wg rfl rfl rfl) (h_skip (wg rfl rfl rfl) (h_skip (wg rfl rfl rfl) (h_skip (wg rfl rfl rfl) (h_skip (wg rfl rfl rfl) (h_skip (wg rfl rfl rfl) (h_op (vB false) wz rfl (h_op (vB false) wz rfl (h_nil ?_))))))))))))))))))
    obtain rfl := some_inj h_5
    exact cut_mk () trivial rfl (pre_r rfl)
  ·refine h_movb rfl hc_6 wz (h_skip (wg rfl rfl rfl) (h_skip (wg rfl rfl rfl) (h_skip (wg rfl rfl rfl) (h_skip (wg rfl rfl rfl) (h_skip (wg rfl rfl rfl) (h_skip (wg rfl rfl rfl) (h_skip (wg rfl rfl rfl) (h_skip (wg rfl rfl rfl) (h_op (vB false) wz rfl (h_op (vB false) wz rfl (h_skip (wg rfl rfl rfl) (h_skip (wg rfl rfl rfl) (h_skip (wg rfl rfl rfl) (h_skip (wg rfl rfl rfl) (h_skip (wg rfl rfl rfl) (h_op (vB false) wz rfl (h_op (vB false) wz rfl (h_skip (wg rfl rfl rfl) (h_skip (wg rfl rfl rfl) (h_skip (wg rfl rfl rfl) (h_skip (wg rfl rfl rfl) (h_skip (wg rfl rfl rfl) (h_skip (wg rfl rfl rfl) ?_)))))))))))))))))))))))
   refine h_skip (wg rfl rfl rfl) (h_skip (wg rfl rfl rfl) (h_op (vB false) wz rfl (h_op (vB false) wz rfl (h_nil ?_))))
   obtain rfl := some_inj h_5
   exact cut_mk () trivial rfl (pre_r rfl)
 ·rintro ⟨⟩ _ sl_ H_ hp_ hq_
  refine wH_at _ hp_ hq_ ?_
  obtain rfl := some_inj hF
  exact wH_ret (finB (.inr rfl) [(vB v_4)] _ [0] [extN 0] ⟨rfl, trivial⟩ (.cons (co_data rfl rfl) (.nil)) (by kernel_rfl) ⟨(by kernel_rfl), trivial⟩ (by decide) (by kernel_rfl))
theorem slices_IndexFunc_api_Rect_api_Rect_ok {s_1 : (List Rect)} {f_2 : Rect → Option Bool} {r : Int} {gid : FuncId} {caps : List V} {Sin : List Box} (hfn : ∀ x0 r, f_2 x0 = some r → FnM Tryz.prog gid ([(.d (.agg (Rect.enc x0)))] ++ caps) Sin (vB r) (Sin.map some)) (hbF : hasBody Tryz.prog gid = true) (hcapF : caps.flatMap frz = [] ∧ caps.map co0 = caps) (hokF : okL Sin.length caps = true) (hsF : ∀ b ∈ Sin, b.ok Sin.length = true) (hmF : ∀ b ∈ Sin, b.mut = true) (hF : slices_IndexFunc_api_Rect_api_Rect s_1 f_2 = some r) :
  FnM Tryz.prog 200 [(vL Rect.enc s_1), (.fn gid caps)] Sin (vI r) (Sin.map some) := by
 refine FnM.of_wH ⟨Tryz.prog, 19, [], []⟩ rfl Tryz.func200 rfl rfl (Nat.le_of_ble_eq_true rfl) (by kernel_rfl) ?_
 unfold slices_IndexFunc_api_Rect_api_Rect at hF
 refine wH_seq (wH_region (h_op (vI 0) wz rfl (h_nil (wH_seq (wH_seq (wH_region (h_op (vL Rect.enc s_1) wz rfl (h_len un66 rfl wz (h_op (vI 0) wz rfl (h_nil ?_))))))))))
 obtain ⟨o_11, hj_12, hF⟩ := bind_some hF
 obtain ⟨hn_7, hj_12⟩ := forL_some hj_12
 refine wH_join (β := (Unit)) (fun (s_8 : Unit) => ([] : List (Nat × V))) (fun (s_8 : Unit) => (initH 0 Sin)) (fun p => o_11 = .go p) ?_ ?_
 ·refine wH_block (wH_loop (β := Nat × (List Rect) × (Unit)) (fun p => (fun (k_3 : Nat) (l_4 : List Rect) (s_8 : Unit) => ([(0, (vL Rect.enc s_1)), (1, (.fn gid caps)), (7, (vI (s_1.length : Int))), (8, (vI (k_3 : Int)))] : List (Nat × V))) p.1 p.2.1 p.2.2) (fun p => (fun (k_3 : Nat) (l_4 : List Rect) (s_8 : Unit) => (initH 0 Sin)) p.1 p.2.1 p.2.2) (fun p => forR (fun k x s => slices_IndexFunc_api_Rect_api_Rect_L1 f_2 k x s) p.2.1 p.1 p.2.2 = some o_11 ∧ (s_1).drop p.1 = p.2.1) (fun p => p.2.1.length) (0, s_1, ()) ⟨hj_12, rfl⟩ rfl (pre_self _) ?_)
  rintro ⟨k_3, l_4, s_8⟩ ⟨hL_10, hD_6⟩
  dsimp only at hL_10 hD_6
  cases l_4 with
  | nil =>
   obtain rfl := some_inj hL_10
   refine wH_seq (wH_region (h_op (vB (decide ((k_3 : Int) < (s_1.length : Int)))) wz rfl (h_nil ?_)))
   refine wH_seq (wH_iff rfl (drop_nil hD_6) (wH_exit ?_))
   exact cut_mk (s_8) rfl rfl (pre_self _)
  | cons x_5 l_4 =>
   obtain ⟨c_, hc_9, hL_10⟩ := bind_some hL_10
   refine wH_seq (wH_region (h_op (vB (decide ((k_3 : Int) < (s_1.length : Int)))) wz rfl (h_nil ?_)))
   refine wH_seq (wH_ift rfl (drop_cons hD_6) (wH_skip ?_))
   unfold slices_IndexFunc_api_Rect_api_Rect_L1 at hc_9
   refine wH_seq (wH_block (wH_seq (wH_region (h_op (vI (k_3 : Int)) wz rfl (h_op (vI (k_3 : Int)) wz rfl (h_nil (wH_seq (wH_region (h_op (.fn gid caps) wz rfl (h_op (vL Rect.enc s_1) wz rfl (h_op (vI (k_3 : Int)) wz rfl (h_ia es66 rfl rfl (drop_idx hD_6) rfl wz (h_ldc sz75 ag75 rfl (.d (.agg (Rect.enc x_5))) rfl wz ?_)))))))))))))
   obtain ⟨r_13, hr_14, hc_9⟩ := bind_some hc_9
   refine h_callS (hfn _ _ hr_14) rfl hbF rfl rfl hcapF hokF hsF hmF rfl wz rfl (h_nil ?_)
   rcases cond_some hc_9 with ⟨hc_15, hc_9⟩ | ⟨hc_15, hc_9⟩
   ·refine wH_ift rfl hc_15 (wH_seq (wH_region (h_op (vI (k_3 : Int)) wz rfl (h_op (vI (k_3 : Int)) wz rfl (h_nil ?_)))))
    obtain rfl := some_inj hc_9
    obtain rfl := some_inj hL_10
    obtain rfl := some_inj hF
    exact wH_ret (finS hsF (.inr rfl) [(vI (k_3 : Int))] ⟨rfl, trivial⟩ rfl rfl rfl)
   ·refine wH_iff rfl hc_15 (wH_skip (wH_region (h_opw (w64_next hD_6 hn_7) wz rfl (h_op (vI ((k_3 + 1 : Nat) : Int)) wz rfl (h_nil ?_)))))
    obtain rfl := some_inj hc_9
    exact loop_mk (k_3 + 1, l_4, ()) ⟨hL_10, drop_next hD_6⟩ (Nat.lt_succ_self _) rfl (pre_self _)
 ·rintro s_8 ho_ sl_ H_ hp_ hq_
  subst ho_
  refine wH_at _ hp_ hq_ (wH_seq (wH_region (h_op (vI (-1)) wz rfl (h_nil ?_))))
  obtain rfl := some_inj hF
  exact wH_ret (finS hsF (.inr rfl) [(vI (-1))] ⟨rfl, trivial⟩ rfl rfl rfl)
theorem slices_ContainsFunc_api_Rect_api_Rect_ok {s_1 : (List Rect)} {f_2 : Rect → Option Bool} {r : Bool} {gid : FuncId} {caps : List V} {Sin : List Box} (hfn : ∀ x0 r, f_2 x0 = some r → FnM Tryz.prog gid ([(.d (.agg (Rect.enc x0)))] ++ caps) Sin (vB r) (Sin.map some)) (hbF : hasBody Tryz.prog gid = true) (hcapF : caps.flatMap frz = [] ∧ caps.map co0 = caps) (hokF : okL Sin.length caps = true) (hsF : ∀ b ∈ Sin, b.ok Sin.length = true) (hmF : ∀ b ∈ Sin, b.mut = true) (hF : slices_ContainsFunc_api_Rect_api_Rect s_1 f_2 = some r) :
  FnM Tryz.prog 144 [(vL Rect.enc s_1), (.fn gid caps)] Sin (vB r) (Sin.map some) := by
 refine FnM.of_wH ⟨Tryz.prog, 9, [], []⟩ rfl Tryz.func144 rfl rfl (Nat.le_of_ble_eq_true rfl) (by kernel_rfl) ?_
 unfold slices_ContainsFunc_api_Rect_api_Rect at hF
 refine wH_seq (wH_region (h_op (vB false) wz rfl (h_nil (wH_seq (wH_region (h_op (vL Rect.enc s_1) wz rfl (h_op (.fn gid caps) wz rfl ?_)))))))
 obtain ⟨r_3, hr_4, hF⟩ := bind_some hF
 refine h_callS (slices_IndexFunc_api_Rect_api_Rect_ok (gid := gid) (caps := caps) (Sin := Sin) hfn hbF hcapF hokF hsF hmF hr_4) rfl hb200 rfl rfl ⟨rfl, rfl⟩ (by simp [okL, okV, hokF]) hsF hmF rfl wz rfl (h_op (vB (decide (r_3 ≥ 0))) wz rfl (h_op (vB (decide (r_3 ≥ 0))) wz rfl (h_nil ?_)))
 obtain rfl := some_inj hF
 exact wH_ret (finS hsF (.inr rfl) [(vB (decide (r_3 ≥ 0)))] ⟨rfl, trivial⟩ rfl rfl rfl)
theorem alert_reaches_ok {a_1 : Alert} {p_2 : Post} {r : Bool} (hF : alert_reaches a_1 p_2 = some r) :
  FnM Tryz.prog 94 [(.d (.agg (Alert.enc a_1))), (.d (.agg (Post.enc p_2)))] [] (vB r) [] := by
 refine FnM.of_wH ⟨Tryz.prog, 9, [], []⟩ rfl Tryz.func94 rfl rfl (Nat.le_of_ble_eq_true rfl) (by kernel_rfl) ?_
 unfold alert_reaches at hF
 refine wH_seq (wH_region (h_box 0 (.inl rfl) [(vS a_1.Id), (vS a_1.Sender), (vI a_1.Kind), (vL eS a_1.Refs), (vI a_1.At), (vI a_1.Until), (vI a_1.Weight), (vL Rect.enc a_1.Areas), (vS a_1.Text)] rfl rfl wz (fun n_3 => h_box 0 (.inl rfl) [(vS p_2.Player), (vI p_2.X), (vI p_2.Y)] rfl rfl wz (fun n_4 => h_op (vB false) wz rfl (h_nil (wH_seq (wH_region (h_far pl68_7 rfl 7 rfl wz (h_ldr 0 0 il ft sz66 ag66 rfl rfl (vL Rect.enc a_1.Areas) rfl wz (h_op (.fn 145 [(.ref n_4 0 0)]) wz rfl ?_))))))))))
 obtain ⟨r_5, hr_6, hF⟩ := bind_some hF
 refine h_callq 0 [1] il ft (slices_ContainsFunc_api_Rect_api_Rect_ok (gid := 145) (caps := [.ref (extN 0) 0 0]) (Sin := [(.cells 3 [(vS p_2.Player), (vI p_2.X), (vI p_2.Y)])]) (fun _ _ h_ => alert_reaches_1_ok h_) hb145 ⟨rfl, rfl⟩ (by kernel_rfl) (all_ok (by kernel_rfl)) (all_mut (by kernel_rfl)) hr_6) rfl hb144 rfl (by kernel_rfl) (by kernel_rfl) (by kernel_rfl) (by kernel_rfl) (by kernel_rfl) (by kernel_rfl) (by kernel_rfl) (by decide) (by kernel_rfl) wz (vB r_5) (by kernel_rfl) ([(n_3, some (.cells 9 [(vS a_1.Id), (vS a_1.Sender), (vI a_1.Kind), (vL eS a_1.Refs), (vI a_1.At), (vI a_1.Until), (vI a_1.Weight), (vL Rect.enc a_1.Areas), (vS a_1.Text)])), (n_4, some (.cells 3 [(vS p_2.Player), (vI p_2.X), (vI p_2.Y)]))] : Hp) (by kernel_rfl) (h_op (vB r_5) wz rfl (h_nil ?_))
 obtain rfl := some_inj hF
 exact wH_ret (fin0 (.inr rfl) [(vB r_5)] ⟨rfl, trivial⟩ rfl rfl rfl)
theorem alert_Reaches_ok {a_1 : Alert} {p_2 : Post} {r : Bool × Int} (hF : alert_Reaches a_1 p_2 = some r) :
  FnM Tryz.prog 28 [(.d (.agg (Alert.enc a_1))), (.d (.agg (Post.enc p_2)))] [] (.tup [(vB r.1), (vI r.2)]) [] := by
 refine FnM.of_wH ⟨Tryz.prog, 18, [], []⟩ rfl Tryz.func28 rfl rfl (Nat.le_of_ble_eq_true rfl) (by kernel_rfl) ?_
 unfold alert_Reaches at hF
 refine wH_seq (wH_region (h_box 0 (.inl rfl) [(vS a_1.Id), (vS a_1.Sender), (vI a_1.Kind), (vL eS a_1.Refs), (vI a_1.At), (vI a_1.Until), (vI a_1.Weight), (vL Rect.enc a_1.Areas), (vS a_1.Text)] rfl rfl wz (fun n_3 => h_box 0 (.inl rfl) [(vS p_2.Player), (vI p_2.X), (vI p_2.Y)] rfl rfl wz (fun n_4 => h_op (vB false) wz rfl (h_op (vI 0) wz rfl (h_nil (wH_seq (wH_seq (wH_region (h_ldr 0 0 il ft sz68 ag68 rfl rfl (.d (.agg (Alert.enc a_1))) rfl wz (h_lit (([a_1] : List Alert).map Alert.enc) es49 ez49 rfl rfl rfl rfl rfl wz (h_ldr 0 1 il ft sz55 ag55 rfl rfl (.d (.agg (Post.enc p_2))) rfl wz (h_lit (([p_2] : List Post).map Post.enc) es51 ez51 rfl rfl rfl rfl rfl wz ?_)))))))))))))
 obtain ⟨r_5, hr_6, hF⟩ := bind_some hF
 refine h_call0 (alert_checkBoth_ok hr_6) rfl hb93 rfl rfl rfl rfl wz (h_op (vI r_5) wz rfl (h_nil (wH_seq (wH_region (h_op (vI r_5) wz rfl (h_op (vB (r_5 != 0)) wz rfl (h_nil ?_)))))))
 rcases cond_some hF with ⟨hc_7, hF⟩ | ⟨hc_7, hF⟩
 ·refine wH_ift rfl hc_7 (wH_seq (wH_region (h_op (vI r_5) wz rfl (h_op (vB false) wz rfl (h_op (vI r_5) wz rfl (h_nil ?_))))))
  obtain rfl := some_inj hF
  exact wH_ret (fin0 (.inr rfl) [(vB false), (vI r_5)] ⟨rfl, ⟨rfl, trivial⟩⟩ rfl rfl rfl)
 ·refine wH_iff rfl hc_7 (wH_skip (wH_seq (wH_region (h_ldr 0 0 il ft sz68 ag68 rfl rfl (.d (.agg (Alert.enc a_1))) rfl wz (h_ldr 0 1 il ft sz55 ag55 rfl rfl (.d (.agg (Post.enc p_2))) rfl wz ?_)))))
  obtain ⟨r_8, hr_9, hF⟩ := bind_some hF
  refine h_call0 (alert_reaches_ok hr_9) rfl hb94 rfl rfl rfl rfl wz (h_op (vB r_8) wz rfl (h_op (vI 0) wz rfl (h_nil ?_)))
  obtain rfl := some_inj hF
  exact wH_ret (fin0 (.inr rfl) [(vB r_8), (vI 0)] ⟨rfl, ⟨rfl, trivial⟩⟩ rfl rfl rfl)
theorem keep_errs_ok {l_1 : (List Int)} {r : Int} (hF : keep_errs l_1 = some r) :
  FnM Tryz.prog 47 [(vL eI l_1)] [] (vI r) [] := by
 refine FnM.of_wH ⟨Tryz.prog, 15, [], []⟩ rfl Tryz.func47 rfl rfl (Nat.le_of_ble_eq_true rfl) (by kernel_rfl) ?_
 unfold keep_errs at hF
 refine wH_seq (wH_region (h_op (vI 0) wz rfl (h_nil (wH_seq (wH_seq (wH_region (h_op (vL eI l_1) wz rfl (h_len un193 rfl wz (h_op (vI 0) wz rfl (h_nil ?_))))))))))
 obtain ⟨o_10, hj_11, hF⟩ := bind_some hF
 obtain ⟨hn_6, hj_11⟩ := forL_some hj_11
 refine wH_join (β := (Unit)) (fun (s_7 : Unit) => ([] : List (Nat × V))) (fun (s_7 : Unit) => ([] : Hp)) (fun p => o_10 = .go p) ?_ ?_
 ·refine wH_block (wH_loop (β := Nat × (List Int) × (Unit)) (fun p => (fun (k_2 : Nat) (l_3 : List Int) (s_7 : Unit) => ([(5, (vL eI l_1)), (6, (vI (l_1.length : Int))), (7, (vI (k_2 : Int)))] : List (Nat × V))) p.1 p.2.1 p.2.2) (fun p => (fun (k_2 : Nat) (l_3 : List Int) (s_7 : Unit) => ([] : Hp)) p.1 p.2.1 p.2.2) (fun p => forR (fun k x s => keep_errs_L1 k x s) p.2.1 p.1 p.2.2 = some o_10 ∧ (l_1).drop p.1 = p.2.1) (fun p => p.2.1.length) (0, l_1, ()) ⟨hj_11, rfl⟩ rfl (pre_r rfl) ?_)
  rintro ⟨k_2, l_3, s_7⟩ ⟨hL_9, hD_5⟩
  dsimp only at hL_9 hD_5
  cases l_3 with
  | nil =>
   obtain rfl := some_inj hL_9
   refine wH_seq (wH_region (h_op (vB (decide ((k_2 : Int) < (l_1.length : Int)))) wz rfl (h_nil ?_)))
   refine wH_seq (wH_iff rfl (drop_nil hD_5) (wH_exit ?_))
   exact cut_mk (s_7) rfl rfl (pre_r rfl)
  | cons x_4 l_3 =>
   obtain ⟨c_, hc_8, hL_9⟩ := bind_some hL_9
   refine wH_seq (wH_region (h_op (vB (decide ((k_2 : Int) < (l_1.length : Int)))) wz rfl (h_nil ?_)))
   refine wH_seq (wH_ift rfl (drop_cons hD_5) (wH_skip ?_))
   unfold keep_errs_L1 at hc_8
   refine wH_seq (wH_block (wH_seq (wH_region (h_ia es193 rfl rfl (drop_idx hD_5) rfl wz (h_ldc sz32 ag32 rfl (vI x_4) rfl wz (h_op (vI x_4) wz rfl (h_nil (wH_seq (wH_region (h_op (vI x_4) wz rfl (h_op (vB (x_4 != 0)) wz rfl (h_nil ?_))))))))))))
   rcases cond_some hc_8 with ⟨hc_12, hc_8⟩ | ⟨hc_12, hc_8⟩
   ·refine wH_ift rfl hc_12 (wH_seq (wH_region (h_op (vI x_4) wz rfl (h_op (vI x_4) wz rfl (h_nil ?_)))))
    obtain rfl := some_inj hc_8
    obtain rfl := some_inj hL_9
    obtain rfl := some_inj hF
    exact wH_ret (fin0 (.inr rfl) [(vI x_4)] ⟨rfl, trivial⟩ rfl rfl rfl)
   ·refine wH_iff rfl hc_12 (wH_skip (wH_region (h_opw (w64_next hD_5 hn_6) wz rfl (h_op (vI ((k_2 + 1 : Nat) : Int)) wz rfl (h_nil ?_)))))
    obtain rfl := some_inj hc_8
    exact loop_mk (k_2 + 1, l_3, ()) ⟨hL_9, drop_next hD_5⟩ (Nat.lt_succ_self _) rfl (pre_r rfl)
 ·rintro s_7 ho_ sl_ H_ hp_ hq_
  subst ho_
  refine wH_at _ hp_ hq_ (wH_seq (wH_region (h_op (vI 0) wz rfl (h_nil ?_))))
  obtain rfl := some_inj hF
  exact wH_ret (fin0 (.inr rfl) [(vI 0)] ⟨rfl, trivial⟩ rfl rfl rfl)
theorem keep_ready_ok {r : Bool} (hF : keep_ready  = some r) :
  FnM Tryz.prog 17 [] [] (vB r) [] := by
 refine FnM.of_wH ⟨Tryz.prog, 75, [], []⟩ rfl Tryz.func17 rfl rfl (Nat.le_of_ble_eq_true rfl) (by kernel_rfl) ?_
 unfold keep_ready at hF
 refine wH_seq (wH_region (h_op (vB false) wz rfl (h_nil (wH_seq (wH_region (h_op (.d (.agg (Rect.enc (⟨0, 0, 2, 2⟩ : Rect)))) wz (by kernel_rfl) (h_op (.d (.agg (Rect.enc (⟨1, 1, 2, 2⟩ : Rect)))) wz (by kernel_rfl) (h_lit (([(⟨0, 0, 2, 2⟩ : Rect), (⟨1, 1, 2, 2⟩ : Rect)] : List Rect).map Rect.enc) es66 ez66 rfl rfl rfl rfl rfl wz ?_))))))))
 obtain ⟨r_1, hr_2, hF⟩ := bind_some hF
 refine h_call0 (screen_Area_ok hr_2) rfl hb76 rfl rfl rfl rfl wz (h_op (.tup [(vI r_1.1), (vI r_1.2)]) wz rfl (h_op (vI r_1.1) wz rfl (h_op (vI r_1.2) wz rfl (h_op (vI r_1.1) wz rfl (h_op (vI r_1.2) wz rfl (h_nil (wH_seq (wH_region (h_op (.agg [(vS (⟨#[97]⟩ : ByteArray)), (vS (⟨#[98]⟩ : ByteArray)), (vI 0), (vI 0), (vI 0), (vI 1), (vI 127), .nil, (vI 1), (vI 2), (vI 0), .nil, (vB false)]) wz (by kernel_rfl) (h_op (.d (.agg (Window.enc (⟨0, 86400000⟩ : Window)))) wz (by kernel_rfl) ?_))))))))))
 obtain ⟨r_3, hr_4, hF⟩ := bind_some hF
 refine h_call0 (schedule_Times_ok hr_4) rfl hb77 rfl rfl rfl rfl wz (h_op (.tup [(vL Window.enc r_3.1), (vI r_3.2)]) wz rfl (h_op (vL Window.enc r_3.1) wz rfl (h_op (vI r_3.2) wz rfl (h_op (vL Window.enc r_3.1) wz rfl (h_op (vI r_3.2) wz rfl (h_nil (wH_seq (wH_region (h_op (.d (.agg (Window.enc (⟨0, 100⟩ : Window)))) wz (by kernel_rfl) (h_op (.agg [(vS (⟨#[97]⟩ : ByteArray)), (vS (⟨#[]⟩ : ByteArray)), (vI 0), (vI 100), .nil, (vI 10), (vI 0), (vI 0)]) wz (by kernel_rfl) ?_))))))))))
 obtain ⟨r_5, hr_6, hF⟩ := bind_some hF
 refine h_call0 (booking_Due_ok hr_6) rfl hb78 rfl rfl rfl rfl wz (h_op (.tup [(vI r_5.1), (vI r_5.2)]) wz rfl (h_op (vI r_5.1) wz rfl (h_op (vI r_5.2) wz rfl (h_op (vI r_5.1) wz rfl (h_op (vI r_5.2) wz rfl (h_nil (wH_seq (wH_region (h_op (.d (.agg (Beat.enc (⟨(⟨#[112]⟩ : ByteArray), 0, 100⟩ : Beat)))) wz (by kernel_rfl) (h_op (.d (.agg (Beat.enc (⟨(⟨#[112]⟩ : ByteArray), 1000, 1300⟩ : Beat)))) wz (by kernel_rfl) (h_lit (([(⟨(⟨#[112]⟩ : ByteArray), 0, 100⟩ : Beat), (⟨(⟨#[112]⟩ : ByteArray), 1000, 1300⟩ : Beat)] : List Beat).map Beat.enc) es157 ez157 rfl rfl rfl rfl rfl wz ?_)))))))))))
 obtain ⟨r_7, hr_8, hF⟩ := bind_some hF
 refine h_call0 (proof_Right_ok hr_8) rfl hb79 rfl rfl rfl rfl wz (h_op (.tup [(vI r_7.1), (vI r_7.2)]) wz rfl (h_op (vI r_7.1) wz rfl (h_op (vI r_7.2) wz rfl (h_op (vI r_7.1) wz rfl (h_op (vI r_7.2) wz rfl (h_nil (wH_at (H0 := ([] : Hp)) ([(1, (vI r_1.1)), (2, (vI r_1.2)), (3, (vL Window.enc r_3.1)), (4, (vI r_3.2)), (5, (vI r_5.1)), (6, (vI r_5.2)), (7, (vI r_7.1)), (8, (vI r_7.2))] : List (Nat × V)) (by kernel_rfl) (pre_mk (by kernel_rfl)) (wH_seq (wH_region (h_op (.d (.agg (Rect.enc (⟨0, 0, 2, 2⟩ : Rect)))) wz (by kernel_rfl) (h_lit (([(⟨0, 0, 2, 2⟩ : Rect)] : List Rect).map Rect.enc) es66 ez66 rfl rfl rfl rfl rfl wz (h_op (.agg [(vS (⟨#[97]⟩ : ByteArray)), (vS (⟨#[115]⟩ : ByteArray)), (vI 1), .nil, (vI 0), (vI 5), (vI 1), (vL Rect.enc ([(⟨0, 0, 2, 2⟩ : Rect)] : List Rect)), (vS (⟨#[120]⟩ : ByteArray))]) wz (by kernel_rfl) (h_alloc 0 (.inl rfl) z68 rfl wz (fun n_9 => h_str 0 il ft 0 sz68 rfl rfl [(vS (⟨#[97]⟩ : ByteArray)), (vS (⟨#[115]⟩ : ByteArray)), (vI 1), .nil, (vI 0), (vI 5), (vI 1), (vL Rect.enc ([(⟨0, 0, 2, 2⟩ : Rect)] : List Rect)), (vS (⟨#[120]⟩ : ByteArray))] rfl wz (h_nil (wH_seq (wH_region (h_ldr 0 0 il ft sz68 ag68 rfl rfl (.agg [(vS (⟨#[97]⟩ : ByteArray)), (vS (⟨#[115]⟩ : ByteArray)), (vI 1), .nil, (vI 0), (vI 5), (vI 1), (vL Rect.enc ([(⟨0, 0, 2, 2⟩ : Rect)] : List Rect)), (vS (⟨#[120]⟩ : ByteArray))]) rfl wz (h_op (.d (.agg (Post.enc (⟨(⟨#[112]⟩ : ByteArray), 1, 1⟩ : Post)))) wz (by kernel_rfl) ?_)))))))))))))))))))
 obtain ⟨r_10, hr_11, hF⟩ := bind_some hF
 refine h_call0 (alert_Reaches_ok hr_11) rfl hb28 rfl rfl rfl rfl wz (h_op (.tup [(vB r_10.1), (vI r_10.2)]) wz rfl (h_op (vB r_10.1) wz rfl (h_op (vI r_10.2) wz rfl (h_op (vB r_10.1) wz rfl (h_op (vI r_10.2) wz rfl (h_nil (wH_seq ?_)))))))
 obtain ⟨v_12, h_13, hF⟩ := bind_some hF
 refine wH_join (β := Unit) (fun _ => ([(0, (vB v_12))] : List (Nat × V))) (fun _ => ([(n_9, some (.cells 9 [(vS (⟨#[97]⟩ : ByteArray)), (vS (⟨#[115]⟩ : ByteArray)), (vI 1), .nil, (vI 0), (vI 5), (vI 1), (vL Rect.enc ([(⟨0, 0, 2, 2⟩ : Rect)] : List Rect)), (vS (⟨#[120]⟩ : ByteArray))]))] : Hp)) (fun _ => True) ?_ ?_
 ·refine wH_region (h_op (vI r_1.2) wz rfl (h_op (vI r_3.2) wz rfl (h_op (vI r_5.2) wz rfl (h_op (vI r_7.2) wz rfl (h_op (vI r_10.2) wz rfl (h_lit (([r_1.2, r_3.2, r_5.2, r_7.2, r_10.2] : List Int).map eI) es193 ez193 rfl rfl rfl rfl rfl wz ?_))))))
  obtain ⟨r_14, hr_15, h_13⟩ := bind_some h_13
  refine h_call0 (keep_errs_ok hr_15) rfl hb47 rfl rfl rfl rfl wz (h_op (vB (r_14 == 0)) wz rfl ?_)
  rcases cond_some h_13 with ⟨hc_16, h_13⟩ | ⟨hc_16, h_13⟩
  ·refine h_movb rfl hc_16 wz (h_op (vI r_1.1) (wg rfl rfl rfl) rfl (h_op (vB (r_1.1 == 7)) (wg rfl rfl rfl) rfl (h_op (vB (r_1.1 == 7)) wz rfl ?_)))
   rcases cond_some h_13 with ⟨hc_17, h_13⟩ | ⟨hc_17, h_13⟩
   ·refine h_movb rfl hc_17 wz (h_op (vL Window.enc r_3.1) (wg rfl rfl rfl) rfl (h_len un31 rfl (wg rfl rfl rfl) (h_op (vB ((r_3.1.length : Int) == 1)) (wg rfl rfl rfl) rfl (h_op (vB ((r_3.1.length : Int) == 1)) wz rfl ?_))))
    rcases cond_some h_13 with ⟨hc_18, h_13⟩ | ⟨hc_18, h_13⟩
    ·refine h_movb rfl hc_18 wz (h_op (vI r_5.1) (wg rfl rfl rfl) rfl (h_op (vB (r_5.1 == 5)) (wg rfl rfl rfl) rfl (h_op (vB (r_5.1 == 5)) wz rfl ?_)))
     rcases cond_some h_13 with ⟨hc_19, h_13⟩ | ⟨hc_19, h_13⟩
     ·refine h_movb rfl hc_19 wz (h_op (vI r_7.1) (wg rfl rfl rfl) rfl (h_op (vB (r_7.1 == 500)) (wg rfl rfl rfl) rfl (h_op (vB (r_7.1 == 500)) wz rfl ?_)))
      rcases cond_some h_13 with ⟨hc_20, h_13⟩ | ⟨hc_20, h_13⟩
      ·refine h_movb rfl hc_20 wz (h_op (vB r_10.1) (wg rfl rfl rfl) rfl (h_op (vB r_10.1) wz rfl (h_op (vB r_10.1) wz rfl (h_nil ?_))))
       obtain rfl := some_inj h_13
       exact cut_mk () trivial rfl (pre_r rfl)
      ·refine h_movb rfl hc_20 wz (h_skip (wg rfl rfl rfl) (h_op (vB false) wz rfl (h_op (vB false) wz rfl (h_nil ?_))))
       obtain rfl := some_inj h_13
       exact cut_mk () trivial rfl (pre_r rfl)
     ·refine h_movb rfl hc_19 wz (h_skip (wg rfl rfl rfl) (h_skip (wg rfl rfl rfl) (h_op (vB false) wz rfl (h_op (vB false) wz rfl (h_skip (wg rfl rfl rfl) (h_op (vB false) wz rfl (h_op (vB false) wz rfl (h_nil ?_))))))))
      obtain rfl := some_inj h_13
      exact cut_mk () trivial rfl (pre_r rfl)
    ·refine h_movb rfl hc_18 wz (h_skip (wg rfl rfl rfl) (h_skip (wg rfl rfl rfl) (h_op (vB false) wz rfl (h_op (vB false) wz rfl (h_skip (wg rfl rfl rfl) (h_skip (wg rfl rfl rfl) (h_op (vB false) wz rfl (h_op (vB false) wz rfl (h_skip (wg rfl rfl rfl) (h_op (vB false) wz rfl (h_op (vB false) wz rfl (h_nil ?_))))))))))))
     obtain rfl := some_inj h_13
     exact cut_mk () trivial rfl (pre_r rfl)
   ·refine h_movb rfl hc_17 wz (h_skip (wg rfl rfl rfl) (h_skip (wg rfl rfl rfl) (h_skip (wg rfl rfl rfl) (h_op (vB false) wz rfl (h_op (vB false) wz rfl (h_skip (wg rfl rfl rfl) (h_skip (wg rfl rfl rfl) (h_op (vB false) wz rfl (h_op (vB false) wz rfl (h_skip (wg rfl rfl rfl) (h_skip (wg rfl rfl rfl) (h_op (vB false) wz rfl (h_op (vB false) wz rfl (h_skip (wg rfl rfl rfl) (h_op (vB false) wz rfl (h_op (vB false) wz rfl (h_nil ?_)))))))))))))))))
    obtain rfl := some_inj h_13
    exact cut_mk () trivial rfl (pre_r rfl)
  ·refine h_movb rfl hc_16 wz (h_skip (wg rfl rfl rfl) (h_skip (wg rfl rfl rfl) (h_op (vB false) wz rfl (h_op (vB false) wz rfl (h_skip (wg rfl rfl rfl) (h_skip (wg rfl rfl rfl) (h_skip (wg rfl rfl rfl) (h_op (vB false) wz rfl (h_op (vB false) wz rfl (h_skip (wg rfl rfl rfl) (h_skip (wg rfl rfl rfl) (h_op (vB false) wz rfl (h_op (vB false) wz rfl (h_skip (wg rfl rfl rfl) (h_skip (wg rfl rfl rfl) (h_op (vB false) wz rfl (h_op (vB false) wz rfl (h_skip (wg rfl rfl rfl) (h_op (vB false) wz rfl (h_op (vB false) wz rfl (h_nil ?_)))))))))))))))))))))
   obtain rfl := some_inj h_13
   exact cut_mk () trivial rfl (pre_r rfl)
 ·rintro ⟨⟩ _ sl_ H_ hp_ hq_
  refine wH_at _ hp_ hq_ ?_
  obtain rfl := some_inj hF
  exact wH_ret (fin0 (.inr rfl) [(vB v_12)] ⟨rfl, trivial⟩ rfl rfl rfl)
theorem proof_apart_ok {a_1 : Int} {b_2 : Int} {r : Int} (hF : proof_apart a_1 b_2 = some r) :
  FnM Tryz.prog 80 [(vI a_1), (vI b_2)] [] (vI r) [] := by
 refine FnM.of_wH ⟨Tryz.prog, 12, [], []⟩ rfl Tryz.func80 rfl rfl (Nat.le_of_ble_eq_true rfl) (by kernel_rfl) ?_
 unfold proof_apart at hF
 refine wH_seq (wH_region (h_op (vI 0) wz rfl (h_nil (wH_seq (wH_region (h_op (vI a_1) wz rfl (h_op (vI b_2) wz rfl (h_op (vI (w64 (a_1 - b_2))) wz rfl (h_op (vI b_2) wz rfl (h_op (vI a_1) wz rfl (h_op (vI (w64 (b_2 - a_1))) wz rfl (h_minmax (vI (maxI (w64 (a_1 - b_2)) (w64 (b_2 - a_1)))) rfl (.inr rfl) wz (h_op (vI (maxI (w64 (a_1 - b_2)) (w64 (b_2 - a_1)))) wz rfl (h_nil ?_))))))))))))))
 obtain rfl := some_inj hF
 exact wH_ret (fin0 (.inr rfl) [(vI (maxI (w64 (a_1 - b_2)) (w64 (b_2 - a_1))))] ⟨rfl, trivial⟩ rfl rfl rfl)
theorem proof_Compare_ok {want_1 : (List Play)} {havev_2 : (List Play)} {most_3 : Int} {r : (List Match) × (List Int) × Int} (hF : proof_Compare want_1 havev_2 most_3 = some r) :
  FnM Tryz.prog 18 [(vL Play.enc want_1), (vL Play.enc havev_2), (vI most_3)] [] (.tup [(vL Match.enc r.1), (vL eI r.2.1), (vI r.2.2)]) [] := by
 refine FnM.of_wH ⟨Tryz.prog, 128, [], []⟩ rfl Tryz.func18 rfl rfl (Nat.le_of_ble_eq_true rfl) (by kernel_rfl) ?_
 unfold proof_Compare at hF
 refine wH_seq (wH_region (h_op .nil wz rfl (h_op .nil wz rfl (h_op (vI 0) wz rfl (h_nil (wH_seq (wH_seq (wH_region (h_op (vL Play.enc want_1) wz rfl (h_op (vL Play.enc havev_2) wz rfl (h_op (.d (.agg [dl Play.enc want_1, dl Play.enc havev_2])) wz (by kernel_rfl) (h_op (vI 0) wz rfl (h_nil ?_)))))))))))))
 obtain ⟨o_12, hj_13, hF⟩ := bind_some hF
 obtain ⟨hn_8, hj_13⟩ := forL_some hj_13
 refine wH_join (β := (Unit)) (fun (s_9 : Unit) => ([(0, (vL Play.enc want_1)), (1, (vL Play.enc havev_2)), (2, (vI most_3))] : List (Nat × V))) (fun (s_9 : Unit) => ([] : Hp)) (fun p => o_12 = .go p) ?_ ?_
 ·refine wH_block (wH_loop (β := Nat × (List Nat) × (Unit)) (fun p => (fun (k_4 : Nat) (l_5 : List Nat) (s_9 : Unit) => ([(0, (vL Play.enc want_1)), (1, (vL Play.enc havev_2)), (2, (vI most_3)), (24, (.d (.agg [dl Play.enc want_1, dl Play.enc havev_2]))), (25, (vI (k_4 : Int)))] : List (Nat × V))) p.1 p.2.1 p.2.2) (fun p => (fun (k_4 : Nat) (l_5 : List Nat) (s_9 : Unit) => ([] : Hp)) p.1 p.2.1 p.2.2) (fun p => forR (fun k x s => proof_Compare_L1 want_1 havev_2 k x s) p.2.1 p.1 p.2.2 = some o_12 ∧ ((List.range (2 : Int).toNat)).drop p.1 = p.2.1) (fun p => p.2.1.length) (0, (List.range (2 : Int).toNat), ()) ⟨hj_13, rfl⟩ rfl (pre_r rfl) ?_)
  rintro ⟨k_4, l_5, s_9⟩ ⟨hL_11, hD_7⟩
  dsimp only at hL_11 hD_7
  cases l_5 with
  | nil =>
   obtain rfl := some_inj hL_11
   refine wH_seq (wH_region (h_op (vB (decide ((k_4 : Int) < 2))) wz rfl (h_nil ?_)))
   refine wH_seq (wH_iff rfl (range_nil hD_7) (wH_exit ?_))
   exact cut_mk (s_9) rfl rfl (pre_r rfl)
  | cons x_6 l_5 =>
   obtain ⟨c_, hc_10, hL_11⟩ := bind_some hL_11
   refine wH_seq (wH_region (h_op (vB (decide ((k_4 : Int) < 2))) wz rfl (h_nil ?_)))
   refine wH_seq (wH_ift rfl (range_cons hD_7) (wH_skip ?_))
   unfold proof_Compare_L1 at hc_10
   refine wH_seq (wH_block (wH_seq (wH_region ?_)))
   obtain ⟨y_14, hy_15, hc_10⟩ := bind_some hc_10
   refine h_idxa (enc := (eL Play.enc)) (xs := ([want_1, havev_2] : List (List Play))) un158 sz26 ag26 rfl rfl rfl rfl hy_15 (fun _ => rfl) (.inr rfl) (vL Play.enc y_14) rfl wz (h_op (vL Play.enc y_14) wz rfl (h_nil (wH_seq (wH_region (h_op (vL Play.enc y_14) wz rfl ?_)))))
   obtain ⟨r_16, hr_17, hc_10⟩ := bind_some hc_10
   refine h_call0 (proof_CheckPlays_ok hr_17) rfl hb71 rfl rfl rfl rfl wz (h_op (vI r_16) wz rfl (h_nil (wH_seq (wH_region (h_op (vI r_16) wz rfl (h_op (vB (r_16 != 0)) wz rfl (h_nil ?_)))))))
   rcases cond_some hc_10 with ⟨hc_18, hc_10⟩ | ⟨hc_18, hc_10⟩
   ·refine wH_ift rfl hc_18 (wH_seq (wH_region (h_op (vI r_16) wz rfl (h_op .nil wz rfl (h_op .nil wz rfl (h_op (vI r_16) wz rfl (h_nil ?_)))))))
    obtain rfl := some_inj hc_10
    obtain rfl := some_inj hL_11
    obtain rfl := some_inj hF
    exact wH_ret (fin0 (.inr rfl) [.nil, .nil, (vI r_16)] ⟨rfl, ⟨rfl, ⟨rfl, trivial⟩⟩⟩ rfl rfl rfl)
   ·refine wH_iff rfl hc_18 (wH_skip (wH_region (h_opw (w64_nextr hD_7 hn_8) wz rfl (h_op (vI ((k_4 + 1 : Nat) : Int)) wz rfl (h_nil ?_)))))
    obtain rfl := some_inj hc_10
    exact loop_mk (k_4 + 1, l_5, ()) ⟨hL_11, drop_next hD_7⟩ (Nat.lt_succ_self _) rfl (pre_r rfl)
 ·rintro s_9 ho_ sl_ H_ hp_ hq_
  subst ho_
  refine wH_at _ hp_ hq_ (wH_seq (wH_seq (wH_region (h_op (vI most_3) wz rfl ?_))))
  obtain ⟨r_19, hr_20, hF⟩ := bind_some hF
  refine h_call0 (kit_Outside_ok hr_20) rfl hb73 rfl rfl rfl rfl wz (h_nil ?_)
  rcases cond_some hF with ⟨hc_21, hF⟩ | ⟨hc_21, hF⟩
  ·refine wH_ift rfl hc_21 (wH_seq (wH_region (h_op .nil wz rfl (h_op .nil wz rfl (h_op (vI 1) wz rfl (h_nil ?_))))))
   obtain rfl := some_inj hF
   exact wH_ret (fin0 (.inr rfl) [.nil, .nil, (vI 1)] ⟨rfl, ⟨rfl, ⟨rfl, trivial⟩⟩⟩ rfl rfl rfl)
  ·refine wH_iff rfl hc_21 (wH_skip (wH_seq (wH_region (h_op (vL Play.enc havev_2) wz rfl (h_len un26 rfl wz ?_)))))
   obtain ⟨m_22, hm_23, hF⟩ := bind_some hF
   refine h_mkslice (enc := eB) 0 (.inl rfl) false el159 sz4 z4 by4 rfl rfl (by decide) rfl rfl rfl hm_23 wz (fun n_24 => h_op (vV n_24 1 (List.replicate m_22 false)) wz rfl (h_nil (wH_seq (wH_region (h_op .nil wz rfl (h_nil (wH_seq (wH_seq (wH_region (h_op (vL Play.enc want_1) wz rfl (h_len un26 rfl wz (h_op (vI 0) wz rfl (h_nil (wH_new (fun n_31 => ?_)))))))))))))))
   obtain ⟨o_36, hj_37, hF⟩ := bind_some hF
   obtain ⟨hn_29, hj_37⟩ := forL_some hj_37
   refine wH_join (β := ((List Bool) × (List Match)) × Nm) (fun p => (fun (s_30 : (List Bool) × (List Match)) (n_33 : Nm) => ([(12, (vV n_24 1 s_30.1)), (13, (gV n_33 2 s_30.2))] : List (Nat × V))) p.1 p.2) (fun p => (fun (s_30 : (List Bool) × (List Match)) (n_33 : Nm) => ([(n_24, some (bV 1 eB s_30.1)), (n_33, gB 2 Match.enc s_30.2)] : Hp)) p.1 p.2) (fun p => o_36 = .go p.1) ?_ ?_
   ·refine wH_block (wH_loop (β := Nat × (List Play) × ((List Bool) × (List Match)) × Nm) (fun p => (fun (k_25 : Nat) (l_26 : List Play) (s_30 : (List Bool) × (List Match)) (n_33 : Nm) => ([(1, (vL Play.enc havev_2)), (2, (vI most_3)), (12, (vV n_24 1 s_30.1)), (13, (gV n_33 2 s_30.2)), (39, (vL Play.enc want_1)), (40, (vI (want_1.length : Int))), (41, (vI (k_25 : Int)))] : List (Nat × V))) p.1 p.2.1 p.2.2.1 p.2.2.2) (fun p => (fun (k_25 : Nat) (l_26 : List Play) (s_30 : (List Bool) × (List Match)) (n_33 : Nm) => ([(n_24, some (bV 1 eB s_30.1)), (n_33, gB 2 Match.enc s_30.2)] : Hp)) p.1 p.2.1 p.2.2.1 p.2.2.2) (fun p => forR (fun k x s => proof_Compare_L3 havev_2 most_3 k x s) p.2.1 p.1 p.2.2.1 = some o_36 ∧ (want_1).drop p.1 = p.2.1) (fun p => p.2.1.length) (0, want_1, ((List.replicate m_22 false), ([] : List Match)), n_31) ⟨hj_37, rfl⟩ rfl (pre_r rfl) ?_)
    rintro ⟨k_25, l_26, s_30, n_33⟩ ⟨hL_35, hD_28⟩
    dsimp only at hL_35 hD_28
    cases l_26 with
    | nil =>
     obtain rfl := some_inj hL_35
     refine wH_seq (wH_region (h_op (vB (decide ((k_25 : Int) < (want_1.length : Int)))) wz rfl (h_nil ?_)))
     refine wH_seq (wH_iff rfl (drop_nil hD_28) (wH_exit ?_))
     exact cut_mk (s_30, n_33) rfl rfl (pre_r rfl)
    | cons x_27 l_26 =>
     obtain ⟨c_, hc_34, hL_35⟩ := bind_some hL_35
     refine wH_seq (wH_region (h_op (vB (decide ((k_25 : Int) < (want_1.length : Int)))) wz rfl (h_nil ?_)))
     refine wH_seq (wH_ift rfl (drop_cons hD_28) (wH_skip ?_))
     unfold proof_Compare_L3 at hc_34
     refine wH_seq (wH_block (wH_seq (wH_region (h_op (vI (k_25 : Int)) wz rfl (h_ia es26 rfl rfl (drop_idx hD_28) rfl wz (h_ldc sz37 ag37 rfl (.d (.agg (Play.enc x_27))) rfl wz (h_alloc 0 (.inl rfl) z37 rfl wz (fun n_38 => h_op (vI (k_25 : Int)) wz rfl (h_str 0 il ft 2 sz37 rfl rfl [(vS x_27.Player), (vS x_27.Item), (vI x_27.At), (vI x_27.Long)] rfl wz (h_nil (wH_seq (wH_region (h_op (vI (-1)) wz rfl (h_nil (wH_seq (wH_seq (wH_region (h_op (vL Play.enc havev_2) wz rfl (h_len un26 rfl wz (h_op (vI 0) wz rfl (h_nil ?_)))))))))))))))))))))
     obtain ⟨o_47, hj_48, hc_34⟩ := bind_some hc_34
     obtain ⟨hn_43, hj_48⟩ := forL_some hj_48
     refine wH_join (β := (Int)) (fun (s_44 : Int) => ([(1, (vL Play.enc havev_2)), (2, (vI most_3)), (12, (vV n_24 1 s_30.1)), (13, (gV n_33 2 s_30.2)), (14, (vI (k_25 : Int))), (16, (vI s_44)), (39, (vL Play.enc want_1)), (40, (vI (want_1.length : Int))), (41, (vI (k_25 : Int)))] : List (Nat × V))) (fun (s_44 : Int) => ([(n_24, some (bV 1 eB s_30.1)), (n_33, gB 2 Match.enc s_30.2), (n_38, some (.cells 4 [(vS x_27.Player), (vS x_27.Item), (vI x_27.At), (vI x_27.Long)]))] : Hp)) (fun p => o_47 = .go p) ?_ ?_
     ·refine wH_block (wH_loop (β := Nat × (List Play) × (Int)) (fun p => (fun (k_39 : Nat) (l_40 : List Play) (s_44 : Int) => ([(1, (vL Play.enc havev_2)), (2, (vI most_3)), (12, (vV n_24 1 s_30.1)), (13, (gV n_33 2 s_30.2)), (14, (vI (k_25 : Int))), (15, (.ref n_38 0 0)), (16, (vI s_44)), (39, (vL Play.enc want_1)), (40, (vI (want_1.length : Int))), (41, (vI (k_25 : Int))), (46, (vL Play.enc havev_2)), (47, (vI (havev_2.length : Int))), (48, (vI (k_39 : Int)))] : List (Nat × V))) p.1 p.2.1 p.2.2) (fun p => (fun (k_39 : Nat) (l_40 : List Play) (s_44 : Int) => ([(n_24, some (bV 1 eB s_30.1)), (n_33, gB 2 Match.enc s_30.2), (n_38, some (.cells 4 [(vS x_27.Player), (vS x_27.Item), (vI x_27.At), (vI x_27.Long)]))] : Hp)) p.1 p.2.1 p.2.2) (fun p => forR (fun k x s => proof_Compare_L2 s_30 x_27 most_3 havev_2 k x s) p.2.1 p.1 p.2.2 = some o_47 ∧ (havev_2).drop p.1 = p.2.1) (fun p => p.2.1.length) (0, havev_2, (-1)) ⟨hj_48, rfl⟩ rfl (pre_r rfl) ?_)
      rintro ⟨k_39, l_40, s_44⟩ ⟨hL_46, hD_42⟩
      dsimp only at hL_46 hD_42
      cases l_40 with
      | nil =>
       obtain rfl := some_inj hL_46
       refine wH_seq (wH_region (h_op (vB (decide ((k_39 : Int) < (havev_2.length : Int)))) wz rfl (h_nil ?_)))
       refine wH_seq (wH_iff rfl (drop_nil hD_42) (wH_exit ?_))
       exact cut_mk (s_44) rfl rfl (pre_r rfl)
      | cons x_41 l_40 =>
       obtain ⟨c_, hc_45, hL_46⟩ := bind_some hL_46
       refine wH_seq (wH_region (h_op (vB (decide ((k_39 : Int) < (havev_2.length : Int)))) wz rfl (h_nil ?_)))
       refine wH_seq (wH_ift rfl (drop_cons hD_42) (wH_skip ?_))
       unfold proof_Compare_L2 at hc_45
       refine wH_seq (wH_block (wH_seq (wH_region (h_op (vI (k_39 : Int)) wz rfl (h_ia es26 rfl rfl (drop_idx hD_42) rfl wz (h_ldc sz37 ag37 rfl (.d (.agg (Play.enc x_41))) rfl wz (h_alloc 0 (.inl rfl) z37 rfl wz (fun n_49 => h_op (vI (k_39 : Int)) wz rfl (h_str 0 il ft 3 sz37 rfl rfl [(vS x_41.Player), (vS x_41.Item), (vI x_41.At), (vI x_41.Long)] rfl wz (h_nil (wH_seq (wH_seq ?_))))))))))))
       obtain ⟨v_50, h_51, hc_45⟩ := bind_some hc_45
       refine wH_join (β := Unit) (fun _ => ([(1, (vL Play.enc havev_2)), (2, (vI most_3)), (12, (vV n_24 1 s_30.1)), (13, (gV n_33 2 s_30.2)), (14, (vI (k_25 : Int))), (15, (.ref n_38 0 0)), (16, (vI s_44)), (17, (vI (k_39 : Int))), (18, (.ref n_49 0 0)), (39, (vL Play.enc want_1)), (40, (vI (want_1.length : Int))), (41, (vI (k_25 : Int))), (46, (vL Play.enc havev_2)), (47, (vI (havev_2.length : Int))), (48, (vI (k_39 : Int))), (79, (vB v_50))] : List (Nat × V))) (fun _ => ([(n_24, some (bV 1 eB s_30.1)), (n_33, gB 2 Match.enc s_30.2), (n_38, some (.cells 4 [(vS x_27.Player), (vS x_27.Item), (vI x_27.At), (vI x_27.Long)])), (n_49, some (.cells 4 [(vS x_41.Player), (vS x_41.Item), (vI x_41.At), (vI x_41.Long)]))] : Hp)) (fun _ => True) ?_ ?_
       ·refine wH_region (h_op (vV n_24 1 s_30.1) wz rfl (h_op (vI (k_39 : Int)) wz rfl ?_))
        obtain ⟨_, hi_52, h_51⟩ := bind_some h_51
        refine h_iav es159 rfl rfl (inR_0 hi_52) (inR_lt hi_52) wz ?_
        obtain ⟨e_53, hy_54, h_51⟩ := bind_some h_51
        refine h_ldv 0 0 il ft sz4 ag4 rfl rfl hy_54 (vB e_53) rfl wz ?_
        rcases cond_some h_51 with ⟨hc_55, h_51⟩ | ⟨hc_55, h_51⟩
        ·refine h_movb rfl hc_55 wz (h_skip (wg rfl rfl rfl) (h_skip (wg rfl rfl rfl) (h_skip (wg rfl rfl rfl) (h_skip (wg rfl rfl rfl) (h_skip (wg rfl rfl rfl) (h_op (vB true) wz rfl (h_op (vB true) wz rfl (h_skip (wg rfl rfl rfl) (h_skip (wg rfl rfl rfl) (h_skip (wg rfl rfl rfl) (h_skip (wg rfl rfl rfl) (h_skip (wg rfl rfl rfl) (h_op (vB true) wz rfl (h_op (vB true) wz rfl (h_skip (wg rfl rfl rfl) (h_skip (wg rfl rfl rfl) (h_skip (wg rfl rfl rfl) (h_skip (wg rfl rfl rfl) (h_skip (wg rfl rfl rfl) (h_skip (wg rfl rfl rfl) (h_skip (wg rfl rfl rfl) (h_op (vB true) wz rfl (h_nil ?_)))))))))))))))))))))))
         obtain rfl := some_inj h_51
         exact cut_mk () trivial rfl (pre_r rfl)
        ·refine h_movb rfl hc_55 wz (h_far pl37_0 rfl 0 rfl (wg rfl rfl rfl) (h_ldr 0 3 il ft sz9 ag9 rfl rfl (vS x_41.Player) rfl (wg rfl rfl rfl) (h_far pl37_0 rfl 0 rfl (wg rfl rfl rfl) (h_ldr 0 2 il ft sz9 ag9 rfl rfl (vS x_27.Player) rfl (wg rfl rfl rfl) (h_op (vB (sNe x_41.Player x_27.Player)) (wg rfl rfl rfl) rfl (h_op (vB (sNe x_41.Player x_27.Player)) wz rfl ?_))))))
         rcases cond_some h_51 with ⟨hc_56, h_51⟩ | ⟨hc_56, h_51⟩
         ·refine h_movb rfl hc_56 wz (h_skip (wg rfl rfl rfl) (h_skip (wg rfl rfl rfl) (h_skip (wg rfl rfl rfl) (h_skip (wg rfl rfl rfl) (h_skip (wg rfl rfl rfl) (h_op (vB true) wz rfl (h_op (vB true) wz rfl (h_skip (wg rfl rfl rfl) (h_skip (wg rfl rfl rfl) (h_skip (wg rfl rfl rfl) (h_skip (wg rfl rfl rfl) (h_skip (wg rfl rfl rfl) (h_skip (wg rfl rfl rfl) (h_skip (wg rfl rfl rfl) (h_op (vB true) wz rfl (h_nil ?_))))))))))))))))
          obtain rfl := some_inj h_51
          exact cut_mk () trivial rfl (pre_r rfl)
         ·refine h_movb rfl hc_56 wz (h_far pl37_1 rfl 1 rfl (wg rfl rfl rfl) (h_ldr 0 3 il ft sz9 ag9 rfl rfl (vS x_41.Item) rfl (wg rfl rfl rfl) (h_far pl37_1 rfl 1 rfl (wg rfl rfl rfl) (h_ldr 0 2 il ft sz9 ag9 rfl rfl (vS x_27.Item) rfl (wg rfl rfl rfl) (h_op (vB (sNe x_41.Item x_27.Item)) (wg rfl rfl rfl) rfl (h_op (vB (sNe x_41.Item x_27.Item)) wz rfl ?_))))))
          rcases cond_some h_51 with ⟨hc_57, h_51⟩ | ⟨hc_57, h_51⟩
          ·refine h_movb rfl hc_57 wz (h_skip (wg rfl rfl rfl) (h_skip (wg rfl rfl rfl) (h_skip (wg rfl rfl rfl) (h_skip (wg rfl rfl rfl) (h_skip (wg rfl rfl rfl) (h_skip (wg rfl rfl rfl) (h_skip (wg rfl rfl rfl) (h_op (vB true) wz rfl (h_nil ?_)))))))))
           obtain rfl := some_inj h_51
           exact cut_mk () trivial rfl (pre_r rfl)
          ·refine h_movb rfl hc_57 wz (h_far pl37_2 rfl 2 rfl (wg rfl rfl rfl) (h_ldr 0 3 il ft sz3 ag3 rfl rfl (vI x_41.At) rfl (wg rfl rfl rfl) (h_far pl37_2 rfl 2 rfl (wg rfl rfl rfl) (h_ldr 0 2 il ft sz3 ag3 rfl rfl (vI x_27.At) rfl (wg rfl rfl rfl) ?_))))
           obtain ⟨r_58, hr_59, h_51⟩ := bind_some h_51
           refine h_call0 (proof_apart_ok hr_59) rfl hb80 rfl rfl rfl rfl (wg rfl rfl rfl) (h_op (vI most_3) (wg rfl rfl rfl) rfl (h_op (vB (decide (r_58 > most_3))) (wg rfl rfl rfl) rfl (h_op (vB (decide (r_58 > most_3))) wz rfl (h_nil ?_))))
           obtain rfl := some_inj h_51
           exact cut_mk () trivial rfl (pre_r rfl)
       ·rintro ⟨⟩ _ sl_ H_ hp_ hq_
        refine wH_at _ hp_ hq_ ?_
        rcases cond_some hc_45 with ⟨hc_60, hc_45⟩ | ⟨hc_60, hc_45⟩
        ·refine wH_ift rfl hc_60 (wH_exit (wH_region (h_opw (w64_next hD_42 hn_43) wz rfl (h_op (vI ((k_39 + 1 : Nat) : Int)) wz rfl (h_nil ?_)))))
         obtain rfl := some_inj hc_45
         exact loop_mk (k_39 + 1, l_40, s_44) ⟨hL_46, drop_next hD_42⟩ (Nat.lt_succ_self _) rfl (pre_r rfl)
        ·refine wH_iff rfl hc_60 (wH_skip (wH_seq ?_))
         obtain ⟨v_61, h_62, hc_45⟩ := bind_some hc_45
         refine wH_join (β := Unit) (fun _ => ([(1, (vL Play.enc havev_2)), (2, (vI most_3)), (12, (vV n_24 1 s_30.1)), (13, (gV n_33 2 s_30.2)), (14, (vI (k_25 : Int))), (15, (.ref n_38 0 0)), (16, (vI s_44)), (17, (vI (k_39 : Int))), (39, (vL Play.enc want_1)), (40, (vI (want_1.length : Int))), (41, (vI (k_25 : Int))), (46, (vL Play.enc havev_2)), (47, (vI (havev_2.length : Int))), (48, (vI (k_39 : Int))), (97, (vB v_61))] : List (Nat × V))) (fun _ => ([(n_24, some (bV 1 eB s_30.1)), (n_33, gB 2 Match.enc s_30.2), (n_38, some (.cells 4 [(vS x_27.Player), (vS x_27.Item), (vI x_27.At), (vI x_27.Long)])), (n_49, some (.cells 4 [(vS x_41.Player), (vS x_41.Item), (vI x_41.At), (vI x_41.Long)]))] : Hp)) (fun _ => True) ?_ ?_
         ·refine wH_draws (h_op (vI s_44) wz rfl (h_op (vB (decide (s_44 < 0))) wz rfl ?_))
          rcases cond_some h_62 with ⟨hc_63, h_62⟩ | ⟨hc_63, h_62⟩
          ·refine h_movb rfl hc_63 wz (h_skip (wg rfl rfl rfl) (h_skip (wg rfl rfl rfl) (h_skip (wg rfl rfl rfl) (h_skip (wg rfl rfl rfl) (h_skip (wg rfl rfl rfl) (h_skip (wg rfl rfl rfl) (h_skip (wg rfl rfl rfl) (h_skip (wg rfl rfl rfl) (h_skip (wg rfl rfl rfl) (h_skip (wg rfl rfl rfl) (h_skip (wg rfl rfl rfl) (h_skip (wg rfl rfl rfl) (h_skip (wg rfl rfl rfl) (h_skip (wg rfl rfl rfl) (h_op (vB true) wz rfl (h_nil ?_))))))))))))))))
           obtain rfl := some_inj h_62
           exact cut_mk () trivial rfl (pre_r rfl)
          ·refine h_movb rfl hc_63 wz (h_far pl37_2 rfl 2 rfl (wg rfl rfl rfl) (h_ldr 4 3 (.inr (by kernel_rfl)) (fun _ _ ag => trivial) sz3 ag3 rfl rfl (vI x_41.At) rfl (wg rfl rfl rfl) (h_far pl37_2 rfl 2 rfl (wg rfl rfl rfl) (h_ldr 6 2 (.inr (by kernel_rfl)) (fun _ _ ag => ⟨.inl ⟨rfl, rfl⟩, trivial⟩) sz3 ag3 rfl rfl (vI x_27.At) rfl (wg rfl rfl rfl) ?_))))
           obtain ⟨r_64, hr_65, h_62⟩ := bind_some h_62
           refine h_call0 (proof_apart_ok hr_65) rfl hb80 rfl rfl rfl rfl (wg rfl rfl rfl) (h_op (vL Play.enc havev_2) (wg rfl rfl rfl) rfl (h_op (vI s_44) (wg rfl rfl rfl) rfl ?_))
           obtain ⟨y_66, hy_67, h_62⟩ := bind_some h_62
           refine h_ia es26 rfl rfl hy_67 rfl (wg rfl rfl rfl) (h_fac pl37_2 rfl [.int .i64 y_66.At, .int .i64 y_66.Long] rfl rfl (wg rfl rfl rfl) (h_ldc sz3 ag3 rfl (vI y_66.At) rfl (wg rfl rfl rfl) (h_far pl37_2 rfl 2 rfl (wg rfl rfl rfl) (h_ldr 14 2 (.inr (by kernel_rfl)) (fun _ _ ag => ⟨.inl ⟨rfl, rfl⟩, ⟨.inl ⟨rfl, rfl⟩, trivial⟩⟩) sz3 ag3 rfl rfl (vI x_27.At) rfl (wg rfl rfl rfl) ?_))))
           obtain ⟨r_68, hr_69, h_62⟩ := bind_some h_62
           refine h_call0 (proof_apart_ok hr_69) rfl hb80 rfl rfl rfl rfl (wg rfl rfl rfl) (h_op (vB (decide (r_64 < r_68))) (wg rfl rfl rfl) rfl (h_op (vB (decide (r_64 < r_68))) wz rfl (h_nil ?_)))
           obtain rfl := some_inj h_62
           exact cut_mk () trivial rfl (pre_r rfl)
         ·rintro ⟨⟩ _ sl_ H_ hp_ hq_
          refine wH_at _ hp_ hq_ ?_
          obtain ⟨v_70, h_71, hc_45⟩ := bind_some hc_45
          refine wH_join (β := Unit) (fun _ => ([(1, (vL Play.enc havev_2)), (2, (vI most_3)), (12, (vV n_24 1 s_30.1)), (13, (gV n_33 2 s_30.2)), (14, (vI (k_25 : Int))), (15, (.ref n_38 0 0)), (16, (vI v_70)), (39, (vL Play.enc want_1)), (40, (vI (want_1.length : Int))), (41, (vI (k_25 : Int))), (46, (vL Play.enc havev_2)), (47, (vI (havev_2.length : Int))), (48, (vI (k_39 : Int)))] : List (Nat × V))) (fun _ => ([(n_24, some (bV 1 eB s_30.1)), (n_33, gB 2 Match.enc s_30.2), (n_38, some (.cells 4 [(vS x_27.Player), (vS x_27.Item), (vI x_27.At), (vI x_27.Long)])), (n_49, some (.cells 4 [(vS x_41.Player), (vS x_41.Item), (vI x_41.At), (vI x_41.Long)]))] : Hp)) (fun _ => True) ?_ ?_
          ·rcases cond_some h_71 with ⟨hc_72, h_71⟩ | ⟨hc_72, h_71⟩
           ·refine wH_ift rfl hc_72 (wH_region (h_op (vI (k_39 : Int)) wz rfl (h_op (vI (k_39 : Int)) wz rfl (h_nil ?_))))
            obtain rfl := some_inj h_71
            exact cut_mk () trivial rfl (pre_r rfl)
           ·refine wH_iff rfl hc_72 (wH_skip ?_)
            obtain rfl := some_inj h_71
            exact cut_mk () trivial rfl (pre_r rfl)
          ·rintro ⟨⟩ _ sl_ H_ hp_ hq_
           refine wH_at _ hp_ hq_ (wH_region (h_opw (w64_next hD_42 hn_43) wz rfl (h_op (vI ((k_39 + 1 : Nat) : Int)) wz rfl (h_nil ?_))))
           obtain rfl := some_inj hc_45
           exact loop_mk (k_39 + 1, l_40, v_70) ⟨hL_46, drop_next hD_42⟩ (Nat.lt_succ_self _) rfl (pre_r rfl)
     ·rintro s_44 ho_ sl_ H_ hp_ hq_
      subst ho_
      refine wH_at _ hp_ hq_ (wH_seq (wH_seq (wH_region (h_op (vI s_44) wz rfl (h_op (vB (decide (s_44 ≥ 0))) wz rfl (h_nil ?_))))))
      obtain ⟨v_73, h_74, hc_34⟩ := bind_some hc_34
      refine wH_join (β := Unit) (fun _ => ([(1, (vL Play.enc havev_2)), (2, (vI most_3)), (12, (vV n_24 1 v_73)), (13, (gV n_33 2 s_30.2)), (14, (vI (k_25 : Int))), (16, (vI s_44)), (39, (vL Play.enc want_1)), (40, (vI (want_1.length : Int))), (41, (vI (k_25 : Int)))] : List (Nat × V))) (fun _ => ([(n_24, some (bV 1 eB v_73)), (n_33, gB 2 Match.enc s_30.2), (n_38, some (.cells 4 [(vS x_27.Player), (vS x_27.Item), (vI x_27.At), (vI x_27.Long)]))] : Hp)) (fun _ => True) ?_ ?_
      ·rcases cond_some h_74 with ⟨hc_75, h_74⟩ | ⟨hc_75, h_74⟩
       ·refine wH_ift rfl hc_75 (wH_region (h_op (vV n_24 1 s_30.1) wz rfl (h_op (vI s_44) wz rfl ?_)))
        obtain ⟨_, hi_76, h_74⟩ := bind_some h_74
        refine h_iav es159 rfl rfl (inR_0 hi_76) (inR_lt hi_76) wz ?_
        obtain ⟨e_77, hy_78, h_74⟩ := bind_some h_74
        refine h_stv 0 il ft 0 sz4 rfl rfl hy_78 true rfl wz (h_re (v' := (vV n_24 1 (s_30.1.set (0 + (s_44).toNat) true))) 12 rfl (vV_len (by simp)) (h_re (v' := (vV n_24 1 (s_30.1.set (0 + (s_44).toNat) true))) 102 rfl (vV_len (by simp)) (h_nil ?_)))
        obtain rfl := some_inj h_74
        exact cut_mk () trivial rfl (pre_r rfl)
       ·refine wH_iff rfl hc_75 (wH_skip ?_)
        obtain rfl := some_inj h_74
        exact cut_mk () trivial rfl (pre_r rfl)
      ·rintro ⟨⟩ _ sl_ H_ hp_ hq_
       refine wH_at _ hp_ hq_ (wH_region (h_op (gV n_33 2 s_30.2) wz rfl (h_op (vI (k_25 : Int)) wz rfl (h_op (vI s_44) wz rfl (h_op (.d (.agg (Match.enc (⟨(k_25 : Int), s_44⟩ : Match)))) wz (by kernel_rfl) (h_lit (([(⟨(k_25 : Int), s_44⟩ : Match)] : List Match).map Match.enc) es43 ez43 rfl rfl rfl rfl rfl wz ?_))))))
       obtain ⟨a_79, hz_80, hc_34⟩ := bind_some hc_34
       refine h_appg 0 il ft (i := 1) el43 el43 sz47 z47 rfl (by decide) by47 (by decide) (fun _ => rfl) rfl rfl rfl hz_80 wz (fun n_81 => h_op (gV n_81 2 a_79) wz rfl (h_nil (wH_region (h_opw (w64_next hD_28 hn_29) wz rfl (h_op (vI ((k_25 + 1 : Nat) : Int)) wz rfl (h_nil ?_))))))
       obtain rfl := some_inj hc_34
       exact loop_mk (k_25 + 1, l_26, (v_73, a_79), n_81) ⟨hL_35, drop_next hD_28⟩ (Nat.lt_succ_self _) rfl (pre_r rfl)
   ·rintro ⟨s_30, n_33⟩ ho_ sl_ H_ hp_ hq_
    subst ho_
    refine wH_at _ hp_ hq_ (wH_seq (wH_region (h_op .nil wz rfl (h_nil (wH_seq (wH_seq (wH_region (h_op (vV n_24 1 s_30.1) wz rfl (h_lenw un159 rfl wz (h_op (vI 0) wz rfl (h_nil (wH_froz 0 rfl (wH_co 12 0 rfl rfl (wH_co 112 0 rfl rfl (wH_new (fun n_88 => ?_))))))))))))))))
    obtain ⟨o_93, hj_94, hF⟩ := bind_some hF
    obtain ⟨hn_86, hj_94⟩ := forL_some hj_94
    refine wH_join (β := ((List Int)) × Nm) (fun p => (fun (s_87 : (List Int)) (n_90 : Nm) => ([(13, (gV n_33 2 s_30.2)), (19, (gV n_90 1 s_87))] : List (Nat × V))) p.1 p.2) (fun p => (fun (s_87 : (List Int)) (n_90 : Nm) => ([(n_24, some (bF 1 eB s_30.1)), (n_33, gB 2 Match.enc s_30.2), (n_90, gB 1 eI s_87)] : Hp)) p.1 p.2) (fun p => o_93 = .go p.1) ?_ ?_
    ·refine wH_block (wH_loop (β := Nat × (List Bool) × ((List Int)) × Nm) (fun p => (fun (k_82 : Nat) (l_83 : List Bool) (s_87 : (List Int)) (n_90 : Nm) => ([(13, (gV n_33 2 s_30.2)), (19, (gV n_90 1 s_87)), (112, (vL eB s_30.1)), (113, (vI (s_30.1.length : Int))), (114, (vI (k_82 : Int)))] : List (Nat × V))) p.1 p.2.1 p.2.2.1 p.2.2.2) (fun p => (fun (k_82 : Nat) (l_83 : List Bool) (s_87 : (List Int)) (n_90 : Nm) => ([(n_24, some (bF 1 eB s_30.1)), (n_33, gB 2 Match.enc s_30.2), (n_90, gB 1 eI s_87)] : Hp)) p.1 p.2.1 p.2.2.1 p.2.2.2) (fun p => forR (fun k x s => proof_Compare_L4 k x s) p.2.1 p.1 p.2.2.1 = some o_93 ∧ (s_30.1).drop p.1 = p.2.1) (fun p => p.2.1.length) (0, s_30.1, ([] : List Int), n_88) ⟨hj_94, rfl⟩ rfl (pre_r rfl) ?_)
     rintro ⟨k_82, l_83, s_87, n_90⟩ ⟨hL_92, hD_85⟩
     dsimp only at hL_92 hD_85
     cases l_83 with
     | nil =>
      obtain rfl := some_inj hL_92
      refine wH_seq (wH_region (h_op (vB (decide ((k_82 : Int) < (s_30.1.length : Int)))) wz rfl (h_nil ?_)))
      refine wH_seq (wH_iff rfl (drop_nil hD_85) (wH_exit ?_))
      exact cut_mk (s_87, n_90) rfl rfl (pre_r rfl)
     | cons x_84 l_83 =>
      obtain ⟨c_, hc_91, hL_92⟩ := bind_some hL_92
      refine wH_seq (wH_region (h_op (vB (decide ((k_82 : Int) < (s_30.1.length : Int)))) wz rfl (h_nil ?_)))
      refine wH_seq (wH_ift rfl (drop_cons hD_85) (wH_skip ?_))
      unfold proof_Compare_L4 at hc_91
      refine wH_seq (wH_block (wH_seq (wH_region (h_op (vI (k_82 : Int)) wz rfl (h_ia es159 rfl rfl (drop_idx hD_85) rfl wz (h_ldc sz4 ag4 rfl (vB x_84) rfl wz (h_op (vI (k_82 : Int)) wz rfl (h_op (vB x_84) wz rfl (h_nil (wH_seq (wH_region (h_op (vB x_84) wz rfl (h_op (vB (!x_84)) wz rfl (h_nil ?_))))))))))))))
      obtain ⟨v_95, h_96, hc_91⟩ := bind_some hc_91
      refine wH_join (β := Nm) (fun (n_97 : Nm) => ([(13, (gV n_33 2 s_30.2)), (19, (gV n_97 1 v_95)), (112, (vL eB s_30.1)), (113, (vI (s_30.1.length : Int))), (114, (vI (k_82 : Int)))] : List (Nat × V))) (fun (n_97 : Nm) => ([(n_24, some (bF 1 eB s_30.1)), (n_33, gB 2 Match.enc s_30.2), (n_97, gB 1 eI v_95)] : Hp)) (fun _ => True) ?_ ?_
      ·rcases cond_some h_96 with ⟨hc_98, h_96⟩ | ⟨hc_98, h_96⟩
       ·refine wH_ift rfl hc_98 (wH_region (h_op (gV n_90 1 s_87) wz rfl (h_op (vI (k_82 : Int)) wz rfl (h_lit (([(k_82 : Int)] : List Int).map eI) es22 ez22 rfl rfl rfl rfl rfl wz ?_))))
        obtain ⟨a_99, hz_100, h_96⟩ := bind_some h_96
        refine h_appg 0 il ft (i := 2) el22 el22 sz3 z3 rfl (by decide) by3 (by decide) (fun _ => rfl) rfl rfl rfl hz_100 wz (fun n_101 => h_op (gV n_101 1 a_99) wz rfl (h_nil ?_))
        obtain rfl := some_inj h_96
        exact cut_mk n_101 trivial rfl (pre_r rfl)
       ·refine wH_iff rfl hc_98 (wH_skip ?_)
        obtain rfl := some_inj h_96
        exact cut_mk n_90 trivial rfl (pre_r rfl)
      ·rintro n_97 _ sl_ H_ hp_ hq_
       refine wH_at _ hp_ hq_ (wH_region (h_opw (w64_next hD_85 hn_86) wz rfl (h_op (vI ((k_82 + 1 : Nat) : Int)) wz rfl (h_nil ?_))))
       obtain rfl := some_inj hc_91
       exact loop_mk (k_82 + 1, l_83, v_95, n_97) ⟨hL_92, drop_next hD_85⟩ (Nat.lt_succ_self _) rfl (pre_r rfl)
    ·rintro ⟨s_87, n_90⟩ ho_ sl_ H_ hp_ hq_
     subst ho_
     refine wH_at _ hp_ hq_ (wH_seq (wH_region (h_op (gV n_33 2 s_30.2) wz rfl (h_op (gV n_90 1 s_87) wz rfl (h_op (gV n_33 2 s_30.2) wz rfl (h_op (gV n_90 1 s_87) wz rfl (h_op (vI 0) wz rfl (h_nil (wH_frozg 1 rfl (wH_cog 6 1 rfl rfl (wH_cog 13 1 rfl rfl (wH_cog 126 1 rfl rfl (wH_frozg 2 rfl (wH_cog 7 2 rfl rfl (wH_cog 19 2 rfl rfl (wH_cog 127 2 rfl rfl ?_))))))))))))))))
     obtain rfl := some_inj hF
     exact wH_ret (fin0 (.inr rfl) [(vL Match.enc s_30.2), (vL eI s_87), (vI 0)] ⟨rfl, ⟨rfl, ⟨rfl, trivial⟩⟩⟩ rfl rfl rfl)
theorem slices_Index_int_int_ok {s_1 : (List Int)} {v_2 : Int} {r : Int} (hF : slices_Index_int_int s_1 v_2 = some r) :
  FnM Tryz.prog 81 [(vL eI s_1), (vI v_2)] [] (vI r) [] := by
 refine FnM.of_wH ⟨Tryz.prog, 19, [], []⟩ rfl Tryz.func81 rfl rfl (Nat.le_of_ble_eq_true rfl) (by kernel_rfl) ?_
 unfold slices_Index_int_int at hF
 refine wH_seq (wH_region (h_op (vI 0) wz rfl (h_nil (wH_seq (wH_seq (wH_region (h_op (vL eI s_1) wz rfl (h_len un22 rfl wz (h_op (vI 0) wz rfl (h_nil ?_))))))))))
 obtain ⟨o_11, hj_12, hF⟩ := bind_some hF
 obtain ⟨hn_7, hj_12⟩ := forL_some hj_12
 refine wH_join (β := (Unit)) (fun (s_8 : Unit) => ([] : List (Nat × V))) (fun (s_8 : Unit) => ([] : Hp)) (fun p => o_11 = .go p) ?_ ?_
 ·refine wH_block (wH_loop (β := Nat × (List Int) × (Unit)) (fun p => (fun (k_3 : Nat) (l_4 : List Int) (s_8 : Unit) => ([(0, (vL eI s_1)), (1, (vI v_2)), (7, (vI (s_1.length : Int))), (8, (vI (k_3 : Int)))] : List (Nat × V))) p.1 p.2.1 p.2.2) (fun p => (fun (k_3 : Nat) (l_4 : List Int) (s_8 : Unit) => ([] : Hp)) p.1 p.2.1 p.2.2) (fun p => forR (fun k x s => slices_Index_int_int_L1 v_2 k x s) p.2.1 p.1 p.2.2 = some o_11 ∧ (s_1).drop p.1 = p.2.1) (fun p => p.2.1.length) (0, s_1, ()) ⟨hj_12, rfl⟩ rfl (pre_r rfl) ?_)
  rintro ⟨k_3, l_4, s_8⟩ ⟨hL_10, hD_6⟩
  dsimp only at hL_10 hD_6
  cases l_4 with
  | nil =>
   obtain rfl := some_inj hL_10
   refine wH_seq (wH_region (h_op (vB (decide ((k_3 : Int) < (s_1.length : Int)))) wz rfl (h_nil ?_)))
   refine wH_seq (wH_iff rfl (drop_nil hD_6) (wH_exit ?_))
   exact cut_mk (s_8) rfl rfl (pre_r rfl)
  | cons x_5 l_4 =>
   obtain ⟨c_, hc_9, hL_10⟩ := bind_some hL_10
   refine wH_seq (wH_region (h_op (vB (decide ((k_3 : Int) < (s_1.length : Int)))) wz rfl (h_nil ?_)))
   refine wH_seq (wH_ift rfl (drop_cons hD_6) (wH_skip ?_))
   unfold slices_Index_int_int_L1 at hc_9
   refine wH_seq (wH_block (wH_seq (wH_region (h_op (vI (k_3 : Int)) wz rfl (h_op (vI (k_3 : Int)) wz rfl (h_nil (wH_seq (wH_region (h_op (vI v_2) wz rfl (h_op (vL eI s_1) wz rfl (h_op (vI (k_3 : Int)) wz rfl (h_ia es22 rfl rfl (drop_idx hD_6) rfl wz (h_ldc sz3 ag3 rfl (vI x_5) rfl wz (h_op (vB (v_2 == x_5)) wz rfl (h_nil ?_)))))))))))))))
   rcases cond_some hc_9 with ⟨hc_13, hc_9⟩ | ⟨hc_13, hc_9⟩
   ·refine wH_ift rfl hc_13 (wH_seq (wH_region (h_op (vI (k_3 : Int)) wz rfl (h_op (vI (k_3 : Int)) wz rfl (h_nil ?_)))))
    obtain rfl := some_inj hc_9
    obtain rfl := some_inj hL_10
    obtain rfl := some_inj hF
    exact wH_ret (fin0 (.inr rfl) [(vI (k_3 : Int))] ⟨rfl, trivial⟩ rfl rfl rfl)
   ·refine wH_iff rfl hc_13 (wH_skip (wH_region (h_opw (w64_next hD_6 hn_7) wz rfl (h_op (vI ((k_3 + 1 : Nat) : Int)) wz rfl (h_nil ?_)))))
    obtain rfl := some_inj hc_9
    exact loop_mk (k_3 + 1, l_4, ()) ⟨hL_10, drop_next hD_6⟩ (Nat.lt_succ_self _) rfl (pre_r rfl)
 ·rintro s_8 ho_ sl_ H_ hp_ hq_
  subst ho_
  refine wH_at _ hp_ hq_ (wH_seq (wH_region (h_op (vI (-1)) wz rfl (h_nil ?_))))
  obtain rfl := some_inj hF
  exact wH_ret (fin0 (.inr rfl) [(vI (-1))] ⟨rfl, trivial⟩ rfl rfl rfl)
theorem slices_Contains_int_int_ok {s_1 : (List Int)} {v_2 : Int} {r : Bool} (hF : slices_Contains_int_int s_1 v_2 = some r) :
  FnM Tryz.prog 19 [(vL eI s_1), (vI v_2)] [] (vB r) [] := by
 refine FnM.of_wH ⟨Tryz.prog, 9, [], []⟩ rfl Tryz.func19 rfl rfl (Nat.le_of_ble_eq_true rfl) (by kernel_rfl) ?_
 unfold slices_Contains_int_int at hF
 refine wH_seq (wH_region (h_op (vB false) wz rfl (h_nil (wH_seq (wH_region (h_op (vL eI s_1) wz rfl (h_op (vI v_2) wz rfl ?_)))))))
 obtain ⟨r_3, hr_4, hF⟩ := bind_some hF
 refine h_call0 (slices_Index_int_int_ok hr_4) rfl hb81 rfl rfl rfl rfl wz (h_op (vB (decide (r_3 ≥ 0))) wz rfl (h_op (vB (decide (r_3 ≥ 0))) wz rfl (h_nil ?_)))
 obtain rfl := some_inj hF
 exact wH_ret (fin0 (.inr rfl) [(vB (decide (r_3 ≥ 0)))] ⟨rfl, trivial⟩ rfl rfl rfl)
end Go.Proofs.YtbdohgbccebocaaGreatDoor.Law

