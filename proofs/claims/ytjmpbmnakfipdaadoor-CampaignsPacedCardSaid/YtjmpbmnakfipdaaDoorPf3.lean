/-
 The machine computes these plain functions (written by a program of ours).
-/
import Derived.Test.YtjmpbmnakfipdaaDoorFacts
import Derived.Test.YtjmpbmnakfipdaaDoorDefs
import Derived.Test.YtjmpbmnakfipdaaDoorPf2
open Go Go.Eng Go.Proofs
namespace Go.Proofs.YtjmpbmnakfipdaaDoor.Law
set_option maxRecDepth 100000
set_option linter.unusedVariables false
set_option maxHeartbeats 1000000
theorem ref_PlayedFault_ok {l_1 : (List Play)} {r : Int} (hF : ref_PlayedFault l_1 = some r) :
  FnM Tryd.prog 13 [(vL Play.enc l_1)] [] (vI r) [] := by
 refine FnM.of_wH ⟨Tryd.prog, 37, [], []⟩ rfl Tryd.func13 rfl rfl (Nat.le_of_ble_eq_true rfl) (by kernel_rfl) ?_
 unfold ref_PlayedFault at hF
 refine wH_seq (wH_region (h_op (vI 0) wz rfl (h_nil (wH_seq (wH_seq (wH_region (h_op (vL Play.enc l_1) wz rfl (h_len un28 rfl wz (h_op (vB (decide ((l_1.length : Int) > 3000))) wz rfl (h_nil ?_))))))))))
 rcases cond_some hF with ⟨hc_2, hF⟩ | ⟨hc_2, hF⟩
 ·refine wH_ift rfl hc_2 (wH_seq (wH_region (h_op (vI 2) wz rfl (h_nil ?_))))
  obtain rfl := some_inj hF
  exact wH_ret (fin0 (.inr rfl) [(vI 2)] ⟨rfl, trivial⟩ rfl rfl rfl)
 ·refine wH_iff rfl hc_2 (wH_skip (wH_seq (wH_seq (wH_region (h_op (vL Play.enc l_1) wz rfl (h_len un28 rfl wz (h_op (vI 0) wz rfl (h_nil ?_))))))))
  obtain ⟨o_11, hj_12, hF⟩ := bind_some hF
  obtain ⟨hn_7, hj_12⟩ := forL_some hj_12
  refine wH_join (β := (Unit)) (fun (s_8 : Unit) => ([] : List (Nat × V))) (fun (s_8 : Unit) => ([] : Hp)) (fun p => o_11 = .go p) ?_ ?_
  ·refine wH_block (wH_loop (β := Nat × (List Play) × (Unit)) (fun p => (fun (k_3 : Nat) (l_4 : List Play) (s_8 : Unit) => ([(8, (vL Play.enc l_1)), (9, (vI (l_1.length : Int))), (10, (vI (k_3 : Int)))] : List (Nat × V))) p.1 p.2.1 p.2.2) (fun p => (fun (k_3 : Nat) (l_4 : List Play) (s_8 : Unit) => ([] : Hp)) p.1 p.2.1 p.2.2) (fun p => forR (fun k x s => ref_PlayedFault_L1 k x s) p.2.1 p.1 p.2.2 = some o_11 ∧ (l_1).drop p.1 = p.2.1) (fun p => p.2.1.length) (0, l_1, ()) ⟨hj_12, rfl⟩ rfl (pre_r rfl) ?_)
   rintro ⟨k_3, l_4, s_8⟩ ⟨hL_10, hD_6⟩
   dsimp only at hL_10 hD_6
   cases l_4 with
   | nil =>
    obtain rfl := some_inj hL_10
    refine wH_seq (wH_region (h_op (vB (decide ((k_3 : Int) < (l_1.length : Int)))) wz rfl (h_nil ?_)))
    refine wH_seq (wH_iff rfl (drop_nil hD_6) (wH_exit ?_))
    exact cut_mk (s_8) rfl rfl (pre_r rfl)
   | cons x_5 l_4 =>
    obtain ⟨c_, hc_9, hL_10⟩ := bind_some hL_10
    refine wH_seq (wH_region (h_op (vB (decide ((k_3 : Int) < (l_1.length : Int)))) wz rfl (h_nil ?_)))
    refine wH_seq (wH_ift rfl (drop_cons hD_6) (wH_skip ?_))
    unfold ref_PlayedFault_L1 at hc_9
    refine wH_seq (wH_block (wH_seq (wH_region (h_ia es28 rfl rfl (drop_idx hD_6) rfl wz (h_ldc sz71 ag71 rfl (.d (.agg (Play.enc x_5))) rfl wz (h_alloc 0 (.inl rfl) z71 rfl wz (fun n_13 => h_str 0 (.inl rfl) (fun _ _ _ => trivial) 0 sz71 rfl rfl [(vS x_5.Player), (vS x_5.Item), (vI x_5.At), (vI x_5.Long)] rfl wz (h_nil (wH_block (wH_seq ?_))))))))))
    obtain ⟨v_14, h_15, hc_9⟩ := bind_some hc_9
    refine wH_join (β := Unit) (fun _ => ([(4, (.ref n_13 0 0)), (8, (vL Play.enc l_1)), (9, (vI (l_1.length : Int))), (10, (vI (k_3 : Int))), (14, (vB v_14))] : List (Nat × V))) (fun _ => ([(n_13, some (.cells 4 [(vS x_5.Player), (vS x_5.Item), (vI x_5.At), (vI x_5.Long)]))] : Hp)) (fun _ => True) ?_ ?_
    ·refine wH_region (h_far pl71_0 rfl 0 rfl wz (h_ldr 0 0 (.inl rfl) (fun _ _ _ => trivial) sz9 ag9 rfl rfl (vS x_5.Player) rfl wz ?_))
     obtain ⟨r_16, hr_17, h_15⟩ := bind_some h_15
     refine h_call0 (ref_Key_ok hr_17) rfl hb31 rfl rfl rfl rfl wz (h_op (vB (!r_16)) wz rfl ?_)
     rcases cond_some h_15 with ⟨hc_18, h_15⟩ | ⟨hc_18, h_15⟩
     ·refine h_movb rfl hc_18 wz (h_skip (wg rfl rfl rfl) (h_skip (wg rfl rfl rfl) (h_skip (wg rfl rfl rfl) (h_skip (wg rfl rfl rfl) (h_op (vB true) wz rfl (h_op (vB true) wz rfl (h_nil ?_)))))))
      obtain rfl := some_inj h_15
      exact cut_mk () trivial rfl (pre_r rfl)
     ·refine h_movb rfl hc_18 wz (h_far pl71_1 rfl 1 rfl (wg rfl rfl rfl) (h_ldr 0 0 (.inl rfl) (fun _ _ _ => trivial) sz9 ag9 rfl rfl (vS x_5.Item) rfl (wg rfl rfl rfl) ?_))
      obtain ⟨r_19, hr_20, h_15⟩ := bind_some h_15
      refine h_call0 (ref_Key_ok hr_20) rfl hb31 rfl rfl rfl rfl (wg rfl rfl rfl) (h_op (vB (!r_19)) (wg rfl rfl rfl) rfl (h_op (vB (!r_19)) wz rfl (h_op (vB (!r_19)) wz rfl (h_nil ?_))))
      obtain rfl := some_inj h_15
      exact cut_mk () trivial rfl (pre_r rfl)
    ·rintro ⟨⟩ _ sl_ H_ hp_ hq_
     refine wH_at _ hp_ hq_ ?_
     rcases cond_some hc_9 with ⟨hc_21, hc_9⟩ | ⟨hc_21, hc_9⟩
     ·refine wH_ift rfl hc_21 (wH_seq (wH_region (h_op (vI 5) wz rfl (h_nil ?_))))
      obtain rfl := some_inj hc_9
      obtain rfl := some_inj hL_10
      obtain rfl := some_inj hF
      exact wH_ret (fin0 (.inr rfl) [(vI 5)] ⟨rfl, trivial⟩ rfl rfl rfl)
     ·refine wH_iff rfl hc_21 (wH_seq ?_)
      obtain ⟨v_22, h_23, hc_9⟩ := bind_some hc_9
      refine wH_join (β := Unit) (fun _ => ([(8, (vL Play.enc l_1)), (9, (vI (l_1.length : Int))), (10, (vI (k_3 : Int))), (25, (vB v_22))] : List (Nat × V))) (fun _ => ([(n_13, some (.cells 4 [(vS x_5.Player), (vS x_5.Item), (vI x_5.At), (vI x_5.Long)]))] : Hp)) (fun _ => True) ?_ ?_
      ·refine wH_region (h_far pl71_2 rfl 2 rfl wz (h_ldr 0 0 (.inl rfl) (fun _ _ _ => trivial) sz3 ag3 rfl rfl (vI x_5.At) rfl wz ?_))
       obtain ⟨r_24, hr_25, h_23⟩ := bind_some h_23
       refine h_call0 (ref_Moment_ok hr_25) rfl hb34 rfl rfl rfl rfl wz (h_op (vB (!r_24)) wz rfl ?_)
       rcases cond_some h_23 with ⟨hc_26, h_23⟩ | ⟨hc_26, h_23⟩
       ·refine h_movb rfl hc_26 wz (h_skip (wg rfl rfl rfl) (h_skip (wg rfl rfl rfl) (h_skip (wg rfl rfl rfl) (h_skip (wg rfl rfl rfl) (h_op (vB true) wz rfl (h_op (vB true) wz rfl (h_nil ?_)))))))
        obtain rfl := some_inj h_23
        exact cut_mk () trivial rfl (pre_r rfl)
       ·refine h_movb rfl hc_26 wz (h_far pl71_3 rfl 3 rfl (wg rfl rfl rfl) (h_ldr 0 0 (.inl rfl) (fun _ _ _ => trivial) sz3 ag3 rfl rfl (vI x_5.Long) rfl (wg rfl rfl rfl) ?_))
        obtain ⟨r_27, hr_28, h_23⟩ := bind_some h_23
        refine h_call0 (ref_in_ok hr_28) rfl hb32 rfl rfl rfl rfl (wg rfl rfl rfl) (h_op (vB (!r_27)) (wg rfl rfl rfl) rfl (h_op (vB (!r_27)) wz rfl (h_op (vB (!r_27)) wz rfl (h_nil ?_))))
        obtain rfl := some_inj h_23
        exact cut_mk () trivial rfl (pre_r rfl)
      ·rintro ⟨⟩ _ sl_ H_ hp_ hq_
       refine wH_at _ hp_ hq_ ?_
       rcases cond_some hc_9 with ⟨hc_29, hc_9⟩ | ⟨hc_29, hc_9⟩
       ·refine wH_ift rfl hc_29 (wH_seq (wH_region (h_op (vI 1) wz rfl (h_nil ?_))))
        obtain rfl := some_inj hc_9
        obtain rfl := some_inj hL_10
        obtain rfl := some_inj hF
        exact wH_ret (fin0 (.inr rfl) [(vI 1)] ⟨rfl, trivial⟩ rfl rfl rfl)
       ·refine wH_iff rfl hc_29 (wH_skip (wH_region (h_opw (w64_next hD_6 hn_7) wz rfl (h_op (vI ((k_3 + 1 : Nat) : Int)) wz rfl (h_nil ?_)))))
        obtain rfl := some_inj hc_9
        exact loop_mk (k_3 + 1, l_4, ()) ⟨hL_10, drop_next hD_6⟩ (Nat.lt_succ_self _) rfl (pre_r rfl)
  ·rintro s_8 ho_ sl_ H_ hp_ hq_
   subst ho_
   refine wH_at _ hp_ hq_ (wH_seq (wH_region (h_op (vI 0) wz rfl (h_nil ?_))))
   obtain rfl := some_inj hF
   exact wH_ret (fin0 (.inr rfl) [(vI 0)] ⟨rfl, trivial⟩ rfl rfl rfl)
theorem law_when_ok {is_1 : Bool} {e_2 : Int} {r : Int} (hF : law_when is_1 e_2 = some r) :
  FnM Tryd.prog 35 [(vB is_1), (vI e_2)] [] (vI r) [] := by
 refine FnM.of_wH ⟨Tryd.prog, 7, [], []⟩ rfl Tryd.func35 rfl rfl (Nat.le_of_ble_eq_true rfl) (by kernel_rfl) ?_
 unfold law_when at hF
 refine wH_seq (wH_region (h_op (vI 0) wz rfl (h_nil (wH_seq (wH_seq (wH_region (h_op (vB is_1) wz rfl (h_nil ?_))))))))
 rcases cond_some hF with ⟨hc_3, hF⟩ | ⟨hc_3, hF⟩
 ·refine wH_ift rfl hc_3 (wH_seq (wH_region (h_op (vI e_2) wz rfl (h_op (vI e_2) wz rfl (h_nil ?_)))))
  obtain rfl := some_inj hF
  exact wH_ret (fin0 (.inr rfl) [(vI e_2)] ⟨rfl, trivial⟩ rfl rfl rfl)
 ·refine wH_iff rfl hc_3 (wH_skip (wH_seq (wH_region (h_op (vI 0) wz rfl (h_nil ?_)))))
  obtain rfl := some_inj hF
  exact wH_ret (fin0 (.inr rfl) [(vI 0)] ⟨rfl, trivial⟩ rfl rfl rfl)
theorem law_momentFault_ok {atv_1 : Int} {r : Int} (hF : law_momentFault atv_1 = some r) :
  FnM Tryd.prog 14 [(vI atv_1)] [] (vI r) [] := by
 refine FnM.of_wH ⟨Tryd.prog, 7, [], []⟩ rfl Tryd.func14 rfl rfl (Nat.le_of_ble_eq_true rfl) (by kernel_rfl) ?_
 unfold law_momentFault at hF
 refine wH_seq (wH_region (h_op (vI 0) wz rfl (h_nil (wH_seq (wH_region (h_op (vI atv_1) wz rfl ?_))))))
 obtain ⟨r_2, hr_3, hF⟩ := bind_some hF
 refine h_call0 (ref_Moment_ok hr_3) rfl hb34 rfl rfl rfl rfl wz (h_op (vB (!r_2)) wz rfl ?_)
 obtain ⟨r_4, hr_5, hF⟩ := bind_some hF
 refine h_call0 (law_when_ok hr_5) rfl hb35 rfl rfl rfl rfl wz (h_op (vI r_4) wz rfl (h_nil ?_))
 obtain rfl := some_inj hF
 exact wH_ret (fin0 (.inr rfl) [(vI r_4)] ⟨rfl, trivial⟩ rfl rfl rfl)
theorem law_errs_ok {l_1 : (List Int)} {r : Int} (hF : law_errs l_1 = some r) :
  FnM Tryd.prog 11 [(vL eI l_1)] [] (vI r) [] := by
 refine FnM.of_wH ⟨Tryd.prog, 15, [], []⟩ rfl Tryd.func11 rfl rfl (Nat.le_of_ble_eq_true rfl) (by kernel_rfl) ?_
 unfold law_errs at hF
 refine wH_seq (wH_region (h_op (vI 0) wz rfl (h_nil (wH_seq (wH_seq (wH_region (h_op (vL eI l_1) wz rfl (h_len un74 rfl wz (h_op (vI 0) wz rfl (h_nil ?_))))))))))
 obtain ⟨o_10, hj_11, hF⟩ := bind_some hF
 obtain ⟨hn_6, hj_11⟩ := forL_some hj_11
 refine wH_join (β := (Unit)) (fun (s_7 : Unit) => ([] : List (Nat × V))) (fun (s_7 : Unit) => ([] : Hp)) (fun p => o_10 = .go p) ?_ ?_
 ·refine wH_block (wH_loop (β := Nat × (List Int) × (Unit)) (fun p => (fun (k_2 : Nat) (l_3 : List Int) (s_7 : Unit) => ([(5, (vL eI l_1)), (6, (vI (l_1.length : Int))), (7, (vI (k_2 : Int)))] : List (Nat × V))) p.1 p.2.1 p.2.2) (fun p => (fun (k_2 : Nat) (l_3 : List Int) (s_7 : Unit) => ([] : Hp)) p.1 p.2.1 p.2.2) (fun p => forR (fun k x s => law_errs_L1 k x s) p.2.1 p.1 p.2.2 = some o_10 ∧ (l_1).drop p.1 = p.2.1) (fun p => p.2.1.length) (0, l_1, ()) ⟨hj_11, rfl⟩ rfl (pre_r rfl) ?_)
  rintro ⟨k_2, l_3, s_7⟩ ⟨hL_9, hD_5⟩
  dsimp only at hL_9 hD_5
  cases l_3 with
  | nil =>
   obtain rfl := some_inj hL_9
   refine wH_seq (wH_region (h_op (vB (decide ((k_2 : Int) < (l_1.length : Int)))) wz rfl (h_nil ?_)))
   refine wH_seq (wH_iff rfl (drop_nil hD_5) (wH_exit ?_))
   exact cut_mk (s_7) rfl rfl (pre_r rfl)
  | cons x_4 l_3 =>
   obtain ⟨c_, hc_8, hL_9⟩ := bind_some hL_9
   refine wH_seq (wH_region (h_op (vB (decide ((k_2 : Int) < (l_1.length : Int)))) wz rfl (h_nil ?_)))
   refine wH_seq (wH_ift rfl (drop_cons hD_5) (wH_skip ?_))
   unfold law_errs_L1 at hc_8
   refine wH_seq (wH_block (wH_seq (wH_region (h_ia es74 rfl rfl (drop_idx hD_5) rfl wz (h_ldc sz33 ag33 rfl (vI x_4) rfl wz (h_op (vI x_4) wz rfl (h_nil (wH_seq (wH_region (h_op (vI x_4) wz rfl (h_op (vB (x_4 != 0)) wz rfl (h_nil ?_))))))))))))
   rcases cond_some hc_8 with ⟨hc_12, hc_8⟩ | ⟨hc_12, hc_8⟩
   ·refine wH_ift rfl hc_12 (wH_seq (wH_region (h_op (vI x_4) wz rfl (h_op (vI x_4) wz rfl (h_nil ?_)))))
    obtain rfl := some_inj hc_8
    obtain rfl := some_inj hL_9
    obtain rfl := some_inj hF
    exact wH_ret (fin0 (.inr rfl) [(vI x_4)] ⟨rfl, trivial⟩ rfl rfl rfl)
   ·refine wH_iff rfl hc_12 (wH_skip (wH_region (h_opw (w64_next hD_5 hn_6) wz rfl (h_op (vI ((k_2 + 1 : Nat) : Int)) wz rfl (h_nil ?_)))))
    obtain rfl := some_inj hc_8
    exact loop_mk (k_2 + 1, l_3, ()) ⟨hL_9, drop_next hD_5⟩ (Nat.lt_succ_self _) rfl (pre_r rfl)
 ·rintro s_7 ho_ sl_ H_ hp_ hq_
  subst ho_
  refine wH_at _ hp_ hq_ (wH_seq (wH_region (h_op (vI 0) wz rfl (h_nil ?_))))
  obtain rfl := some_inj hF
  exact wH_ret (fin0 (.inr rfl) [(vI 0)] ⟨rfl, trivial⟩ rfl rfl rfl)
theorem booking_Due_ok {c_1 : Campaign} {atv_2 : Int} {r : Int × Int} (hF : booking_Due c_1 atv_2 = some r) :
  FnM Tryd.prog 15 [(.d (.agg (Campaign.enc c_1))), (vI atv_2)] [] (.tup [(vI r.1), (vI r.2)]) [] := by
 refine FnM.of_wH ⟨Tryd.prog, 19, [], []⟩ rfl Tryd.func15 rfl rfl (Nat.le_of_ble_eq_true rfl) (by kernel_rfl) ?_
 unfold booking_Due at hF
 refine wH_seq (wH_region (h_box 0 (.inl rfl) [(vS c_1.Key), (vS c_1.Class), (vI c_1.Time.From), (vI c_1.Time.To), (vL eS c_1.Tags), (vI c_1.Goal), (vI c_1.Most), (vI c_1.Cents)] rfl rfl wz (fun n_3 => h_op (vI 0) wz rfl (h_op (vI 0) wz rfl (h_nil (wH_seq (wH_seq (wH_region (h_ldr 0 0 (.inl rfl) (fun _ _ _ => trivial) sz49 ag49 rfl rfl (.d (.agg (Campaign.enc c_1))) rfl wz (h_lit (([c_1] : List Campaign).map Campaign.enc) es26 ez26 rfl rfl rfl rfl rfl wz ?_))))))))))
 obtain ⟨r_4, hr_5, hF⟩ := bind_some hF
 refine h_call0 (booking_CheckCampaigns_ok hr_5) rfl hb36 rfl rfl rfl rfl wz (h_op (vI r_4) wz rfl (h_nil (wH_seq (wH_region (h_op (vI r_4) wz rfl (h_op (vB (r_4 != 0)) wz rfl (h_nil ?_)))))))
 rcases cond_some hF with ⟨hc_6, hF⟩ | ⟨hc_6, hF⟩
 ·refine wH_ift rfl hc_6 (wH_seq (wH_region (h_op (vI r_4) wz rfl (h_op (vI 0) wz rfl (h_op (vI r_4) wz rfl (h_nil ?_))))))
  obtain rfl := some_inj hF
  exact wH_ret (fin0 (.inr rfl) [(vI 0), (vI r_4)] ⟨rfl, ⟨rfl, trivial⟩⟩ rfl rfl rfl)
 ·refine wH_iff rfl hc_6 (wH_skip (wH_seq (wH_seq (wH_region (h_op (vI atv_2) wz rfl ?_)))))
  obtain ⟨r_7, hr_8, hF⟩ := bind_some hF
  refine h_call0 (kit_IsMoment_ok hr_8) rfl hb37 rfl rfl rfl rfl wz (h_op (vB (!r_7)) wz rfl (h_nil ?_))
  rcases cond_some hF with ⟨hc_9, hF⟩ | ⟨hc_9, hF⟩
  ·refine wH_ift rfl hc_9 (wH_seq (wH_region (h_op (vI 0) wz rfl (h_op (vI 1) wz rfl (h_nil ?_)))))
   obtain rfl := some_inj hF
   exact wH_ret (fin0 (.inr rfl) [(vI 0), (vI 1)] ⟨rfl, ⟨rfl, trivial⟩⟩ rfl rfl rfl)
  ·refine wH_iff rfl hc_9 (wH_skip (wH_seq (wH_region (h_ldr 0 0 (.inl rfl) (fun _ _ _ => trivial) sz49 ag49 rfl rfl (.d (.agg (Campaign.enc c_1))) rfl wz (h_op (vI atv_2) wz rfl ?_)))))
   obtain ⟨r_10, hr_11, hF⟩ := bind_some hF
   refine h_call0 (booking_due_ok hr_11) rfl hb38 rfl rfl rfl rfl wz (h_op (vI r_10) wz rfl (h_op (vI 0) wz rfl (h_nil ?_)))
   obtain rfl := some_inj hF
   exact wH_ret (fin0 (.inr rfl) [(vI r_10), (vI 0)] ⟨rfl, ⟨rfl, trivial⟩⟩ rfl rfl rfl)
theorem ref_DueOf_ok {c_1 : Campaign} {atv_2 : Int} {r : Int} (hF : ref_DueOf c_1 atv_2 = some r) :
  FnM Tryd.prog 16 [(.d (.agg (Campaign.enc c_1))), (vI atv_2)] [] (vI r) [] := by
 refine FnM.of_wH ⟨Tryd.prog, 30, [], []⟩ rfl Tryd.func16 rfl rfl (Nat.le_of_ble_eq_true rfl) (by kernel_rfl) ?_
 unfold ref_DueOf at hF
 refine wH_seq (wH_region (h_box 0 (.inl rfl) [(vS c_1.Key), (vS c_1.Class), (vI c_1.Time.From), (vI c_1.Time.To), (vL eS c_1.Tags), (vI c_1.Goal), (vI c_1.Most), (vI c_1.Cents)] rfl rfl wz (fun n_3 => h_op (vI 0) wz rfl (h_nil (wH_seq (wH_region (h_op (vI atv_2) wz rfl (h_far pl49_2 rfl 2 rfl wz (h_far pl46_0 rfl 2 rfl wz (h_ldr 0 0 (.inl rfl) (fun _ _ _ => trivial) sz3 ag3 rfl rfl (vI c_1.Time.From) rfl wz (h_minmax (vI (maxI atv_2 c_1.Time.From)) rfl (.inr rfl) wz (h_far pl49_2 rfl 2 rfl wz (h_far pl46_1 rfl 3 rfl wz (h_ldr 0 0 (.inl rfl) (fun _ _ _ => trivial) sz3 ag3 rfl rfl (vI c_1.Time.To) rfl wz (h_minmax (vI (minI (maxI atv_2 c_1.Time.From) c_1.Time.To)) rfl (.inl rfl) wz (h_op (vI (minI (maxI atv_2 c_1.Time.From) c_1.Time.To)) wz rfl (h_nil (wH_seq (wH_region (h_far pl49_4 rfl 5 rfl wz (h_ldr 0 0 (.inl rfl) (fun _ _ _ => trivial) sz3 ag3 rfl rfl (vI c_1.Goal) rfl wz (h_op (vI (minI (maxI atv_2 c_1.Time.From) c_1.Time.To)) wz rfl (h_far pl49_2 rfl 2 rfl wz ?_)))))))))))))))))))))))
 refine h_far pl46_0 rfl 2 rfl wz (h_ldr 0 0 (.inl rfl) (fun _ _ _ => trivial) sz3 ag3 rfl rfl (vI c_1.Time.From) rfl wz (h_op (vI (w64 ((minI (maxI atv_2 c_1.Time.From) c_1.Time.To) - c_1.Time.From))) wz rfl (h_op (vI (w64 (c_1.Goal * (w64 ((minI (maxI atv_2 c_1.Time.From) c_1.Time.To) - c_1.Time.From))))) wz rfl (h_far pl49_2 rfl 2 rfl wz (h_far pl46_1 rfl 3 rfl wz (h_ldr 0 0 (.inl rfl) (fun _ _ _ => trivial) sz3 ag3 rfl rfl (vI c_1.Time.To) rfl wz (h_far pl49_2 rfl 2 rfl wz (h_far pl46_0 rfl 2 rfl wz (h_ldr 0 0 (.inl rfl) (fun _ _ _ => trivial) sz3 ag3 rfl rfl (vI c_1.Time.From) rfl wz (h_op (vI (w64 (c_1.Time.To - c_1.Time.From))) wz rfl ?_))))))))))
 obtain ⟨q_4, hz_5, hF⟩ := bind_some hF
 refine h_quo rfl rfl hz_5 wz (h_op (vI q_4) wz rfl (h_nil ?_))
 obtain rfl := some_inj hF
 exact wH_ret (fin0 (.inr rfl) [(vI q_4)] ⟨rfl, trivial⟩ rfl rfl rfl)
theorem law_booked_ok {r : Bool} (hF : law_booked  = some r) :
  FnM Tryd.prog 17 [] [] (vB r) [] := by
 refine FnM.of_wH ⟨Tryd.prog, 15, [], []⟩ rfl Tryd.func17 rfl rfl (Nat.le_of_ble_eq_true rfl) (by kernel_rfl) ?_
 unfold law_booked at hF
 refine wH_seq (wH_region (h_op (vB false) wz rfl (h_nil (wH_seq (wH_region (h_op (.d (.agg (Window.enc (⟨0, 100⟩ : Window)))) wz (by kernel_rfl) (h_op (.agg [(vS (⟨#[97]⟩ : ByteArray)), (vS (⟨#[]⟩ : ByteArray)), (vI 0), (vI 100), .nil, (vI 10), (vI 0), (vI 0)]) wz (by kernel_rfl) ?_)))))))
 obtain ⟨r_1, hr_2, hF⟩ := bind_some hF
 refine h_call0 (booking_Due_ok hr_2) rfl hb15 rfl rfl rfl rfl wz (h_op (.tup [(vI r_1.1), (vI r_1.2)]) wz rfl (h_op (vI r_1.1) wz rfl (h_op (vI r_1.2) wz rfl (h_op (vI r_1.1) wz rfl (h_op (vI r_1.2) wz rfl (h_nil (wH_seq ?_)))))))
 obtain ⟨v_3, h_4, hF⟩ := bind_some hF
 refine wH_join (β := Unit) (fun _ => ([(0, (vB v_3))] : List (Nat × V))) (fun _ => ([] : Hp)) (fun _ => True) ?_ ?_
 ·refine wH_region (h_op (vI r_1.2) wz rfl (h_op (vB (r_1.2 == 0)) wz rfl ?_))
  rcases cond_some h_4 with ⟨hc_5, h_4⟩ | ⟨hc_5, h_4⟩
  ·refine h_movb rfl hc_5 wz (h_op (vI r_1.1) (wg rfl rfl rfl) rfl (h_op (vB (r_1.1 == 5)) (wg rfl rfl rfl) rfl (h_op (vB (r_1.1 == 5)) wz rfl (h_op (vB (r_1.1 == 5)) wz rfl (h_nil ?_)))))
   obtain rfl := some_inj h_4
   exact cut_mk () trivial rfl (pre_r rfl)
  ·refine h_movb rfl hc_5 wz (h_skip (wg rfl rfl rfl) (h_skip (wg rfl rfl rfl) (h_op (vB false) wz rfl (h_op (vB false) wz rfl (h_nil ?_)))))
   obtain rfl := some_inj h_4
   exact cut_mk () trivial rfl (pre_r rfl)
 ·rintro ⟨⟩ _ sl_ H_ hp_ hq_
  refine wH_at _ hp_ hq_ ?_
  obtain rfl := some_inj hF
  exact wH_ret (fin0 (.inr rfl) [(vB v_3)] ⟨rfl, trivial⟩ rfl rfl rfl)
theorem ref_doneOf_ok {c_1 : Campaign} {plays_2 : (List Play)} {atv_3 : Int} {r : Int} (hF : ref_doneOf c_1 plays_2 atv_3 = some r) :
  FnM Tryd.prog 40 [(.d (.agg (Campaign.enc c_1))), (vL Play.enc plays_2), (vI atv_3)] [] (vI r) [] := by
 refine FnM.of_wH ⟨Tryd.prog, 39, [], []⟩ rfl Tryd.func40 rfl rfl (Nat.le_of_ble_eq_true rfl) (by kernel_rfl) ?_
 unfold ref_doneOf at hF
 refine wH_seq (wH_region (h_box 0 (.inl rfl) [(vS c_1.Key), (vS c_1.Class), (vI c_1.Time.From), (vI c_1.Time.To), (vL eS c_1.Tags), (vI c_1.Goal), (vI c_1.Most), (vI c_1.Cents)] rfl rfl wz (fun n_4 => h_op (vI 0) wz rfl (h_nil (wH_seq (wH_region (h_op (vI 0) wz rfl (h_nil (wH_seq (wH_seq (wH_region (h_op (vL Play.enc plays_2) wz rfl (h_len un28 rfl wz (h_op (vI 0) wz rfl (h_nil ?_)))))))))))))))
 obtain ⟨o_13, hj_14, hF⟩ := bind_some hF
 obtain ⟨hn_9, hj_14⟩ := forL_some hj_14
 refine wH_join (β := (Int)) (fun (s_10 : Int) => ([(7, (vI s_10))] : List (Nat × V))) (fun (s_10 : Int) => ([(n_4, some (.cells 8 [(vS c_1.Key), (vS c_1.Class), (vI c_1.Time.From), (vI c_1.Time.To), (vL eS c_1.Tags), (vI c_1.Goal), (vI c_1.Most), (vI c_1.Cents)]))] : Hp)) (fun p => o_13 = .go p) ?_ ?_
 ·refine wH_block (wH_loop (β := Nat × (List Play) × (Int)) (fun p => (fun (k_5 : Nat) (l_6 : List Play) (s_10 : Int) => ([(2, (vI atv_3)), (3, (.ref n_4 0 0)), (7, (vI s_10)), (10, (vL Play.enc plays_2)), (11, (vI (plays_2.length : Int))), (12, (vI (k_5 : Int)))] : List (Nat × V))) p.1 p.2.1 p.2.2) (fun p => (fun (k_5 : Nat) (l_6 : List Play) (s_10 : Int) => ([(n_4, some (.cells 8 [(vS c_1.Key), (vS c_1.Class), (vI c_1.Time.From), (vI c_1.Time.To), (vL eS c_1.Tags), (vI c_1.Goal), (vI c_1.Most), (vI c_1.Cents)]))] : Hp)) p.1 p.2.1 p.2.2) (fun p => forR (fun k x s => ref_doneOf_L1 c_1 atv_3 k x s) p.2.1 p.1 p.2.2 = some o_13 ∧ (plays_2).drop p.1 = p.2.1) (fun p => p.2.1.length) (0, plays_2, 0) ⟨hj_14, rfl⟩ rfl (pre_r rfl) ?_)
  rintro ⟨k_5, l_6, s_10⟩ ⟨hL_12, hD_8⟩
  dsimp only at hL_12 hD_8
  cases l_6 with
  | nil =>
   obtain rfl := some_inj hL_12
   refine wH_seq (wH_region (h_op (vB (decide ((k_5 : Int) < (plays_2.length : Int)))) wz rfl (h_nil ?_)))
   refine wH_seq (wH_iff rfl (drop_nil hD_8) (wH_exit ?_))
   exact cut_mk (s_10) rfl rfl (pre_r rfl)
  | cons x_7 l_6 =>
   obtain ⟨c_, hc_11, hL_12⟩ := bind_some hL_12
   refine wH_seq (wH_region (h_op (vB (decide ((k_5 : Int) < (plays_2.length : Int)))) wz rfl (h_nil ?_)))
   refine wH_seq (wH_ift rfl (drop_cons hD_8) (wH_skip ?_))
   unfold ref_doneOf_L1 at hc_11
   refine wH_seq (wH_block (wH_seq (wH_region (h_ia es28 rfl rfl (drop_idx hD_8) rfl wz (h_ldc sz71 ag71 rfl (.d (.agg (Play.enc x_7))) rfl wz (h_alloc 0 (.inl rfl) z71 rfl wz (fun n_15 => h_str 0 (.inl rfl) (fun _ _ _ => trivial) 1 sz71 rfl rfl [(vS x_7.Player), (vS x_7.Item), (vI x_7.At), (vI x_7.Long)] rfl wz (h_nil (wH_seq ?_)))))))))
   obtain ⟨v_16, h_17, hc_11⟩ := bind_some hc_11
   refine wH_join (β := Unit) (fun _ => ([(2, (vI atv_3)), (3, (.ref n_4 0 0)), (7, (vI s_10)), (10, (vL Play.enc plays_2)), (11, (vI (plays_2.length : Int))), (12, (vI (k_5 : Int))), (34, (vB v_16))] : List (Nat × V))) (fun _ => ([(n_4, some (.cells 8 [(vS c_1.Key), (vS c_1.Class), (vI c_1.Time.From), (vI c_1.Time.To), (vL eS c_1.Tags), (vI c_1.Goal), (vI c_1.Most), (vI c_1.Cents)])), (n_15, some (.cells 4 [(vS x_7.Player), (vS x_7.Item), (vI x_7.At), (vI x_7.Long)]))] : Hp)) (fun _ => True) ?_ ?_
   ·refine wH_region (h_far pl71_1 rfl 1 rfl wz (h_ldr 0 1 (.inl rfl) (fun _ _ _ => trivial) sz9 ag9 rfl rfl (vS x_7.Item) rfl wz (h_far pl49_0 rfl 0 rfl wz (h_ldr 0 0 (.inl rfl) (fun _ _ _ => trivial) sz9 ag9 rfl rfl (vS c_1.Key) rfl wz (h_op (vB (sEq x_7.Item c_1.Key)) wz rfl ?_)))))
    rcases cond_some h_17 with ⟨hc_18, h_17⟩ | ⟨hc_18, h_17⟩
    ·refine h_movb rfl hc_18 wz (h_far pl71_2 rfl 2 rfl (wg rfl rfl rfl) (h_ldr 0 1 (.inl rfl) (fun _ _ _ => trivial) sz3 ag3 rfl rfl (vI x_7.At) rfl (wg rfl rfl rfl) (h_far pl49_2 rfl 2 rfl (wg rfl rfl rfl) (h_far pl46_0 rfl 2 rfl (wg rfl rfl rfl) (h_ldr 0 0 (.inl rfl) (fun _ _ _ => trivial) sz3 ag3 rfl rfl (vI c_1.Time.From) rfl (wg rfl rfl rfl) (h_far pl49_2 rfl 2 rfl (wg rfl rfl rfl) (h_far pl46_1 rfl 3 rfl (wg rfl rfl rfl) (h_ldr 0 0 (.inl rfl) (fun _ _ _ => trivial) sz3 ag3 rfl rfl (vI c_1.Time.To) rfl (wg rfl rfl rfl) (h_op (vI atv_3) (wg rfl rfl rfl) rfl (h_minmax (vI (minI c_1.Time.To atv_3)) rfl (.inl rfl) (wg rfl rfl rfl) (h_op (vI (w64 ((minI c_1.Time.To atv_3) - 1))) (wg rfl rfl rfl) rfl ?_)))))))))))
     obtain ⟨r_19, hr_20, h_17⟩ := bind_some h_17
     refine h_call0 (ref_in_ok hr_20) rfl hb32 rfl rfl rfl rfl (wg rfl rfl rfl) (h_op (vB r_19) wz rfl (h_nil ?_))
     obtain rfl := some_inj h_17
     exact cut_mk () trivial rfl (pre_r rfl)
    ·refine h_movb rfl hc_18 wz (h_skip (wg rfl rfl rfl) (h_skip (wg rfl rfl rfl) (h_skip (wg rfl rfl rfl) (h_skip (wg rfl rfl rfl) (h_skip (wg rfl rfl rfl) (h_skip (wg rfl rfl rfl) (h_skip (wg rfl rfl rfl) (h_skip (wg rfl rfl rfl) (h_skip (wg rfl rfl rfl) (h_skip (wg rfl rfl rfl) (h_skip (wg rfl rfl rfl) (h_skip (wg rfl rfl rfl) (h_op (vB false) wz rfl (h_nil ?_))))))))))))))
     obtain rfl := some_inj h_17
     exact cut_mk () trivial rfl (pre_r rfl)
   ·rintro ⟨⟩ _ sl_ H_ hp_ hq_
    refine wH_at _ hp_ hq_ ?_
    obtain ⟨v_21, h_22, hc_11⟩ := bind_some hc_11
    refine wH_join (β := Unit) (fun _ => ([(2, (vI atv_3)), (3, (.ref n_4 0 0)), (7, (vI v_21)), (10, (vL Play.enc plays_2)), (11, (vI (plays_2.length : Int))), (12, (vI (k_5 : Int)))] : List (Nat × V))) (fun _ => ([(n_4, some (.cells 8 [(vS c_1.Key), (vS c_1.Class), (vI c_1.Time.From), (vI c_1.Time.To), (vL eS c_1.Tags), (vI c_1.Goal), (vI c_1.Most), (vI c_1.Cents)])), (n_15, some (.cells 4 [(vS x_7.Player), (vS x_7.Item), (vI x_7.At), (vI x_7.Long)]))] : Hp)) (fun _ => True) ?_ ?_
    ·rcases cond_some h_22 with ⟨hc_23, h_22⟩ | ⟨hc_23, h_22⟩
     ·refine wH_ift rfl hc_23 (wH_region (h_op (vI s_10) wz rfl (h_op (vI (w64 (s_10 + 1))) wz rfl (h_op (vI (w64 (s_10 + 1))) wz rfl (h_nil ?_)))))
      obtain rfl := some_inj h_22
      exact cut_mk () trivial rfl (pre_r rfl)
     ·refine wH_iff rfl hc_23 (wH_skip ?_)
      obtain rfl := some_inj h_22
      exact cut_mk () trivial rfl (pre_r rfl)
    ·rintro ⟨⟩ _ sl_ H_ hp_ hq_
     refine wH_at _ hp_ hq_ (wH_region (h_opw (w64_next hD_8 hn_9) wz rfl (h_op (vI ((k_5 + 1 : Nat) : Int)) wz rfl (h_nil ?_))))
     obtain rfl := some_inj hc_11
     exact loop_mk (k_5 + 1, l_6, v_21) ⟨hL_12, drop_next hD_8⟩ (Nat.lt_succ_self _) rfl (pre_r rfl)
 ·rintro s_10 ho_ sl_ H_ hp_ hq_
  subst ho_
  refine wH_at _ hp_ hq_ (wH_seq (wH_region (h_op (vI s_10) wz rfl (h_op (vI s_10) wz rfl (h_nil ?_)))))
  obtain rfl := some_inj hF
  exact wH_ret (fin0 (.inr rfl) [(vI s_10)] ⟨rfl, trivial⟩ rfl rfl rfl)
theorem ref_ChooseOf_1_ok {i_1 : Int} {p_2 : (List Campaign)} {p_3 : Int} {p_4 : (List Play)} {r : Int} (hF : ref_ChooseOf_1 i_1 p_2 p_3 p_4 = some r) :
  FnM Tryd.prog 39 [(vI i_1), (.ref (extN 0) 0 0), (.ref (extN 1) 0 0), (.ref (extN 2) 0 0)] [(.cells 1 [(vL Campaign.enc p_2)]), (.cells 1 [(vI p_3)]), (.cells 1 [(vL Play.enc p_4)])] (vI r) [some (.cells 1 [(vL Campaign.enc p_2)]), some (.cells 1 [(vI p_3)]), some (.cells 1 [(vL Play.enc p_4)])] := by
 refine FnM.of_wH ⟨Tryd.prog, 20, [], []⟩ rfl Tryd.func39 rfl rfl (Nat.le_of_ble_eq_true rfl) (by kernel_rfl) ?_
 unfold ref_ChooseOf_1 at hF
 refine wH_seq (wH_region (h_op (vI 0) wz rfl (h_nil (wH_seq (wH_draws (h_ldr 0 0 (.inr (by kernel_rfl)) (fun _ _ ag => trivial) sz26 ag26 rfl rfl (vL Campaign.enc p_2) rfl wz (h_op (vI i_1) wz rfl ?_)))))))
 obtain ⟨y_5, hy_6, hF⟩ := bind_some hF
 refine h_ia es26 rfl rfl hy_6 rfl wz (h_ldc sz49 ag49 rfl (.d (.agg (Campaign.enc y_5))) rfl wz (h_ldr 4 1 (.inr (by kernel_rfl)) (fun _ _ ag => ⟨.inl ⟨rfl, rfl⟩, trivial⟩) sz3 ag3 rfl rfl (vI p_3) rfl wz ?_))
 obtain ⟨r_7, hr_8, hF⟩ := bind_some hF
 refine h_call0 (ref_DueOf_ok hr_8) rfl hb16 rfl rfl rfl rfl wz (h_ldr 6 0 (.inr (by kernel_rfl)) (fun _ _ ag => ⟨.inl ⟨rfl, rfl⟩, ⟨.inl ⟨rfl, rfl⟩, trivial⟩⟩) sz26 ag26 rfl rfl (vL Campaign.enc p_2) rfl wz (h_op (vI i_1) wz rfl ?_))
 obtain ⟨y_9, hy_10, hF⟩ := bind_some hF
 refine h_ia es26 rfl rfl hy_10 rfl wz (h_ldc sz49 ag49 rfl (.d (.agg (Campaign.enc y_9))) rfl wz (h_ldr 10 2 (.inr (by kernel_rfl)) (fun _ _ ag => ⟨.inl ⟨rfl, rfl⟩, ⟨.inl ⟨rfl, rfl⟩, ⟨.inl ⟨rfl, rfl⟩, trivial⟩⟩⟩) sz28 ag28 rfl rfl (vL Play.enc p_4) rfl wz (h_ldr 11 1 (.inr (by kernel_rfl)) (fun _ _ ag => ⟨.inl ⟨rfl, rfl⟩, ⟨.inl ⟨rfl, rfl⟩, ⟨.inl ⟨rfl, rfl⟩, ⟨.inl ⟨rfl, rfl⟩, trivial⟩⟩⟩⟩) sz3 ag3 rfl rfl (vI p_3) rfl wz ?_)))
 obtain ⟨r_11, hr_12, hF⟩ := bind_some hF
 refine h_call0 (ref_doneOf_ok hr_12) rfl hb40 rfl rfl rfl rfl wz (h_op (vI (w64 (r_7 - r_11))) wz rfl (h_op (vI (w64 (r_7 - r_11))) wz rfl (h_nil ?_)))
 obtain rfl := some_inj hF
 exact wH_ret (finB (.inr rfl) [(vI (w64 (r_7 - r_11)))] _ [0, 1, 2] [extN 0, extN 1, extN 2] ⟨rfl, trivial⟩ (.cons (co_data rfl rfl) (.nil)) (by kernel_rfl) ⟨(by kernel_rfl), ⟨(by kernel_rfl), ⟨(by kernel_rfl), trivial⟩⟩⟩ (by decide) (by kernel_rfl))
theorem ref_ChooseOf_ok {l_1 : (List Campaign)} {plays_2 : (List Play)} {atv_3 : Int} {r : ByteArray × Bool} (hF : ref_ChooseOf l_1 plays_2 atv_3 = some r) :
  FnM Tryd.prog 18 [(vL Campaign.enc l_1), (vL Play.enc plays_2), (vI atv_3)] [] (.tup [(vS r.1), (vB r.2)]) [] := by
 refine FnM.of_wH ⟨Tryd.prog, 68, [], []⟩ rfl Tryd.func18 rfl rfl (Nat.le_of_ble_eq_true rfl) (by kernel_rfl) ?_
 unfold ref_ChooseOf at hF
 refine wH_seq (wH_region (h_box 0 (.inl rfl) [(vL Campaign.enc l_1)] rfl rfl wz (fun n_4 => h_box 0 (.inl rfl) [(vL Play.enc plays_2)] rfl rfl wz (fun n_5 => h_box 0 (.inl rfl) [(vI atv_3)] rfl rfl wz (fun n_6 => h_op (vS (⟨#[]⟩ : ByteArray)) wz rfl (h_op (vB false) wz rfl (h_nil (wH_seq (wH_region (h_op (vI (-1)) wz rfl (h_nil (wH_seq (wH_region (h_op (.fn 39 [(.ref n_4 0 0), (.ref n_6 0 0), (.ref n_5 0 0)]) wz rfl (h_op (.fn 39 [(.ref n_4 0 0), (.ref n_6 0 0), (.ref n_5 0 0)]) wz rfl (h_nil (wH_seq (wH_seq (wH_region (h_ldr 0 0 (.inl rfl) (fun _ _ _ => trivial) sz26 ag26 rfl rfl (vL Campaign.enc l_1) rfl wz (h_len un26 rfl wz (h_op (vI 0) wz rfl (h_nil ?_)))))))))))))))))))))))
 obtain ⟨o_15, hj_16, hF⟩ := bind_some hF
 obtain ⟨hn_11, hj_16⟩ := forL_some hj_16
 refine wH_join (β := (Int)) (fun (s_12 : Int) => ([(3, (.ref n_4 0 0)), (8, (vI s_12))] : List (Nat × V))) (fun (s_12 : Int) => ([(n_4, some (.cells 1 [(vL Campaign.enc l_1)])), (n_5, some (.cells 1 [(vL Play.enc plays_2)])), (n_6, some (.cells 1 [(vI atv_3)]))] : Hp)) (fun p => o_15 = .go p) ?_ ?_
 ·refine wH_block (wH_loop (β := Nat × (List Campaign) × (Int)) (fun p => (fun (k_7 : Nat) (l_8 : List Campaign) (s_12 : Int) => ([(3, (.ref n_4 0 0)), (4, (.ref n_5 0 0)), (5, (.ref n_6 0 0)), (8, (vI s_12)), (9, (.fn 39 [(.ref n_4 0 0), (.ref n_6 0 0), (.ref n_5 0 0)])), (13, (vL Campaign.enc l_1)), (14, (vI (l_1.length : Int))), (15, (vI (k_7 : Int)))] : List (Nat × V))) p.1 p.2.1 p.2.2) (fun p => (fun (k_7 : Nat) (l_8 : List Campaign) (s_12 : Int) => ([(n_4, some (.cells 1 [(vL Campaign.enc l_1)])), (n_5, some (.cells 1 [(vL Play.enc plays_2)])), (n_6, some (.cells 1 [(vI atv_3)]))] : Hp)) p.1 p.2.1 p.2.2) (fun p => forR (fun k x s => ref_ChooseOf_L1 atv_3 plays_2 l_1 k x s) p.2.1 p.1 p.2.2 = some o_15 ∧ (l_1).drop p.1 = p.2.1) (fun p => p.2.1.length) (0, l_1, (-1)) ⟨hj_16, rfl⟩ rfl (pre_r rfl) ?_)
  rintro ⟨k_7, l_8, s_12⟩ ⟨hL_14, hD_10⟩
  dsimp only at hL_14 hD_10
  cases l_8 with
  | nil =>
   obtain rfl := some_inj hL_14
   refine wH_seq (wH_region (h_op (vB (decide ((k_7 : Int) < (l_1.length : Int)))) wz rfl (h_nil ?_)))
   refine wH_seq (wH_iff rfl (drop_nil hD_10) (wH_exit ?_))
   exact cut_mk (s_12) rfl rfl (pre_r rfl)
  | cons x_9 l_8 =>
   obtain ⟨c_, hc_13, hL_14⟩ := bind_some hL_14
   refine wH_seq (wH_region (h_op (vB (decide ((k_7 : Int) < (l_1.length : Int)))) wz rfl (h_nil ?_)))
   refine wH_seq (wH_ift rfl (drop_cons hD_10) (wH_skip ?_))
   unfold ref_ChooseOf_L1 at hc_13
   refine wH_seq (wH_block (wH_seq (wH_region (h_op (vI (k_7 : Int)) wz rfl (h_ia es26 rfl rfl (drop_idx hD_10) rfl wz (h_ldc sz49 ag49 rfl (.d (.agg (Campaign.enc x_9))) rfl wz (h_alloc 0 (.inl rfl) z49 rfl wz (fun n_17 => h_op (vI (k_7 : Int)) wz rfl (h_str 0 (.inl rfl) (fun _ _ _ => trivial) 3 sz49 rfl rfl [(vS x_9.Key), (vS x_9.Class), (vI x_9.Time.From), (vI x_9.Time.To), (vL eS x_9.Tags), (vI x_9.Goal), (vI x_9.Most), (vI x_9.Cents)] rfl wz (h_nil (wH_seq (wH_seq ?_))))))))))))
   obtain ⟨v_18, h_19, hc_13⟩ := bind_some hc_13
   refine wH_join (β := Unit) (fun _ => ([(3, (.ref n_4 0 0)), (4, (.ref n_5 0 0)), (5, (.ref n_6 0 0)), (8, (vI s_12)), (9, (.fn 39 [(.ref n_4 0 0), (.ref n_6 0 0), (.ref n_5 0 0)])), (10, (vI (k_7 : Int))), (11, (.ref n_17 0 0)), (13, (vL Campaign.enc l_1)), (14, (vI (l_1.length : Int))), (15, (vI (k_7 : Int))), (38, (vB v_18))] : List (Nat × V))) (fun _ => ([(n_4, some (.cells 1 [(vL Campaign.enc l_1)])), (n_5, some (.cells 1 [(vL Play.enc plays_2)])), (n_6, some (.cells 1 [(vI atv_3)])), (n_17, some (.cells 8 [(vS x_9.Key), (vS x_9.Class), (vI x_9.Time.From), (vI x_9.Time.To), (vL eS x_9.Tags), (vI x_9.Goal), (vI x_9.Most), (vI x_9.Cents)]))] : Hp)) (fun _ => True) ?_ ?_
   ·refine wH_draws (h_ldr 0 2 (.inr (by kernel_rfl)) (fun _ _ ag => trivial) sz3 ag3 rfl rfl (vI atv_3) rfl wz (h_far pl49_2 rfl 2 rfl wz (h_far pl46_0 rfl 2 rfl wz (h_ldr 3 3 (.inr (by kernel_rfl)) (fun _ _ ag => ⟨.inl ⟨rfl, rfl⟩, trivial⟩) sz3 ag3 rfl rfl (vI x_9.Time.From) rfl wz (h_far pl49_2 rfl 2 rfl wz (h_far pl46_1 rfl 3 rfl wz (h_ldr 6 3 (.inr (by kernel_rfl)) (fun _ _ ag => ⟨.inl ⟨rfl, rfl⟩, ⟨.inl ⟨rfl, rfl⟩, trivial⟩⟩) sz3 ag3 rfl rfl (vI x_9.Time.To) rfl wz (h_op (vI (w64 (x_9.Time.To - 1))) wz rfl ?_))))))))
    obtain ⟨r_20, hr_21, h_19⟩ := bind_some h_19
    refine h_call0 (ref_in_ok hr_21) rfl hb32 rfl rfl rfl rfl wz (h_op (vB (!r_20)) wz rfl ?_)
    rcases cond_some h_19 with ⟨hc_22, h_19⟩ | ⟨hc_22, h_19⟩
    ·refine h_movb rfl hc_22 wz (h_skip (wg rfl rfl rfl) (h_skip (wg rfl rfl rfl) (h_skip (wg rfl rfl rfl) (h_skip (wg rfl rfl rfl) (h_skip (wg rfl rfl rfl) (h_skip (wg rfl rfl rfl) (h_skip (wg rfl rfl rfl) (h_op (vB true) wz rfl (h_nil ?_)))))))))
     obtain rfl := some_inj h_19
     exact cut_mk () trivial rfl (pre_r rfl)
    ·refine h_movb rfl hc_22 wz (h_ldr 11 3 (.inr (by kernel_rfl)) (fun _ _ ag => ⟨.inl ⟨rfl, rfl⟩, ⟨.inl ⟨rfl, rfl⟩, ⟨.inl ⟨rfl, rfl⟩, trivial⟩⟩⟩) sz49 ag49 rfl rfl (.d (.agg (Campaign.enc x_9))) rfl (wg rfl rfl rfl) (h_ldr 12 1 (.inr (by kernel_rfl)) (fun _ _ ag => ⟨.inl ⟨rfl, rfl⟩, ⟨.inl ⟨rfl, rfl⟩, ⟨.inl ⟨rfl, rfl⟩, ⟨.inl ⟨rfl, rfl⟩, trivial⟩⟩⟩⟩) sz28 ag28 rfl rfl (vL Play.enc plays_2) rfl (wg rfl rfl rfl) (h_ldr 13 2 (.inr (by kernel_rfl)) (fun _ _ ag => ⟨.inl ⟨rfl, rfl⟩, ⟨.inl ⟨rfl, rfl⟩, ⟨.inl ⟨rfl, rfl⟩, ⟨.inl ⟨rfl, rfl⟩, ⟨.inl ⟨rfl, rfl⟩, trivial⟩⟩⟩⟩⟩) sz3 ag3 rfl rfl (vI atv_3) rfl (wg rfl rfl rfl) ?_)))
     obtain ⟨r_23, hr_24, h_19⟩ := bind_some h_19
     refine h_call0 (ref_doneOf_ok hr_24) rfl hb40 rfl rfl rfl rfl (wg rfl rfl rfl) (h_far pl49_4 rfl 5 rfl (wg rfl rfl rfl) (h_ldr 16 3 (.inr (by kernel_rfl)) (fun _ _ ag => ⟨.inl ⟨rfl, rfl⟩, ⟨.inl ⟨rfl, rfl⟩, ⟨.inl ⟨rfl, rfl⟩, ⟨.inl ⟨rfl, rfl⟩, ⟨.inl ⟨rfl, rfl⟩, ⟨.inl ⟨rfl, rfl⟩, trivial⟩⟩⟩⟩⟩⟩) sz3 ag3 rfl rfl (vI x_9.Goal) rfl (wg rfl rfl rfl) (h_op (vB (decide (r_23 ≥ x_9.Goal))) (wg rfl rfl rfl) rfl (h_op (vB (decide (r_23 ≥ x_9.Goal))) wz rfl (h_nil ?_)))))
     obtain rfl := some_inj h_19
     exact cut_mk () trivial rfl (pre_r rfl)
   ·rintro ⟨⟩ _ sl_ H_ hp_ hq_
    refine wH_at _ hp_ hq_ ?_
    rcases cond_some hc_13 with ⟨hc_25, hc_13⟩ | ⟨hc_25, hc_13⟩
    ·refine wH_ift rfl hc_25 (wH_exit (wH_region (h_opw (w64_next hD_10 hn_11) wz rfl (h_op (vI ((k_7 + 1 : Nat) : Int)) wz rfl (h_nil ?_)))))
     obtain rfl := some_inj hc_13
     exact loop_mk (k_7 + 1, l_8, s_12) ⟨hL_14, drop_next hD_10⟩ (Nat.lt_succ_self _) rfl (pre_r rfl)
    ·refine wH_iff rfl hc_25 (wH_skip (wH_seq ?_))
     obtain ⟨v_26, h_27, hc_13⟩ := bind_some hc_13
     refine wH_join (β := Unit) (fun _ => ([(3, (.ref n_4 0 0)), (4, (.ref n_5 0 0)), (5, (.ref n_6 0 0)), (8, (vI s_12)), (9, (.fn 39 [(.ref n_4 0 0), (.ref n_6 0 0), (.ref n_5 0 0)])), (10, (vI (k_7 : Int))), (13, (vL Campaign.enc l_1)), (14, (vI (l_1.length : Int))), (15, (vI (k_7 : Int))), (58, (vB v_26))] : List (Nat × V))) (fun _ => ([(n_4, some (.cells 1 [(vL Campaign.enc l_1)])), (n_5, some (.cells 1 [(vL Play.enc plays_2)])), (n_6, some (.cells 1 [(vI atv_3)])), (n_17, some (.cells 8 [(vS x_9.Key), (vS x_9.Class), (vI x_9.Time.From), (vI x_9.Time.To), (vL eS x_9.Tags), (vI x_9.Goal), (vI x_9.Most), (vI x_9.Cents)]))] : Hp)) (fun _ => True) ?_ ?_
     ·refine wH_draws (h_op (vI s_12) wz rfl (h_op (vB (decide (s_12 < 0))) wz rfl ?_))
      rcases cond_some h_27 with ⟨hc_28, h_27⟩ | ⟨hc_28, h_27⟩
      ·refine h_movb rfl hc_28 wz (h_skip (wg rfl rfl rfl) (h_skip (wg rfl rfl rfl) (h_skip (wg rfl rfl rfl) (h_skip (wg rfl rfl rfl) (h_skip (wg rfl rfl rfl) (h_skip (wg rfl rfl rfl) (h_skip (wg rfl rfl rfl) (h_skip (wg rfl rfl rfl) (h_skip (wg rfl rfl rfl) (h_skip (wg rfl rfl rfl) (h_skip (wg rfl rfl rfl) (h_skip (wg rfl rfl rfl) (h_skip (wg rfl rfl rfl) (h_skip (wg rfl rfl rfl) (h_skip (wg rfl rfl rfl) (h_skip (wg rfl rfl rfl) (h_op (vB true) wz rfl (h_nil ?_))))))))))))))))))
       obtain rfl := some_inj h_27
       exact cut_mk () trivial rfl (pre_r rfl)
      ·refine h_movb rfl hc_28 wz (h_op (.fn 39 [(.ref n_4 0 0), (.ref n_6 0 0), (.ref n_5 0 0)]) (wg rfl rfl rfl) rfl (h_op (vI (k_7 : Int)) (wg rfl rfl rfl) rfl ?_))
       obtain ⟨r_29, hr_30, h_27⟩ := bind_some h_27
       refine h_callr 5 [0, 2, 1] (.inr (by kernel_rfl)) (fun _ _ ag => by exact trivial) (ref_ChooseOf_1_ok hr_30) rfl hb39 rfl (by kernel_rfl) (by kernel_rfl) (by kernel_rfl) (by kernel_rfl) (by kernel_rfl) (by kernel_rfl) (by decide) (wg rfl rfl rfl) (vI r_29) (by kernel_rfl) (h_ldr 6 0 (.inr (by kernel_rfl)) (fun _ _ ag => ⟨.inl ⟨rfl, rfl⟩, trivial⟩) sz26 ag26 rfl rfl (vL Campaign.enc l_1) rfl (wg rfl rfl rfl) (h_op (vI s_12) (wg rfl rfl rfl) rfl ?_))
       obtain ⟨y_32, hy_33, h_27⟩ := bind_some h_27
       refine h_ia es26 rfl rfl hy_33 rfl (wg rfl rfl rfl) (h_fac pl49_4 rfl [.int .i64 y_32.Goal, .int .i64 y_32.Most, .int .i64 y_32.Cents] rfl rfl (wg rfl rfl rfl) (h_ldc sz3 ag3 rfl (vI y_32.Goal) rfl (wg rfl rfl rfl) (h_op (vI (w64 (r_29 * y_32.Goal))) (wg rfl rfl rfl) rfl (h_op (.fn 39 [(.ref n_4 0 0), (.ref n_6 0 0), (.ref n_5 0 0)]) (wg rfl rfl rfl) rfl (h_op (vI s_12) (wg rfl rfl rfl) rfl ?_)))))
       obtain ⟨r_34, hr_35, h_27⟩ := bind_some h_27
       refine h_callr 14 [0, 2, 1] (.inr (by kernel_rfl)) (fun _ _ ag => by exact ⟨.inl ⟨rfl, rfl⟩, ⟨.inl ⟨rfl, rfl⟩, trivial⟩⟩) (ref_ChooseOf_1_ok hr_35) rfl hb39 rfl (by kernel_rfl) (by kernel_rfl) (by kernel_rfl) (by kernel_rfl) (by kernel_rfl) (by kernel_rfl) (by decide) (wg rfl rfl rfl) (vI r_34) (by kernel_rfl) (h_far pl49_4 rfl 5 rfl (wg rfl rfl rfl) (h_ldr 16 3 (.inr (by kernel_rfl)) (fun _ _ ag => ⟨.inl ⟨rfl, rfl⟩, ⟨.inl ⟨rfl, rfl⟩, ⟨.inl ⟨rfl, rfl⟩, trivial⟩⟩⟩) sz3 ag3 rfl rfl (vI x_9.Goal) rfl (wg rfl rfl rfl) (h_op (vI (w64 (r_34 * x_9.Goal))) (wg rfl rfl rfl) rfl (h_op (vB (decide ((w64 (r_29 * y_32.Goal)) > (w64 (r_34 * x_9.Goal))))) (wg rfl rfl rfl) rfl (h_op (vB (decide ((w64 (r_29 * y_32.Goal)) > (w64 (r_34 * x_9.Goal))))) wz rfl (h_nil ?_))))))
       obtain rfl := some_inj h_27
       exact cut_mk () trivial rfl (pre_r rfl)
     ·rintro ⟨⟩ _ sl_ H_ hp_ hq_
      refine wH_at _ hp_ hq_ ?_
      obtain ⟨v_37, h_38, hc_13⟩ := bind_some hc_13
      refine wH_join (β := Unit) (fun _ => ([(3, (.ref n_4 0 0)), (4, (.ref n_5 0 0)), (5, (.ref n_6 0 0)), (8, (vI v_37)), (9, (.fn 39 [(.ref n_4 0 0), (.ref n_6 0 0), (.ref n_5 0 0)])), (13, (vL Campaign.enc l_1)), (14, (vI (l_1.length : Int))), (15, (vI (k_7 : Int)))] : List (Nat × V))) (fun _ => ([(n_4, some (.cells 1 [(vL Campaign.enc l_1)])), (n_5, some (.cells 1 [(vL Play.enc plays_2)])), (n_6, some (.cells 1 [(vI atv_3)])), (n_17, some (.cells 8 [(vS x_9.Key), (vS x_9.Class), (vI x_9.Time.From), (vI x_9.Time.To), (vL eS x_9.Tags), (vI x_9.Goal), (vI x_9.Most), (vI x_9.Cents)]))] : Hp)) (fun _ => True) ?_ ?_
      ·rcases cond_some h_38 with ⟨hc_39, h_38⟩ | ⟨hc_39, h_38⟩
       ·refine wH_ift rfl hc_39 (wH_region (h_op (vI (k_7 : Int)) wz rfl (h_op (vI (k_7 : Int)) wz rfl (h_nil ?_))))
        obtain rfl := some_inj h_38
        exact cut_mk () trivial rfl (pre_r rfl)
       ·refine wH_iff rfl hc_39 (wH_skip ?_)
        obtain rfl := some_inj h_38
        exact cut_mk () trivial rfl (pre_r rfl)
      ·rintro ⟨⟩ _ sl_ H_ hp_ hq_
       refine wH_at _ hp_ hq_ (wH_region (h_opw (w64_next hD_10 hn_11) wz rfl (h_op (vI ((k_7 + 1 : Nat) : Int)) wz rfl (h_nil ?_))))
       obtain rfl := some_inj hc_13
       exact loop_mk (k_7 + 1, l_8, v_37) ⟨hL_14, drop_next hD_10⟩ (Nat.lt_succ_self _) rfl (pre_r rfl)
 ·rintro s_12 ho_ sl_ H_ hp_ hq_
  subst ho_
  refine wH_at _ hp_ hq_ (wH_seq (wH_seq (wH_region (h_op (vI s_12) wz rfl (h_op (vB (decide (s_12 < 0))) wz rfl (h_nil ?_))))))
  rcases cond_some hF with ⟨hc_40, hF⟩ | ⟨hc_40, hF⟩
  ·refine wH_ift rfl hc_40 (wH_seq (wH_region (h_op (vS (⟨#[]⟩ : ByteArray)) wz rfl (h_op (vB false) wz rfl (h_nil ?_)))))
   obtain rfl := some_inj hF
   exact wH_ret (fin0 (.inr rfl) [(vS (⟨#[]⟩ : ByteArray)), (vB false)] ⟨rfl, ⟨rfl, trivial⟩⟩ rfl rfl rfl)
  ·refine wH_iff rfl hc_40 (wH_skip (wH_seq (wH_region (h_ldr 0 0 (.inl rfl) (fun _ _ _ => trivial) sz26 ag26 rfl rfl (vL Campaign.enc l_1) rfl wz (h_op (vI s_12) wz rfl ?_)))))
   obtain ⟨y_41, hy_42, hF⟩ := bind_some hF
   refine h_ia es26 rfl rfl hy_42 rfl wz (h_fac pl49_0 rfl [.str y_41.Key, .str y_41.Class, .int .i64 y_41.Time.From, .int .i64 y_41.Time.To, dl eS y_41.Tags, .int .i64 y_41.Goal, .int .i64 y_41.Most, .int .i64 y_41.Cents] rfl rfl wz (h_ldc sz9 ag9 rfl (vS y_41.Key) rfl wz (h_op (vS y_41.Key) wz rfl (h_op (vB true) wz rfl (h_nil ?_)))))
   obtain rfl := some_inj hF
   exact wH_ret (fin0 (.inr rfl) [(vS y_41.Key), (vB true)] ⟨rfl, ⟨rfl, trivial⟩⟩ rfl rfl rfl)
theorem ref_PacesOf_ok {l_1 : (List Campaign)} {plays_2 : (List Play)} {atv_3 : Int} {r : (List Pace)} (hF : ref_PacesOf l_1 plays_2 atv_3 = some r) :
  FnM Tryd.prog 20 [(vL Campaign.enc l_1), (vL Play.enc plays_2), (vI atv_3)] [] (vL Pace.enc r) [] := by
 refine FnM.of_wH ⟨Tryd.prog, 31, [], []⟩ rfl Tryd.func20 rfl rfl (Nat.le_of_ble_eq_true rfl) (by kernel_rfl) ?_
 unfold ref_PacesOf at hF
 refine wH_seq (wH_region (h_op .nil wz rfl (h_nil (wH_seq (wH_region (h_op .nil wz rfl (h_nil (wH_seq (wH_seq (wH_region (h_op (vL Campaign.enc l_1) wz rfl (h_len un26 rfl wz (h_op (vI 0) wz rfl (h_nil (wH_new (fun n_10 => ?_))))))))))))))))
 obtain ⟨o_15, hj_16, hF⟩ := bind_some hF
 obtain ⟨hn_8, hj_16⟩ := forL_some hj_16
 refine wH_join (β := ((List Pace)) × Nm) (fun p => (fun (s_9 : (List Pace)) (n_12 : Nm) => ([(7, (gV n_12 3 s_9))] : List (Nat × V))) p.1 p.2) (fun p => (fun (s_9 : (List Pace)) (n_12 : Nm) => ([(n_12, gB 3 Pace.enc s_9)] : Hp)) p.1 p.2) (fun p => o_15 = .go p.1) ?_ ?_
 ·refine wH_block (wH_loop (β := Nat × (List Campaign) × ((List Pace)) × Nm) (fun p => (fun (k_4 : Nat) (l_5 : List Campaign) (s_9 : (List Pace)) (n_12 : Nm) => ([(1, (vL Play.enc plays_2)), (2, (vI atv_3)), (7, (gV n_12 3 s_9)), (10, (vL Campaign.enc l_1)), (11, (vI (l_1.length : Int))), (12, (vI (k_4 : Int)))] : List (Nat × V))) p.1 p.2.1 p.2.2.1 p.2.2.2) (fun p => (fun (k_4 : Nat) (l_5 : List Campaign) (s_9 : (List Pace)) (n_12 : Nm) => ([(n_12, gB 3 Pace.enc s_9)] : Hp)) p.1 p.2.1 p.2.2.1 p.2.2.2) (fun p => forR (fun k x s => ref_PacesOf_L1 atv_3 plays_2 k x s) p.2.1 p.1 p.2.2.1 = some o_15 ∧ (l_1).drop p.1 = p.2.1) (fun p => p.2.1.length) (0, l_1, ([] : List Pace), n_10) ⟨hj_16, rfl⟩ rfl (pre_r rfl) ?_)
  rintro ⟨k_4, l_5, s_9, n_12⟩ ⟨hL_14, hD_7⟩
  dsimp only at hL_14 hD_7
  cases l_5 with
  | nil =>
   obtain rfl := some_inj hL_14
   refine wH_seq (wH_region (h_op (vB (decide ((k_4 : Int) < (l_1.length : Int)))) wz rfl (h_nil ?_)))
   refine wH_seq (wH_iff rfl (drop_nil hD_7) (wH_exit ?_))
   exact cut_mk (s_9, n_12) rfl rfl (pre_r rfl)
  | cons x_6 l_5 =>
   obtain ⟨c_, hc_13, hL_14⟩ := bind_some hL_14
   refine wH_seq (wH_region (h_op (vB (decide ((k_4 : Int) < (l_1.length : Int)))) wz rfl (h_nil ?_)))
   refine wH_seq (wH_ift rfl (drop_cons hD_7) (wH_skip ?_))
   unfold ref_PacesOf_L1 at hc_13
   refine wH_seq (wH_block (wH_seq (wH_region (h_ia es26 rfl rfl (drop_idx hD_7) rfl wz (h_ldc sz49 ag49 rfl (.d (.agg (Campaign.enc x_6))) rfl wz (h_alloc 0 (.inl rfl) z49 rfl wz (fun n_17 => h_str 0 (.inl rfl) (fun _ _ _ => trivial) 1 sz49 rfl rfl [(vS x_6.Key), (vS x_6.Class), (vI x_6.Time.From), (vI x_6.Time.To), (vL eS x_6.Tags), (vI x_6.Goal), (vI x_6.Most), (vI x_6.Cents)] rfl wz (h_nil (wH_draws (h_op (gV n_12 3 s_9) wz rfl (h_far pl49_0 rfl 0 rfl wz (h_ldr 2 1 (.inr (by kernel_rfl)) (fun _ _ ag => trivial) sz9 ag9 rfl rfl (vS x_6.Key) rfl wz (h_ldr 3 1 (.inr (by kernel_rfl)) (fun _ _ ag => ⟨.inl ⟨rfl, rfl⟩, trivial⟩) sz49 ag49 rfl rfl (.d (.agg (Campaign.enc x_6))) rfl wz (h_op (vI atv_3) wz rfl ?_))))))))))))))
   obtain ⟨r_18, hr_19, hc_13⟩ := bind_some hc_13
   refine h_call0 (ref_DueOf_ok hr_19) rfl hb16 rfl rfl rfl rfl wz (h_ldr 6 1 (.inr (by kernel_rfl)) (fun _ _ ag => ⟨.inl ⟨rfl, rfl⟩, ⟨.inl ⟨rfl, rfl⟩, trivial⟩⟩) sz49 ag49 rfl rfl (.d (.agg (Campaign.enc x_6))) rfl wz (h_op (vL Play.enc plays_2) wz rfl (h_op (vI atv_3) wz rfl ?_)))
   obtain ⟨r_20, hr_21, hc_13⟩ := bind_some hc_13
   refine h_call0 (ref_doneOf_ok hr_21) rfl hb40 rfl rfl rfl rfl wz (h_op (.d (.agg (Pace.enc (⟨x_6.Key, r_18, r_20⟩ : Pace)))) wz (by kernel_rfl) (h_lit (([(⟨x_6.Key, r_18, r_20⟩ : Pace)] : List Pace).map Pace.enc) es32 ez32 rfl rfl rfl rfl rfl wz ?_))
   obtain ⟨a_22, hz_23, hc_13⟩ := bind_some hc_13
   refine h_appg 12 (.inr (by kernel_rfl)) (fun _ _ ag => ⟨.inr (.inr (by kernel_rfl)), ⟨.inr (.inr (by kernel_rfl)), ⟨.inr (.inr (by kernel_rfl)), trivial⟩⟩⟩) (i := 0) el32 el32 sz58 z58 rfl (by decide) by58 (by decide) (fun _ => rfl) rfl rfl rfl hz_23 wz (fun n_24 => h_op (gV n_24 3 a_22) wz rfl (h_nil (wH_region (h_opw (w64_next hD_7 hn_8) wz rfl (h_op (vI ((k_4 + 1 : Nat) : Int)) wz rfl (h_nil ?_))))))
   obtain rfl := some_inj hc_13
   exact loop_mk (k_4 + 1, l_5, a_22, n_24) ⟨hL_14, drop_next hD_7⟩ (Nat.lt_succ_self _) rfl (pre_r rfl)
 ·rintro ⟨s_9, n_12⟩ ho_ sl_ H_ hp_ hq_
  subst ho_
  refine wH_at _ hp_ hq_ (wH_seq (wH_region (h_op (gV n_12 3 s_9) wz rfl (h_op (gV n_12 3 s_9) wz rfl (h_nil (wH_frozg 0 rfl (wH_cog 6 0 rfl rfl (wH_cog 7 0 rfl rfl (wH_cog 30 0 rfl rfl ?_)))))))))
  obtain rfl := some_inj hF
  exact wH_ret (fin0 (.inr rfl) [(vL Pace.enc s_9)] ⟨rfl, trivial⟩ rfl rfl rfl)
theorem slices_Equal_api_Pace_api_Pace_ok {s1_1 : (List Pace)} {s2_2 : (List Pace)} {r : Bool} (hF : slices_Equal_api_Pace_api_Pace s1_1 s2_2 = some r) :
  FnM Tryd.prog 19 [(vL Pace.enc s1_1), (vL Pace.enc s2_2)] [] (vB r) [] := by
 refine FnM.of_wH ⟨Tryd.prog, 26, [], []⟩ rfl Tryd.func19 rfl rfl (Nat.le_of_ble_eq_true rfl) (by kernel_rfl) ?_
 unfold slices_Equal_api_Pace_api_Pace at hF
 refine wH_seq (wH_region (h_op (vB false) wz rfl (h_nil (wH_seq (wH_seq (wH_region (h_op (vL Pace.enc s1_1) wz rfl (h_len un32 rfl wz (h_op (vL Pace.enc s2_2) wz rfl (h_len un32 rfl wz (h_op (vB ((s1_1.length : Int) != (s2_2.length : Int))) wz rfl (h_nil ?_))))))))))))
 rcases cond_some hF with ⟨hc_3, hF⟩ | ⟨hc_3, hF⟩
 ·refine wH_ift rfl hc_3 (wH_seq (wH_region (h_op (vB false) wz rfl (h_nil ?_))))
  obtain rfl := some_inj hF
  exact wH_ret (fin0 (.inr rfl) [(vB false)] ⟨rfl, trivial⟩ rfl rfl rfl)
 ·refine wH_iff rfl hc_3 (wH_skip (wH_seq (wH_seq (wH_region (h_op (vL Pace.enc s1_1) wz rfl (h_len un32 rfl wz (h_op (vI 0) wz rfl (h_nil ?_))))))))
  obtain ⟨o_12, hj_13, hF⟩ := bind_some hF
  obtain ⟨hn_8, hj_13⟩ := forL_some hj_13
  refine wH_join (β := (Unit)) (fun (s_9 : Unit) => ([] : List (Nat × V))) (fun (s_9 : Unit) => ([] : Hp)) (fun p => o_12 = .go p) ?_ ?_
  ·refine wH_block (wH_loop (β := Nat × (List Pace) × (Unit)) (fun p => (fun (k_4 : Nat) (l_5 : List Pace) (s_9 : Unit) => ([(0, (vL Pace.enc s1_1)), (1, (vL Pace.enc s2_2)), (12, (vI (s1_1.length : Int))), (13, (vI (k_4 : Int)))] : List (Nat × V))) p.1 p.2.1 p.2.2) (fun p => (fun (k_4 : Nat) (l_5 : List Pace) (s_9 : Unit) => ([] : Hp)) p.1 p.2.1 p.2.2) (fun p => forR (fun k x s => slices_Equal_api_Pace_api_Pace_L1 s2_2 k x s) p.2.1 p.1 p.2.2 = some o_12 ∧ (s1_1).drop p.1 = p.2.1) (fun p => p.2.1.length) (0, s1_1, ()) ⟨hj_13, rfl⟩ rfl (pre_r rfl) ?_)
   rintro ⟨k_4, l_5, s_9⟩ ⟨hL_11, hD_7⟩
   dsimp only at hL_11 hD_7
   cases l_5 with
   | nil =>
    obtain rfl := some_inj hL_11
    refine wH_seq (wH_region (h_op (vB (decide ((k_4 : Int) < (s1_1.length : Int)))) wz rfl (h_nil ?_)))
    refine wH_seq (wH_iff rfl (drop_nil hD_7) (wH_exit ?_))
    exact cut_mk (s_9) rfl rfl (pre_r rfl)
   | cons x_6 l_5 =>
    obtain ⟨c_, hc_10, hL_11⟩ := bind_some hL_11
    refine wH_seq (wH_region (h_op (vB (decide ((k_4 : Int) < (s1_1.length : Int)))) wz rfl (h_nil ?_)))
    refine wH_seq (wH_ift rfl (drop_cons hD_7) (wH_skip ?_))
    unfold slices_Equal_api_Pace_api_Pace_L1 at hc_10
    refine wH_seq (wH_block (wH_seq (wH_region (h_op (vI (k_4 : Int)) wz rfl (h_op (vI (k_4 : Int)) wz rfl (h_nil (wH_seq (wH_draws (h_op (vL Pace.enc s1_1) wz rfl (h_op (vI (k_4 : Int)) wz rfl (h_ia es32 rfl rfl (drop_idx hD_7) rfl wz (h_ldc sz58 ag58 rfl (.d (.agg (Pace.enc x_6))) rfl wz (h_op (vL Pace.enc s2_2) wz rfl (h_op (vI (k_4 : Int)) wz rfl ?_))))))))))))))
    obtain ⟨y_14, hy_15, hc_10⟩ := bind_some hc_10
    refine h_ia es32 rfl rfl hy_15 rfl wz (h_ldc sz58 ag58 rfl (.d (.agg (Pace.enc y_14))) rfl wz (h_op (vB (!((x_6.Campaign.toList == y_14.Campaign.toList) && ((x_6.Due == y_14.Due) && ((x_6.Done == y_14.Done) && true))))) wz (by kernel_rfl) (h_nil ?_)))
    rcases cond_some hc_10 with ⟨hc_16, hc_10⟩ | ⟨hc_16, hc_10⟩
    ·refine wH_ift rfl hc_16 (wH_seq (wH_region (h_op (vB false) wz rfl (h_nil ?_))))
     obtain rfl := some_inj hc_10
     obtain rfl := some_inj hL_11
     obtain rfl := some_inj hF
     exact wH_ret (fin0 (.inr rfl) [(vB false)] ⟨rfl, trivial⟩ rfl rfl rfl)
    ·refine wH_iff rfl hc_16 (wH_skip (wH_region (h_opw (w64_next hD_7 hn_8) wz rfl (h_op (vI ((k_4 + 1 : Nat) : Int)) wz rfl (h_nil ?_)))))
     obtain rfl := some_inj hc_10
     exact loop_mk (k_4 + 1, l_5, ()) ⟨hL_11, drop_next hD_7⟩ (Nat.lt_succ_self _) rfl (pre_r rfl)
  ·rintro s_9 ho_ sl_ H_ hp_ hq_
   subst ho_
   refine wH_at _ hp_ hq_ (wH_seq (wH_region (h_op (vB true) wz rfl (h_nil ?_))))
   obtain rfl := some_inj hF
   exact wH_ret (fin0 (.inr rfl) [(vB true)] ⟨rfl, trivial⟩ rfl rfl rfl)
theorem ref_BillOf_ok {l_1 : (List Campaign)} {plays_2 : (List Play)} {atv_3 : Int} {r : (List Pair)} (hF : ref_BillOf l_1 plays_2 atv_3 = some r) :
  FnM Tryd.prog 22 [(vL Campaign.enc l_1), (vL Play.enc plays_2), (vI atv_3)] [] (vL Pair.enc r) [] := by
 refine FnM.of_wH ⟨Tryd.prog, 40, [], []⟩ rfl Tryd.func22 rfl rfl (Nat.le_of_ble_eq_true rfl) (by kernel_rfl) ?_
 unfold ref_BillOf at hF
 refine wH_seq (wH_region (h_op .nil wz rfl (h_nil (wH_seq (wH_region (h_op .nil wz rfl (h_nil (wH_seq (wH_seq (wH_region (h_op (vL Campaign.enc l_1) wz rfl (h_len un26 rfl wz (h_op (vI 0) wz rfl (h_nil (wH_new (fun n_10 => ?_))))))))))))))))
 obtain ⟨o_15, hj_16, hF⟩ := bind_some hF
 obtain ⟨hn_8, hj_16⟩ := forL_some hj_16
 refine wH_join (β := ((List Pair)) × Nm) (fun p => (fun (s_9 : (List Pair)) (n_12 : Nm) => ([(7, (gV n_12 2 s_9))] : List (Nat × V))) p.1 p.2) (fun p => (fun (s_9 : (List Pair)) (n_12 : Nm) => ([(n_12, gB 2 Pair.enc s_9)] : Hp)) p.1 p.2) (fun p => o_15 = .go p.1) ?_ ?_
 ·refine wH_block (wH_loop (β := Nat × (List Campaign) × ((List Pair)) × Nm) (fun p => (fun (k_4 : Nat) (l_5 : List Campaign) (s_9 : (List Pair)) (n_12 : Nm) => ([(1, (vL Play.enc plays_2)), (2, (vI atv_3)), (7, (gV n_12 2 s_9)), (11, (vL Campaign.enc l_1)), (12, (vI (l_1.length : Int))), (13, (vI (k_4 : Int)))] : List (Nat × V))) p.1 p.2.1 p.2.2.1 p.2.2.2) (fun p => (fun (k_4 : Nat) (l_5 : List Campaign) (s_9 : (List Pair)) (n_12 : Nm) => ([(n_12, gB 2 Pair.enc s_9)] : Hp)) p.1 p.2.1 p.2.2.1 p.2.2.2) (fun p => forR (fun k x s => ref_BillOf_L1 plays_2 atv_3 k x s) p.2.1 p.1 p.2.2.1 = some o_15 ∧ (l_1).drop p.1 = p.2.1) (fun p => p.2.1.length) (0, l_1, ([] : List Pair), n_10) ⟨hj_16, rfl⟩ rfl (pre_r rfl) ?_)
  rintro ⟨k_4, l_5, s_9, n_12⟩ ⟨hL_14, hD_7⟩
  dsimp only at hL_14 hD_7
  cases l_5 with
  | nil =>
   obtain rfl := some_inj hL_14
   refine wH_seq (wH_region (h_op (vB (decide ((k_4 : Int) < (l_1.length : Int)))) wz rfl (h_nil ?_)))
   refine wH_seq (wH_iff rfl (drop_nil hD_7) (wH_exit ?_))
   exact cut_mk (s_9, n_12) rfl rfl (pre_r rfl)
  | cons x_6 l_5 =>
   obtain ⟨c_, hc_13, hL_14⟩ := bind_some hL_14
   refine wH_seq (wH_region (h_op (vB (decide ((k_4 : Int) < (l_1.length : Int)))) wz rfl (h_nil ?_)))
   refine wH_seq (wH_ift rfl (drop_cons hD_7) (wH_skip ?_))
   unfold ref_BillOf_L1 at hc_13
   refine wH_seq (wH_block (wH_seq (wH_region (h_ia es26 rfl rfl (drop_idx hD_7) rfl wz (h_ldc sz49 ag49 rfl (.d (.agg (Campaign.enc x_6))) rfl wz (h_alloc 0 (.inl rfl) z49 rfl wz (fun n_17 => h_str 0 (.inl rfl) (fun _ _ _ => trivial) 1 sz49 rfl rfl [(vS x_6.Key), (vS x_6.Class), (vI x_6.Time.From), (vI x_6.Time.To), (vL eS x_6.Tags), (vI x_6.Goal), (vI x_6.Most), (vI x_6.Cents)] rfl wz (h_nil (wH_seq (wH_draws (h_far pl49_4 rfl 5 rfl wz (h_ldr 1 1 (.inr (by kernel_rfl)) (fun _ _ ag => trivial) sz3 ag3 rfl rfl (vI x_6.Goal) rfl wz (h_ldr 2 1 (.inr (by kernel_rfl)) (fun _ _ ag => ⟨.inl ⟨rfl, rfl⟩, trivial⟩) sz49 ag49 rfl rfl (.d (.agg (Campaign.enc x_6))) rfl wz (h_op (vL Play.enc plays_2) wz rfl (h_op (vI atv_3) wz rfl ?_)))))))))))))))
   obtain ⟨r_18, hr_19, hc_13⟩ := bind_some hc_13
   refine h_call0 (ref_doneOf_ok hr_19) rfl hb40 rfl rfl rfl rfl wz (h_minmax (vI (minI x_6.Goal r_18)) rfl (.inl rfl) wz (h_far pl49_6 rfl 7 rfl wz (h_ldr 8 1 (.inr (by kernel_rfl)) (fun _ _ ag => ⟨.inl ⟨rfl, rfl⟩, ⟨.inl ⟨rfl, rfl⟩, trivial⟩⟩) sz3 ag3 rfl rfl (vI x_6.Cents) rfl wz (h_op (vI (w64 ((minI x_6.Goal r_18) * x_6.Cents))) wz rfl (h_op (vI (w64 ((w64 ((minI x_6.Goal r_18) * x_6.Cents)).tdiv 1000))) wz rfl (h_op (vI (w64 ((w64 ((minI x_6.Goal r_18) * x_6.Cents)).tdiv 1000))) wz rfl (h_nil (wH_seq (wH_region (h_op (vI (w64 ((w64 ((minI x_6.Goal r_18) * x_6.Cents)).tdiv 1000))) wz rfl (h_op (vB (decide ((w64 ((w64 ((minI x_6.Goal r_18) * x_6.Cents)).tdiv 1000)) > 0))) wz rfl (h_nil ?_))))))))))))
   obtain ⟨v_20, h_21, hc_13⟩ := bind_some hc_13
   refine wH_join (β := Nm) (fun (n_22 : Nm) => ([(1, (vL Play.enc plays_2)), (2, (vI atv_3)), (7, (gV n_22 2 v_20)), (11, (vL Campaign.enc l_1)), (12, (vI (l_1.length : Int))), (13, (vI (k_4 : Int)))] : List (Nat × V))) (fun (n_22 : Nm) => ([(n_22, gB 2 Pair.enc v_20), (n_17, some (.cells 8 [(vS x_6.Key), (vS x_6.Class), (vI x_6.Time.From), (vI x_6.Time.To), (vL eS x_6.Tags), (vI x_6.Goal), (vI x_6.Most), (vI x_6.Cents)]))] : Hp)) (fun _ => True) ?_ ?_
   ·rcases cond_some h_21 with ⟨hc_23, h_21⟩ | ⟨hc_23, h_21⟩
    ·refine wH_ift rfl hc_23 (wH_draws (h_op (gV n_12 2 s_9) wz rfl (h_far pl49_0 rfl 0 rfl wz (h_ldr 2 1 (.inr (by kernel_rfl)) (fun _ _ ag => trivial) sz9 ag9 rfl rfl (vS x_6.Key) rfl wz (h_op (vI (w64 ((w64 ((minI x_6.Goal r_18) * x_6.Cents)).tdiv 1000))) wz rfl ?_)))))
     obtain ⟨r_24, hr_25, h_21⟩ := bind_some h_21
     refine h_call0 (strconv_Itoa_ok hr_25) rfl hb30 rfl rfl rfl rfl wz (h_op (.d (.agg (Pair.enc (⟨x_6.Key, r_24⟩ : Pair)))) wz (by kernel_rfl) (h_lit (([(⟨x_6.Key, r_24⟩ : Pair)] : List Pair).map Pair.enc) es38 ez38 rfl rfl rfl rfl rfl wz ?_))
     obtain ⟨a_26, hz_27, h_21⟩ := bind_some h_21
     refine h_appg 7 (.inr (by kernel_rfl)) (fun _ _ ag => ⟨.inr (.inr (by kernel_rfl)), trivial⟩) (i := 0) el38 el38 sz62 z62 rfl (by decide) by62 (by decide) (fun _ => rfl) rfl rfl rfl hz_27 wz (fun n_28 => h_op (gV n_28 2 a_26) wz rfl (h_nil ?_))
     obtain rfl := some_inj h_21
     exact cut_mk n_28 trivial rfl (pre_r rfl)
    ·refine wH_iff rfl hc_23 (wH_skip ?_)
     obtain rfl := some_inj h_21
     exact cut_mk n_12 trivial rfl (pre_r rfl)
   ·rintro n_22 _ sl_ H_ hp_ hq_
    refine wH_at _ hp_ hq_ (wH_region (h_opw (w64_next hD_7 hn_8) wz rfl (h_op (vI ((k_4 + 1 : Nat) : Int)) wz rfl (h_nil ?_))))
    obtain rfl := some_inj hc_13
    exact loop_mk (k_4 + 1, l_5, v_20, n_22) ⟨hL_14, drop_next hD_7⟩ (Nat.lt_succ_self _) rfl (pre_r rfl)
 ·rintro ⟨s_9, n_12⟩ ho_ sl_ H_ hp_ hq_
  subst ho_
  refine wH_at _ hp_ hq_ (wH_seq (wH_region (h_op (gV n_12 2 s_9) wz rfl (h_op (gV n_12 2 s_9) wz rfl (h_nil (wH_frozg 0 rfl (wH_cog 6 0 rfl rfl (wH_cog 7 0 rfl rfl (wH_cog 39 0 rfl rfl ?_)))))))))
  obtain rfl := some_inj hF
  exact wH_ret (fin0 (.inr rfl) [(vL Pair.enc s_9)] ⟨rfl, trivial⟩ rfl rfl rfl)
theorem slices_Equal_api_Pair_api_Pair_ok {s1_1 : (List Pair)} {s2_2 : (List Pair)} {r : Bool} (hF : slices_Equal_api_Pair_api_Pair s1_1 s2_2 = some r) :
  FnM Tryd.prog 21 [(vL Pair.enc s1_1), (vL Pair.enc s2_2)] [] (vB r) [] := by
 refine FnM.of_wH ⟨Tryd.prog, 26, [], []⟩ rfl Tryd.func21 rfl rfl (Nat.le_of_ble_eq_true rfl) (by kernel_rfl) ?_
 unfold slices_Equal_api_Pair_api_Pair at hF
 refine wH_seq (wH_region (h_op (vB false) wz rfl (h_nil (wH_seq (wH_seq (wH_region (h_op (vL Pair.enc s1_1) wz rfl (h_len un38 rfl wz (h_op (vL Pair.enc s2_2) wz rfl (h_len un38 rfl wz (h_op (vB ((s1_1.length : Int) != (s2_2.length : Int))) wz rfl (h_nil ?_))))))))))))
 rcases cond_some hF with ⟨hc_3, hF⟩ | ⟨hc_3, hF⟩
 ·refine wH_ift rfl hc_3 (wH_seq (wH_region (h_op (vB false) wz rfl (h_nil ?_))))
  obtain rfl := some_inj hF
  exact wH_ret (fin0 (.inr rfl) [(vB false)] ⟨rfl, trivial⟩ rfl rfl rfl)
 ·refine wH_iff rfl hc_3 (wH_skip (wH_seq (wH_seq (wH_region (h_op (vL Pair.enc s1_1) wz rfl (h_len un38 rfl wz (h_op (vI 0) wz rfl (h_nil ?_))))))))
  obtain ⟨o_12, hj_13, hF⟩ := bind_some hF
  obtain ⟨hn_8, hj_13⟩ := forL_some hj_13
  refine wH_join (β := (Unit)) (fun (s_9 : Unit) => ([] : List (Nat × V))) (fun (s_9 : Unit) => ([] : Hp)) (fun p => o_12 = .go p) ?_ ?_
  ·refine wH_block (wH_loop (β := Nat × (List Pair) × (Unit)) (fun p => (fun (k_4 : Nat) (l_5 : List Pair) (s_9 : Unit) => ([(0, (vL Pair.enc s1_1)), (1, (vL Pair.enc s2_2)), (12, (vI (s1_1.length : Int))), (13, (vI (k_4 : Int)))] : List (Nat × V))) p.1 p.2.1 p.2.2) (fun p => (fun (k_4 : Nat) (l_5 : List Pair) (s_9 : Unit) => ([] : Hp)) p.1 p.2.1 p.2.2) (fun p => forR (fun k x s => slices_Equal_api_Pair_api_Pair_L1 s2_2 k x s) p.2.1 p.1 p.2.2 = some o_12 ∧ (s1_1).drop p.1 = p.2.1) (fun p => p.2.1.length) (0, s1_1, ()) ⟨hj_13, rfl⟩ rfl (pre_r rfl) ?_)
   rintro ⟨k_4, l_5, s_9⟩ ⟨hL_11, hD_7⟩
   dsimp only at hL_11 hD_7
   cases l_5 with
   | nil =>
    obtain rfl := some_inj hL_11
    refine wH_seq (wH_region (h_op (vB (decide ((k_4 : Int) < (s1_1.length : Int)))) wz rfl (h_nil ?_)))
    refine wH_seq (wH_iff rfl (drop_nil hD_7) (wH_exit ?_))
    exact cut_mk (s_9) rfl rfl (pre_r rfl)
   | cons x_6 l_5 =>
    obtain ⟨c_, hc_10, hL_11⟩ := bind_some hL_11
    refine wH_seq (wH_region (h_op (vB (decide ((k_4 : Int) < (s1_1.length : Int)))) wz rfl (h_nil ?_)))
    refine wH_seq (wH_ift rfl (drop_cons hD_7) (wH_skip ?_))
    unfold slices_Equal_api_Pair_api_Pair_L1 at hc_10
    refine wH_seq (wH_block (wH_seq (wH_region (h_op (vI (k_4 : Int)) wz rfl (h_op (vI (k_4 : Int)) wz rfl (h_nil (wH_seq (wH_draws (h_op (vL Pair.enc s1_1) wz rfl (h_op (vI (k_4 : Int)) wz rfl (h_ia es38 rfl rfl (drop_idx hD_7) rfl wz (h_ldc sz62 ag62 rfl (.d (.agg (Pair.enc x_6))) rfl wz (h_op (vL Pair.enc s2_2) wz rfl (h_op (vI (k_4 : Int)) wz rfl ?_))))))))))))))
    obtain ⟨y_14, hy_15, hc_10⟩ := bind_some hc_10
    refine h_ia es38 rfl rfl hy_15 rfl wz (h_ldc sz62 ag62 rfl (.d (.agg (Pair.enc y_14))) rfl wz (h_op (vB (!((x_6.Name.toList == y_14.Name.toList) && ((x_6.Value.toList == y_14.Value.toList) && true)))) wz (by kernel_rfl) (h_nil ?_)))
    rcases cond_some hc_10 with ⟨hc_16, hc_10⟩ | ⟨hc_16, hc_10⟩
    ·refine wH_ift rfl hc_16 (wH_seq (wH_region (h_op (vB false) wz rfl (h_nil ?_))))
     obtain rfl := some_inj hc_10
     obtain rfl := some_inj hL_11
     obtain rfl := some_inj hF
     exact wH_ret (fin0 (.inr rfl) [(vB false)] ⟨rfl, trivial⟩ rfl rfl rfl)
    ·refine wH_iff rfl hc_16 (wH_skip (wH_region (h_opw (w64_next hD_7 hn_8) wz rfl (h_op (vI ((k_4 + 1 : Nat) : Int)) wz rfl (h_nil ?_)))))
     obtain rfl := some_inj hc_10
     exact loop_mk (k_4 + 1, l_5, ()) ⟨hL_11, drop_next hD_7⟩ (Nat.lt_succ_self _) rfl (pre_r rfl)
  ·rintro s_9 ho_ sl_ H_ hp_ hq_
   subst ho_
   refine wH_at _ hp_ hq_ (wH_seq (wH_region (h_op (vB true) wz rfl (h_nil ?_))))
   obtain rfl := some_inj hF
   exact wH_ret (fin0 (.inr rfl) [(vB true)] ⟨rfl, trivial⟩ rfl rfl rfl)
theorem law_CampaignsPaced_ok {l_1 : (List Int)} {r : Bool} (hF : law_CampaignsPaced l_1 = some r) :
  FnM Tryd.prog 3 [(vL eI l_1)] [] (vB r) [] := by
 refine FnM.of_wH ⟨Tryd.prog, 172, [], []⟩ rfl Tryd.func3 rfl rfl (Nat.le_of_ble_eq_true rfl) (by kernel_rfl) ?_
 unfold law_CampaignsPaced at hF
 refine wH_seq (wH_region (h_op (vB false) wz rfl (h_nil (wH_seq (wH_region (h_op (vL eI l_1) wz rfl (h_op (.d (.agg (Stream.enc (⟨l_1, 0⟩ : Stream)))) wz (by kernel_rfl) (h_box 0 (.inl rfl) [(vL eI l_1), (vI 0)] rfl rfl wz (fun n_2 => h_op (.ref n_2 0 0) wz rfl (h_nil (wH_seq (wH_region (h_op (.ref n_2 0 0) wz rfl ?_)))))))))))))
 obtain ⟨r_3, hr_4, hF⟩ := bind_some hF
 refine h_callq 0 [0] (.inl rfl) (fun _ _ _ => trivial) (mk_Stream_Campaigns_ok hr_4) rfl hb4 rfl (by kernel_rfl) (by kernel_rfl) (by kernel_rfl) (by kernel_rfl) (by kernel_rfl) (by kernel_rfl) (by kernel_rfl) (by decide) (by kernel_rfl) wz (vL Campaign.enc r_3.1) (by kernel_rfl) ([(n_2, some (.cells 2 [(vL eI r_3.2.L), (vI r_3.2.f_at)]))] : Hp) (by kernel_rfl) (h_op (.ref n_2 0 0) wz rfl (h_op (.ref n_2 0 0) wz rfl ?_))
 obtain ⟨r_6, hr_7, hF⟩ := bind_some hF
 refine h_callq 0 [0] (.inl rfl) (fun _ _ _ => trivial) (mk_Stream_Range_ok hr_7) rfl hb6 rfl (by kernel_rfl) (by kernel_rfl) (by kernel_rfl) (by kernel_rfl) (by kernel_rfl) (by kernel_rfl) (by kernel_rfl) (by decide) (by kernel_rfl) wz (vI r_6.1) (by kernel_rfl) ([(n_2, some (.cells 2 [(vL eI r_6.2.L), (vI r_6.2.f_at)]))] : Hp) (by kernel_rfl) ?_
 obtain ⟨r_9, hr_10, hF⟩ := bind_some hF
 refine h_callq 0 [0] (.inl rfl) (fun _ _ _ => trivial) (mk_Stream_Played_ok hr_10) rfl hb5 rfl (by kernel_rfl) (by kernel_rfl) (by kernel_rfl) (by kernel_rfl) (by kernel_rfl) (by kernel_rfl) (by kernel_rfl) (by decide) (by kernel_rfl) wz (vL Play.enc r_9.1) (by kernel_rfl) ([(n_2, some (.cells 2 [(vL eI r_9.2.L), (vI r_9.2.f_at)]))] : Hp) (by kernel_rfl) (h_op (.ref n_2 0 0) wz rfl (h_lit (([0, 5, 10, 25, 40, 60, 100, (-1)] : List Int).map eI) es22 ez22 rfl rfl rfl rfl rfl wz ?_))
 obtain ⟨r_12, hr_13, hF⟩ := bind_some hF
 refine h_callq 0 [0] (.inl rfl) (fun _ _ _ => trivial) (mk_Stream_Pick_ok hr_13) rfl hb7 rfl (by kernel_rfl) (by kernel_rfl) (by kernel_rfl) (by kernel_rfl) (by kernel_rfl) (by kernel_rfl) (by kernel_rfl) (by decide) (by kernel_rfl) wz (vI r_12.1) (by kernel_rfl) ([(n_2, some (.cells 2 [(vL eI r_12.2.L), (vI r_12.2.f_at)]))] : Hp) (by kernel_rfl) (h_op (vL Campaign.enc r_3.1) wz rfl (h_op (vL Play.enc r_9.1) wz rfl (h_op (vI r_12.1) wz rfl (h_nil (wH_seq (wH_region (h_op (vL Campaign.enc r_3.1) wz rfl (h_op (vL Play.enc r_9.1) wz rfl (h_op (vI r_12.1) wz rfl ?_)))))))))
 obtain ⟨r_15, hr_16, hF⟩ := bind_some hF
 refine h_call0 (booking_Paces_ok hr_16) rfl hb8 rfl rfl rfl rfl wz (h_op (.tup [(vL Pace.enc r_15.1), (vI r_15.2)]) wz rfl (h_op (vL Pace.enc r_15.1) wz rfl (h_op (vI r_15.2) wz rfl (h_op (vL Pace.enc r_15.1) wz rfl (h_op (vI r_15.2) wz rfl (h_nil (wH_seq (wH_region (h_op (vL Campaign.enc r_3.1) wz rfl (h_op (vL Play.enc r_9.1) wz rfl (h_op (vI r_12.1) wz rfl ?_)))))))))))
 obtain ⟨r_17, hr_18, hF⟩ := bind_some hF
 refine h_call0 (booking_Choose_ok hr_18) rfl hb9 rfl rfl rfl rfl wz (h_op (.tup [(vS r_17.1), (vB r_17.2.1), (vI r_17.2.2)]) wz rfl (h_op (vS r_17.1) wz rfl (h_op (vB r_17.2.1) wz rfl (h_op (vI r_17.2.2) wz rfl (h_op (vS r_17.1) wz rfl (h_op (vB r_17.2.1) wz rfl (h_op (vI r_17.2.2) wz rfl (h_nil (wH_at (H0 := ([(n_2, some (.cells 2 [(vL eI r_12.2.L), (vI r_12.2.f_at)]))] : Hp)) ([(4, (vL Campaign.enc r_3.1)), (5, (vL Play.enc r_9.1)), (6, (vI r_12.1)), (7, (vL Pace.enc r_15.1)), (8, (vI r_15.2)), (9, (vS r_17.1)), (10, (vB r_17.2.1)), (11, (vI r_17.2.2))] : List (Nat × V)) (by kernel_rfl) (pre_mk (by kernel_rfl)) (wH_seq (wH_region (h_op (vL Campaign.enc r_3.1) wz rfl (h_op (vL Play.enc r_9.1) wz rfl (h_op (vI r_12.1) wz rfl ?_))))))))))))))
 obtain ⟨r_19, hr_20, hF⟩ := bind_some hF
 refine h_call0 (booking_Bill_ok hr_20) rfl hb10 rfl rfl rfl rfl wz (h_op (.tup [(vL Pair.enc r_19.1), (vI r_19.2)]) wz rfl (h_op (vL Pair.enc r_19.1) wz rfl (h_op (vI r_19.2) wz rfl (h_op (vL Pair.enc r_19.1) wz rfl (h_op (vI r_19.2) wz rfl (h_nil (wH_seq (wH_region (h_op (vL Campaign.enc r_3.1) wz rfl ?_)))))))))
 obtain ⟨r_21, hr_22, hF⟩ := bind_some hF
 refine h_call0 (ref_CampaignsFault_ok hr_22) rfl hb12 rfl rfl rfl rfl wz (h_op (vL Play.enc r_9.1) wz rfl ?_)
 obtain ⟨r_23, hr_24, hF⟩ := bind_some hF
 refine h_call0 (ref_PlayedFault_ok hr_24) rfl hb13 rfl rfl rfl rfl wz (h_op (vI r_12.1) wz rfl ?_)
 obtain ⟨r_25, hr_26, hF⟩ := bind_some hF
 refine h_call0 (law_momentFault_ok hr_26) rfl hb14 rfl rfl rfl rfl wz (h_lit (([r_21, r_23, r_25] : List Int).map eI) es74 ez74 rfl rfl rfl rfl rfl wz ?_)
 obtain ⟨r_27, hr_28, hF⟩ := bind_some hF
 refine h_call0 (law_errs_ok hr_28) rfl hb11 rfl rfl rfl rfl wz (h_op (vI r_27) wz rfl (h_nil (wH_seq (wH_seq ?_))))
 obtain ⟨v_29, h_30, hF⟩ := bind_some hF
 refine wH_join (β := Unit) (fun _ => ([(4, (vL Campaign.enc r_3.1)), (5, (vL Play.enc r_9.1)), (6, (vI r_12.1)), (7, (vL Pace.enc r_15.1)), (9, (vS r_17.1)), (10, (vB r_17.2.1)), (12, (vL Pair.enc r_19.1)), (14, (vI r_27)), (76, (vB v_29))] : List (Nat × V))) (fun _ => ([(n_2, some (.cells 2 [(vL eI r_12.2.L), (vI r_12.2.f_at)]))] : Hp)) (fun _ => True) ?_ ?_
 ·refine wH_region (h_op (vI r_15.2) wz rfl (h_op (vI r_27) wz rfl (h_op (vB (r_15.2 != r_27)) wz rfl ?_)))
  rcases cond_some h_30 with ⟨hc_31, h_30⟩ | ⟨hc_31, h_30⟩
  ·refine h_movb rfl hc_31 wz (h_skip (wg rfl rfl rfl) (h_skip (wg rfl rfl rfl) (h_skip (wg rfl rfl rfl) (h_op (vB true) wz rfl (h_op (vB true) wz rfl (h_skip (wg rfl rfl rfl) (h_skip (wg rfl rfl rfl) (h_skip (wg rfl rfl rfl) (h_op (vB true) wz rfl (h_nil ?_))))))))))
   obtain rfl := some_inj h_30
   exact cut_mk () trivial rfl (pre_r rfl)
  ·refine h_movb rfl hc_31 wz (h_op (vI r_17.2.2) (wg rfl rfl rfl) rfl (h_op (vI r_27) (wg rfl rfl rfl) rfl (h_op (vB (r_17.2.2 != r_27)) (wg rfl rfl rfl) rfl (h_op (vB (r_17.2.2 != r_27)) wz rfl ?_))))
   rcases cond_some h_30 with ⟨hc_32, h_30⟩ | ⟨hc_32, h_30⟩
   ·refine h_movb rfl hc_32 wz (h_skip (wg rfl rfl rfl) (h_skip (wg rfl rfl rfl) (h_skip (wg rfl rfl rfl) (h_op (vB true) wz rfl (h_nil ?_)))))
    obtain rfl := some_inj h_30
    exact cut_mk () trivial rfl (pre_r rfl)
   ·refine h_movb rfl hc_32 wz (h_op (vI r_19.2) (wg rfl rfl rfl) rfl (h_op (vI r_27) (wg rfl rfl rfl) rfl (h_op (vB (r_19.2 != r_27)) (wg rfl rfl rfl) rfl (h_op (vB (r_19.2 != r_27)) wz rfl (h_nil ?_)))))
    obtain rfl := some_inj h_30
    exact cut_mk () trivial rfl (pre_r rfl)
 ·rintro ⟨⟩ _ sl_ H_ hp_ hq_
  refine wH_at _ hp_ hq_ ?_
  rcases cond_some hF with ⟨hc_33, hF⟩ | ⟨hc_33, hF⟩
  ·refine wH_ift rfl hc_33 (wH_seq (wH_region (h_op (vB false) wz rfl (h_nil ?_))))
   obtain rfl := some_inj hF
   exact wH_ret (fin0 (.inr rfl) [(vB false)] ⟨rfl, trivial⟩ rfl rfl rfl)
  ·refine wH_iff rfl hc_33 (wH_skip (wH_seq (wH_seq (wH_region (h_op (vL Campaign.enc r_3.1) wz rfl (h_len un26 rfl wz (h_op (vI 0) wz rfl (h_nil ?_))))))))
   obtain ⟨o_42, hj_43, hF⟩ := bind_some hF
   obtain ⟨hn_38, hj_43⟩ := forL_some hj_43
   refine wH_join (β := (Unit)) (fun (s_39 : Unit) => ([(4, (vL Campaign.enc r_3.1)), (5, (vL Play.enc r_9.1)), (6, (vI r_12.1)), (7, (vL Pace.enc r_15.1)), (9, (vS r_17.1)), (10, (vB r_17.2.1)), (12, (vL Pair.enc r_19.1)), (14, (vI r_27))] : List (Nat × V))) (fun (s_39 : Unit) => ([(n_2, some (.cells 2 [(vL eI r_12.2.L), (vI r_12.2.f_at)]))] : Hp)) (fun p => o_42 = .go p) ?_ ?_
   ·refine wH_block (wH_loop (β := Nat × (List Campaign) × (Unit)) (fun p => (fun (k_34 : Nat) (l_35 : List Campaign) (s_39 : Unit) => ([(4, (vL Campaign.enc r_3.1)), (5, (vL Play.enc r_9.1)), (6, (vI r_12.1)), (7, (vL Pace.enc r_15.1)), (9, (vS r_17.1)), (10, (vB r_17.2.1)), (12, (vL Pair.enc r_19.1)), (14, (vI r_27)), (77, (vL Campaign.enc r_3.1)), (78, (vI (r_3.1.length : Int))), (79, (vI (k_34 : Int)))] : List (Nat × V))) p.1 p.2.1 p.2.2) (fun p => (fun (k_34 : Nat) (l_35 : List Campaign) (s_39 : Unit) => ([(n_2, some (.cells 2 [(vL eI r_12.2.L), (vI r_12.2.f_at)]))] : Hp)) p.1 p.2.1 p.2.2) (fun p => forR (fun k x s => law_CampaignsPaced_L1 r_12 k x s) p.2.1 p.1 p.2.2 = some o_42 ∧ (r_3.1).drop p.1 = p.2.1) (fun p => p.2.1.length) (0, r_3.1, ()) ⟨hj_43, rfl⟩ rfl (pre_r rfl) ?_)
    rintro ⟨k_34, l_35, s_39⟩ ⟨hL_41, hD_37⟩
    dsimp only at hL_41 hD_37
    cases l_35 with
    | nil =>
     obtain rfl := some_inj hL_41
     refine wH_seq (wH_region (h_op (vB (decide ((k_34 : Int) < (r_3.1.length : Int)))) wz rfl (h_nil ?_)))
     refine wH_seq (wH_iff rfl (drop_nil hD_37) (wH_exit ?_))
     exact cut_mk (s_39) rfl rfl (pre_r rfl)
    | cons x_36 l_35 =>
     obtain ⟨c_, hc_40, hL_41⟩ := bind_some hL_41
     refine wH_seq (wH_region (h_op (vB (decide ((k_34 : Int) < (r_3.1.length : Int)))) wz rfl (h_nil ?_)))
     refine wH_seq (wH_ift rfl (drop_cons hD_37) (wH_skip ?_))
     unfold law_CampaignsPaced_L1 at hc_40
     refine wH_seq (wH_block (wH_seq (wH_region (h_ia es26 rfl rfl (drop_idx hD_37) rfl wz (h_ldc sz49 ag49 rfl (.d (.agg (Campaign.enc x_36))) rfl wz (h_alloc 0 (.inl rfl) z49 rfl wz (fun n_44 => h_str 0 (.inl rfl) (fun _ _ _ => trivial) 1 sz49 rfl rfl [(vS x_36.Key), (vS x_36.Class), (vI x_36.Time.From), (vI x_36.Time.To), (vL eS x_36.Tags), (vI x_36.Goal), (vI x_36.Most), (vI x_36.Cents)] rfl wz (h_nil (wH_seq (wH_region (h_ldr 0 1 (.inl rfl) (fun _ _ _ => trivial) sz49 ag49 rfl rfl (.d (.agg (Campaign.enc x_36))) rfl wz (h_op (vI r_12.1) wz rfl ?_))))))))))))
     obtain ⟨r_45, hr_46, hc_40⟩ := bind_some hc_40
     refine h_call0 (booking_Due_ok hr_46) rfl hb15 rfl rfl rfl rfl wz (h_op (.tup [(vI r_45.1), (vI r_45.2)]) wz rfl (h_op (vI r_45.1) wz rfl (h_op (vI r_45.2) wz rfl (h_op (vI r_45.1) wz rfl (h_op (vI r_45.2) wz rfl (h_nil (wH_seq (wH_region (h_ldr 0 1 (.inl rfl) (fun _ _ _ => trivial) sz49 ag49 rfl rfl (.d (.agg (Campaign.enc x_36))) rfl wz (h_lit (([x_36] : List Campaign).map Campaign.enc) es26 ez26 rfl rfl rfl rfl rfl wz ?_))))))))))
     obtain ⟨r_47, hr_48, hc_40⟩ := bind_some hc_40
     refine h_call0 (ref_CampaignsFault_ok hr_48) rfl hb12 rfl rfl rfl rfl wz (h_op (vI r_12.1) wz rfl ?_)
     obtain ⟨r_49, hr_50, hc_40⟩ := bind_some hc_40
     refine h_call0 (law_momentFault_ok hr_50) rfl hb14 rfl rfl rfl rfl wz (h_lit (([r_47, r_49] : List Int).map eI) es74 ez74 rfl rfl rfl rfl rfl wz ?_)
     obtain ⟨r_51, hr_52, hc_40⟩ := bind_some hc_40
     refine h_call0 (law_errs_ok hr_52) rfl hb11 rfl rfl rfl rfl wz (h_op (vI r_51) wz rfl (h_nil (wH_seq ?_)))
     obtain ⟨v_53, h_54, hc_40⟩ := bind_some hc_40
     refine wH_join (β := Unit) (fun _ => ([(4, (vL Campaign.enc r_3.1)), (5, (vL Play.enc r_9.1)), (6, (vI r_12.1)), (7, (vL Pace.enc r_15.1)), (9, (vS r_17.1)), (10, (vB r_17.2.1)), (12, (vL Pair.enc r_19.1)), (14, (vI r_27)), (77, (vL Campaign.enc r_3.1)), (78, (vI (r_3.1.length : Int))), (79, (vI (k_34 : Int))), (117, (vB v_53))] : List (Nat × V))) (fun _ => ([(n_2, some (.cells 2 [(vL eI r_12.2.L), (vI r_12.2.f_at)])), (n_44, some (.cells 8 [(vS x_36.Key), (vS x_36.Class), (vI x_36.Time.From), (vI x_36.Time.To), (vL eS x_36.Tags), (vI x_36.Goal), (vI x_36.Most), (vI x_36.Cents)]))] : Hp)) (fun _ => True) ?_ ?_
     ·refine wH_region (h_op (vI r_45.2) wz rfl (h_op (vI r_51) wz rfl (h_op (vB (r_45.2 != r_51)) wz rfl ?_)))
      rcases cond_some h_54 with ⟨hc_55, h_54⟩ | ⟨hc_55, h_54⟩
      ·refine h_movb rfl hc_55 wz (h_skip (wg rfl rfl rfl) (h_skip (wg rfl rfl rfl) (h_skip (wg rfl rfl rfl) (h_skip (wn rfl rfl) (h_skip (wn rfl rfl) (h_skip (wn rfl rfl) (h_skip (wn rfl rfl) (h_skip (wn rfl rfl) (h_skip (wg rfl rfl rfl) (h_op (vB true) wz rfl (h_op (vB true) wz rfl (h_skip (wg rfl rfl rfl) (h_skip (wg rfl rfl rfl) (h_skip (wg rfl rfl rfl) (h_skip (wn rfl rfl) (h_skip (wn rfl rfl) (h_skip (wg rfl rfl rfl) (h_op (vB true) wz rfl (h_nil ?_)))))))))))))))))))
       obtain rfl := some_inj h_54
       exact cut_mk () trivial rfl (pre_r rfl)
      ·refine h_movb rfl hc_55 wz (h_op (vI r_51) (wg rfl rfl rfl) rfl (h_op (vB (r_51 == 0)) (wg rfl rfl rfl) rfl ?_))
       rcases cond_some h_54 with ⟨hc_56, h_54⟩ | ⟨hc_56, h_54⟩
       ·refine h_movb rfl hc_56 (wg rfl rfl rfl) (h_op (vI r_45.1) (wg rfl rfl rfl) rfl (h_ldr 0 1 (.inl rfl) (fun _ _ _ => trivial) sz49 ag49 rfl rfl (.d (.agg (Campaign.enc x_36))) rfl (wg rfl rfl rfl) (h_op (vI r_12.1) (wg rfl rfl rfl) rfl ?_)))
        obtain ⟨r_57, hr_58, h_54⟩ := bind_some h_54
        refine h_call0 (ref_DueOf_ok hr_58) rfl hb16 rfl rfl rfl rfl (wg rfl rfl rfl) (h_op (vB (r_45.1 != r_57)) (wg rfl rfl rfl) rfl (h_op (vB (r_45.1 != r_57)) (wg rfl rfl rfl) rfl (h_op (vB (r_45.1 != r_57)) wz rfl ?_)))
        rcases cond_some h_54 with ⟨hc_59, h_54⟩ | ⟨hc_59, h_54⟩
        ·refine h_movb rfl hc_59 wz (h_skip (wg rfl rfl rfl) (h_skip (wg rfl rfl rfl) (h_skip (wg rfl rfl rfl) (h_skip (wn rfl rfl) (h_skip (wn rfl rfl) (h_skip (wg rfl rfl rfl) (h_op (vB true) wz rfl (h_nil ?_))))))))
         obtain rfl := some_inj h_54
         exact cut_mk () trivial rfl (pre_r rfl)
        ·refine h_movb rfl hc_59 wz (h_op (vI r_51) (wg rfl rfl rfl) rfl (h_op (vB (r_51 != 0)) (wg rfl rfl rfl) rfl ?_))
         rcases cond_some h_54 with ⟨hc_60, h_54⟩ | ⟨hc_60, h_54⟩
         ·refine h_movb rfl hc_60 (wg rfl rfl rfl) (h_op (vI r_45.1) (wg rfl rfl rfl) rfl (h_op (vB (r_45.1 != 0)) (wg rfl rfl rfl) rfl (h_op (vB (r_45.1 != 0)) (wg rfl rfl rfl) rfl (h_op (vB (r_45.1 != 0)) wz rfl (h_nil ?_)))))
          obtain rfl := some_inj h_54
          exact cut_mk () trivial rfl (pre_r rfl)
         ·refine h_movb rfl hc_60 (wg rfl rfl rfl) (h_skip (wg rfl rfl rfl) (h_skip (wg rfl rfl rfl) (h_op (vB false) (wg rfl rfl rfl) rfl (h_op (vB false) wz rfl (h_nil ?_)))))
          obtain rfl := some_inj h_54
          exact cut_mk () trivial rfl (pre_r rfl)
       ·refine h_movb rfl hc_56 (wg rfl rfl rfl) (h_skip (wg rfl rfl rfl) (h_skip (wg rfl rfl rfl) (h_skip (wg rfl rfl rfl) (h_skip (wg rfl rfl rfl) (h_skip (wg rfl rfl rfl) (h_op (vB false) (wg rfl rfl rfl) rfl (h_op (vB false) wz rfl (h_op (vB false) wz rfl (h_op (vI r_51) (wg rfl rfl rfl) rfl (h_op (vB (r_51 != 0)) (wg rfl rfl rfl) rfl ?_))))))))))
        rcases cond_some h_54 with ⟨hc_61, h_54⟩ | ⟨hc_61, h_54⟩
        ·refine h_movb rfl hc_61 (wg rfl rfl rfl) (h_op (vI r_45.1) (wg rfl rfl rfl) rfl (h_op (vB (r_45.1 != 0)) (wg rfl rfl rfl) rfl (h_op (vB (r_45.1 != 0)) (wg rfl rfl rfl) rfl (h_op (vB (r_45.1 != 0)) wz rfl (h_nil ?_)))))
         obtain rfl := some_inj h_54
         exact cut_mk () trivial rfl (pre_r rfl)
        ·refine h_movb rfl hc_61 (wg rfl rfl rfl) (h_skip (wg rfl rfl rfl) (h_skip (wg rfl rfl rfl) (h_op (vB false) (wg rfl rfl rfl) rfl (h_op (vB false) wz rfl (h_nil ?_)))))
         obtain rfl := some_inj h_54
         exact cut_mk () trivial rfl (pre_r rfl)
     ·rintro ⟨⟩ _ sl_ H_ hp_ hq_
      refine wH_at _ hp_ hq_ ?_
      rcases cond_some hc_40 with ⟨hc_62, hc_40⟩ | ⟨hc_62, hc_40⟩
      ·refine wH_ift rfl hc_62 (wH_seq (wH_region (h_op (vB false) wz rfl (h_nil ?_))))
       obtain rfl := some_inj hc_40
       obtain rfl := some_inj hL_41
       obtain rfl := some_inj hF
       exact wH_ret (fin0 (.inr rfl) [(vB false)] ⟨rfl, trivial⟩ rfl rfl rfl)
      ·refine wH_iff rfl hc_62 (wH_skip (wH_region (h_opw (w64_next hD_37 hn_38) wz rfl (h_op (vI ((k_34 + 1 : Nat) : Int)) wz rfl (h_nil ?_)))))
       obtain rfl := some_inj hc_40
       exact loop_mk (k_34 + 1, l_35, ()) ⟨hL_41, drop_next hD_37⟩ (Nat.lt_succ_self _) rfl (pre_r rfl)
   ·rintro s_39 ho_ sl_ H_ hp_ hq_
    subst ho_
    refine wH_at _ hp_ hq_ (wH_seq (wH_seq (wH_region (h_op (vI r_27) wz rfl (h_op (vB (r_27 != 0)) wz rfl (h_nil ?_))))))
    rcases cond_some hF with ⟨hc_63, hF⟩ | ⟨hc_63, hF⟩
    ·refine wH_ift rfl hc_63 (wH_seq ?_)
     obtain ⟨v_64, h_65, hF⟩ := bind_some hF
     refine wH_join (β := Unit) (fun _ => ([(2, (vB v_64))] : List (Nat × V))) (fun _ => ([(n_2, some (.cells 2 [(vL eI r_12.2.L), (vI r_12.2.f_at)]))] : Hp)) (fun _ => True) ?_ ?_
     ·refine wH_region (h_op (vL Pace.enc r_15.1) wz rfl (h_len un32 rfl wz (h_op (vL Pair.enc r_19.1) wz rfl (h_len un38 rfl wz (h_op (vI (w64 ((r_15.1.length : Int) + (r_19.1.length : Int)))) wz rfl (h_op (vB ((w64 ((r_15.1.length : Int) + (r_19.1.length : Int))) == 0)) wz rfl ?_))))))
      rcases cond_some h_65 with ⟨hc_66, h_65⟩ | ⟨hc_66, h_65⟩
      ·refine h_movb rfl hc_66 wz (h_op (vS r_17.1) (wg rfl rfl rfl) rfl (h_op (vB (sEq r_17.1 (⟨#[]⟩ : ByteArray))) (wg rfl rfl rfl) rfl (h_op (vB (sEq r_17.1 (⟨#[]⟩ : ByteArray))) wz rfl ?_)))
       rcases cond_some h_65 with ⟨hc_67, h_65⟩ | ⟨hc_67, h_65⟩
       ·refine h_movb rfl hc_67 wz (h_op (vB r_17.2.1) (wg rfl rfl rfl) rfl (h_op (vB (!r_17.2.1)) (wg rfl rfl rfl) rfl (h_op (vB (!r_17.2.1)) wz rfl ?_)))
        rcases cond_some h_65 with ⟨hc_68, h_65⟩ | ⟨hc_68, h_65⟩
        ·refine h_movb rfl hc_68 wz ?_
         obtain ⟨r_69, hr_70, h_65⟩ := bind_some h_65
         refine h_call0 (law_booked_ok hr_70) rfl hb17 rfl rfl rfl rfl (wg rfl rfl rfl) (h_op (vB r_69) wz rfl (h_op (vB r_69) wz rfl (h_nil ?_)))
         obtain rfl := some_inj h_65
         exact cut_mk () trivial rfl (pre_r rfl)
        ·refine h_movb rfl hc_68 wz (h_skip (wg rfl rfl rfl) (h_op (vB false) wz rfl (h_op (vB false) wz rfl (h_nil ?_))))
         obtain rfl := some_inj h_65
         exact cut_mk () trivial rfl (pre_r rfl)
       ·refine h_movb rfl hc_67 wz (h_skip (wg rfl rfl rfl) (h_skip (wg rfl rfl rfl) (h_op (vB false) wz rfl (h_op (vB false) wz rfl (h_skip (wg rfl rfl rfl) (h_op (vB false) wz rfl (h_op (vB false) wz rfl (h_nil ?_))))))))
        obtain rfl := some_inj h_65
        exact cut_mk () trivial rfl (pre_r rfl)
      ·refine h_movb rfl hc_66 wz (h_skip (wg rfl rfl rfl) (h_skip (wg rfl rfl rfl) (h_op (vB false) wz rfl (h_op (vB false) wz rfl (h_skip (wg rfl rfl rfl) (h_skip (wg rfl rfl rfl) (h_op (vB false) wz rfl (h_op (vB false) wz rfl (h_skip (wg rfl rfl rfl) (h_op (vB false) wz rfl (h_op (vB false) wz rfl (h_nil ?_))))))))))))
       obtain rfl := some_inj h_65
       exact cut_mk () trivial rfl (pre_r rfl)
     ·rintro ⟨⟩ _ sl_ H_ hp_ hq_
      refine wH_at _ hp_ hq_ ?_
      obtain rfl := some_inj hF
      exact wH_ret (fin0 (.inr rfl) [(vB v_64)] ⟨rfl, trivial⟩ rfl rfl rfl)
    ·refine wH_iff rfl hc_63 (wH_skip (wH_seq (wH_region (h_op (vL Campaign.enc r_3.1) wz rfl (h_op (vL Play.enc r_9.1) wz rfl (h_op (vI r_12.1) wz rfl ?_))))))
     obtain ⟨r_71, hr_72, hF⟩ := bind_some hF
     refine h_call0 (ref_ChooseOf_ok hr_72) rfl hb18 rfl rfl rfl rfl wz (h_op (.tup [(vS r_71.1), (vB r_71.2)]) wz rfl (h_op (vS r_71.1) wz rfl (h_op (vB r_71.2) wz rfl (h_op (vS r_71.1) wz rfl (h_op (vB r_71.2) wz rfl (h_nil (wH_seq ?_)))))))
     obtain ⟨v_73, h_74, hF⟩ := bind_some hF
     refine wH_join (β := Unit) (fun _ => ([(2, (vB v_73))] : List (Nat × V))) (fun _ => ([(n_2, some (.cells 2 [(vL eI r_12.2.L), (vI r_12.2.f_at)]))] : Hp)) (fun _ => True) ?_ ?_
     ·refine wH_region (h_op (vL Pace.enc r_15.1) wz rfl (h_op (vL Campaign.enc r_3.1) wz rfl (h_op (vL Play.enc r_9.1) wz rfl (h_op (vI r_12.1) wz rfl ?_))))
      obtain ⟨r_75, hr_76, h_74⟩ := bind_some h_74
      refine h_call0 (ref_PacesOf_ok hr_76) rfl hb20 rfl rfl rfl rfl wz ?_
      obtain ⟨r_77, hr_78, h_74⟩ := bind_some h_74
      refine h_call0 (slices_Equal_api_Pace_api_Pace_ok hr_78) rfl hb19 rfl rfl rfl rfl wz ?_
      rcases cond_some h_74 with ⟨hc_79, h_74⟩ | ⟨hc_79, h_74⟩
      ·refine h_movb rfl hc_79 wz (h_op (vS r_17.1) (wg rfl rfl rfl) rfl (h_op (vS r_71.1) (wg rfl rfl rfl) rfl (h_op (vB (sEq r_17.1 r_71.1)) (wg rfl rfl rfl) rfl (h_op (vB (sEq r_17.1 r_71.1)) wz rfl ?_))))
       rcases cond_some h_74 with ⟨hc_80, h_74⟩ | ⟨hc_80, h_74⟩
       ·refine h_movb rfl hc_80 wz (h_op (vB r_17.2.1) (wg rfl rfl rfl) rfl (h_op (vB r_71.2) (wg rfl rfl rfl) rfl (h_beql un4 rfl rfl (wg rfl rfl rfl) (h_op (vB (r_17.2.1 == r_71.2)) wz rfl ?_))))
        rcases cond_some h_74 with ⟨hc_81, h_74⟩ | ⟨hc_81, h_74⟩
        ·refine h_movb rfl hc_81 wz (h_op (vL Pair.enc r_19.1) (wg rfl rfl rfl) rfl (h_op (vL Campaign.enc r_3.1) (wg rfl rfl rfl) rfl (h_op (vL Play.enc r_9.1) (wg rfl rfl rfl) rfl (h_op (vI r_12.1) (wg rfl rfl rfl) rfl ?_))))
         obtain ⟨r_82, hr_83, h_74⟩ := bind_some h_74
         refine h_call0 (ref_BillOf_ok hr_83) rfl hb22 rfl rfl rfl rfl (wg rfl rfl rfl) ?_
         obtain ⟨r_84, hr_85, h_74⟩ := bind_some h_74
         refine h_call0 (slices_Equal_api_Pair_api_Pair_ok hr_85) rfl hb21 rfl rfl rfl rfl (wg rfl rfl rfl) (h_op (vB r_84) wz rfl ?_)
         rcases cond_some h_74 with ⟨hc_86, h_74⟩ | ⟨hc_86, h_74⟩
         ·refine h_movb rfl hc_86 wz ?_
          obtain ⟨r_87, hr_88, h_74⟩ := bind_some h_74
          refine h_call0 (law_booked_ok hr_88) rfl hb17 rfl rfl rfl rfl (wg rfl rfl rfl) (h_op (vB r_87) wz rfl (h_op (vB r_87) wz rfl (h_nil ?_)))
          obtain rfl := some_inj h_74
          exact cut_mk () trivial rfl (pre_r rfl)
         ·refine h_movb rfl hc_86 wz (h_skip (wg rfl rfl rfl) (h_op (vB false) wz rfl (h_op (vB false) wz rfl (h_nil ?_))))
          obtain rfl := some_inj h_74
          exact cut_mk () trivial rfl (pre_r rfl)
        ·refine h_movb rfl hc_81 wz (h_skip (wg rfl rfl rfl) (h_skip (wg rfl rfl rfl) (h_skip (wg rfl rfl rfl) (h_skip (wg rfl rfl rfl) (h_skip (wg rfl rfl rfl) (h_skip (wg rfl rfl rfl) (h_op (vB false) wz rfl (h_op (vB false) wz rfl (h_skip (wg rfl rfl rfl) (h_op (vB false) wz rfl (h_op (vB false) wz rfl (h_nil ?_))))))))))))
         obtain rfl := some_inj h_74
         exact cut_mk () trivial rfl (pre_r rfl)
       ·refine h_movb rfl hc_80 wz (h_skip (wg rfl rfl rfl) (h_skip (wg rfl rfl rfl) (h_skip (wg rfl rfl rfl) (h_op (vB false) wz rfl (h_op (vB false) wz rfl (h_skip (wg rfl rfl rfl) (h_skip (wg rfl rfl rfl) (h_skip (wg rfl rfl rfl) (h_skip (wg rfl rfl rfl) (h_skip (wg rfl rfl rfl) (h_skip (wg rfl rfl rfl) (h_op (vB false) wz rfl (h_op (vB false) wz rfl (h_skip (wg rfl rfl rfl) (h_op (vB false) wz rfl (h_op (vB false) wz rfl (h_nil ?_)))))))))))))))))
        obtain rfl := some_inj h_74
        exact cut_mk () trivial rfl (pre_r rfl)
      ·refine h_movb rfl hc_79 wz (h_skip (wg rfl rfl rfl) (h_skip (wg rfl rfl rfl) (h_skip (wg rfl rfl rfl) (h_op (vB false) wz rfl (h_op (vB false) wz rfl (h_skip (wg rfl rfl rfl) (h_skip (wg rfl rfl rfl) (h_skip (wg rfl rfl rfl) (h_op (vB false) wz rfl (h_op (vB false) wz rfl (h_skip (wg rfl rfl rfl) (h_skip (wg rfl rfl rfl) (h_skip (wg rfl rfl rfl) (h_skip (wg rfl rfl rfl) (h_skip (wg rfl rfl rfl) (h_skip (wg rfl rfl rfl) (h_op (vB false) wz rfl (h_op (vB false) wz rfl (h_skip (wg rfl rfl rfl) (h_op (vB false) wz rfl (h_op (vB false) wz rfl (h_nil ?_))))))))))))))))))))))
       obtain rfl := some_inj h_74
       exact cut_mk () trivial rfl (pre_r rfl)
     ·rintro ⟨⟩ _ sl_ H_ hp_ hq_
      refine wH_at _ hp_ hq_ ?_
      obtain rfl := some_inj hF
      exact wH_ret (fin0 (.inr rfl) [(vB v_73)] ⟨rfl, trivial⟩ rfl rfl rfl)
end Go.Proofs.YtjmpbmnakfipdaaDoor.Law

