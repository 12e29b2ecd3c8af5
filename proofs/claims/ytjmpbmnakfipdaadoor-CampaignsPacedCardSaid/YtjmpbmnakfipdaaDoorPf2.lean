/-
 The machine computes these plain functions (written by a program of ours).
-/
import Derived.Test.YtjmpbmnakfipdaaDoorFacts
import Derived.Test.YtjmpbmnakfipdaaDoorDefs
import Derived.Test.YtjmpbmnakfipdaaDoorPf1
import Derived.Test.YtjmpbmnakfipdaaDoorShelf
open Go Go.Eng Go.Proofs
namespace Go.Proofs.YtjmpbmnakfipdaaDoor.Law
set_option maxRecDepth 100000
set_option linter.unusedVariables false
set_option maxHeartbeats 1000000
theorem booking_CheckCampaigns_ok {l_1 : (List Campaign)} {r : Int} (hF : booking_CheckCampaigns l_1 = some r) :
  FnM Tryd.prog 36 [(vL Campaign.enc l_1)] [] (vI r) [] := by
 refine FnM.of_wH ⟨Tryd.prog, 73, [], []⟩ rfl Tryd.func36 rfl rfl (Nat.le_of_ble_eq_true rfl) (by kernel_rfl) ?_
 unfold booking_CheckCampaigns at hF
 refine wH_seq (wH_region (h_op (vI 0) wz rfl (h_nil (wH_seq (wH_seq (wH_region (h_op (vL Campaign.enc l_1) wz rfl (h_len un26 rfl wz (h_op (vB (decide ((l_1.length : Int) > 30))) wz rfl (h_nil ?_))))))))))
 rcases cond_some hF with ⟨hc_2, hF⟩ | ⟨hc_2, hF⟩
 ·refine wH_ift rfl hc_2 (wH_seq (wH_region (h_op (vI 2) wz rfl (h_nil ?_))))
  obtain rfl := some_inj hF
  exact wH_ret (fin0 (.inr rfl) [(vI 2)] ⟨rfl, trivial⟩ rfl rfl rfl)
 ·refine wH_iff rfl hc_2 (wH_skip (wH_seq (wH_seq (wH_region (h_op (vL Campaign.enc l_1) wz rfl (h_len un26 rfl wz (h_op (vI 0) wz rfl (h_nil ?_))))))))
  obtain ⟨o_11, hj_12, hF⟩ := bind_some hF
  obtain ⟨hn_7, hj_12⟩ := forL_some hj_12
  refine wH_join (β := (Unit)) (fun (s_8 : Unit) => ([] : List (Nat × V))) (fun (s_8 : Unit) => ([] : Hp)) (fun p => o_11 = .go p) ?_ ?_
  ·refine wH_block (wH_loop (β := Nat × (List Campaign) × (Unit)) (fun p => (fun (k_3 : Nat) (l_4 : List Campaign) (s_8 : Unit) => ([(0, (vL Campaign.enc l_1)), (9, (vL Campaign.enc l_1)), (10, (vI (l_1.length : Int))), (11, (vI (k_3 : Int)))] : List (Nat × V))) p.1 p.2.1 p.2.2) (fun p => (fun (k_3 : Nat) (l_4 : List Campaign) (s_8 : Unit) => ([] : Hp)) p.1 p.2.1 p.2.2) (fun p => forR (fun k x s => booking_CheckCampaigns_L1 l_1 k x s) p.2.1 p.1 p.2.2 = some o_11 ∧ (l_1).drop p.1 = p.2.1) (fun p => p.2.1.length) (0, l_1, ()) ⟨hj_12, rfl⟩ rfl (pre_r rfl) ?_)
   rintro ⟨k_3, l_4, s_8⟩ ⟨hL_10, hD_6⟩
   dsimp only at hL_10 hD_6
   cases l_4 with
   | nil =>
    obtain rfl := some_inj hL_10
    refine wH_seq (wH_region (h_op (vB (decide ((k_3 : Int) < (l_1.length : Int)))) wz rfl (h_nil ?_)))
    refine wH_seq (wH_iff rfl (drop_nil hD_6) (wH_exit ?_))
    exact cut_mk (s_8) rfl rfl (pre_r rfl)
   | cons x_5 l_4 =>
    obtain ⟨c_, hc_9, hL_10⟩ := bind_some hL_10
    refine wH_seq (wH_region (h_op (vB (decide ((k_3 : Int) < (l_1.length : Int)))) wz rfl (h_nil ?_)))
    refine wH_seq (wH_ift rfl (drop_cons hD_6) (wH_skip ?_))
    unfold booking_CheckCampaigns_L1 at hc_9
    refine wH_seq (wH_block (wH_seq (wH_region (h_op (vI (k_3 : Int)) wz rfl (h_ia es26 rfl rfl (drop_idx hD_6) rfl wz (h_ldc sz49 ag49 rfl (.d (.agg (Campaign.enc x_5))) rfl wz (h_alloc 0 (.inl rfl) z49 rfl wz (fun n_13 => h_op (vI (k_3 : Int)) wz rfl (h_str 0 (.inl rfl) (fun _ _ _ => trivial) 0 sz49 rfl rfl [(vS x_5.Key), (vS x_5.Class), (vI x_5.Time.From), (vI x_5.Time.To), (vL eS x_5.Tags), (vI x_5.Goal), (vI x_5.Most), (vI x_5.Cents)] rfl wz (h_nil (wH_seq (wH_block (wH_seq ?_)))))))))))))
    obtain ⟨v_14, h_15, hc_9⟩ := bind_some hc_9
    refine wH_join (β := Unit) (fun _ => ([(0, (vL Campaign.enc l_1)), (3, (vI (k_3 : Int))), (4, (.ref n_13 0 0)), (9, (vL Campaign.enc l_1)), (10, (vI (l_1.length : Int))), (11, (vI (k_3 : Int))), (16, (vB v_14))] : List (Nat × V))) (fun _ => ([(n_13, some (.cells 8 [(vS x_5.Key), (vS x_5.Class), (vI x_5.Time.From), (vI x_5.Time.To), (vL eS x_5.Tags), (vI x_5.Goal), (vI x_5.Most), (vI x_5.Cents)]))] : Hp)) (fun _ => True) ?_ ?_
    ·refine wH_region (h_far pl49_0 rfl 0 rfl wz (h_ldr 0 0 (.inl rfl) (fun _ _ _ => trivial) sz9 ag9 rfl rfl (vS x_5.Key) rfl wz ?_))
     obtain ⟨r_16, hr_17, h_15⟩ := bind_some h_15
     refine h_call0 (kit_IsKey_ok hr_17) rfl hb42 rfl rfl rfl rfl wz (h_op (vB (!r_16)) wz rfl ?_)
     rcases cond_some h_15 with ⟨hc_18, h_15⟩ | ⟨hc_18, h_15⟩
     ·refine h_movb rfl hc_18 wz (h_skip (wg rfl rfl rfl) (h_skip (wg rfl rfl rfl) (h_skip (wg rfl rfl rfl) (h_skip (wg rfl rfl rfl) (h_skip (wn rfl rfl) (h_skip (wn rfl rfl) (h_skip (wn rfl rfl) (h_skip (wn rfl rfl) (h_skip (wg rfl rfl rfl) (h_op (vB true) wz rfl (h_op (vB true) wz rfl (h_nil ?_))))))))))))
      obtain rfl := some_inj h_15
      exact cut_mk () trivial rfl (pre_r rfl)
     ·refine h_movb rfl hc_18 wz (h_far pl49_1 rfl 1 rfl (wg rfl rfl rfl) (h_ldr 0 0 (.inl rfl) (fun _ _ _ => trivial) sz9 ag9 rfl rfl (vS x_5.Class) rfl (wg rfl rfl rfl) (h_op (vB (sNe x_5.Class (⟨#[]⟩ : ByteArray))) (wg rfl rfl rfl) rfl ?_)))
      rcases cond_some h_15 with ⟨hc_19, h_15⟩ | ⟨hc_19, h_15⟩
      ·refine h_movb rfl hc_19 (wg rfl rfl rfl) (h_far pl49_1 rfl 1 rfl (wg rfl rfl rfl) (h_ldr 0 0 (.inl rfl) (fun _ _ _ => trivial) sz9 ag9 rfl rfl (vS x_5.Class) rfl (wg rfl rfl rfl) ?_))
       obtain ⟨r_20, hr_21, h_15⟩ := bind_some h_15
       refine h_call0 (kit_IsKey_ok hr_21) rfl hb42 rfl rfl rfl rfl (wg rfl rfl rfl) (h_op (vB (!r_20)) (wg rfl rfl rfl) rfl (h_op (vB (!r_20)) (wg rfl rfl rfl) rfl (h_op (vB (!r_20)) wz rfl (h_op (vB (!r_20)) wz rfl (h_nil ?_)))))
       obtain rfl := some_inj h_15
       exact cut_mk () trivial rfl (pre_r rfl)
      ·refine h_movb rfl hc_19 (wg rfl rfl rfl) (h_skip (wg rfl rfl rfl) (h_skip (wg rfl rfl rfl) (h_skip (wg rfl rfl rfl) (h_skip (wg rfl rfl rfl) (h_op (vB false) (wg rfl rfl rfl) rfl (h_op (vB false) wz rfl (h_op (vB false) wz rfl (h_nil ?_))))))))
       obtain rfl := some_inj h_15
       exact cut_mk () trivial rfl (pre_r rfl)
    ·rintro ⟨⟩ _ sl_ H_ hp_ hq_
     refine wH_at _ hp_ hq_ ?_
     rcases cond_some hc_9 with ⟨hc_22, hc_9⟩ | ⟨hc_22, hc_9⟩
     ·refine wH_ift rfl hc_22 (wH_seq (wH_region (h_op (vI 5) wz rfl (h_nil ?_))))
      obtain rfl := some_inj hc_9
      obtain rfl := some_inj hL_10
      obtain rfl := some_inj hF
      exact wH_ret (fin0 (.inr rfl) [(vI 5)] ⟨rfl, trivial⟩ rfl rfl rfl)
     ·refine wH_iff rfl hc_22 (wH_seq ?_)
      obtain ⟨v_23, h_24, hc_9⟩ := bind_some hc_9
      refine wH_join (β := Unit) (fun _ => ([(0, (vL Campaign.enc l_1)), (4, (.ref n_13 0 0)), (9, (vL Campaign.enc l_1)), (10, (vI (l_1.length : Int))), (11, (vI (k_3 : Int))), (32, (vB v_23))] : List (Nat × V))) (fun _ => ([(n_13, some (.cells 8 [(vS x_5.Key), (vS x_5.Class), (vI x_5.Time.From), (vI x_5.Time.To), (vL eS x_5.Tags), (vI x_5.Goal), (vI x_5.Most), (vI x_5.Cents)]))] : Hp)) (fun _ => True) ?_ ?_
      ·refine wH_draws (h_op (vI (k_3 : Int)) wz rfl (h_op (vB (decide ((k_3 : Int) > 0))) wz rfl ?_))
       rcases cond_some h_24 with ⟨hc_25, h_24⟩ | ⟨hc_25, h_24⟩
       ·refine h_movb rfl hc_25 wz (h_far pl49_0 rfl 0 rfl (wg rfl rfl rfl) (h_ldr 4 0 (.inr (by kernel_rfl)) (fun _ _ ag => trivial) sz9 ag9 rfl rfl (vS x_5.Key) rfl (wg rfl rfl rfl) (h_op (vL Campaign.enc l_1) (wg rfl rfl rfl) rfl (h_op (vI (k_3 : Int)) (wg rfl rfl rfl) rfl (h_op (vI (w64 ((k_3 : Int) - 1))) (wg rfl rfl rfl) rfl ?_)))))
        obtain ⟨y_26, hy_27, h_24⟩ := bind_some h_24
        refine h_ia es26 rfl rfl hy_27 rfl (wg rfl rfl rfl) (h_fac pl49_0 rfl [.str y_26.Key, .str y_26.Class, .int .i64 y_26.Time.From, .int .i64 y_26.Time.To, dl eS y_26.Tags, .int .i64 y_26.Goal, .int .i64 y_26.Most, .int .i64 y_26.Cents] rfl rfl (wg rfl rfl rfl) (h_ldc sz9 ag9 rfl (vS y_26.Key) rfl (wg rfl rfl rfl) (h_op (vB (sLe x_5.Key y_26.Key)) (wg rfl rfl rfl) rfl (h_op (vB (sLe x_5.Key y_26.Key)) wz rfl (h_op (vB (sLe x_5.Key y_26.Key)) wz rfl (h_nil ?_))))))
        obtain rfl := some_inj h_24
        exact cut_mk () trivial rfl (pre_r rfl)
       ·refine h_movb rfl hc_25 wz (h_skip (wg rfl rfl rfl) (h_skip (wg rfl rfl rfl) (h_skip (wg rfl rfl rfl) (h_skip (wg rfl rfl rfl) (h_skip (wg rfl rfl rfl) (h_skip (wg rfl rfl rfl) (h_skip (wg rfl rfl rfl) (h_skip (wg rfl rfl rfl) (h_skip (wg rfl rfl rfl) (h_op (vB false) wz rfl (h_op (vB false) wz rfl (h_nil ?_))))))))))))
        obtain rfl := some_inj h_24
        exact cut_mk () trivial rfl (pre_r rfl)
      ·rintro ⟨⟩ _ sl_ H_ hp_ hq_
       refine wH_at _ hp_ hq_ ?_
       rcases cond_some hc_9 with ⟨hc_28, hc_9⟩ | ⟨hc_28, hc_9⟩
       ·refine wH_ift rfl hc_28 (wH_seq (wH_region (h_op (vI 7) wz rfl (h_nil ?_))))
        obtain rfl := some_inj hc_9
        obtain rfl := some_inj hL_10
        obtain rfl := some_inj hF
        exact wH_ret (fin0 (.inr rfl) [(vI 7)] ⟨rfl, trivial⟩ rfl rfl rfl)
       ·refine wH_iff rfl hc_28 (wH_seq ?_)
        obtain ⟨v_29, h_30, hc_9⟩ := bind_some hc_9
        refine wH_join (β := Unit) (fun _ => ([(0, (vL Campaign.enc l_1)), (4, (.ref n_13 0 0)), (9, (vL Campaign.enc l_1)), (10, (vI (l_1.length : Int))), (11, (vI (k_3 : Int))), (46, (vB v_29))] : List (Nat × V))) (fun _ => ([(n_13, some (.cells 8 [(vS x_5.Key), (vS x_5.Class), (vI x_5.Time.From), (vI x_5.Time.To), (vL eS x_5.Tags), (vI x_5.Goal), (vI x_5.Most), (vI x_5.Cents)]))] : Hp)) (fun _ => True) ?_ ?_
        ·refine wH_region (h_far pl49_2 rfl 2 rfl wz (h_ldr 0 0 (.inl rfl) (fun _ _ _ => trivial) sz46 ag46 rfl rfl (.d (.agg (Window.enc x_5.Time))) rfl wz ?_))
         obtain ⟨r_31, hr_32, h_30⟩ := bind_some h_30
         refine h_call0 (booking_isTime_ok hr_32) rfl hb47 rfl rfl rfl rfl wz (h_op (vB (!r_31)) wz rfl ?_)
         rcases cond_some h_30 with ⟨hc_33, h_30⟩ | ⟨hc_33, h_30⟩
         ·refine h_movb rfl hc_33 wz (h_skip (wg rfl rfl rfl) (h_skip (wg rfl rfl rfl) (h_skip (wg rfl rfl rfl) (h_op (vB true) wz rfl (h_op (vB true) wz rfl (h_skip (wg rfl rfl rfl) (h_skip (wg rfl rfl rfl) (h_skip (wg rfl rfl rfl) (h_op (vB true) wz rfl (h_op (vB true) wz rfl (h_skip (wg rfl rfl rfl) (h_skip (wg rfl rfl rfl) (h_skip (wg rfl rfl rfl) (h_op (vB true) wz rfl (h_op (vB true) wz rfl (h_nil ?_))))))))))))))))
          obtain rfl := some_inj h_30
          exact cut_mk () trivial rfl (pre_r rfl)
         ·refine h_movb rfl hc_33 wz (h_far pl49_4 rfl 5 rfl (wg rfl rfl rfl) (h_ldr 0 0 (.inl rfl) (fun _ _ _ => trivial) sz3 ag3 rfl rfl (vI x_5.Goal) rfl (wg rfl rfl rfl) ?_))
          obtain ⟨r_34, hr_35, h_30⟩ := bind_some h_30
          refine h_call0 (kit_Outside_ok hr_35) rfl hb43 rfl rfl rfl rfl (wg rfl rfl rfl) (h_op (vB r_34) wz rfl ?_)
          rcases cond_some h_30 with ⟨hc_36, h_30⟩ | ⟨hc_36, h_30⟩
          ·refine h_movb rfl hc_36 wz (h_skip (wg rfl rfl rfl) (h_skip (wg rfl rfl rfl) (h_skip (wg rfl rfl rfl) (h_op (vB true) wz rfl (h_op (vB true) wz rfl (h_skip (wg rfl rfl rfl) (h_skip (wg rfl rfl rfl) (h_skip (wg rfl rfl rfl) (h_op (vB true) wz rfl (h_op (vB true) wz rfl (h_nil ?_)))))))))))
           obtain rfl := some_inj h_30
           exact cut_mk () trivial rfl (pre_r rfl)
          ·refine h_movb rfl hc_36 wz (h_far pl49_5 rfl 6 rfl (wg rfl rfl rfl) (h_ldr 0 0 (.inl rfl) (fun _ _ _ => trivial) sz3 ag3 rfl rfl (vI x_5.Most) rfl (wg rfl rfl rfl) ?_))
           obtain ⟨r_37, hr_38, h_30⟩ := bind_some h_30
           refine h_call0 (kit_Outside_ok hr_38) rfl hb43 rfl rfl rfl rfl (wg rfl rfl rfl) (h_op (vB r_37) wz rfl ?_)
           rcases cond_some h_30 with ⟨hc_39, h_30⟩ | ⟨hc_39, h_30⟩
           ·refine h_movb rfl hc_39 wz (h_skip (wg rfl rfl rfl) (h_skip (wg rfl rfl rfl) (h_skip (wg rfl rfl rfl) (h_op (vB true) wz rfl (h_op (vB true) wz rfl (h_nil ?_))))))
            obtain rfl := some_inj h_30
            exact cut_mk () trivial rfl (pre_r rfl)
           ·refine h_movb rfl hc_39 wz (h_far pl49_6 rfl 7 rfl (wg rfl rfl rfl) (h_ldr 0 0 (.inl rfl) (fun _ _ _ => trivial) sz3 ag3 rfl rfl (vI x_5.Cents) rfl (wg rfl rfl rfl) ?_))
            obtain ⟨r_40, hr_41, h_30⟩ := bind_some h_30
            refine h_call0 (kit_Outside_ok hr_41) rfl hb43 rfl rfl rfl rfl (wg rfl rfl rfl) (h_op (vB r_40) wz rfl (h_op (vB r_40) wz rfl (h_nil ?_)))
            obtain rfl := some_inj h_30
            exact cut_mk () trivial rfl (pre_r rfl)
        ·rintro ⟨⟩ _ sl_ H_ hp_ hq_
         refine wH_at _ hp_ hq_ ?_
         rcases cond_some hc_9 with ⟨hc_42, hc_9⟩ | ⟨hc_42, hc_9⟩
         ·refine wH_ift rfl hc_42 (wH_seq (wH_region (h_op (vI 1) wz rfl (h_nil ?_))))
          obtain rfl := some_inj hc_9
          obtain rfl := some_inj hL_10
          obtain rfl := some_inj hF
          exact wH_ret (fin0 (.inr rfl) [(vI 1)] ⟨rfl, trivial⟩ rfl rfl rfl)
         ·refine wH_iff rfl hc_42 (wH_skip (wH_seq (wH_region (h_far pl49_3 rfl 4 rfl wz (h_ldr 0 0 (.inl rfl) (fun _ _ _ => trivial) sz47 ag47 rfl rfl (vL eS x_5.Tags) rfl wz ?_)))))
          obtain ⟨r_43, hr_44, hc_9⟩ := bind_some hc_9
          refine h_call0 (booking_tagsFault_ok hr_44) rfl hb48 rfl rfl rfl rfl wz (h_op (vI r_43) wz rfl (h_nil (wH_seq (wH_region (h_op (vI r_43) wz rfl (h_op (vB (r_43 != 0)) wz rfl (h_nil ?_)))))))
          rcases cond_some hc_9 with ⟨hc_45, hc_9⟩ | ⟨hc_45, hc_9⟩
          ·refine wH_ift rfl hc_45 (wH_seq (wH_region (h_op (vI r_43) wz rfl (h_op (vI r_43) wz rfl (h_nil ?_)))))
           obtain rfl := some_inj hc_9
           obtain rfl := some_inj hL_10
           obtain rfl := some_inj hF
           exact wH_ret (fin0 (.inr rfl) [(vI r_43)] ⟨rfl, trivial⟩ rfl rfl rfl)
          ·refine wH_iff rfl hc_45 (wH_skip (wH_region (h_opw (w64_next hD_6 hn_7) wz rfl (h_op (vI ((k_3 + 1 : Nat) : Int)) wz rfl (h_nil ?_)))))
           obtain rfl := some_inj hc_9
           exact loop_mk (k_3 + 1, l_4, ()) ⟨hL_10, drop_next hD_6⟩ (Nat.lt_succ_self _) rfl (pre_r rfl)
  ·rintro s_8 ho_ sl_ H_ hp_ hq_
   subst ho_
   refine wH_at _ hp_ hq_ (wH_seq (wH_region (h_op (vI 0) wz rfl (h_nil ?_))))
   obtain rfl := some_inj hF
   exact wH_ret (fin0 (.inr rfl) [(vI 0)] ⟨rfl, trivial⟩ rfl rfl rfl)
theorem kit_IsMoment_ok {n_1 : Int} {r : Bool} (hF : kit_IsMoment n_1 = some r) :
  FnM Tryd.prog 37 [(vI n_1)] [] (vB r) [] := by
 refine FnM.of_wH ⟨Tryd.prog, 9, [], []⟩ rfl Tryd.func37 rfl rfl (Nat.le_of_ble_eq_true rfl) (by kernel_rfl) ?_
 unfold kit_IsMoment at hF
 refine wH_seq (wH_region (h_op (vB false) wz rfl (h_nil (wH_seq ?_))))
 obtain ⟨v_2, h_3, hF⟩ := bind_some hF
 refine wH_join (β := Unit) (fun _ => ([(2, (vB v_2))] : List (Nat × V))) (fun _ => ([] : Hp)) (fun _ => True) ?_ ?_
 ·refine wH_region (h_op (vI n_1) wz rfl (h_op (vB (decide (n_1 ≥ 0))) wz rfl ?_))
  rcases cond_some h_3 with ⟨hc_4, h_3⟩ | ⟨hc_4, h_3⟩
  ·refine h_movb rfl hc_4 wz (h_op (vI n_1) (wg rfl rfl rfl) rfl (h_op (vB (decide (n_1 < 345686400000))) (wg rfl rfl rfl) rfl (h_op (vB (decide (n_1 < 345686400000))) wz rfl (h_op (vB (decide (n_1 < 345686400000))) wz rfl (h_nil ?_)))))
   obtain rfl := some_inj h_3
   exact cut_mk () trivial rfl (pre_r rfl)
  ·refine h_movb rfl hc_4 wz (h_skip (wg rfl rfl rfl) (h_skip (wg rfl rfl rfl) (h_op (vB false) wz rfl (h_op (vB false) wz rfl (h_nil ?_)))))
   obtain rfl := some_inj h_3
   exact cut_mk () trivial rfl (pre_r rfl)
 ·rintro ⟨⟩ _ sl_ H_ hp_ hq_
  refine wH_at _ hp_ hq_ ?_
  obtain rfl := some_inj hF
  exact wH_ret (fin0 (.inr rfl) [(vB v_2)] ⟨rfl, trivial⟩ rfl rfl rfl)
theorem booking_paceFault_ok {l_1 : (List Campaign)} {plays_2 : (List Play)} {atv_3 : Int} {r : Int} (hF : booking_paceFault l_1 plays_2 atv_3 = some r) :
  FnM Tryd.prog 28 [(vL Campaign.enc l_1), (vL Play.enc plays_2), (vI atv_3)] [] (vI r) [] := by
 refine FnM.of_wH ⟨Tryd.prog, 47, [], []⟩ rfl Tryd.func28 rfl rfl (Nat.le_of_ble_eq_true rfl) (by kernel_rfl) ?_
 unfold booking_paceFault at hF
 refine wH_seq (wH_region (h_op (vI 0) wz rfl (h_nil (wH_seq (wH_seq (wH_region (h_op (vL Campaign.enc l_1) wz rfl ?_)))))))
 obtain ⟨r_4, hr_5, hF⟩ := bind_some hF
 refine h_call0 (booking_CheckCampaigns_ok hr_5) rfl hb36 rfl rfl rfl rfl wz (h_op (vI r_4) wz rfl (h_nil (wH_seq (wH_region (h_op (vI r_4) wz rfl (h_op (vB (r_4 != 0)) wz rfl (h_nil ?_)))))))
 rcases cond_some hF with ⟨hc_6, hF⟩ | ⟨hc_6, hF⟩
 ·refine wH_ift rfl hc_6 (wH_seq (wH_region (h_op (vI r_4) wz rfl (h_op (vI r_4) wz rfl (h_nil ?_)))))
  obtain rfl := some_inj hF
  exact wH_ret (fin0 (.inr rfl) [(vI r_4)] ⟨rfl, trivial⟩ rfl rfl rfl)
 ·refine wH_iff rfl hc_6 (wH_skip (wH_seq (wH_seq (wH_region (h_op (vL Play.enc plays_2) wz rfl (h_len un28 rfl wz (h_op (vB (decide ((plays_2.length : Int) > 3000))) wz rfl (h_nil ?_))))))))
  rcases cond_some hF with ⟨hc_7, hF⟩ | ⟨hc_7, hF⟩
  ·refine wH_ift rfl hc_7 (wH_seq (wH_region (h_op (vI 2) wz rfl (h_nil ?_))))
   obtain rfl := some_inj hF
   exact wH_ret (fin0 (.inr rfl) [(vI 2)] ⟨rfl, trivial⟩ rfl rfl rfl)
  ·refine wH_iff rfl hc_7 (wH_skip (wH_seq (wH_seq (wH_region (h_op (vL Play.enc plays_2) wz rfl (h_len un28 rfl wz (h_op (vI 0) wz rfl (h_nil ?_))))))))
   obtain ⟨o_16, hj_17, hF⟩ := bind_some hF
   obtain ⟨hn_12, hj_17⟩ := forL_some hj_17
   refine wH_join (β := (Unit)) (fun (s_13 : Unit) => ([(2, (vI atv_3))] : List (Nat × V))) (fun (s_13 : Unit) => ([] : Hp)) (fun p => o_16 = .go p) ?_ ?_
   ·refine wH_block (wH_loop (β := Nat × (List Play) × (Unit)) (fun p => (fun (k_8 : Nat) (l_9 : List Play) (s_13 : Unit) => ([(2, (vI atv_3)), (18, (vL Play.enc plays_2)), (19, (vI (plays_2.length : Int))), (20, (vI (k_8 : Int)))] : List (Nat × V))) p.1 p.2.1 p.2.2) (fun p => (fun (k_8 : Nat) (l_9 : List Play) (s_13 : Unit) => ([] : Hp)) p.1 p.2.1 p.2.2) (fun p => forR (fun k x s => booking_paceFault_L1 k x s) p.2.1 p.1 p.2.2 = some o_16 ∧ (plays_2).drop p.1 = p.2.1) (fun p => p.2.1.length) (0, plays_2, ()) ⟨hj_17, rfl⟩ rfl (pre_r rfl) ?_)
    rintro ⟨k_8, l_9, s_13⟩ ⟨hL_15, hD_11⟩
    dsimp only at hL_15 hD_11
    cases l_9 with
    | nil =>
     obtain rfl := some_inj hL_15
     refine wH_seq (wH_region (h_op (vB (decide ((k_8 : Int) < (plays_2.length : Int)))) wz rfl (h_nil ?_)))
     refine wH_seq (wH_iff rfl (drop_nil hD_11) (wH_exit ?_))
     exact cut_mk (s_13) rfl rfl (pre_r rfl)
    | cons x_10 l_9 =>
     obtain ⟨c_, hc_14, hL_15⟩ := bind_some hL_15
     refine wH_seq (wH_region (h_op (vB (decide ((k_8 : Int) < (plays_2.length : Int)))) wz rfl (h_nil ?_)))
     refine wH_seq (wH_ift rfl (drop_cons hD_11) (wH_skip ?_))
     unfold booking_paceFault_L1 at hc_14
     refine wH_seq (wH_block (wH_seq (wH_region (h_ia es28 rfl rfl (drop_idx hD_11) rfl wz (h_ldc sz71 ag71 rfl (.d (.agg (Play.enc x_10))) rfl wz (h_alloc 0 (.inl rfl) z71 rfl wz (fun n_18 => h_str 0 (.inl rfl) (fun _ _ _ => trivial) 0 sz71 rfl rfl [(vS x_10.Player), (vS x_10.Item), (vI x_10.At), (vI x_10.Long)] rfl wz (h_nil (wH_seq (wH_seq ?_))))))))))
     obtain ⟨v_19, h_20, hc_14⟩ := bind_some hc_14
     refine wH_join (β := Unit) (fun _ => ([(2, (vI atv_3)), (9, (.ref n_18 0 0)), (18, (vL Play.enc plays_2)), (19, (vI (plays_2.length : Int))), (20, (vI (k_8 : Int))), (33, (vB v_19))] : List (Nat × V))) (fun _ => ([(n_18, some (.cells 4 [(vS x_10.Player), (vS x_10.Item), (vI x_10.At), (vI x_10.Long)]))] : Hp)) (fun _ => True) ?_ ?_
     ·refine wH_region (h_far pl71_0 rfl 0 rfl wz (h_ldr 0 0 (.inl rfl) (fun _ _ _ => trivial) sz9 ag9 rfl rfl (vS x_10.Player) rfl wz ?_))
      obtain ⟨r_21, hr_22, h_20⟩ := bind_some h_20
      refine h_call0 (kit_IsKey_ok hr_22) rfl hb42 rfl rfl rfl rfl wz (h_op (vB (!r_21)) wz rfl ?_)
      rcases cond_some h_20 with ⟨hc_23, h_20⟩ | ⟨hc_23, h_20⟩
      ·refine h_movb rfl hc_23 wz (h_skip (wg rfl rfl rfl) (h_skip (wg rfl rfl rfl) (h_skip (wg rfl rfl rfl) (h_skip (wg rfl rfl rfl) (h_op (vB true) wz rfl (h_nil ?_))))))
       obtain rfl := some_inj h_20
       exact cut_mk () trivial rfl (pre_r rfl)
      ·refine h_movb rfl hc_23 wz (h_far pl71_1 rfl 1 rfl (wg rfl rfl rfl) (h_ldr 0 0 (.inl rfl) (fun _ _ _ => trivial) sz9 ag9 rfl rfl (vS x_10.Item) rfl (wg rfl rfl rfl) ?_))
       obtain ⟨r_24, hr_25, h_20⟩ := bind_some h_20
       refine h_call0 (kit_IsKey_ok hr_25) rfl hb42 rfl rfl rfl rfl (wg rfl rfl rfl) (h_op (vB (!r_24)) (wg rfl rfl rfl) rfl (h_op (vB (!r_24)) wz rfl (h_nil ?_)))
       obtain rfl := some_inj h_20
       exact cut_mk () trivial rfl (pre_r rfl)
     ·rintro ⟨⟩ _ sl_ H_ hp_ hq_
      refine wH_at _ hp_ hq_ ?_
      rcases cond_some hc_14 with ⟨hc_26, hc_14⟩ | ⟨hc_26, hc_14⟩
      ·refine wH_ift rfl hc_26 (wH_seq (wH_region (h_op (vI 5) wz rfl (h_nil ?_))))
       obtain rfl := some_inj hc_14
       obtain rfl := some_inj hL_15
       obtain rfl := some_inj hF
       exact wH_ret (fin0 (.inr rfl) [(vI 5)] ⟨rfl, trivial⟩ rfl rfl rfl)
      ·refine wH_iff rfl hc_26 (wH_skip (wH_seq ?_))
       obtain ⟨v_27, h_28, hc_14⟩ := bind_some hc_14
       refine wH_join (β := Unit) (fun _ => ([(2, (vI atv_3)), (18, (vL Play.enc plays_2)), (19, (vI (plays_2.length : Int))), (20, (vI (k_8 : Int))), (42, (vB v_27))] : List (Nat × V))) (fun _ => ([(n_18, some (.cells 4 [(vS x_10.Player), (vS x_10.Item), (vI x_10.At), (vI x_10.Long)]))] : Hp)) (fun _ => True) ?_ ?_
       ·refine wH_region (h_far pl71_2 rfl 2 rfl wz (h_ldr 0 0 (.inl rfl) (fun _ _ _ => trivial) sz3 ag3 rfl rfl (vI x_10.At) rfl wz ?_))
        obtain ⟨r_29, hr_30, h_28⟩ := bind_some h_28
        refine h_call0 (kit_IsMoment_ok hr_30) rfl hb37 rfl rfl rfl rfl wz (h_op (vB (!r_29)) wz rfl ?_)
        rcases cond_some h_28 with ⟨hc_31, h_28⟩ | ⟨hc_31, h_28⟩
        ·refine h_movb rfl hc_31 wz (h_skip (wg rfl rfl rfl) (h_skip (wg rfl rfl rfl) (h_skip (wg rfl rfl rfl) (h_op (vB true) wz rfl (h_nil ?_)))))
         obtain rfl := some_inj h_28
         exact cut_mk () trivial rfl (pre_r rfl)
        ·refine h_movb rfl hc_31 wz (h_far pl71_3 rfl 3 rfl (wg rfl rfl rfl) (h_ldr 0 0 (.inl rfl) (fun _ _ _ => trivial) sz3 ag3 rfl rfl (vI x_10.Long) rfl (wg rfl rfl rfl) ?_))
         obtain ⟨r_32, hr_33, h_28⟩ := bind_some h_28
         refine h_call0 (kit_Outside_ok hr_33) rfl hb43 rfl rfl rfl rfl (wg rfl rfl rfl) (h_op (vB r_32) wz rfl (h_nil ?_))
         obtain rfl := some_inj h_28
         exact cut_mk () trivial rfl (pre_r rfl)
       ·rintro ⟨⟩ _ sl_ H_ hp_ hq_
        refine wH_at _ hp_ hq_ ?_
        rcases cond_some hc_14 with ⟨hc_34, hc_14⟩ | ⟨hc_34, hc_14⟩
        ·refine wH_ift rfl hc_34 (wH_seq (wH_region (h_op (vI 1) wz rfl (h_nil ?_))))
         obtain rfl := some_inj hc_14
         obtain rfl := some_inj hL_15
         obtain rfl := some_inj hF
         exact wH_ret (fin0 (.inr rfl) [(vI 1)] ⟨rfl, trivial⟩ rfl rfl rfl)
        ·refine wH_iff rfl hc_34 (wH_skip (wH_region (h_opw (w64_next hD_11 hn_12) wz rfl (h_op (vI ((k_8 + 1 : Nat) : Int)) wz rfl (h_nil ?_)))))
         obtain rfl := some_inj hc_14
         exact loop_mk (k_8 + 1, l_9, ()) ⟨hL_15, drop_next hD_11⟩ (Nat.lt_succ_self _) rfl (pre_r rfl)
   ·rintro s_13 ho_ sl_ H_ hp_ hq_
    subst ho_
    refine wH_at _ hp_ hq_ (wH_seq (wH_seq (wH_region (h_op (vI atv_3) wz rfl ?_))))
    obtain ⟨r_35, hr_36, hF⟩ := bind_some hF
    refine h_call0 (kit_IsMoment_ok hr_36) rfl hb37 rfl rfl rfl rfl wz (h_op (vB (!r_35)) wz rfl (h_nil ?_))
    rcases cond_some hF with ⟨hc_37, hF⟩ | ⟨hc_37, hF⟩
    ·refine wH_ift rfl hc_37 (wH_seq (wH_region (h_op (vI 1) wz rfl (h_nil ?_))))
     obtain rfl := some_inj hF
     exact wH_ret (fin0 (.inr rfl) [(vI 1)] ⟨rfl, trivial⟩ rfl rfl rfl)
    ·refine wH_iff rfl hc_37 (wH_skip (wH_seq (wH_region (h_op (vI 0) wz rfl (h_nil ?_)))))
     obtain rfl := some_inj hF
     exact wH_ret (fin0 (.inr rfl) [(vI 0)] ⟨rfl, trivial⟩ rfl rfl rfl)
theorem booking_due_ok {c_1 : Campaign} {atv_2 : Int} {r : Int} (hF : booking_due c_1 atv_2 = some r) :
  FnM Tryd.prog 38 [(.d (.agg (Campaign.enc c_1))), (vI atv_2)] [] (vI r) [] := by
 refine FnM.of_wH ⟨Tryd.prog, 35, [], []⟩ rfl Tryd.func38 rfl rfl (Nat.le_of_ble_eq_true rfl) (by kernel_rfl) ?_
 unfold booking_due at hF
 refine wH_seq (wH_region (h_box 0 (.inl rfl) [(vS c_1.Key), (vS c_1.Class), (vI c_1.Time.From), (vI c_1.Time.To), (vL eS c_1.Tags), (vI c_1.Goal), (vI c_1.Most), (vI c_1.Cents)] rfl rfl wz (fun n_3 => h_op (vI 0) wz rfl (h_nil (wH_seq (wH_block (wH_seq (wH_region (h_op (vI atv_2) wz rfl (h_far pl49_2 rfl 2 rfl wz (h_far pl46_0 rfl 2 rfl wz (h_ldr 0 0 (.inl rfl) (fun _ _ _ => trivial) sz3 ag3 rfl rfl (vI c_1.Time.From) rfl wz (h_op (vB (decide (atv_2 < c_1.Time.From))) wz rfl (h_op (vB (decide (atv_2 < c_1.Time.From))) wz rfl (h_nil ?_)))))))))))))))
 rcases cond_some hF with ⟨hc_4, hF⟩ | ⟨hc_4, hF⟩
 ·refine wH_ift rfl hc_4 (wH_seq (wH_region (h_op (vI 0) wz rfl (h_nil ?_))))
  obtain rfl := some_inj hF
  exact wH_ret (fin0 (.inr rfl) [(vI 0)] ⟨rfl, trivial⟩ rfl rfl rfl)
 ·refine wH_iff rfl hc_4 (wH_seq (wH_region (h_op (vI atv_2) wz rfl (h_far pl49_2 rfl 2 rfl wz (h_far pl46_1 rfl 3 rfl wz (h_ldr 0 0 (.inl rfl) (fun _ _ _ => trivial) sz3 ag3 rfl rfl (vI c_1.Time.To) rfl wz (h_op (vB (decide (atv_2 ≥ c_1.Time.To))) wz rfl (h_op (vB (decide (atv_2 ≥ c_1.Time.To))) wz rfl (h_nil ?_)))))))))
  rcases cond_some hF with ⟨hc_5, hF⟩ | ⟨hc_5, hF⟩
  ·refine wH_ift rfl hc_5 (wH_seq (wH_region (h_far pl49_4 rfl 5 rfl wz (h_ldr 0 0 (.inl rfl) (fun _ _ _ => trivial) sz3 ag3 rfl rfl (vI c_1.Goal) rfl wz (h_op (vI c_1.Goal) wz rfl (h_nil ?_))))))
   obtain rfl := some_inj hF
   exact wH_ret (fin0 (.inr rfl) [(vI c_1.Goal)] ⟨rfl, trivial⟩ rfl rfl rfl)
  ·refine wH_iff rfl hc_5 (wH_skip (wH_seq (wH_region (h_far pl49_4 rfl 5 rfl wz (h_ldr 0 0 (.inl rfl) (fun _ _ _ => trivial) sz3 ag3 rfl rfl (vI c_1.Goal) rfl wz (h_op (vI atv_2) wz rfl (h_far pl49_2 rfl 2 rfl wz (h_far pl46_0 rfl 2 rfl wz (h_ldr 0 0 (.inl rfl) (fun _ _ _ => trivial) sz3 ag3 rfl rfl (vI c_1.Time.From) rfl wz (h_op (vI (w64 (atv_2 - c_1.Time.From))) wz rfl (h_op (vI (w64 (c_1.Goal * (w64 (atv_2 - c_1.Time.From))))) wz rfl (h_far pl49_2 rfl 2 rfl wz (h_far pl46_1 rfl 3 rfl wz (h_ldr 0 0 (.inl rfl) (fun _ _ _ => trivial) sz3 ag3 rfl rfl (vI c_1.Time.To) rfl wz (h_far pl49_2 rfl 2 rfl wz (h_far pl46_0 rfl 2 rfl wz (h_ldr 0 0 (.inl rfl) (fun _ _ _ => trivial) sz3 ag3 rfl rfl (vI c_1.Time.From) rfl wz (h_op (vI (w64 (c_1.Time.To - c_1.Time.From))) wz rfl ?_))))))))))))))))))
   obtain ⟨q_6, hz_7, hF⟩ := bind_some hF
   refine h_quo rfl rfl hz_7 wz (h_op (vI q_6) wz rfl (h_nil (wH_at (H0 := ([(n_3, some (.cells 8 [(vS c_1.Key), (vS c_1.Class), (vI c_1.Time.From), (vI c_1.Time.To), (vL eS c_1.Tags), (vI c_1.Goal), (vI c_1.Most), (vI c_1.Cents)]))] : Hp)) ([(4, (vI q_6))] : List (Nat × V)) (by kernel_rfl) (pre_mk (by kernel_rfl)) ?_)))
   obtain rfl := some_inj hF
   exact wH_ret (fin0 (.inr rfl) [(vI q_6)] ⟨rfl, trivial⟩ rfl rfl rfl)
theorem booking_paces_ok {l_1 : (List Campaign)} {plays_2 : (List Play)} {atv_3 : Int} {r : (List Pace)} (hF : booking_paces l_1 plays_2 atv_3 = some r) :
  FnM Tryd.prog 29 [(vL Campaign.enc l_1), (vL Play.enc plays_2), (vI atv_3)] [] (vL Pace.enc r) [] := by
 refine FnM.of_wH ⟨Tryd.prog, 69, [], []⟩ rfl Tryd.func29 rfl rfl (Nat.le_of_ble_eq_true rfl) (by kernel_rfl) ?_
 unfold booking_paces at hF
 refine wH_seq (wH_region (h_op .nil wz rfl (h_nil (wH_seq (wH_region (h_op .nil wz rfl (h_nil (wH_seq (wH_seq (wH_region (h_op (vL Campaign.enc l_1) wz rfl (h_len un26 rfl wz (h_op (vI 0) wz rfl (h_nil (wH_new (fun n_10 => ?_))))))))))))))))
 obtain ⟨o_15, hj_16, hF⟩ := bind_some hF
 obtain ⟨hn_8, hj_16⟩ := forL_some hj_16
 refine wH_join (β := ((List Pace)) × Nm) (fun p => (fun (s_9 : (List Pace)) (n_12 : Nm) => ([(7, (gV n_12 3 s_9))] : List (Nat × V))) p.1 p.2) (fun p => (fun (s_9 : (List Pace)) (n_12 : Nm) => ([(n_12, gB 3 Pace.enc s_9)] : Hp)) p.1 p.2) (fun p => o_15 = .go p.1) ?_ ?_
 ·refine wH_block (wH_loop (β := Nat × (List Campaign) × ((List Pace)) × Nm) (fun p => (fun (k_4 : Nat) (l_5 : List Campaign) (s_9 : (List Pace)) (n_12 : Nm) => ([(1, (vL Play.enc plays_2)), (2, (vI atv_3)), (7, (gV n_12 3 s_9)), (13, (vL Campaign.enc l_1)), (14, (vI (l_1.length : Int))), (15, (vI (k_4 : Int)))] : List (Nat × V))) p.1 p.2.1 p.2.2.1 p.2.2.2) (fun p => (fun (k_4 : Nat) (l_5 : List Campaign) (s_9 : (List Pace)) (n_12 : Nm) => ([(n_12, gB 3 Pace.enc s_9)] : Hp)) p.1 p.2.1 p.2.2.1 p.2.2.2) (fun p => forR (fun k x s => booking_paces_L2 atv_3 plays_2 k x s) p.2.1 p.1 p.2.2.1 = some o_15 ∧ (l_1).drop p.1 = p.2.1) (fun p => p.2.1.length) (0, l_1, ([] : List Pace), n_10) ⟨hj_16, rfl⟩ rfl (pre_r rfl) ?_)
  rintro ⟨k_4, l_5, s_9, n_12⟩ ⟨hL_14, hD_7⟩
  dsimp only at hL_14 hD_7
  cases l_5 with
  | nil =>
   obtain rfl := some_inj hL_14
   refine wH_seq (wH_region (h_op (vB (decide ((k_4 : Int) < (l_1.length : Int)))) wz rfl (h_nil ?_)))
   refine wH_seq (wH_iff rfl (drop_nil hD_7) (wH_exit ?_))
   exact cut_mk (s_9, n_12) rfl rfl (pre_r rfl)
  | cons x_6 l_5 =>
   obtain ⟨c_, hc_13, hL_14⟩ := bind_some hL_14
   refine wH_seq (wH_region (h_op (vB (decide ((k_4 : Int) < (l_1.length : Int)))) wz rfl (h_nil ?_)))
   refine wH_seq (wH_ift rfl (drop_cons hD_7) (wH_skip ?_))
   unfold booking_paces_L2 at hc_13
   refine wH_seq (wH_block (wH_seq (wH_region (h_ia es26 rfl rfl (drop_idx hD_7) rfl wz (h_ldc sz49 ag49 rfl (.d (.agg (Campaign.enc x_6))) rfl wz (h_alloc 0 (.inl rfl) z49 rfl wz (fun n_17 => h_str 0 (.inl rfl) (fun _ _ _ => trivial) 1 sz49 rfl rfl [(vS x_6.Key), (vS x_6.Class), (vI x_6.Time.From), (vI x_6.Time.To), (vL eS x_6.Tags), (vI x_6.Goal), (vI x_6.Most), (vI x_6.Cents)] rfl wz (h_nil (wH_seq (wH_draws (h_far pl49_0 rfl 0 rfl wz (h_ldr 1 1 (.inr (by kernel_rfl)) (fun _ _ ag => trivial) sz9 ag9 rfl rfl (vS x_6.Key) rfl wz (h_ldr 2 1 (.inr (by kernel_rfl)) (fun _ _ ag => ⟨.inl ⟨rfl, rfl⟩, trivial⟩) sz49 ag49 rfl rfl (.d (.agg (Campaign.enc x_6))) rfl wz (h_op (vI atv_3) wz rfl ?_))))))))))))))
   obtain ⟨r_18, hr_19, hc_13⟩ := bind_some hc_13
   refine h_call0 (booking_due_ok hr_19) rfl hb38 rfl rfl rfl rfl wz (h_op (.d (.agg (Pace.enc (⟨x_6.Key, r_18, 0⟩ : Pace)))) wz (by kernel_rfl) (h_alloc 6 (.inr (by kernel_rfl)) z58 rfl wz (fun n_20 => h_str 7 (.inr (by kernel_rfl)) (fun _ _ ag => ⟨.inr (.inr (by kernel_rfl)), ⟨.inr (.inr (by kernel_rfl)), ⟨.inr (.inr (by kernel_rfl)), trivial⟩⟩⟩) 2 sz58 rfl rfl [(vS x_6.Key), (vI r_18), (vI 0)] rfl wz (h_nil (wH_seq (wH_seq (wH_region (h_op (vL Play.enc plays_2) wz rfl (h_len un28 rfl wz (h_op (vI 0) wz rfl (h_nil ?_)))))))))))
   obtain ⟨o_29, hj_30, hc_13⟩ := bind_some hc_13
   obtain ⟨hn_25, hj_30⟩ := forL_some hj_30
   refine wH_join (β := (Int)) (fun (s_26 : Int) => ([(1, (vL Play.enc plays_2)), (2, (vI atv_3)), (7, (gV n_12 3 s_9)), (10, (.ref n_20 0 0)), (13, (vL Campaign.enc l_1)), (14, (vI (l_1.length : Int))), (15, (vI (k_4 : Int)))] : List (Nat × V))) (fun (s_26 : Int) => ([(n_12, gB 3 Pace.enc s_9), (n_17, some (.cells 8 [(vS x_6.Key), (vS x_6.Class), (vI x_6.Time.From), (vI x_6.Time.To), (vL eS x_6.Tags), (vI x_6.Goal), (vI x_6.Most), (vI x_6.Cents)])), (n_20, some (.cells 3 [(vS x_6.Key), (vI r_18), (vI s_26)]))] : Hp)) (fun p => o_29 = .go p) ?_ ?_
   ·refine wH_block (wH_loop (β := Nat × (List Play) × (Int)) (fun p => (fun (k_21 : Nat) (l_22 : List Play) (s_26 : Int) => ([(1, (vL Play.enc plays_2)), (2, (vI atv_3)), (7, (gV n_12 3 s_9)), (9, (.ref n_17 0 0)), (10, (.ref n_20 0 0)), (13, (vL Campaign.enc l_1)), (14, (vI (l_1.length : Int))), (15, (vI (k_4 : Int))), (25, (vL Play.enc plays_2)), (26, (vI (plays_2.length : Int))), (27, (vI (k_21 : Int)))] : List (Nat × V))) p.1 p.2.1 p.2.2) (fun p => (fun (k_21 : Nat) (l_22 : List Play) (s_26 : Int) => ([(n_12, gB 3 Pace.enc s_9), (n_17, some (.cells 8 [(vS x_6.Key), (vS x_6.Class), (vI x_6.Time.From), (vI x_6.Time.To), (vL eS x_6.Tags), (vI x_6.Goal), (vI x_6.Most), (vI x_6.Cents)])), (n_20, some (.cells 3 [(vS x_6.Key), (vI r_18), (vI s_26)]))] : Hp)) p.1 p.2.1 p.2.2) (fun p => forR (fun k x s => booking_paces_L1 x_6 atv_3 k x s) p.2.1 p.1 p.2.2 = some o_29 ∧ (plays_2).drop p.1 = p.2.1) (fun p => p.2.1.length) (0, plays_2, 0) ⟨hj_30, rfl⟩ rfl (pre_r rfl) ?_)
    rintro ⟨k_21, l_22, s_26⟩ ⟨hL_28, hD_24⟩
    dsimp only at hL_28 hD_24
    cases l_22 with
    | nil =>
     obtain rfl := some_inj hL_28
     refine wH_seq (wH_region (h_op (vB (decide ((k_21 : Int) < (plays_2.length : Int)))) wz rfl (h_nil ?_)))
     refine wH_seq (wH_iff rfl (drop_nil hD_24) (wH_exit ?_))
     exact cut_mk (s_26) rfl rfl (pre_r rfl)
    | cons x_23 l_22 =>
     obtain ⟨c_, hc_27, hL_28⟩ := bind_some hL_28
     refine wH_seq (wH_region (h_op (vB (decide ((k_21 : Int) < (plays_2.length : Int)))) wz rfl (h_nil ?_)))
     refine wH_seq (wH_ift rfl (drop_cons hD_24) (wH_skip ?_))
     unfold booking_paces_L1 at hc_27
     refine wH_seq (wH_block (wH_seq (wH_region (h_ia es28 rfl rfl (drop_idx hD_24) rfl wz (h_ldc sz71 ag71 rfl (.d (.agg (Play.enc x_23))) rfl wz (h_alloc 0 (.inl rfl) z71 rfl wz (fun n_31 => h_str 0 (.inl rfl) (fun _ _ _ => trivial) 3 sz71 rfl rfl [(vS x_23.Player), (vS x_23.Item), (vI x_23.At), (vI x_23.Long)] rfl wz (h_nil (wH_seq ?_)))))))))
     obtain ⟨v_32, h_33, hc_27⟩ := bind_some hc_27
     refine wH_join (β := Unit) (fun _ => ([(1, (vL Play.enc plays_2)), (2, (vI atv_3)), (7, (gV n_12 3 s_9)), (9, (.ref n_17 0 0)), (10, (.ref n_20 0 0)), (13, (vL Campaign.enc l_1)), (14, (vI (l_1.length : Int))), (15, (vI (k_4 : Int))), (25, (vL Play.enc plays_2)), (26, (vI (plays_2.length : Int))), (27, (vI (k_21 : Int))), (57, (vB v_32))] : List (Nat × V))) (fun _ => ([(n_12, gB 3 Pace.enc s_9), (n_17, some (.cells 8 [(vS x_6.Key), (vS x_6.Class), (vI x_6.Time.From), (vI x_6.Time.To), (vL eS x_6.Tags), (vI x_6.Goal), (vI x_6.Most), (vI x_6.Cents)])), (n_20, some (.cells 3 [(vS x_6.Key), (vI r_18), (vI s_26)])), (n_31, some (.cells 4 [(vS x_23.Player), (vS x_23.Item), (vI x_23.At), (vI x_23.Long)]))] : Hp)) (fun _ => True) ?_ ?_
     ·refine wH_region (h_far pl71_1 rfl 1 rfl wz (h_ldr 0 3 (.inl rfl) (fun _ _ _ => trivial) sz9 ag9 rfl rfl (vS x_23.Item) rfl wz (h_far pl49_0 rfl 0 rfl wz (h_ldr 0 1 (.inl rfl) (fun _ _ _ => trivial) sz9 ag9 rfl rfl (vS x_6.Key) rfl wz (h_op (vB (sEq x_23.Item x_6.Key)) wz rfl ?_)))))
      rcases cond_some h_33 with ⟨hc_34, h_33⟩ | ⟨hc_34, h_33⟩
      ·refine h_movb rfl hc_34 wz (h_far pl49_2 rfl 2 rfl (wg rfl rfl rfl) (h_far pl46_0 rfl 2 rfl (wg rfl rfl rfl) (h_ldr 0 1 (.inl rfl) (fun _ _ _ => trivial) sz3 ag3 rfl rfl (vI x_6.Time.From) rfl (wg rfl rfl rfl) (h_far pl71_2 rfl 2 rfl (wg rfl rfl rfl) (h_ldr 0 3 (.inl rfl) (fun _ _ _ => trivial) sz3 ag3 rfl rfl (vI x_23.At) rfl (wg rfl rfl rfl) (h_op (vB (decide (x_6.Time.From ≤ x_23.At))) (wg rfl rfl rfl) rfl (h_op (vB (decide (x_6.Time.From ≤ x_23.At))) wz rfl ?_)))))))
       rcases cond_some h_33 with ⟨hc_35, h_33⟩ | ⟨hc_35, h_33⟩
       ·refine h_movb rfl hc_35 wz (h_far pl71_2 rfl 2 rfl (wg rfl rfl rfl) (h_ldr 0 3 (.inl rfl) (fun _ _ _ => trivial) sz3 ag3 rfl rfl (vI x_23.At) rfl (wg rfl rfl rfl) (h_far pl49_2 rfl 2 rfl (wg rfl rfl rfl) (h_far pl46_1 rfl 3 rfl (wg rfl rfl rfl) (h_ldr 0 1 (.inl rfl) (fun _ _ _ => trivial) sz3 ag3 rfl rfl (vI x_6.Time.To) rfl (wg rfl rfl rfl) (h_op (vB (decide (x_23.At < x_6.Time.To))) (wg rfl rfl rfl) rfl (h_op (vB (decide (x_23.At < x_6.Time.To))) wz rfl ?_)))))))
        rcases cond_some h_33 with ⟨hc_36, h_33⟩ | ⟨hc_36, h_33⟩
        ·refine h_movb rfl hc_36 wz (h_far pl71_2 rfl 2 rfl (wg rfl rfl rfl) (h_ldr 0 3 (.inl rfl) (fun _ _ _ => trivial) sz3 ag3 rfl rfl (vI x_23.At) rfl (wg rfl rfl rfl) (h_op (vI atv_3) (wg rfl rfl rfl) rfl (h_op (vB (decide (x_23.At < atv_3))) (wg rfl rfl rfl) rfl (h_op (vB (decide (x_23.At < atv_3))) wz rfl (h_nil ?_))))))
         obtain rfl := some_inj h_33
         exact cut_mk () trivial rfl (pre_r rfl)
        ·refine h_movb rfl hc_36 wz (h_skip (wg rfl rfl rfl) (h_skip (wg rfl rfl rfl) (h_skip (wg rfl rfl rfl) (h_skip (wg rfl rfl rfl) (h_op (vB false) wz rfl (h_nil ?_))))))
         obtain rfl := some_inj h_33
         exact cut_mk () trivial rfl (pre_r rfl)
       ·refine h_movb rfl hc_35 wz (h_skip (wg rfl rfl rfl) (h_skip (wg rfl rfl rfl) (h_skip (wg rfl rfl rfl) (h_skip (wg rfl rfl rfl) (h_skip (wg rfl rfl rfl) (h_skip (wg rfl rfl rfl) (h_op (vB false) wz rfl (h_op (vB false) wz rfl (h_skip (wg rfl rfl rfl) (h_skip (wg rfl rfl rfl) (h_skip (wg rfl rfl rfl) (h_skip (wg rfl rfl rfl) (h_op (vB false) wz rfl (h_nil ?_))))))))))))))
        obtain rfl := some_inj h_33
        exact cut_mk () trivial rfl (pre_r rfl)
      ·refine h_movb rfl hc_34 wz (h_skip (wg rfl rfl rfl) (h_skip (wg rfl rfl rfl) (h_skip (wg rfl rfl rfl) (h_skip (wg rfl rfl rfl) (h_skip (wg rfl rfl rfl) (h_skip (wg rfl rfl rfl) (h_op (vB false) wz rfl (h_op (vB false) wz rfl (h_skip (wg rfl rfl rfl) (h_skip (wg rfl rfl rfl) (h_skip (wg rfl rfl rfl) (h_skip (wg rfl rfl rfl) (h_skip (wg rfl rfl rfl) (h_skip (wg rfl rfl rfl) (h_op (vB false) wz rfl (h_op (vB false) wz rfl (h_skip (wg rfl rfl rfl) (h_skip (wg rfl rfl rfl) (h_skip (wg rfl rfl rfl) (h_skip (wg rfl rfl rfl) (h_op (vB false) wz rfl (h_nil ?_))))))))))))))))))))))
       obtain rfl := some_inj h_33
       exact cut_mk () trivial rfl (pre_r rfl)
     ·rintro ⟨⟩ _ sl_ H_ hp_ hq_
      refine wH_at _ hp_ hq_ ?_
      obtain ⟨v_37, h_38, hc_27⟩ := bind_some hc_27
      refine wH_join (β := Unit) (fun _ => ([(1, (vL Play.enc plays_2)), (2, (vI atv_3)), (7, (gV n_12 3 s_9)), (9, (.ref n_17 0 0)), (10, (.ref n_20 0 0)), (13, (vL Campaign.enc l_1)), (14, (vI (l_1.length : Int))), (15, (vI (k_4 : Int))), (25, (vL Play.enc plays_2)), (26, (vI (plays_2.length : Int))), (27, (vI (k_21 : Int)))] : List (Nat × V))) (fun _ => ([(n_12, gB 3 Pace.enc s_9), (n_17, some (.cells 8 [(vS x_6.Key), (vS x_6.Class), (vI x_6.Time.From), (vI x_6.Time.To), (vL eS x_6.Tags), (vI x_6.Goal), (vI x_6.Most), (vI x_6.Cents)])), (n_20, some (.cells 3 [(vS x_6.Key), (vI r_18), (vI v_37)])), (n_31, some (.cells 4 [(vS x_23.Player), (vS x_23.Item), (vI x_23.At), (vI x_23.Long)]))] : Hp)) (fun _ => True) ?_ ?_
      ·rcases cond_some h_38 with ⟨hc_39, h_38⟩ | ⟨hc_39, h_38⟩
       ·refine wH_ift rfl hc_39 (wH_region (h_far pl58_2 rfl 2 rfl wz (h_ldr 0 2 (.inl rfl) (fun _ _ _ => trivial) sz3 ag3 rfl rfl (vI s_26) rfl wz (h_op (vI (w64 (s_26 + 1))) wz rfl (h_far pl58_2 rfl 2 rfl wz (h_str 0 (.inl rfl) (fun _ _ _ => trivial) 2 sz3 rfl rfl [(vS x_6.Key), (vI r_18), (vI (w64 (s_26 + 1)))] rfl wz (h_nil ?_)))))))
        obtain rfl := some_inj h_38
        exact cut_mk () trivial rfl (pre_r rfl)
       ·refine wH_iff rfl hc_39 (wH_skip ?_)
        obtain rfl := some_inj h_38
        exact cut_mk () trivial rfl (pre_r rfl)
      ·rintro ⟨⟩ _ sl_ H_ hp_ hq_
       refine wH_at _ hp_ hq_ (wH_region (h_opw (w64_next hD_24 hn_25) wz rfl (h_op (vI ((k_21 + 1 : Nat) : Int)) wz rfl (h_nil ?_))))
       obtain rfl := some_inj hc_27
       exact loop_mk (k_21 + 1, l_22, v_37) ⟨hL_28, drop_next hD_24⟩ (Nat.lt_succ_self _) rfl (pre_r rfl)
   ·rintro s_26 ho_ sl_ H_ hp_ hq_
    subst ho_
    refine wH_at _ hp_ hq_ (wH_region (h_op (gV n_12 3 s_9) wz rfl (h_ldr 0 2 (.inl rfl) (fun _ _ _ => trivial) sz58 ag58 rfl rfl (.d (.agg (Pace.enc (⟨x_6.Key, r_18, s_26⟩ : Pace)))) rfl wz (h_lit (([(⟨x_6.Key, r_18, s_26⟩ : Pace)] : List Pace).map Pace.enc) es32 ez32 rfl rfl rfl rfl rfl wz ?_))))
    obtain ⟨a_40, hz_41, hc_13⟩ := bind_some hc_13
    refine h_appg 0 (.inl rfl) (fun _ _ _ => trivial) (i := 0) el32 el32 sz58 z58 rfl (by decide) by58 (by decide) (fun _ => rfl) rfl rfl rfl hz_41 wz (fun n_42 => h_op (gV n_42 3 a_40) wz rfl (h_nil (wH_region (h_opw (w64_next hD_7 hn_8) wz rfl (h_op (vI ((k_4 + 1 : Nat) : Int)) wz rfl (h_nil ?_))))))
    obtain rfl := some_inj hc_13
    exact loop_mk (k_4 + 1, l_5, a_40, n_42) ⟨hL_14, drop_next hD_7⟩ (Nat.lt_succ_self _) rfl (pre_r rfl)
 ·rintro ⟨s_9, n_12⟩ ho_ sl_ H_ hp_ hq_
  subst ho_
  refine wH_at _ hp_ hq_ (wH_seq (wH_region (h_op (gV n_12 3 s_9) wz rfl (h_op (gV n_12 3 s_9) wz rfl (h_nil (wH_frozg 0 rfl (wH_cog 6 0 rfl rfl (wH_cog 7 0 rfl rfl (wH_cog 68 0 rfl rfl ?_)))))))))
  obtain rfl := some_inj hF
  exact wH_ret (fin0 (.inr rfl) [(vL Pace.enc s_9)] ⟨rfl, trivial⟩ rfl rfl rfl)
theorem booking_Paces_ok {l_1 : (List Campaign)} {plays_2 : (List Play)} {atv_3 : Int} {r : (List Pace) × Int} (hF : booking_Paces l_1 plays_2 atv_3 = some r) :
  FnM Tryd.prog 8 [(vL Campaign.enc l_1), (vL Play.enc plays_2), (vI atv_3)] [] (.tup [(vL Pace.enc r.1), (vI r.2)]) [] := by
 refine FnM.of_wH ⟨Tryd.prog, 20, [], []⟩ rfl Tryd.func8 rfl rfl (Nat.le_of_ble_eq_true rfl) (by kernel_rfl) ?_
 unfold booking_Paces at hF
 refine wH_seq (wH_region (h_op .nil wz rfl (h_op (vI 0) wz rfl (h_nil (wH_seq (wH_seq (wH_region (h_op (vL Campaign.enc l_1) wz rfl (h_op (vL Play.enc plays_2) wz rfl (h_op (vI atv_3) wz rfl ?_))))))))))
 obtain ⟨r_4, hr_5, hF⟩ := bind_some hF
 refine h_call0 (booking_paceFault_ok hr_5) rfl hb28 rfl rfl rfl rfl wz (h_op (vI r_4) wz rfl (h_nil (wH_seq (wH_region (h_op (vI r_4) wz rfl (h_op (vB (r_4 != 0)) wz rfl (h_nil ?_)))))))
 rcases cond_some hF with ⟨hc_6, hF⟩ | ⟨hc_6, hF⟩
 ·refine wH_ift rfl hc_6 (wH_seq (wH_region (h_op (vI r_4) wz rfl (h_op .nil wz rfl (h_op (vI r_4) wz rfl (h_nil ?_))))))
  obtain rfl := some_inj hF
  exact wH_ret (fin0 (.inr rfl) [.nil, (vI r_4)] ⟨rfl, ⟨rfl, trivial⟩⟩ rfl rfl rfl)
 ·refine wH_iff rfl hc_6 (wH_skip (wH_seq (wH_region (h_op (vL Campaign.enc l_1) wz rfl (h_op (vL Play.enc plays_2) wz rfl (h_op (vI atv_3) wz rfl ?_))))))
  obtain ⟨r_7, hr_8, hF⟩ := bind_some hF
  refine h_call0 (booking_paces_ok hr_8) rfl hb29 rfl rfl rfl rfl wz (h_op (vL Pace.enc r_7) wz rfl (h_op (vI 0) wz rfl (h_nil ?_)))
  obtain rfl := some_inj hF
  exact wH_ret (fin0 (.inr rfl) [(vL Pace.enc r_7), (vI 0)] ⟨rfl, ⟨rfl, trivial⟩⟩ rfl rfl rfl)
theorem booking_Choose_ok {l_1 : (List Campaign)} {plays_2 : (List Play)} {atv_3 : Int} {r : ByteArray × Bool × Int} (hF : booking_Choose l_1 plays_2 atv_3 = some r) :
  FnM Tryd.prog 9 [(vL Campaign.enc l_1), (vL Play.enc plays_2), (vI atv_3)] [] (.tup [(vS r.1), (vB r.2.1), (vI r.2.2)]) [] := by
 refine FnM.of_wH ⟨Tryd.prog, 99, [], []⟩ rfl Tryd.func9 rfl rfl (Nat.le_of_ble_eq_true rfl) (by kernel_rfl) ?_
 unfold booking_Choose at hF
 refine wH_seq (wH_region (h_op (vS (⟨#[]⟩ : ByteArray)) wz rfl (h_op (vB false) wz rfl (h_op (vI 0) wz rfl (h_nil (wH_seq (wH_seq (wH_region (h_op (vL Campaign.enc l_1) wz rfl (h_op (vL Play.enc plays_2) wz rfl (h_op (vI atv_3) wz rfl ?_)))))))))))
 obtain ⟨r_4, hr_5, hF⟩ := bind_some hF
 refine h_call0 (booking_paceFault_ok hr_5) rfl hb28 rfl rfl rfl rfl wz (h_op (vI r_4) wz rfl (h_nil (wH_seq (wH_region (h_op (vI r_4) wz rfl (h_op (vB (r_4 != 0)) wz rfl (h_nil ?_)))))))
 rcases cond_some hF with ⟨hc_6, hF⟩ | ⟨hc_6, hF⟩
 ·refine wH_ift rfl hc_6 (wH_seq (wH_region (h_op (vI r_4) wz rfl (h_op (vS (⟨#[]⟩ : ByteArray)) wz rfl (h_op (vB false) wz rfl (h_op (vI r_4) wz rfl (h_nil ?_)))))))
  obtain rfl := some_inj hF
  exact wH_ret (fin0 (.inr rfl) [(vS (⟨#[]⟩ : ByteArray)), (vB false), (vI r_4)] ⟨rfl, ⟨rfl, ⟨rfl, trivial⟩⟩⟩ rfl rfl rfl)
 ·refine wH_iff rfl hc_6 (wH_skip (wH_seq (wH_region (h_op (vL Campaign.enc l_1) wz rfl (h_op (vL Play.enc plays_2) wz rfl (h_op (vI atv_3) wz rfl ?_))))))
  obtain ⟨r_7, hr_8, hF⟩ := bind_some hF
  refine h_call0 (booking_paces_ok hr_8) rfl hb29 rfl rfl rfl rfl wz (h_op (vL Pace.enc r_7) wz rfl (h_nil (wH_seq (wH_region (h_op (vI (-1)) wz rfl (h_nil (wH_seq (wH_seq (wH_region (h_op (vL Campaign.enc l_1) wz rfl (h_len un26 rfl wz (h_op (vI 0) wz rfl (h_nil ?_)))))))))))))
  obtain ⟨o_17, hj_18, hF⟩ := bind_some hF
  obtain ⟨hn_13, hj_18⟩ := forL_some hj_18
  refine wH_join (β := (Int)) (fun (s_14 : Int) => ([(0, (vL Campaign.enc l_1)), (11, (vI s_14))] : List (Nat × V))) (fun (s_14 : Int) => ([] : Hp)) (fun p => o_17 = .go p) ?_ ?_
  ·refine wH_block (wH_loop (β := Nat × (List Campaign) × (Int)) (fun p => (fun (k_9 : Nat) (l_10 : List Campaign) (s_14 : Int) => ([(0, (vL Campaign.enc l_1)), (2, (vI atv_3)), (10, (vL Pace.enc r_7)), (11, (vI s_14)), (25, (vL Campaign.enc l_1)), (26, (vI (l_1.length : Int))), (27, (vI (k_9 : Int)))] : List (Nat × V))) p.1 p.2.1 p.2.2) (fun p => (fun (k_9 : Nat) (l_10 : List Campaign) (s_14 : Int) => ([] : Hp)) p.1 p.2.1 p.2.2) (fun p => forR (fun k x s => booking_Choose_L1 atv_3 r_7 l_1 k x s) p.2.1 p.1 p.2.2 = some o_17 ∧ (l_1).drop p.1 = p.2.1) (fun p => p.2.1.length) (0, l_1, (-1)) ⟨hj_18, rfl⟩ rfl (pre_r rfl) ?_)
   rintro ⟨k_9, l_10, s_14⟩ ⟨hL_16, hD_12⟩
   dsimp only at hL_16 hD_12
   cases l_10 with
   | nil =>
    obtain rfl := some_inj hL_16
    refine wH_seq (wH_region (h_op (vB (decide ((k_9 : Int) < (l_1.length : Int)))) wz rfl (h_nil ?_)))
    refine wH_seq (wH_iff rfl (drop_nil hD_12) (wH_exit ?_))
    exact cut_mk (s_14) rfl rfl (pre_r rfl)
   | cons x_11 l_10 =>
    obtain ⟨c_, hc_15, hL_16⟩ := bind_some hL_16
    refine wH_seq (wH_region (h_op (vB (decide ((k_9 : Int) < (l_1.length : Int)))) wz rfl (h_nil ?_)))
    refine wH_seq (wH_ift rfl (drop_cons hD_12) (wH_skip ?_))
    unfold booking_Choose_L1 at hc_15
    refine wH_seq (wH_block (wH_seq (wH_region (h_op (vI (k_9 : Int)) wz rfl (h_ia es26 rfl rfl (drop_idx hD_12) rfl wz (h_ldc sz49 ag49 rfl (.d (.agg (Campaign.enc x_11))) rfl wz (h_alloc 0 (.inl rfl) z49 rfl wz (fun n_19 => h_op (vI (k_9 : Int)) wz rfl (h_str 0 (.inl rfl) (fun _ _ _ => trivial) 0 sz49 rfl rfl [(vS x_11.Key), (vS x_11.Class), (vI x_11.Time.From), (vI x_11.Time.To), (vL eS x_11.Tags), (vI x_11.Goal), (vI x_11.Most), (vI x_11.Cents)] rfl wz (h_nil (wH_seq (wH_seq ?_))))))))))))
    obtain ⟨v_20, h_21, hc_15⟩ := bind_some hc_15
    refine wH_join (β := Unit) (fun _ => ([(0, (vL Campaign.enc l_1)), (2, (vI atv_3)), (10, (vL Pace.enc r_7)), (11, (vI s_14)), (12, (vI (k_9 : Int))), (13, (.ref n_19 0 0)), (25, (vL Campaign.enc l_1)), (26, (vI (l_1.length : Int))), (27, (vI (k_9 : Int))), (53, (vB v_20))] : List (Nat × V))) (fun _ => ([(n_19, some (.cells 8 [(vS x_11.Key), (vS x_11.Class), (vI x_11.Time.From), (vI x_11.Time.To), (vL eS x_11.Tags), (vI x_11.Goal), (vI x_11.Most), (vI x_11.Cents)]))] : Hp)) (fun _ => True) ?_ ?_
    ·refine wH_draws (h_op (vI atv_3) wz rfl (h_far pl49_2 rfl 2 rfl wz (h_far pl46_0 rfl 2 rfl wz (h_ldr 3 0 (.inr (by kernel_rfl)) (fun _ _ ag => trivial) sz3 ag3 rfl rfl (vI x_11.Time.From) rfl wz (h_op (vB (decide (atv_3 < x_11.Time.From))) wz rfl ?_)))))
     rcases cond_some h_21 with ⟨hc_22, h_21⟩ | ⟨hc_22, h_21⟩
     ·refine h_movb rfl hc_22 wz (h_skip (wg rfl rfl rfl) (h_skip (wg rfl rfl rfl) (h_skip (wg rfl rfl rfl) (h_skip (wg rfl rfl rfl) (h_skip (wg rfl rfl rfl) (h_op (vB true) wz rfl (h_op (vB true) wz rfl (h_skip (wg rfl rfl rfl) (h_skip (wg rfl rfl rfl) (h_skip (wg rfl rfl rfl) (h_skip (wg rfl rfl rfl) (h_skip (wg rfl rfl rfl) (h_skip (wg rfl rfl rfl) (h_skip (wg rfl rfl rfl) (h_skip (wg rfl rfl rfl) (h_op (vB true) wz rfl (h_nil ?_)))))))))))))))))
      obtain rfl := some_inj h_21
      exact cut_mk () trivial rfl (pre_r rfl)
     ·refine h_movb rfl hc_22 wz (h_op (vI atv_3) (wg rfl rfl rfl) rfl (h_far pl49_2 rfl 2 rfl (wg rfl rfl rfl) (h_far pl46_1 rfl 3 rfl (wg rfl rfl rfl) (h_ldr 9 0 (.inr (by kernel_rfl)) (fun _ _ ag => ⟨.inl ⟨rfl, rfl⟩, trivial⟩) sz3 ag3 rfl rfl (vI x_11.Time.To) rfl (wg rfl rfl rfl) (h_op (vB (decide (atv_3 ≥ x_11.Time.To))) (wg rfl rfl rfl) rfl (h_op (vB (decide (atv_3 ≥ x_11.Time.To))) wz rfl ?_))))))
      rcases cond_some h_21 with ⟨hc_23, h_21⟩ | ⟨hc_23, h_21⟩
      ·refine h_movb rfl hc_23 wz (h_skip (wg rfl rfl rfl) (h_skip (wg rfl rfl rfl) (h_skip (wg rfl rfl rfl) (h_skip (wg rfl rfl rfl) (h_skip (wg rfl rfl rfl) (h_skip (wg rfl rfl rfl) (h_skip (wg rfl rfl rfl) (h_skip (wg rfl rfl rfl) (h_op (vB true) wz rfl (h_nil ?_))))))))))
       obtain rfl := some_inj h_21
       exact cut_mk () trivial rfl (pre_r rfl)
      ·refine h_movb rfl hc_23 wz (h_op (vL Pace.enc r_7) (wg rfl rfl rfl) rfl (h_op (vI (k_9 : Int)) (wg rfl rfl rfl) rfl ?_))
       obtain ⟨y_24, hy_25, h_21⟩ := bind_some h_21
       refine h_ia es32 rfl rfl hy_25 rfl (wg rfl rfl rfl) (h_fac pl58_2 rfl [.int .i64 y_24.Done] rfl rfl (wg rfl rfl rfl) (h_ldc sz3 ag3 rfl (vI y_24.Done) rfl (wg rfl rfl rfl) (h_far pl49_4 rfl 5 rfl (wg rfl rfl rfl) (h_ldr 19 0 (.inr (by kernel_rfl)) (fun _ _ ag => ⟨.inl ⟨rfl, rfl⟩, ⟨.inl ⟨rfl, rfl⟩, trivial⟩⟩) sz3 ag3 rfl rfl (vI x_11.Goal) rfl (wg rfl rfl rfl) (h_op (vB (decide (y_24.Done ≥ x_11.Goal))) (wg rfl rfl rfl) rfl (h_op (vB (decide (y_24.Done ≥ x_11.Goal))) wz rfl (h_nil ?_)))))))
       obtain rfl := some_inj h_21
       exact cut_mk () trivial rfl (pre_r rfl)
    ·rintro ⟨⟩ _ sl_ H_ hp_ hq_
     refine wH_at _ hp_ hq_ ?_
     rcases cond_some hc_15 with ⟨hc_26, hc_15⟩ | ⟨hc_26, hc_15⟩
     ·refine wH_ift rfl hc_26 (wH_exit (wH_region (h_opw (w64_next hD_12 hn_13) wz rfl (h_op (vI ((k_9 + 1 : Nat) : Int)) wz rfl (h_nil ?_)))))
      obtain rfl := some_inj hc_15
      exact loop_mk (k_9 + 1, l_10, s_14) ⟨hL_16, drop_next hD_12⟩ (Nat.lt_succ_self _) rfl (pre_r rfl)
     ·refine wH_iff rfl hc_26 (wH_skip (wH_seq ?_))
      obtain ⟨v_27, h_28, hc_15⟩ := bind_some hc_15
      refine wH_join (β := Unit) (fun _ => ([(0, (vL Campaign.enc l_1)), (2, (vI atv_3)), (10, (vL Pace.enc r_7)), (11, (vI s_14)), (12, (vI (k_9 : Int))), (25, (vL Campaign.enc l_1)), (26, (vI (l_1.length : Int))), (27, (vI (k_9 : Int))), (89, (vB v_27))] : List (Nat × V))) (fun _ => ([(n_19, some (.cells 8 [(vS x_11.Key), (vS x_11.Class), (vI x_11.Time.From), (vI x_11.Time.To), (vL eS x_11.Tags), (vI x_11.Goal), (vI x_11.Most), (vI x_11.Cents)]))] : Hp)) (fun _ => True) ?_ ?_
      ·refine wH_draws (h_op (vI s_14) wz rfl (h_op (vB (decide (s_14 < 0))) wz rfl ?_))
       rcases cond_some h_28 with ⟨hc_29, h_28⟩ | ⟨hc_29, h_28⟩
       ·refine h_movb rfl hc_29 wz (h_skip (wg rfl rfl rfl) (h_skip (wg rfl rfl rfl) (h_skip (wg rfl rfl rfl) (h_skip (wg rfl rfl rfl) (h_skip (wg rfl rfl rfl) (h_skip (wg rfl rfl rfl) (h_skip (wg rfl rfl rfl) (h_skip (wg rfl rfl rfl) (h_skip (wg rfl rfl rfl) (h_skip (wg rfl rfl rfl) (h_skip (wg rfl rfl rfl) (h_skip (wg rfl rfl rfl) (h_skip (wg rfl rfl rfl) (h_skip (wg rfl rfl rfl) (h_skip (wg rfl rfl rfl) (h_skip (wg rfl rfl rfl) (h_skip (wg rfl rfl rfl) (h_skip (wg rfl rfl rfl) (h_skip (wg rfl rfl rfl) (h_skip (wg rfl rfl rfl) (h_skip (wg rfl rfl rfl) (h_skip (wg rfl rfl rfl) (h_skip (wg rfl rfl rfl) ?_)))))))))))))))))))))))
        refine h_skip (wg rfl rfl rfl) (h_skip (wg rfl rfl rfl) (h_skip (wg rfl rfl rfl) (h_skip (wg rfl rfl rfl) (h_skip (wg rfl rfl rfl) (h_skip (wg rfl rfl rfl) (h_skip (wg rfl rfl rfl) (h_skip (wg rfl rfl rfl) (h_skip (wg rfl rfl rfl) (h_op (vB true) wz rfl (h_nil ?_))))))))))
        obtain rfl := some_inj h_28
        exact cut_mk () trivial rfl (pre_r rfl)
       ·refine h_movb rfl hc_29 wz (h_op (vL Pace.enc r_7) (wg rfl rfl rfl) rfl (h_op (vI (k_9 : Int)) (wg rfl rfl rfl) rfl ?_))
        obtain ⟨y_30, hy_31, h_28⟩ := bind_some h_28
        refine h_ia es32 rfl rfl hy_31 rfl (wg rfl rfl rfl) (h_fac pl58_1 rfl [.int .i64 y_30.Due, .int .i64 y_30.Done] rfl rfl (wg rfl rfl rfl) (h_ldc sz3 ag3 rfl (vI y_30.Due) rfl (wg rfl rfl rfl) (h_op (vL Pace.enc r_7) (wg rfl rfl rfl) rfl (h_op (vI (k_9 : Int)) (wg rfl rfl rfl) rfl ?_))))
        obtain ⟨y_32, hy_33, h_28⟩ := bind_some h_28
        refine h_ia es32 rfl rfl hy_33 rfl (wg rfl rfl rfl) (h_fac pl58_2 rfl [.int .i64 y_32.Done] rfl rfl (wg rfl rfl rfl) (h_ldc sz3 ag3 rfl (vI y_32.Done) rfl (wg rfl rfl rfl) (h_op (vI (w64 (y_30.Due - y_32.Done))) (wg rfl rfl rfl) rfl (h_op (vL Campaign.enc l_1) (wg rfl rfl rfl) rfl (h_op (vI s_14) (wg rfl rfl rfl) rfl ?_)))))
        obtain ⟨y_34, hy_35, h_28⟩ := bind_some h_28
        refine h_ia es26 rfl rfl hy_35 rfl (wg rfl rfl rfl) (h_fac pl49_4 rfl [.int .i64 y_34.Goal, .int .i64 y_34.Most, .int .i64 y_34.Cents] rfl rfl (wg rfl rfl rfl) (h_ldc sz3 ag3 rfl (vI y_34.Goal) rfl (wg rfl rfl rfl) (h_op (vI (w64 ((w64 (y_30.Due - y_32.Done)) * y_34.Goal))) (wg rfl rfl rfl) rfl (h_op (vL Pace.enc r_7) (wg rfl rfl rfl) rfl (h_op (vI s_14) (wg rfl rfl rfl) rfl ?_)))))
        obtain ⟨y_36, hy_37, h_28⟩ := bind_some h_28
        refine h_ia es32 rfl rfl hy_37 rfl (wg rfl rfl rfl) (h_fac pl58_1 rfl [.int .i64 y_36.Due, .int .i64 y_36.Done] rfl rfl (wg rfl rfl rfl) (h_ldc sz3 ag3 rfl (vI y_36.Due) rfl (wg rfl rfl rfl) (h_op (vL Pace.enc r_7) (wg rfl rfl rfl) rfl (h_op (vI s_14) (wg rfl rfl rfl) rfl ?_))))
        obtain ⟨y_38, hy_39, h_28⟩ := bind_some h_28
        refine h_ia es32 rfl rfl hy_39 rfl (wg rfl rfl rfl) (h_fac pl58_2 rfl [.int .i64 y_38.Done] rfl rfl (wg rfl rfl rfl) (h_ldc sz3 ag3 rfl (vI y_38.Done) rfl (wg rfl rfl rfl) (h_op (vI (w64 (y_36.Due - y_38.Done))) (wg rfl rfl rfl) rfl (h_far pl49_4 rfl 5 rfl (wg rfl rfl rfl) (h_ldr 32 0 (.inr (by kernel_rfl)) (fun _ _ ag => trivial) sz3 ag3 rfl rfl (vI x_11.Goal) rfl (wg rfl rfl rfl) (h_op (vI (w64 ((w64 (y_36.Due - y_38.Done)) * x_11.Goal))) (wg rfl rfl rfl) rfl (h_op (vB (decide ((w64 ((w64 (y_30.Due - y_32.Done)) * y_34.Goal)) > (w64 ((w64 (y_36.Due - y_38.Done)) * x_11.Goal))))) (wg rfl rfl rfl) rfl (h_op (vB (decide ((w64 ((w64 (y_30.Due - y_32.Done)) * y_34.Goal)) > (w64 ((w64 (y_36.Due - y_38.Done)) * x_11.Goal))))) wz rfl (h_nil ?_)))))))))
        obtain rfl := some_inj h_28
        exact cut_mk () trivial rfl (pre_r rfl)
      ·rintro ⟨⟩ _ sl_ H_ hp_ hq_
       refine wH_at _ hp_ hq_ ?_
       obtain ⟨v_40, h_41, hc_15⟩ := bind_some hc_15
       refine wH_join (β := Unit) (fun _ => ([(0, (vL Campaign.enc l_1)), (2, (vI atv_3)), (10, (vL Pace.enc r_7)), (11, (vI v_40)), (25, (vL Campaign.enc l_1)), (26, (vI (l_1.length : Int))), (27, (vI (k_9 : Int)))] : List (Nat × V))) (fun _ => ([(n_19, some (.cells 8 [(vS x_11.Key), (vS x_11.Class), (vI x_11.Time.From), (vI x_11.Time.To), (vL eS x_11.Tags), (vI x_11.Goal), (vI x_11.Most), (vI x_11.Cents)]))] : Hp)) (fun _ => True) ?_ ?_
       ·rcases cond_some h_41 with ⟨hc_42, h_41⟩ | ⟨hc_42, h_41⟩
        ·refine wH_ift rfl hc_42 (wH_region (h_op (vI (k_9 : Int)) wz rfl (h_op (vI (k_9 : Int)) wz rfl (h_nil ?_))))
         obtain rfl := some_inj h_41
         exact cut_mk () trivial rfl (pre_r rfl)
        ·refine wH_iff rfl hc_42 (wH_skip ?_)
         obtain rfl := some_inj h_41
         exact cut_mk () trivial rfl (pre_r rfl)
       ·rintro ⟨⟩ _ sl_ H_ hp_ hq_
        refine wH_at _ hp_ hq_ (wH_region (h_opw (w64_next hD_12 hn_13) wz rfl (h_op (vI ((k_9 + 1 : Nat) : Int)) wz rfl (h_nil ?_))))
        obtain rfl := some_inj hc_15
        exact loop_mk (k_9 + 1, l_10, v_40) ⟨hL_16, drop_next hD_12⟩ (Nat.lt_succ_self _) rfl (pre_r rfl)
  ·rintro s_14 ho_ sl_ H_ hp_ hq_
   subst ho_
   refine wH_at _ hp_ hq_ (wH_seq (wH_seq (wH_region (h_op (vI s_14) wz rfl (h_op (vB (decide (s_14 < 0))) wz rfl (h_nil ?_))))))
   rcases cond_some hF with ⟨hc_43, hF⟩ | ⟨hc_43, hF⟩
   ·refine wH_ift rfl hc_43 (wH_seq (wH_region (h_op (vS (⟨#[]⟩ : ByteArray)) wz rfl (h_op (vB false) wz rfl (h_op (vI 0) wz rfl (h_nil ?_))))))
    obtain rfl := some_inj hF
    exact wH_ret (fin0 (.inr rfl) [(vS (⟨#[]⟩ : ByteArray)), (vB false), (vI 0)] ⟨rfl, ⟨rfl, ⟨rfl, trivial⟩⟩⟩ rfl rfl rfl)
   ·refine wH_iff rfl hc_43 (wH_skip (wH_seq (wH_region (h_op (vL Campaign.enc l_1) wz rfl (h_op (vI s_14) wz rfl ?_)))))
    obtain ⟨y_44, hy_45, hF⟩ := bind_some hF
    refine h_ia es26 rfl rfl hy_45 rfl wz (h_fac pl49_0 rfl [.str y_44.Key, .str y_44.Class, .int .i64 y_44.Time.From, .int .i64 y_44.Time.To, dl eS y_44.Tags, .int .i64 y_44.Goal, .int .i64 y_44.Most, .int .i64 y_44.Cents] rfl rfl wz (h_ldc sz9 ag9 rfl (vS y_44.Key) rfl wz (h_op (vS y_44.Key) wz rfl (h_op (vB true) wz rfl (h_op (vI 0) wz rfl (h_nil ?_))))))
    obtain rfl := some_inj hF
    exact wH_ret (fin0 (.inr rfl) [(vS y_44.Key), (vB true), (vI 0)] ⟨rfl, ⟨rfl, ⟨rfl, trivial⟩⟩⟩ rfl rfl rfl)
theorem strconv_Itoa_ok {x0 : Int} {r : ByteArray} (hF : strconv_Itoa x0 = some r) :
  FnM Tryd.prog 30 [(vI x0)] [] (vS r) [] :=
 itoa_ok Tryd.strconv_Itoa laid_pow10 hF
theorem booking_Bill_ok {l_1 : (List Campaign)} {plays_2 : (List Play)} {atv_3 : Int} {r : (List Pair) × Int} (hF : booking_Bill l_1 plays_2 atv_3 = some r) :
  FnM Tryd.prog 10 [(vL Campaign.enc l_1), (vL Play.enc plays_2), (vI atv_3)] [] (.tup [(vL Pair.enc r.1), (vI r.2)]) [] := by
 refine FnM.of_wH ⟨Tryd.prog, 57, [], []⟩ rfl Tryd.func10 rfl rfl (Nat.le_of_ble_eq_true rfl) (by kernel_rfl) ?_
 unfold booking_Bill at hF
 refine wH_seq (wH_region (h_op .nil wz rfl (h_op (vI 0) wz rfl (h_nil (wH_seq (wH_seq (wH_region (h_op (vL Campaign.enc l_1) wz rfl (h_op (vL Play.enc plays_2) wz rfl (h_op (vI atv_3) wz rfl ?_))))))))))
 obtain ⟨r_4, hr_5, hF⟩ := bind_some hF
 refine h_call0 (booking_paceFault_ok hr_5) rfl hb28 rfl rfl rfl rfl wz (h_op (vI r_4) wz rfl (h_nil (wH_seq (wH_region (h_op (vI r_4) wz rfl (h_op (vB (r_4 != 0)) wz rfl (h_nil ?_)))))))
 rcases cond_some hF with ⟨hc_6, hF⟩ | ⟨hc_6, hF⟩
 ·refine wH_ift rfl hc_6 (wH_seq (wH_region (h_op (vI r_4) wz rfl (h_op .nil wz rfl (h_op (vI r_4) wz rfl (h_nil ?_))))))
  obtain rfl := some_inj hF
  exact wH_ret (fin0 (.inr rfl) [.nil, (vI r_4)] ⟨rfl, ⟨rfl, trivial⟩⟩ rfl rfl rfl)
 ·refine wH_iff rfl hc_6 (wH_skip (wH_seq (wH_region (h_op .nil wz rfl (h_nil (wH_seq (wH_seq (wH_region (h_op (vL Campaign.enc l_1) wz rfl (h_op (vL Play.enc plays_2) wz rfl (h_op (vI atv_3) wz rfl ?_)))))))))))
  obtain ⟨r_7, hr_8, hF⟩ := bind_some hF
  refine h_call0 (booking_paces_ok hr_8) rfl hb29 rfl rfl rfl rfl wz (h_len un32 rfl wz (h_op (vI 0) wz rfl (h_nil (wH_new (fun n_15 => ?_)))))
  obtain ⟨o_20, hj_21, hF⟩ := bind_some hF
  obtain ⟨hn_13, hj_21⟩ := forL_some hj_21
  refine wH_join (β := ((List Pair)) × Nm) (fun p => (fun (s_14 : (List Pair)) (n_17 : Nm) => ([(9, (gV n_17 2 s_14))] : List (Nat × V))) p.1 p.2) (fun p => (fun (s_14 : (List Pair)) (n_17 : Nm) => ([(n_17, gB 2 Pair.enc s_14)] : Hp)) p.1 p.2) (fun p => o_20 = .go p.1) ?_ ?_
  ·refine wH_block (wH_loop (β := Nat × (List Pace) × ((List Pair)) × Nm) (fun p => (fun (k_9 : Nat) (l_10 : List Pace) (s_14 : (List Pair)) (n_17 : Nm) => ([(0, (vL Campaign.enc l_1)), (9, (gV n_17 2 s_14)), (23, (vL Pace.enc r_7)), (24, (vI (r_7.length : Int))), (25, (vI (k_9 : Int)))] : List (Nat × V))) p.1 p.2.1 p.2.2.1 p.2.2.2) (fun p => (fun (k_9 : Nat) (l_10 : List Pace) (s_14 : (List Pair)) (n_17 : Nm) => ([(n_17, gB 2 Pair.enc s_14)] : Hp)) p.1 p.2.1 p.2.2.1 p.2.2.2) (fun p => forR (fun k x s => booking_Bill_L1 l_1 k x s) p.2.1 p.1 p.2.2.1 = some o_20 ∧ (r_7).drop p.1 = p.2.1) (fun p => p.2.1.length) (0, r_7, ([] : List Pair), n_15) ⟨hj_21, rfl⟩ rfl (pre_r rfl) ?_)
   rintro ⟨k_9, l_10, s_14, n_17⟩ ⟨hL_19, hD_12⟩
   dsimp only at hL_19 hD_12
   cases l_10 with
   | nil =>
    obtain rfl := some_inj hL_19
    refine wH_seq (wH_region (h_op (vB (decide ((k_9 : Int) < (r_7.length : Int)))) wz rfl (h_nil ?_)))
    refine wH_seq (wH_iff rfl (drop_nil hD_12) (wH_exit ?_))
    exact cut_mk (s_14, n_17) rfl rfl (pre_r rfl)
   | cons x_11 l_10 =>
    obtain ⟨c_, hc_18, hL_19⟩ := bind_some hL_19
    refine wH_seq (wH_region (h_op (vB (decide ((k_9 : Int) < (r_7.length : Int)))) wz rfl (h_nil ?_)))
    refine wH_seq (wH_ift rfl (drop_cons hD_12) (wH_skip ?_))
    unfold booking_Bill_L1 at hc_18
    refine wH_seq (wH_block (wH_seq (wH_region (h_op (vI (k_9 : Int)) wz rfl (h_ia es32 rfl rfl (drop_idx hD_12) rfl wz (h_ldc sz58 ag58 rfl (.d (.agg (Pace.enc x_11))) rfl wz (h_alloc 0 (.inl rfl) z58 rfl wz (fun n_22 => h_op (vI (k_9 : Int)) wz rfl (h_str 0 (.inl rfl) (fun _ _ _ => trivial) 1 sz58 rfl rfl [(vS x_11.Campaign), (vI x_11.Due), (vI x_11.Done)] rfl wz (h_nil (wH_seq (wH_draws (h_far pl58_2 rfl 2 rfl wz (h_ldr 1 1 (.inr (by kernel_rfl)) (fun _ _ ag => trivial) sz3 ag3 rfl rfl (vI x_11.Done) rfl wz (h_op (vL Campaign.enc l_1) wz rfl (h_op (vI (k_9 : Int)) wz rfl ?_))))))))))))))))
    obtain ⟨y_23, hy_24, hc_18⟩ := bind_some hc_18
    refine h_ia es26 rfl rfl hy_24 rfl wz (h_fac pl49_4 rfl [.int .i64 y_23.Goal, .int .i64 y_23.Most, .int .i64 y_23.Cents] rfl rfl wz (h_ldc sz3 ag3 rfl (vI y_23.Goal) rfl wz (h_minmax (vI (minI x_11.Done y_23.Goal)) rfl (.inl rfl) wz (h_op (vL Campaign.enc l_1) wz rfl (h_op (vI (k_9 : Int)) wz rfl ?_)))))
    obtain ⟨y_25, hy_26, hc_18⟩ := bind_some hc_18
    refine h_ia es26 rfl rfl hy_26 rfl wz (h_fac pl49_6 rfl [.int .i64 y_25.Cents] rfl rfl wz (h_ldc sz3 ag3 rfl (vI y_25.Cents) rfl wz (h_op (vI (w64 ((minI x_11.Done y_23.Goal) * y_25.Cents))) wz rfl (h_op (vI (w64 ((w64 ((minI x_11.Done y_23.Goal) * y_25.Cents)).tdiv 1000))) wz rfl (h_op (vI (w64 ((w64 ((minI x_11.Done y_23.Goal) * y_25.Cents)).tdiv 1000))) wz rfl (h_nil (wH_seq (wH_region (h_op (vI (w64 ((w64 ((minI x_11.Done y_23.Goal) * y_25.Cents)).tdiv 1000))) wz rfl (h_op (vB (decide ((w64 ((w64 ((minI x_11.Done y_23.Goal) * y_25.Cents)).tdiv 1000)) > 0))) wz rfl (h_nil ?_)))))))))))
    obtain ⟨v_27, h_28, hc_18⟩ := bind_some hc_18
    refine wH_join (β := Nm) (fun (n_29 : Nm) => ([(0, (vL Campaign.enc l_1)), (9, (gV n_29 2 v_27)), (23, (vL Pace.enc r_7)), (24, (vI (r_7.length : Int))), (25, (vI (k_9 : Int)))] : List (Nat × V))) (fun (n_29 : Nm) => ([(n_29, gB 2 Pair.enc v_27), (n_22, some (.cells 3 [(vS x_11.Campaign), (vI x_11.Due), (vI x_11.Done)]))] : Hp)) (fun _ => True) ?_ ?_
    ·rcases cond_some h_28 with ⟨hc_30, h_28⟩ | ⟨hc_30, h_28⟩
     ·refine wH_ift rfl hc_30 (wH_draws (h_op (gV n_17 2 s_14) wz rfl (h_far pl58_0 rfl 0 rfl wz (h_ldr 2 1 (.inr (by kernel_rfl)) (fun _ _ ag => trivial) sz9 ag9 rfl rfl (vS x_11.Campaign) rfl wz (h_op (vI (w64 ((w64 ((minI x_11.Done y_23.Goal) * y_25.Cents)).tdiv 1000))) wz rfl ?_)))))
      obtain ⟨r_31, hr_32, h_28⟩ := bind_some h_28
      refine h_call0 (strconv_Itoa_ok hr_32) rfl hb30 rfl rfl rfl rfl wz (h_op (.d (.agg (Pair.enc (⟨x_11.Campaign, r_31⟩ : Pair)))) wz (by kernel_rfl) (h_lit (([(⟨x_11.Campaign, r_31⟩ : Pair)] : List Pair).map Pair.enc) es38 ez38 rfl rfl rfl rfl rfl wz ?_))
      obtain ⟨a_33, hz_34, h_28⟩ := bind_some h_28
      refine h_appg 7 (.inr (by kernel_rfl)) (fun _ _ ag => ⟨.inr (.inr (by kernel_rfl)), trivial⟩) (i := 0) el38 el38 sz62 z62 rfl (by decide) by62 (by decide) (fun _ => rfl) rfl rfl rfl hz_34 wz (fun n_35 => h_op (gV n_35 2 a_33) wz rfl (h_nil ?_))
      obtain rfl := some_inj h_28
      exact cut_mk n_35 trivial rfl (pre_r rfl)
     ·refine wH_iff rfl hc_30 (wH_skip ?_)
      obtain rfl := some_inj h_28
      exact cut_mk n_17 trivial rfl (pre_r rfl)
    ·rintro n_29 _ sl_ H_ hp_ hq_
     refine wH_at _ hp_ hq_ (wH_region (h_opw (w64_next hD_12 hn_13) wz rfl (h_op (vI ((k_9 + 1 : Nat) : Int)) wz rfl (h_nil ?_))))
     obtain rfl := some_inj hc_18
     exact loop_mk (k_9 + 1, l_10, v_27, n_29) ⟨hL_19, drop_next hD_12⟩ (Nat.lt_succ_self _) rfl (pre_r rfl)
  ·rintro ⟨s_14, n_17⟩ ho_ sl_ H_ hp_ hq_
   subst ho_
   refine wH_at _ hp_ hq_ (wH_seq (wH_region (h_op (gV n_17 2 s_14) wz rfl (h_op (gV n_17 2 s_14) wz rfl (h_op (vI 0) wz rfl (h_nil (wH_frozg 0 rfl (wH_cog 6 0 rfl rfl (wH_cog 9 0 rfl rfl (wH_cog 56 0 rfl rfl ?_))))))))))
   obtain rfl := some_inj hF
   exact wH_ret (fin0 (.inr rfl) [(vL Pair.enc s_14), (vI 0)] ⟨rfl, ⟨rfl, trivial⟩⟩ rfl rfl rfl)
theorem ref_in_ok {n_1 : Int} {low_2 : Int} {high_3 : Int} {r : Bool} (hF : ref_in n_1 low_2 high_3 = some r) :
  FnM Tryd.prog 32 [(vI n_1), (vI low_2), (vI high_3)] [] (vB r) [] := by
 refine FnM.of_wH ⟨Tryd.prog, 15, [], []⟩ rfl Tryd.func32 rfl rfl (Nat.le_of_ble_eq_true rfl) (by kernel_rfl) ?_
 unfold ref_in at hF
 refine wH_seq (wH_region (h_op (vB false) wz rfl (h_nil (wH_seq ?_))))
 obtain ⟨v_4, h_5, hF⟩ := bind_some hF
 refine wH_join (β := Unit) (fun _ => ([(6, (vB v_4))] : List (Nat × V))) (fun _ => ([] : Hp)) (fun _ => True) ?_ ?_
 ·refine wH_region (h_op (vI low_2) wz rfl (h_op (vI n_1) wz rfl (h_op (vB (decide (low_2 ≤ n_1))) wz rfl ?_)))
  rcases cond_some h_5 with ⟨hc_6, h_5⟩ | ⟨hc_6, h_5⟩
  ·refine h_movb rfl hc_6 wz (h_op (vI n_1) (wg rfl rfl rfl) rfl (h_op (vI high_3) (wg rfl rfl rfl) rfl (h_op (vB (decide (n_1 ≤ high_3))) (wg rfl rfl rfl) rfl (h_op (vB (decide (n_1 ≤ high_3))) wz rfl (h_op (vB (decide (n_1 ≤ high_3))) wz rfl (h_nil ?_))))))
   obtain rfl := some_inj h_5
   exact cut_mk () trivial rfl (pre_r rfl)
  ·refine h_movb rfl hc_6 wz (h_skip (wg rfl rfl rfl) (h_skip (wg rfl rfl rfl) (h_skip (wg rfl rfl rfl) (h_op (vB false) wz rfl (h_op (vB false) wz rfl (h_nil ?_))))))
   obtain rfl := some_inj h_5
   exact cut_mk () trivial rfl (pre_r rfl)
 ·rintro ⟨⟩ _ sl_ H_ hp_ hq_
  refine wH_at _ hp_ hq_ ?_
  obtain rfl := some_inj hF
  exact wH_ret (fin0 (.inr rfl) [(vB v_4)] ⟨rfl, trivial⟩ rfl rfl rfl)
theorem internal_stringslite_IndexByte_ok {s_1 : ByteArray} {c_2 : Int} {r : Int} (hF : internal_stringslite_IndexByte s_1 c_2 = some r) :
  FnM Tryd.prog 56 [(vS s_1), (.d (.int .u8 c_2))] [] (vI r) [] := by
 refine FnM.of_wH ⟨Tryd.prog, 8, [], []⟩ rfl Tryd.func56 rfl rfl (Nat.le_of_ble_eq_true rfl) (by kernel_rfl) ?_
 unfold internal_stringslite_IndexByte at hF
 refine wH_seq (wH_region (h_op (vI 0) wz rfl (h_nil (wH_seq (wH_region (h_op (vS s_1) wz rfl (h_op (.d (.int .u8 c_2)) wz rfl (h_ext (ext_ixB (f := 62) Tryd.func62 rfl rfl (by kernel_rfl) (by kernel_rfl) _ _) rfl nb62 rfl wz (h_op (vI (ixB s_1 c_2)) wz rfl (h_nil ?_))))))))))
 obtain rfl := some_inj hF
 exact wH_ret (fin0 (.inr rfl) [(vI (ixB s_1 c_2))] ⟨rfl, trivial⟩ rfl rfl rfl)
theorem strings_IndexByte_ok {s_1 : ByteArray} {c_2 : Int} {r : Int} (hF : strings_IndexByte s_1 c_2 = some r) :
  FnM Tryd.prog 50 [(vS s_1), (.d (.int .u8 c_2))] [] (vI r) [] := by
 refine FnM.of_wH ⟨Tryd.prog, 8, [], []⟩ rfl Tryd.func50 rfl rfl (Nat.le_of_ble_eq_true rfl) (by kernel_rfl) ?_
 unfold strings_IndexByte at hF
 refine wH_seq (wH_region (h_op (vI 0) wz rfl (h_nil (wH_seq (wH_region (h_op (vS s_1) wz rfl (h_op (.d (.int .u8 c_2)) wz rfl ?_)))))))
 obtain ⟨r_3, hr_4, hF⟩ := bind_some hF
 refine h_call0 (internal_stringslite_IndexByte_ok hr_4) rfl hb56 rfl rfl rfl rfl wz (h_op (vI r_3) wz rfl (h_nil ?_))
 obtain rfl := some_inj hF
 exact wH_ret (fin0 (.inr rfl) [(vI r_3)] ⟨rfl, trivial⟩ rfl rfl rfl)
theorem ref_only_ok {s_1 : ByteArray} {somev_2 : ByteArray} {r : Bool} (hF : ref_only s_1 somev_2 = some r) :
  FnM Tryd.prog 45 [(vS s_1), (vS somev_2)] [] (vB r) [] := by
 refine FnM.of_wH ⟨Tryd.prog, 18, [], []⟩ rfl Tryd.func45 rfl rfl (Nat.le_of_ble_eq_true rfl) (by kernel_rfl) ?_
 unfold ref_only at hF
 refine wH_seq (wH_region (h_op (vB false) wz rfl (h_nil (wH_seq (wH_seq (wH_region (h_op (vS s_1) wz rfl (h_lens un9 rfl wz (h_op (vI 0) wz rfl (h_nil ?_))))))))))
 obtain ⟨o_11, hj_12, hF⟩ := bind_some hF
 obtain ⟨hn_7, hj_12⟩ := forL_some hj_12
 refine wH_join (β := (Unit)) (fun (s_8 : Unit) => ([] : List (Nat × V))) (fun (s_8 : Unit) => ([] : Hp)) (fun p => o_11 = .go p) ?_ ?_
 ·refine wH_block (wH_loop (β := Nat × (List Nat) × (Unit)) (fun p => (fun (k_3 : Nat) (l_4 : List Nat) (s_8 : Unit) => ([(0, (vS s_1)), (1, (vS somev_2)), (7, (vI (s_1.size : Int))), (8, (vI (k_3 : Int)))] : List (Nat × V))) p.1 p.2.1 p.2.2) (fun p => (fun (k_3 : Nat) (l_4 : List Nat) (s_8 : Unit) => ([] : Hp)) p.1 p.2.1 p.2.2) (fun p => forR (fun k x s => ref_only_L1 s_1 somev_2 k x s) p.2.1 p.1 p.2.2 = some o_11 ∧ ((List.range ((s_1.size : Int)).toNat)).drop p.1 = p.2.1) (fun p => p.2.1.length) (0, (List.range ((s_1.size : Int)).toNat), ()) ⟨hj_12, rfl⟩ rfl (pre_r rfl) ?_)
  rintro ⟨k_3, l_4, s_8⟩ ⟨hL_10, hD_6⟩
  dsimp only at hL_10 hD_6
  cases l_4 with
  | nil =>
   obtain rfl := some_inj hL_10
   refine wH_seq (wH_region (h_op (vB (decide ((k_3 : Int) < (s_1.size : Int)))) wz rfl (h_nil ?_)))
   refine wH_seq (wH_iff rfl (range_nil hD_6) (wH_exit ?_))
   exact cut_mk (s_8) rfl rfl (pre_r rfl)
  | cons x_5 l_4 =>
   obtain ⟨c_, hc_9, hL_10⟩ := bind_some hL_10
   refine wH_seq (wH_region (h_op (vB (decide ((k_3 : Int) < (s_1.size : Int)))) wz rfl (h_nil ?_)))
   refine wH_seq (wH_ift rfl (range_cons hD_6) (wH_skip ?_))
   unfold ref_only_L1 at hc_9
   refine wH_seq (wH_block (wH_seq (wH_region (h_op (vI (k_3 : Int)) wz rfl (h_op (vI (k_3 : Int)) wz rfl (h_nil (wH_seq (wH_region (h_op (vS somev_2) wz rfl (h_op (vS s_1) wz rfl (h_op (vI (k_3 : Int)) wz rfl ?_)))))))))))
   obtain ⟨b_13, hy_14, hc_9⟩ := bind_some hc_9
   refine h_idxs un9 rfl rfl hy_14 wz ?_
   obtain ⟨r_15, hr_16, hc_9⟩ := bind_some hc_9
   refine h_call0 (strings_IndexByte_ok hr_16) rfl hb50 rfl rfl rfl rfl wz (h_op (vB (decide (r_15 < 0))) wz rfl (h_nil ?_))
   rcases cond_some hc_9 with ⟨hc_17, hc_9⟩ | ⟨hc_17, hc_9⟩
   ·refine wH_ift rfl hc_17 (wH_seq (wH_region (h_op (vB false) wz rfl (h_nil ?_))))
    obtain rfl := some_inj hc_9
    obtain rfl := some_inj hL_10
    obtain rfl := some_inj hF
    exact wH_ret (fin0 (.inr rfl) [(vB false)] ⟨rfl, trivial⟩ rfl rfl rfl)
   ·refine wH_iff rfl hc_17 (wH_skip (wH_region (h_opw (w64_nextr hD_6 hn_7) wz rfl (h_op (vI ((k_3 + 1 : Nat) : Int)) wz rfl (h_nil ?_)))))
    obtain rfl := some_inj hc_9
    exact loop_mk (k_3 + 1, l_4, ()) ⟨hL_10, drop_next hD_6⟩ (Nat.lt_succ_self _) rfl (pre_r rfl)
 ·rintro s_8 ho_ sl_ H_ hp_ hq_
  subst ho_
  refine wH_at _ hp_ hq_ (wH_seq (wH_region (h_op (vB true) wz rfl (h_nil ?_))))
  obtain rfl := some_inj hF
  exact wH_ret (fin0 (.inr rfl) [(vB true)] ⟨rfl, trivial⟩ rfl rfl rfl)
theorem ref_Key_ok {s_1 : ByteArray} {r : Bool} (hF : ref_Key s_1 = some r) :
  FnM Tryd.prog 31 [(vS s_1)] [] (vB r) [] := by
 refine FnM.of_wH ⟨Tryd.prog, 15, [], []⟩ rfl Tryd.func31 rfl rfl (Nat.le_of_ble_eq_true rfl) (by kernel_rfl) ?_
 unfold ref_Key at hF
 refine wH_seq (wH_region (h_op (vB false) wz rfl (h_nil (wH_seq ?_))))
 obtain ⟨v_2, h_3, hF⟩ := bind_some hF
 refine wH_join (β := Unit) (fun _ => ([(2, (vB v_2))] : List (Nat × V))) (fun _ => ([] : Hp)) (fun _ => True) ?_ ?_
 ·refine wH_region (h_op (vS s_1) wz rfl (h_lens un9 rfl wz ?_))
  obtain ⟨r_4, hr_5, h_3⟩ := bind_some h_3
  refine h_call0 (ref_in_ok hr_5) rfl hb32 rfl rfl rfl rfl wz ?_
  rcases cond_some h_3 with ⟨hc_6, h_3⟩ | ⟨hc_6, h_3⟩
  ·refine h_movb rfl hc_6 wz (h_op (vS s_1) (wg rfl rfl rfl) rfl ?_)
   obtain ⟨y_7, hy_8, h_3⟩ := bind_some h_3
   refine h_subFalseTrue un9 rfl rfl hy_8 (wg rfl rfl rfl) ?_
   obtain ⟨r_9, hr_10, h_3⟩ := bind_some h_3
   refine h_call0 (ref_only_ok hr_10) rfl hb45 rfl rfl rfl rfl (wg rfl rfl rfl) (h_op (vB r_9) wz rfl ?_)
   rcases cond_some h_3 with ⟨hc_11, h_3⟩ | ⟨hc_11, h_3⟩
   ·refine h_movb rfl hc_11 wz (h_op (vS s_1) (wg rfl rfl rfl) rfl ?_)
    obtain ⟨r_12, hr_13, h_3⟩ := bind_some h_3
    refine h_call0 (ref_only_ok hr_13) rfl hb45 rfl rfl rfl rfl (wg rfl rfl rfl) (h_op (vB r_12) wz rfl (h_op (vB r_12) wz rfl (h_nil ?_)))
    obtain rfl := some_inj h_3
    exact cut_mk () trivial rfl (pre_r rfl)
   ·refine h_movb rfl hc_11 wz (h_skip (wg rfl rfl rfl) (h_skip (wg rfl rfl rfl) (h_op (vB false) wz rfl (h_op (vB false) wz rfl (h_nil ?_)))))
    obtain rfl := some_inj h_3
    exact cut_mk () trivial rfl (pre_r rfl)
  ·refine h_movb rfl hc_6 wz (h_skip (wg rfl rfl rfl) (h_skip (wg rfl rfl rfl) (h_skip (wg rfl rfl rfl) (h_op (vB false) wz rfl (h_op (vB false) wz rfl (h_skip (wg rfl rfl rfl) (h_skip (wg rfl rfl rfl) (h_op (vB false) wz rfl (h_op (vB false) wz rfl (h_nil ?_))))))))))
   obtain rfl := some_inj h_3
   exact cut_mk () trivial rfl (pre_r rfl)
 ·rintro ⟨⟩ _ sl_ H_ hp_ hq_
  refine wH_at _ hp_ hq_ ?_
  obtain rfl := some_inj hF
  exact wH_ret (fin0 (.inr rfl) [(vB v_2)] ⟨rfl, trivial⟩ rfl rfl rfl)
theorem ref_risingFault_ok {l_1 : (List ByteArray)} {r : Int} (hF : ref_risingFault l_1 = some r) :
  FnM Tryd.prog 46 [(vL eS l_1)] [] (vI r) [] := by
 refine FnM.of_wH ⟨Tryd.prog, 27, [], []⟩ rfl Tryd.func46 rfl rfl (Nat.le_of_ble_eq_true rfl) (by kernel_rfl) ?_
 unfold ref_risingFault at hF
 refine wH_seq (wH_region (h_op (vI 0) wz rfl (h_nil (wH_seq (wH_seq (wH_region (h_op (vL eS l_1) wz rfl (h_len un47 rfl wz (h_op (vI 0) wz rfl (h_nil ?_))))))))))
 obtain ⟨o_10, hj_11, hF⟩ := bind_some hF
 obtain ⟨hn_6, hj_11⟩ := forL_some hj_11
 refine wH_join (β := (Unit)) (fun (s_7 : Unit) => ([] : List (Nat × V))) (fun (s_7 : Unit) => ([] : Hp)) (fun p => o_10 = .go p) ?_ ?_
 ·refine wH_block (wH_loop (β := Nat × (List ByteArray) × (Unit)) (fun p => (fun (k_2 : Nat) (l_3 : List ByteArray) (s_7 : Unit) => ([(0, (vL eS l_1)), (5, (vL eS l_1)), (6, (vI (l_1.length : Int))), (7, (vI (k_2 : Int)))] : List (Nat × V))) p.1 p.2.1 p.2.2) (fun p => (fun (k_2 : Nat) (l_3 : List ByteArray) (s_7 : Unit) => ([] : Hp)) p.1 p.2.1 p.2.2) (fun p => forR (fun k x s => ref_risingFault_L1 l_1 k x s) p.2.1 p.1 p.2.2 = some o_10 ∧ (l_1).drop p.1 = p.2.1) (fun p => p.2.1.length) (0, l_1, ()) ⟨hj_11, rfl⟩ rfl (pre_r rfl) ?_)
  rintro ⟨k_2, l_3, s_7⟩ ⟨hL_9, hD_5⟩
  dsimp only at hL_9 hD_5
  cases l_3 with
  | nil =>
   obtain rfl := some_inj hL_9
   refine wH_seq (wH_region (h_op (vB (decide ((k_2 : Int) < (l_1.length : Int)))) wz rfl (h_nil ?_)))
   refine wH_seq (wH_iff rfl (drop_nil hD_5) (wH_exit ?_))
   exact cut_mk (s_7) rfl rfl (pre_r rfl)
  | cons x_4 l_3 =>
   obtain ⟨c_, hc_8, hL_9⟩ := bind_some hL_9
   refine wH_seq (wH_region (h_op (vB (decide ((k_2 : Int) < (l_1.length : Int)))) wz rfl (h_nil ?_)))
   refine wH_seq (wH_ift rfl (drop_cons hD_5) (wH_skip ?_))
   unfold ref_risingFault_L1 at hc_8
   refine wH_seq (wH_block (wH_seq (wH_region (h_op (vI (k_2 : Int)) wz rfl (h_ia es47 rfl rfl (drop_idx hD_5) rfl wz (h_ldc sz9 ag9 rfl (vS x_4) rfl wz (h_op (vI (k_2 : Int)) wz rfl (h_op (vS x_4) wz rfl (h_nil (wH_seq (wH_seq (wH_region (h_op (vS x_4) wz rfl ?_)))))))))))))
   obtain ⟨r_12, hr_13, hc_8⟩ := bind_some hc_8
   refine h_call0 (ref_Key_ok hr_13) rfl hb31 rfl rfl rfl rfl wz (h_op (vB (!r_12)) wz rfl (h_nil ?_))
   rcases cond_some hc_8 with ⟨hc_14, hc_8⟩ | ⟨hc_14, hc_8⟩
   ·refine wH_ift rfl hc_14 (wH_seq (wH_region (h_op (vI 5) wz rfl (h_nil ?_))))
    obtain rfl := some_inj hc_8
    obtain rfl := some_inj hL_9
    obtain rfl := some_inj hF
    exact wH_ret (fin0 (.inr rfl) [(vI 5)] ⟨rfl, trivial⟩ rfl rfl rfl)
   ·refine wH_iff rfl hc_14 (wH_skip (wH_seq ?_))
    obtain ⟨v_15, h_16, hc_8⟩ := bind_some hc_8
    refine wH_join (β := Unit) (fun _ => ([(0, (vL eS l_1)), (5, (vL eS l_1)), (6, (vI (l_1.length : Int))), (7, (vI (k_2 : Int))), (25, (vB v_15))] : List (Nat × V))) (fun _ => ([] : Hp)) (fun _ => True) ?_ ?_
    ·refine wH_region (h_op (vI (k_2 : Int)) wz rfl (h_op (vB (decide ((k_2 : Int) > 0))) wz rfl ?_))
     rcases cond_some h_16 with ⟨hc_17, h_16⟩ | ⟨hc_17, h_16⟩
     ·refine h_movb rfl hc_17 wz (h_op (vS x_4) (wg rfl rfl rfl) rfl (h_op (vL eS l_1) (wg rfl rfl rfl) rfl (h_op (vI (k_2 : Int)) (wg rfl rfl rfl) rfl (h_op (vI (w64 ((k_2 : Int) - 1))) (wg rfl rfl rfl) rfl ?_))))
      obtain ⟨y_18, hy_19, h_16⟩ := bind_some h_16
      refine h_ia es47 rfl rfl hy_19 rfl (wg rfl rfl rfl) (h_ldc sz9 ag9 rfl (vS y_18) rfl (wg rfl rfl rfl) (h_op (vB (sLe x_4 y_18)) (wg rfl rfl rfl) rfl (h_op (vB (sLe x_4 y_18)) wz rfl (h_nil ?_))))
      obtain rfl := some_inj h_16
      exact cut_mk () trivial rfl (pre_r rfl)
     ·refine h_movb rfl hc_17 wz (h_skip (wg rfl rfl rfl) (h_skip (wg rfl rfl rfl) (h_skip (wg rfl rfl rfl) (h_skip (wg rfl rfl rfl) (h_skip (wg rfl rfl rfl) (h_skip (wg rfl rfl rfl) (h_skip (wg rfl rfl rfl) (h_op (vB false) wz rfl (h_nil ?_)))))))))
      obtain rfl := some_inj h_16
      exact cut_mk () trivial rfl (pre_r rfl)
    ·rintro ⟨⟩ _ sl_ H_ hp_ hq_
     refine wH_at _ hp_ hq_ ?_
     rcases cond_some hc_8 with ⟨hc_20, hc_8⟩ | ⟨hc_20, hc_8⟩
     ·refine wH_ift rfl hc_20 (wH_seq (wH_region (h_op (vI 7) wz rfl (h_nil ?_))))
      obtain rfl := some_inj hc_8
      obtain rfl := some_inj hL_9
      obtain rfl := some_inj hF
      exact wH_ret (fin0 (.inr rfl) [(vI 7)] ⟨rfl, trivial⟩ rfl rfl rfl)
     ·refine wH_iff rfl hc_20 (wH_skip (wH_region (h_opw (w64_next hD_5 hn_6) wz rfl (h_op (vI ((k_2 + 1 : Nat) : Int)) wz rfl (h_nil ?_)))))
      obtain rfl := some_inj hc_8
      exact loop_mk (k_2 + 1, l_3, ()) ⟨hL_9, drop_next hD_5⟩ (Nat.lt_succ_self _) rfl (pre_r rfl)
 ·rintro s_7 ho_ sl_ H_ hp_ hq_
  subst ho_
  refine wH_at _ hp_ hq_ (wH_seq (wH_region (h_op (vI 0) wz rfl (h_nil ?_))))
  obtain rfl := some_inj hF
  exact wH_ret (fin0 (.inr rfl) [(vI 0)] ⟨rfl, trivial⟩ rfl rfl rfl)
theorem ref_TagsFault_ok {l_1 : (List ByteArray)} {r : Int} (hF : ref_TagsFault l_1 = some r) :
  FnM Tryd.prog 33 [(vL eS l_1)] [] (vI r) [] := by
 refine FnM.of_wH ⟨Tryd.prog, 8, [], []⟩ rfl Tryd.func33 rfl rfl (Nat.le_of_ble_eq_true rfl) (by kernel_rfl) ?_
 unfold ref_TagsFault at hF
 refine wH_seq (wH_region (h_op (vI 0) wz rfl (h_nil (wH_seq (wH_seq (wH_region (h_op (vL eS l_1) wz rfl (h_len un47 rfl wz (h_op (vB (decide ((l_1.length : Int) > 20))) wz rfl (h_nil ?_))))))))))
 rcases cond_some hF with ⟨hc_2, hF⟩ | ⟨hc_2, hF⟩
 ·refine wH_ift rfl hc_2 (wH_seq (wH_region (h_op (vI 2) wz rfl (h_nil ?_))))
  obtain rfl := some_inj hF
  exact wH_ret (fin0 (.inr rfl) [(vI 2)] ⟨rfl, trivial⟩ rfl rfl rfl)
 ·refine wH_iff rfl hc_2 (wH_skip (wH_seq (wH_region (h_op (vL eS l_1) wz rfl ?_))))
  obtain ⟨r_3, hr_4, hF⟩ := bind_some hF
  refine h_call0 (ref_risingFault_ok hr_4) rfl hb46 rfl rfl rfl rfl wz (h_op (vI r_3) wz rfl (h_nil ?_))
  obtain rfl := some_inj hF
  exact wH_ret (fin0 (.inr rfl) [(vI r_3)] ⟨rfl, trivial⟩ rfl rfl rfl)
theorem ref_CampaignsFault_ok {l_1 : (List Campaign)} {r : Int} (hF : ref_CampaignsFault l_1 = some r) :
  FnM Tryd.prog 12 [(vL Campaign.enc l_1)] [] (vI r) [] := by
 refine FnM.of_wH ⟨Tryd.prog, 84, [], []⟩ rfl Tryd.func12 rfl rfl (Nat.le_of_ble_eq_true rfl) (by kernel_rfl) ?_
 unfold ref_CampaignsFault at hF
 refine wH_seq (wH_region (h_op (vI 0) wz rfl (h_nil (wH_seq (wH_seq (wH_region (h_op (vL Campaign.enc l_1) wz rfl (h_len un26 rfl wz (h_op (vB (decide ((l_1.length : Int) > 30))) wz rfl (h_nil ?_))))))))))
 rcases cond_some hF with ⟨hc_2, hF⟩ | ⟨hc_2, hF⟩
 ·refine wH_ift rfl hc_2 (wH_seq (wH_region (h_op (vI 2) wz rfl (h_nil ?_))))
  obtain rfl := some_inj hF
  exact wH_ret (fin0 (.inr rfl) [(vI 2)] ⟨rfl, trivial⟩ rfl rfl rfl)
 ·refine wH_iff rfl hc_2 (wH_skip (wH_seq (wH_region (h_op (vS (⟨#[]⟩ : ByteArray)) wz rfl (h_nil (wH_seq (wH_seq (wH_region (h_op (vL Campaign.enc l_1) wz rfl (h_len un26 rfl wz (h_op (vI 0) wz rfl (h_nil ?_))))))))))))
  obtain ⟨o_11, hj_12, hF⟩ := bind_some hF
  obtain ⟨hn_7, hj_12⟩ := forL_some hj_12
  refine wH_join (β := (ByteArray)) (fun (s_8 : ByteArray) => ([] : List (Nat × V))) (fun (s_8 : ByteArray) => ([] : Hp)) (fun p => o_11 = .go p) ?_ ?_
  ·refine wH_block (wH_loop (β := Nat × (List Campaign) × (ByteArray)) (fun p => (fun (k_3 : Nat) (l_4 : List Campaign) (s_8 : ByteArray) => ([(3, (vS s_8)), (10, (vL Campaign.enc l_1)), (11, (vI (l_1.length : Int))), (12, (vI (k_3 : Int)))] : List (Nat × V))) p.1 p.2.1 p.2.2) (fun p => (fun (k_3 : Nat) (l_4 : List Campaign) (s_8 : ByteArray) => ([] : Hp)) p.1 p.2.1 p.2.2) (fun p => forR (fun k x s => ref_CampaignsFault_L1 k x s) p.2.1 p.1 p.2.2 = some o_11 ∧ (l_1).drop p.1 = p.2.1) (fun p => p.2.1.length) (0, l_1, (⟨#[]⟩ : ByteArray)) ⟨hj_12, rfl⟩ rfl (pre_r rfl) ?_)
   rintro ⟨k_3, l_4, s_8⟩ ⟨hL_10, hD_6⟩
   dsimp only at hL_10 hD_6
   cases l_4 with
   | nil =>
    obtain rfl := some_inj hL_10
    refine wH_seq (wH_region (h_op (vB (decide ((k_3 : Int) < (l_1.length : Int)))) wz rfl (h_nil ?_)))
    refine wH_seq (wH_iff rfl (drop_nil hD_6) (wH_exit ?_))
    exact cut_mk (s_8) rfl rfl (pre_r rfl)
   | cons x_5 l_4 =>
    obtain ⟨c_, hc_9, hL_10⟩ := bind_some hL_10
    refine wH_seq (wH_region (h_op (vB (decide ((k_3 : Int) < (l_1.length : Int)))) wz rfl (h_nil ?_)))
    refine wH_seq (wH_ift rfl (drop_cons hD_6) (wH_skip ?_))
    unfold ref_CampaignsFault_L1 at hc_9
    refine wH_seq (wH_block (wH_seq (wH_region (h_ia es26 rfl rfl (drop_idx hD_6) rfl wz (h_ldc sz49 ag49 rfl (.d (.agg (Campaign.enc x_5))) rfl wz (h_alloc 0 (.inl rfl) z49 rfl wz (fun n_13 => h_str 0 (.inl rfl) (fun _ _ _ => trivial) 0 sz49 rfl rfl [(vS x_5.Key), (vS x_5.Class), (vI x_5.Time.From), (vI x_5.Time.To), (vL eS x_5.Tags), (vI x_5.Goal), (vI x_5.Most), (vI x_5.Cents)] rfl wz (h_nil (wH_seq (wH_block (wH_seq ?_)))))))))))
    obtain ⟨v_14, h_15, hc_9⟩ := bind_some hc_9
    refine wH_join (β := Unit) (fun _ => ([(3, (vS s_8)), (5, (.ref n_13 0 0)), (10, (vL Campaign.enc l_1)), (11, (vI (l_1.length : Int))), (12, (vI (k_3 : Int))), (16, (vB v_14))] : List (Nat × V))) (fun _ => ([(n_13, some (.cells 8 [(vS x_5.Key), (vS x_5.Class), (vI x_5.Time.From), (vI x_5.Time.To), (vL eS x_5.Tags), (vI x_5.Goal), (vI x_5.Most), (vI x_5.Cents)]))] : Hp)) (fun _ => True) ?_ ?_
    ·refine wH_region (h_far pl49_0 rfl 0 rfl wz (h_ldr 0 0 (.inl rfl) (fun _ _ _ => trivial) sz9 ag9 rfl rfl (vS x_5.Key) rfl wz ?_))
     obtain ⟨r_16, hr_17, h_15⟩ := bind_some h_15
     refine h_call0 (ref_Key_ok hr_17) rfl hb31 rfl rfl rfl rfl wz (h_op (vB (!r_16)) wz rfl ?_)
     rcases cond_some h_15 with ⟨hc_18, h_15⟩ | ⟨hc_18, h_15⟩
     ·refine h_movb rfl hc_18 wz (h_skip (wg rfl rfl rfl) (h_skip (wg rfl rfl rfl) (h_skip (wg rfl rfl rfl) (h_skip (wg rfl rfl rfl) (h_skip (wn rfl rfl) (h_skip (wn rfl rfl) (h_skip (wn rfl rfl) (h_skip (wn rfl rfl) (h_skip (wg rfl rfl rfl) (h_op (vB true) wz rfl (h_op (vB true) wz rfl (h_nil ?_))))))))))))
      obtain rfl := some_inj h_15
      exact cut_mk () trivial rfl (pre_r rfl)
     ·refine h_movb rfl hc_18 wz (h_far pl49_1 rfl 1 rfl (wg rfl rfl rfl) (h_ldr 0 0 (.inl rfl) (fun _ _ _ => trivial) sz9 ag9 rfl rfl (vS x_5.Class) rfl (wg rfl rfl rfl) (h_op (vB (sNe x_5.Class (⟨#[]⟩ : ByteArray))) (wg rfl rfl rfl) rfl ?_)))
      rcases cond_some h_15 with ⟨hc_19, h_15⟩ | ⟨hc_19, h_15⟩
      ·refine h_movb rfl hc_19 (wg rfl rfl rfl) (h_far pl49_1 rfl 1 rfl (wg rfl rfl rfl) (h_ldr 0 0 (.inl rfl) (fun _ _ _ => trivial) sz9 ag9 rfl rfl (vS x_5.Class) rfl (wg rfl rfl rfl) ?_))
       obtain ⟨r_20, hr_21, h_15⟩ := bind_some h_15
       refine h_call0 (ref_Key_ok hr_21) rfl hb31 rfl rfl rfl rfl (wg rfl rfl rfl) (h_op (vB (!r_20)) (wg rfl rfl rfl) rfl (h_op (vB (!r_20)) (wg rfl rfl rfl) rfl (h_op (vB (!r_20)) wz rfl (h_op (vB (!r_20)) wz rfl (h_nil ?_)))))
       obtain rfl := some_inj h_15
       exact cut_mk () trivial rfl (pre_r rfl)
      ·refine h_movb rfl hc_19 (wg rfl rfl rfl) (h_skip (wg rfl rfl rfl) (h_skip (wg rfl rfl rfl) (h_skip (wg rfl rfl rfl) (h_skip (wg rfl rfl rfl) (h_op (vB false) (wg rfl rfl rfl) rfl (h_op (vB false) wz rfl (h_op (vB false) wz rfl (h_nil ?_))))))))
       obtain rfl := some_inj h_15
       exact cut_mk () trivial rfl (pre_r rfl)
    ·rintro ⟨⟩ _ sl_ H_ hp_ hq_
     refine wH_at _ hp_ hq_ ?_
     rcases cond_some hc_9 with ⟨hc_22, hc_9⟩ | ⟨hc_22, hc_9⟩
     ·refine wH_ift rfl hc_22 (wH_seq (wH_region (h_op (vI 5) wz rfl (h_nil ?_))))
      obtain rfl := some_inj hc_9
      obtain rfl := some_inj hL_10
      obtain rfl := some_inj hF
      exact wH_ret (fin0 (.inr rfl) [(vI 5)] ⟨rfl, trivial⟩ rfl rfl rfl)
     ·refine wH_iff rfl hc_22 (wH_seq (wH_region (h_far pl49_0 rfl 0 rfl wz (h_ldr 0 0 (.inl rfl) (fun _ _ _ => trivial) sz9 ag9 rfl rfl (vS x_5.Key) rfl wz (h_op (vS s_8) wz rfl (h_op (vB (sLe x_5.Key s_8)) wz rfl (h_op (vB (sLe x_5.Key s_8)) wz rfl (h_nil ?_))))))))
      rcases cond_some hc_9 with ⟨hc_23, hc_9⟩ | ⟨hc_23, hc_9⟩
      ·refine wH_ift rfl hc_23 (wH_seq (wH_region (h_op (vI 7) wz rfl (h_nil ?_))))
       obtain rfl := some_inj hc_9
       obtain rfl := some_inj hL_10
       obtain rfl := some_inj hF
       exact wH_ret (fin0 (.inr rfl) [(vI 7)] ⟨rfl, trivial⟩ rfl rfl rfl)
      ·refine wH_iff rfl hc_23 (wH_seq ?_)
       obtain ⟨v_24, h_25, hc_9⟩ := bind_some hc_9
       refine wH_join (β := Unit) (fun _ => ([(5, (.ref n_13 0 0)), (10, (vL Campaign.enc l_1)), (11, (vI (l_1.length : Int))), (12, (vI (k_3 : Int))), (37, (vB v_24))] : List (Nat × V))) (fun _ => ([(n_13, some (.cells 8 [(vS x_5.Key), (vS x_5.Class), (vI x_5.Time.From), (vI x_5.Time.To), (vL eS x_5.Tags), (vI x_5.Goal), (vI x_5.Most), (vI x_5.Cents)]))] : Hp)) (fun _ => True) ?_ ?_
       ·refine wH_region (h_far pl49_2 rfl 2 rfl wz (h_far pl46_0 rfl 2 rfl wz (h_ldr 0 0 (.inl rfl) (fun _ _ _ => trivial) sz3 ag3 rfl rfl (vI x_5.Time.From) rfl wz (h_op (vB (decide (x_5.Time.From < 0))) wz rfl ?_))))
        rcases cond_some h_25 with ⟨hc_26, h_25⟩ | ⟨hc_26, h_25⟩
        ·refine h_movb rfl hc_26 wz (h_skip (wg rfl rfl rfl) (h_skip (wg rfl rfl rfl) (h_skip (wg rfl rfl rfl) (h_skip (wg rfl rfl rfl) (h_skip (wg rfl rfl rfl) (h_skip (wg rfl rfl rfl) (h_skip (wg rfl rfl rfl) (h_op (vB true) wz rfl (h_op (vB true) wz rfl (h_skip (wg rfl rfl rfl) (h_skip (wg rfl rfl rfl) (h_skip (wg rfl rfl rfl) (h_skip (wg rfl rfl rfl) (h_op (vB true) wz rfl (h_op (vB true) wz rfl (h_skip (wg rfl rfl rfl) (h_skip (wg rfl rfl rfl) (h_skip (wg rfl rfl rfl) (h_skip (wg rfl rfl rfl) (h_op (vB true) wz rfl (h_op (vB true) wz rfl (h_skip (wg rfl rfl rfl) (h_skip (wg rfl rfl rfl) ?_)))))))))))))))))))))))
         refine h_skip (wg rfl rfl rfl) (h_skip (wg rfl rfl rfl) (h_op (vB true) wz rfl (h_op (vB true) wz rfl (h_skip (wg rfl rfl rfl) (h_skip (wg rfl rfl rfl) (h_skip (wg rfl rfl rfl) (h_skip (wg rfl rfl rfl) (h_op (vB true) wz rfl (h_op (vB true) wz rfl (h_nil ?_))))))))))
         obtain rfl := some_inj h_25
         exact cut_mk () trivial rfl (pre_r rfl)
        ·refine h_movb rfl hc_26 wz (h_far pl49_2 rfl 2 rfl (wg rfl rfl rfl) (h_far pl46_0 rfl 2 rfl (wg rfl rfl rfl) (h_ldr 0 0 (.inl rfl) (fun _ _ _ => trivial) sz3 ag3 rfl rfl (vI x_5.Time.From) rfl (wg rfl rfl rfl) (h_far pl49_2 rfl 2 rfl (wg rfl rfl rfl) (h_far pl46_1 rfl 3 rfl (wg rfl rfl rfl) (h_ldr 0 0 (.inl rfl) (fun _ _ _ => trivial) sz3 ag3 rfl rfl (vI x_5.Time.To) rfl (wg rfl rfl rfl) (h_op (vB (decide (x_5.Time.From ≥ x_5.Time.To))) (wg rfl rfl rfl) rfl (h_op (vB (decide (x_5.Time.From ≥ x_5.Time.To))) wz rfl ?_))))))))
         rcases cond_some h_25 with ⟨hc_27, h_25⟩ | ⟨hc_27, h_25⟩
         ·refine h_movb rfl hc_27 wz (h_skip (wg rfl rfl rfl) (h_skip (wg rfl rfl rfl) (h_skip (wg rfl rfl rfl) (h_skip (wg rfl rfl rfl) (h_op (vB true) wz rfl (h_op (vB true) wz rfl (h_skip (wg rfl rfl rfl) (h_skip (wg rfl rfl rfl) (h_skip (wg rfl rfl rfl) (h_skip (wg rfl rfl rfl) (h_op (vB true) wz rfl (h_op (vB true) wz rfl (h_skip (wg rfl rfl rfl) (h_skip (wg rfl rfl rfl) (h_skip (wg rfl rfl rfl) (h_skip (wg rfl rfl rfl) (h_op (vB true) wz rfl (h_op (vB true) wz rfl (h_skip (wg rfl rfl rfl) (h_skip (wg rfl rfl rfl) (h_skip (wg rfl rfl rfl) (h_skip (wg rfl rfl rfl) (h_op (vB true) wz rfl ?_)))))))))))))))))))))))
          refine h_op (vB true) wz rfl (h_nil ?_)
          obtain rfl := some_inj h_25
          exact cut_mk () trivial rfl (pre_r rfl)
         ·refine h_movb rfl hc_27 wz (h_far pl49_2 rfl 2 rfl (wg rfl rfl rfl) (h_far pl46_1 rfl 3 rfl (wg rfl rfl rfl) (h_ldr 0 0 (.inl rfl) (fun _ _ _ => trivial) sz3 ag3 rfl rfl (vI x_5.Time.To) rfl (wg rfl rfl rfl) (h_op (vB (decide (x_5.Time.To > 345686400000))) (wg rfl rfl rfl) rfl (h_op (vB (decide (x_5.Time.To > 345686400000))) wz rfl ?_)))))
          rcases cond_some h_25 with ⟨hc_28, h_25⟩ | ⟨hc_28, h_25⟩
          ·refine h_movb rfl hc_28 wz (h_skip (wg rfl rfl rfl) (h_skip (wg rfl rfl rfl) (h_skip (wg rfl rfl rfl) (h_skip (wg rfl rfl rfl) (h_op (vB true) wz rfl (h_op (vB true) wz rfl (h_skip (wg rfl rfl rfl) (h_skip (wg rfl rfl rfl) (h_skip (wg rfl rfl rfl) (h_skip (wg rfl rfl rfl) (h_op (vB true) wz rfl (h_op (vB true) wz rfl (h_skip (wg rfl rfl rfl) (h_skip (wg rfl rfl rfl) (h_skip (wg rfl rfl rfl) (h_skip (wg rfl rfl rfl) (h_op (vB true) wz rfl (h_op (vB true) wz rfl (h_nil ?_)))))))))))))))))))
           obtain rfl := some_inj h_25
           exact cut_mk () trivial rfl (pre_r rfl)
          ·refine h_movb rfl hc_28 wz (h_far pl49_4 rfl 5 rfl (wg rfl rfl rfl) (h_ldr 0 0 (.inl rfl) (fun _ _ _ => trivial) sz3 ag3 rfl rfl (vI x_5.Goal) rfl (wg rfl rfl rfl) ?_))
           obtain ⟨r_29, hr_30, h_25⟩ := bind_some h_25
           refine h_call0 (ref_in_ok hr_30) rfl hb32 rfl rfl rfl rfl (wg rfl rfl rfl) (h_op (vB (!r_29)) (wg rfl rfl rfl) rfl (h_op (vB (!r_29)) wz rfl ?_))
           rcases cond_some h_25 with ⟨hc_31, h_25⟩ | ⟨hc_31, h_25⟩
           ·refine h_movb rfl hc_31 wz (h_skip (wg rfl rfl rfl) (h_skip (wg rfl rfl rfl) (h_skip (wg rfl rfl rfl) (h_skip (wg rfl rfl rfl) (h_op (vB true) wz rfl (h_op (vB true) wz rfl (h_skip (wg rfl rfl rfl) (h_skip (wg rfl rfl rfl) (h_skip (wg rfl rfl rfl) (h_skip (wg rfl rfl rfl) (h_op (vB true) wz rfl (h_op (vB true) wz rfl (h_nil ?_)))))))))))))
            obtain rfl := some_inj h_25
            exact cut_mk () trivial rfl (pre_r rfl)
           ·refine h_movb rfl hc_31 wz (h_far pl49_5 rfl 6 rfl (wg rfl rfl rfl) (h_ldr 0 0 (.inl rfl) (fun _ _ _ => trivial) sz3 ag3 rfl rfl (vI x_5.Most) rfl (wg rfl rfl rfl) ?_))
            obtain ⟨r_32, hr_33, h_25⟩ := bind_some h_25
            refine h_call0 (ref_in_ok hr_33) rfl hb32 rfl rfl rfl rfl (wg rfl rfl rfl) (h_op (vB (!r_32)) (wg rfl rfl rfl) rfl (h_op (vB (!r_32)) wz rfl ?_))
            rcases cond_some h_25 with ⟨hc_34, h_25⟩ | ⟨hc_34, h_25⟩
            ·refine h_movb rfl hc_34 wz (h_skip (wg rfl rfl rfl) (h_skip (wg rfl rfl rfl) (h_skip (wg rfl rfl rfl) (h_skip (wg rfl rfl rfl) (h_op (vB true) wz rfl (h_op (vB true) wz rfl (h_nil ?_)))))))
             obtain rfl := some_inj h_25
             exact cut_mk () trivial rfl (pre_r rfl)
            ·refine h_movb rfl hc_34 wz (h_far pl49_6 rfl 7 rfl (wg rfl rfl rfl) (h_ldr 0 0 (.inl rfl) (fun _ _ _ => trivial) sz3 ag3 rfl rfl (vI x_5.Cents) rfl (wg rfl rfl rfl) ?_))
             obtain ⟨r_35, hr_36, h_25⟩ := bind_some h_25
             refine h_call0 (ref_in_ok hr_36) rfl hb32 rfl rfl rfl rfl (wg rfl rfl rfl) (h_op (vB (!r_35)) (wg rfl rfl rfl) rfl (h_op (vB (!r_35)) wz rfl (h_op (vB (!r_35)) wz rfl (h_nil ?_))))
             obtain rfl := some_inj h_25
             exact cut_mk () trivial rfl (pre_r rfl)
       ·rintro ⟨⟩ _ sl_ H_ hp_ hq_
        refine wH_at _ hp_ hq_ ?_
        rcases cond_some hc_9 with ⟨hc_37, hc_9⟩ | ⟨hc_37, hc_9⟩
        ·refine wH_ift rfl hc_37 (wH_seq (wH_region (h_op (vI 1) wz rfl (h_nil ?_))))
         obtain rfl := some_inj hc_9
         obtain rfl := some_inj hL_10
         obtain rfl := some_inj hF
         exact wH_ret (fin0 (.inr rfl) [(vI 1)] ⟨rfl, trivial⟩ rfl rfl rfl)
        ·refine wH_iff rfl hc_37 (wH_skip (wH_seq (wH_region (h_far pl49_0 rfl 0 rfl wz (h_ldr 0 0 (.inl rfl) (fun _ _ _ => trivial) sz9 ag9 rfl rfl (vS x_5.Key) rfl wz (h_op (vS x_5.Key) wz rfl (h_nil (wH_seq (wH_region (h_far pl49_3 rfl 4 rfl wz (h_ldr 0 0 (.inl rfl) (fun _ _ _ => trivial) sz47 ag47 rfl rfl (vL eS x_5.Tags) rfl wz ?_)))))))))))
         obtain ⟨r_38, hr_39, hc_9⟩ := bind_some hc_9
         refine h_call0 (ref_TagsFault_ok hr_39) rfl hb33 rfl rfl rfl rfl wz (h_op (vI r_38) wz rfl (h_nil (wH_seq (wH_region (h_op (vI r_38) wz rfl (h_op (vB (r_38 != 0)) wz rfl (h_nil ?_)))))))
         rcases cond_some hc_9 with ⟨hc_40, hc_9⟩ | ⟨hc_40, hc_9⟩
         ·refine wH_ift rfl hc_40 (wH_seq (wH_region (h_op (vI r_38) wz rfl (h_op (vI r_38) wz rfl (h_nil ?_)))))
          obtain rfl := some_inj hc_9
          obtain rfl := some_inj hL_10
          obtain rfl := some_inj hF
          exact wH_ret (fin0 (.inr rfl) [(vI r_38)] ⟨rfl, trivial⟩ rfl rfl rfl)
         ·refine wH_iff rfl hc_40 (wH_skip (wH_region (h_opw (w64_next hD_6 hn_7) wz rfl (h_op (vI ((k_3 + 1 : Nat) : Int)) wz rfl (h_nil ?_)))))
          obtain rfl := some_inj hc_9
          exact loop_mk (k_3 + 1, l_4, x_5.Key) ⟨hL_10, drop_next hD_6⟩ (Nat.lt_succ_self _) rfl (pre_r rfl)
  ·rintro s_8 ho_ sl_ H_ hp_ hq_
   subst ho_
   refine wH_at _ hp_ hq_ (wH_seq (wH_region (h_op (vI 0) wz rfl (h_nil ?_))))
   obtain rfl := some_inj hF
   exact wH_ret (fin0 (.inr rfl) [(vI 0)] ⟨rfl, trivial⟩ rfl rfl rfl)
theorem ref_Moment_ok {atv_1 : Int} {r : Bool} (hF : ref_Moment atv_1 = some r) :
  FnM Tryd.prog 34 [(vI atv_1)] [] (vB r) [] := by
 refine FnM.of_wH ⟨Tryd.prog, 5, [], []⟩ rfl Tryd.func34 rfl rfl (Nat.le_of_ble_eq_true rfl) (by kernel_rfl) ?_
 unfold ref_Moment at hF
 refine wH_seq (wH_region (h_op (vB false) wz rfl (h_nil (wH_seq (wH_region (h_op (vI atv_1) wz rfl ?_))))))
 obtain ⟨r_2, hr_3, hF⟩ := bind_some hF
 refine h_call0 (ref_in_ok hr_3) rfl hb32 rfl rfl rfl rfl wz (h_op (vB r_2) wz rfl (h_nil ?_))
 obtain rfl := some_inj hF
 exact wH_ret (fin0 (.inr rfl) [(vB r_2)] ⟨rfl, trivial⟩ rfl rfl rfl)
end Go.Proofs.YtjmpbmnakfipdaaDoor.Law

