/-
 The machine computes these plain functions (written by a program of ours).
-/
import Derived.Test.YtipcgokielgnhaaGreatDoorFacts
import Derived.Test.YtipcgokielgnhaaGreatDoorDefs
import Derived.Test.YtipcgokielgnhaaGreatDoorPf5
open Go Go.Eng Go.Proofs
namespace Go.Proofs.YtipcgokielgnhaaGreatDoor.Law
set_option maxRecDepth 100000
set_option linter.unusedVariables false
set_option maxHeartbeats 1000000
theorem keep_PacesGrow_ok {l_1 : (List Int)} {r : Bool} (hF : keep_PacesGrow l_1 = some r) :
  FnM Tryz.prog 9 [(vL eI l_1)] [] (vB r) [] := by
 refine FnM.of_wH ⟨Tryz.prog, 173, [], []⟩ rfl Tryz.func9 rfl rfl (Nat.le_of_ble_eq_true rfl) (by kernel_rfl) ?_
 unfold keep_PacesGrow at hF
 refine wH_seq (wH_region (h_op (vB false) wz rfl (h_nil (wH_seq (wH_region (h_op (vL eI l_1) wz rfl (h_op (.d (.agg (Stream.enc (⟨l_1, 0⟩ : Stream)))) wz (by kernel_rfl) (h_box 0 (.inl rfl) [(vL eI l_1), (vI 0)] rfl rfl wz (fun n_2 => h_op (.ref n_2 0 0) wz rfl (h_nil (wH_seq (wH_region (h_op (.ref n_2 0 0) wz rfl ?_)))))))))))))
 obtain ⟨r_3, hr_4, hF⟩ := bind_some hF
 refine h_callq 0 [0] (.inl rfl) (fun _ _ _ => trivial) (mk_Stream_RightCampaigns_ok hr_4) rfl hb37 rfl (by kernel_rfl) (by kernel_rfl) (by kernel_rfl) (by kernel_rfl) (by kernel_rfl) (by kernel_rfl) (by kernel_rfl) (by decide) (by kernel_rfl) wz (vL Campaign.enc r_3.1) (by kernel_rfl) ([(n_2, some (.cells 2 [(vL eI r_3.2.L), (vI r_3.2.f_at)]))] : Hp) (by kernel_rfl) (h_op (.ref n_2 0 0) wz rfl ?_)
 obtain ⟨r_6, hr_7, hF⟩ := bind_some hF
 refine h_callq 0 [0] (.inl rfl) (fun _ _ _ => trivial) (mk_Stream_Range_ok hr_7) rfl hb10 rfl (by kernel_rfl) (by kernel_rfl) (by kernel_rfl) (by kernel_rfl) (by kernel_rfl) (by kernel_rfl) (by kernel_rfl) (by decide) (by kernel_rfl) wz (vI r_6.1) (by kernel_rfl) ([(n_2, some (.cells 2 [(vL eI r_6.2.L), (vI r_6.2.f_at)]))] : Hp) (by kernel_rfl) (h_op (vL Campaign.enc r_3.1) wz rfl (h_op (vI r_6.1) wz rfl (h_nil (wH_seq (wH_seq (wH_region (h_op (vL Campaign.enc r_3.1) wz rfl (h_len un85 rfl wz (h_op (vI 0) wz rfl (h_nil ?_))))))))))
 obtain ⟨o_17, hj_18, hF⟩ := bind_some hF
 obtain ⟨hn_13, hj_18⟩ := forL_some hj_18
 refine wH_join (β := ((List Int) × Int)) (fun (s_14 : (List Int) × Int) => ([(3, (.ref n_2 0 0)), (4, (vL Campaign.enc r_3.1)), (5, (vI r_6.1))] : List (Nat × V))) (fun (s_14 : (List Int) × Int) => ([(n_2, some (.cells 2 [(vL eI s_14.1), (vI s_14.2)]))] : Hp)) (fun p => o_17 = .go p) ?_ ?_
 ·refine wH_block (wH_loop (β := Nat × (List Campaign) × ((List Int) × Int)) (fun p => (fun (k_9 : Nat) (l_10 : List Campaign) (s_14 : (List Int) × Int) => ([(3, (.ref n_2 0 0)), (4, (vL Campaign.enc r_3.1)), (5, (vI r_6.1)), (30, (vL Campaign.enc r_3.1)), (31, (vI (r_3.1.length : Int))), (32, (vI (k_9 : Int)))] : List (Nat × V))) p.1 p.2.1 p.2.2) (fun p => (fun (k_9 : Nat) (l_10 : List Campaign) (s_14 : (List Int) × Int) => ([(n_2, some (.cells 2 [(vL eI s_14.1), (vI s_14.2)]))] : Hp)) p.1 p.2.1 p.2.2) (fun p => forR (fun k x s => keep_PacesGrow_L1 r_6 k x s) p.2.1 p.1 p.2.2 = some o_17 ∧ (r_3.1).drop p.1 = p.2.1) (fun p => p.2.1.length) (0, r_3.1, (r_6.2.L, r_6.2.f_at)) ⟨hj_18, rfl⟩ rfl (pre_r rfl) ?_)
  rintro ⟨k_9, l_10, s_14⟩ ⟨hL_16, hD_12⟩
  dsimp only at hL_16 hD_12
  cases l_10 with
  | nil =>
   obtain rfl := some_inj hL_16
   refine wH_seq (wH_region (h_op (vB (decide ((k_9 : Int) < (r_3.1.length : Int)))) wz rfl (h_nil ?_)))
   refine wH_seq (wH_iff rfl (drop_nil hD_12) (wH_exit ?_))
   exact cut_mk (s_14) rfl rfl (pre_r rfl)
  | cons x_11 l_10 =>
   obtain ⟨c_, hc_15, hL_16⟩ := bind_some hL_16
   refine wH_seq (wH_region (h_op (vB (decide ((k_9 : Int) < (r_3.1.length : Int)))) wz rfl (h_nil ?_)))
   refine wH_seq (wH_ift rfl (drop_cons hD_12) (wH_skip ?_))
   unfold keep_PacesGrow_L1 at hc_15
   refine wH_seq (wH_block (wH_seq (wH_region (h_ia es85 rfl rfl (drop_idx hD_12) rfl wz (h_ldc sz90 ag90 rfl (.d (.agg (Campaign.enc x_11))) rfl wz (h_alloc 0 (.inl rfl) z90 rfl wz (fun n_19 => h_str 0 (.inl rfl) (fun _ _ _ => trivial) 1 sz90 rfl rfl [(vS x_11.Key), (vS x_11.Class), (vI x_11.Time.From), (vI x_11.Time.To), (vL eS x_11.Tags), (vI x_11.Goal), (vI x_11.Most), (vI x_11.Cents)] rfl wz (h_nil (wH_seq (wH_region (h_ldr 0 1 (.inl rfl) (fun _ _ _ => trivial) sz90 ag90 rfl rfl (.d (.agg (Campaign.enc x_11))) rfl wz (h_op (vI r_6.1) wz rfl ?_))))))))))))
   obtain ⟨r_20, hr_21, hc_15⟩ := bind_some hc_15
   refine h_call0 (booking_Due_ok hr_21) rfl hb38 rfl rfl rfl rfl wz (h_op (.tup [(vI r_20.1), (vI r_20.2)]) wz rfl (h_op (vI r_20.1) wz rfl (h_op (vI r_20.2) wz rfl (h_op (vI r_20.1) wz rfl (h_op (vI r_20.2) wz rfl (h_nil (wH_seq (wH_draws (h_ldr 0 1 (.inr (by kernel_rfl)) (fun _ _ ag => trivial) sz90 ag90 rfl rfl (.d (.agg (Campaign.enc x_11))) rfl wz (h_op (vI r_6.1) wz rfl (h_op (.ref n_2 0 0) wz rfl ?_)))))))))))
   obtain ⟨r_22, hr_23, hc_15⟩ := bind_some hc_15
   refine h_callq 3 [0] (.inr (by kernel_rfl)) (fun _ _ ag => by exact ⟨.inr (.inl (dis1 (ag_ne ag (i := 0) (j := 1) rfl rfl (by decide)))), trivial⟩) (mk_Stream_Range_ok hr_23) rfl hb10 rfl (by kernel_rfl) (by kernel_rfl) (by kernel_rfl) (by kernel_rfl) (by kernel_rfl) (by kernel_rfl) (by kernel_rfl) (by decide) (by kernel_rfl) wz (vI r_22.1) (by kernel_rfl) ([(n_2, some (.cells 2 [(vL eI r_22.2.L), (vI r_22.2.f_at)])), (n_19, some (.cells 8 [(vS x_11.Key), (vS x_11.Class), (vI x_11.Time.From), (vI x_11.Time.To), (vL eS x_11.Tags), (vI x_11.Goal), (vI x_11.Most), (vI x_11.Cents)]))] : Hp) (by kernel_rfl) (h_op (vI (w64 (r_6.1 + r_22.1))) wz rfl ?_)
   obtain ⟨r_25, hr_26, hc_15⟩ := bind_some hc_15
   refine h_call0 (booking_Due_ok hr_26) rfl hb38 rfl rfl rfl rfl wz (h_op (.tup [(vI r_25.1), (vI r_25.2)]) wz rfl (h_op (vI r_25.1) wz rfl (h_op (vI r_25.2) wz rfl (h_op (vI r_25.1) wz rfl (h_op (vI r_25.2) wz rfl (h_nil (wH_seq (wH_region (h_ldr 0 1 (.inl rfl) (fun _ _ _ => trivial) sz90 ag90 rfl rfl (.d (.agg (Campaign.enc x_11))) rfl wz (h_far pl90_2 rfl 2 rfl wz (h_far pl88_1 rfl 3 rfl wz (h_ldr 0 1 (.inl rfl) (fun _ _ _ => trivial) sz3 ag3 rfl rfl (vI x_11.Time.To) rfl wz ?_))))))))))))
   obtain ⟨r_27, hr_28, hc_15⟩ := bind_some hc_15
   refine h_call0 (booking_Due_ok hr_28) rfl hb38 rfl rfl rfl rfl wz (h_op (.tup [(vI r_27.1), (vI r_27.2)]) wz rfl (h_op (vI r_27.1) wz rfl (h_op (vI r_27.2) wz rfl (h_op (vI r_27.1) wz rfl (h_op (vI r_27.2) wz rfl (h_nil (wH_at (H0 := ([(n_2, some (.cells 2 [(vL eI r_22.2.L), (vI r_22.2.f_at)])), (n_19, some (.cells 8 [(vS x_11.Key), (vS x_11.Class), (vI x_11.Time.From), (vI x_11.Time.To), (vL eS x_11.Tags), (vI x_11.Goal), (vI x_11.Most), (vI x_11.Cents)]))] : Hp)) ([(3, (.ref n_2 0 0)), (4, (vL Campaign.enc r_3.1)), (5, (vI r_6.1)), (7, (.ref n_19 0 0)), (8, (vI r_20.1)), (9, (vI r_20.2)), (10, (vI r_25.1)), (11, (vI r_25.2)), (12, (vI r_27.1)), (13, (vI r_27.2)), (30, (vL Campaign.enc r_3.1)), (31, (vI (r_3.1.length : Int))), (32, (vI (k_9 : Int)))] : List (Nat × V)) (by kernel_rfl) (pre_mk (by kernel_rfl)) (wH_seq ?_))))))))
   obtain ⟨v_29, h_30, hc_15⟩ := bind_some hc_15
   refine wH_join (β := Unit) (fun _ => ([(3, (.ref n_2 0 0)), (4, (vL Campaign.enc r_3.1)), (5, (vI r_6.1)), (30, (vL Campaign.enc r_3.1)), (31, (vI (r_3.1.length : Int))), (32, (vI (k_9 : Int))), (79, (vB v_29))] : List (Nat × V))) (fun _ => ([(n_2, some (.cells 2 [(vL eI r_22.2.L), (vI r_22.2.f_at)])), (n_19, some (.cells 8 [(vS x_11.Key), (vS x_11.Class), (vI x_11.Time.From), (vI x_11.Time.To), (vL eS x_11.Tags), (vI x_11.Goal), (vI x_11.Most), (vI x_11.Cents)]))] : Hp)) (fun _ => True) ?_ ?_
   ·refine wH_region (h_op (vI r_20.2) wz rfl (h_op (vI r_25.2) wz rfl (h_op (vI r_27.2) wz rfl (h_lit (([r_20.2, r_25.2, r_27.2] : List Int).map eI) es123 ez123 rfl rfl rfl rfl rfl wz ?_))))
    obtain ⟨r_31, hr_32, h_30⟩ := bind_some h_30
    refine h_call0 (keep_errs_ok hr_32) rfl hb21 rfl rfl rfl rfl wz (h_op (vB (r_31 != 0)) wz rfl ?_)
    rcases cond_some h_30 with ⟨hc_33, h_30⟩ | ⟨hc_33, h_30⟩
    ·refine h_movb rfl hc_33 wz (h_skip (wg rfl rfl rfl) (h_skip (wg rfl rfl rfl) (h_skip (wg rfl rfl rfl) (h_op (vB true) wz rfl (h_op (vB true) wz rfl (h_skip (wg rfl rfl rfl) (h_skip (wg rfl rfl rfl) (h_skip (wg rfl rfl rfl) (h_skip (wg rfl rfl rfl) (h_op (vB true) wz rfl (h_op (vB true) wz rfl (h_skip (wg rfl rfl rfl) (h_skip (wg rfl rfl rfl) (h_op (vB true) wz rfl (h_nil ?_)))))))))))))))
     obtain rfl := some_inj h_30
     exact cut_mk () trivial rfl (pre_r rfl)
    ·refine h_movb rfl hc_33 wz (h_op (vI r_20.1) (wg rfl rfl rfl) rfl (h_op (vI r_25.1) (wg rfl rfl rfl) rfl (h_op (vB (decide (r_20.1 > r_25.1))) (wg rfl rfl rfl) rfl (h_op (vB (decide (r_20.1 > r_25.1))) wz rfl ?_))))
     rcases cond_some h_30 with ⟨hc_34, h_30⟩ | ⟨hc_34, h_30⟩
     ·refine h_movb rfl hc_34 wz (h_skip (wg rfl rfl rfl) (h_skip (wg rfl rfl rfl) (h_skip (wg rfl rfl rfl) (h_skip (wg rfl rfl rfl) (h_op (vB true) wz rfl (h_op (vB true) wz rfl (h_skip (wg rfl rfl rfl) (h_skip (wg rfl rfl rfl) (h_op (vB true) wz rfl (h_nil ?_))))))))))
      obtain rfl := some_inj h_30
      exact cut_mk () trivial rfl (pre_r rfl)
     ·refine h_movb rfl hc_34 wz (h_op (vI r_27.1) (wg rfl rfl rfl) rfl (h_far pl90_4 rfl 5 rfl (wg rfl rfl rfl) (h_ldr 0 1 (.inl rfl) (fun _ _ _ => trivial) sz3 ag3 rfl rfl (vI x_11.Goal) rfl (wg rfl rfl rfl) (h_op (vB (r_27.1 != x_11.Goal)) (wg rfl rfl rfl) rfl (h_op (vB (r_27.1 != x_11.Goal)) wz rfl ?_)))))
      rcases cond_some h_30 with ⟨hc_35, h_30⟩ | ⟨hc_35, h_30⟩
      ·refine h_movb rfl hc_35 wz (h_skip (wg rfl rfl rfl) (h_skip (wg rfl rfl rfl) (h_op (vB true) wz rfl (h_nil ?_))))
       obtain rfl := some_inj h_30
       exact cut_mk () trivial rfl (pre_r rfl)
      ·refine h_movb rfl hc_35 wz (h_op (vI r_20.1) (wg rfl rfl rfl) rfl (h_op (vB (decide (r_20.1 < 0))) (wg rfl rfl rfl) rfl (h_op (vB (decide (r_20.1 < 0))) wz rfl (h_nil ?_))))
       obtain rfl := some_inj h_30
       exact cut_mk () trivial rfl (pre_r rfl)
   ·rintro ⟨⟩ _ sl_ H_ hp_ hq_
    refine wH_at _ hp_ hq_ ?_
    rcases cond_some hc_15 with ⟨hc_36, hc_15⟩ | ⟨hc_36, hc_15⟩
    ·refine wH_ift rfl hc_36 (wH_seq (wH_region (h_op (vB false) wz rfl (h_nil ?_))))
     obtain rfl := some_inj hc_15
     obtain rfl := some_inj hL_16
     obtain rfl := some_inj hF
     exact wH_ret (fin0 (.inr rfl) [(vB false)] ⟨rfl, trivial⟩ rfl rfl rfl)
    ·refine wH_iff rfl hc_36 (wH_skip (wH_region (h_opw (w64_next hD_12 hn_13) wz rfl (h_op (vI ((k_9 + 1 : Nat) : Int)) wz rfl (h_nil ?_)))))
     obtain rfl := some_inj hc_15
     exact loop_mk (k_9 + 1, l_10, (r_22.2.L, r_22.2.f_at)) ⟨hL_16, drop_next hD_12⟩ (Nat.lt_succ_self _) rfl (pre_r rfl)
 ·rintro s_14 ho_ sl_ H_ hp_ hq_
  subst ho_
  refine wH_at _ hp_ hq_ (wH_seq (wH_region (h_op .nil wz rfl (h_nil (wH_seq (wH_seq (wH_region (h_op (.ref n_2 0 0) wz rfl ?_))))))))
  obtain ⟨r_37, hr_38, hF⟩ := bind_some hF
  refine h_callq 0 [0] (.inl rfl) (fun _ _ _ => trivial) (mk_Stream_Range_ok hr_38) rfl hb10 rfl (by kernel_rfl) (by kernel_rfl) (by kernel_rfl) (by kernel_rfl) (by kernel_rfl) (by kernel_rfl) (by kernel_rfl) (by decide) (by kernel_rfl) wz (vI r_37.1) (by kernel_rfl) ([(n_2, some (.cells 2 [(vL eI r_37.2.L), (vI r_37.2.f_at)]))] : Hp) (by kernel_rfl) (h_op (vI 0) wz rfl (h_nil (wH_new (fun n_46 => ?_))))
  obtain ⟨o_51, hj_52, hF⟩ := bind_some hF
  obtain ⟨hn_44, hj_52⟩ := forL_some hj_52
  refine wH_join (β := ((List Play) × (List Int) × Int) × Nm) (fun p => (fun (s_45 : (List Play) × (List Int) × Int) (n_48 : Nm) => ([(4, (vL Campaign.enc r_3.1)), (5, (vI r_6.1)), (14, (gV n_48 4 s_45.1))] : List (Nat × V))) p.1 p.2) (fun p => (fun (s_45 : (List Play) × (List Int) × Int) (n_48 : Nm) => ([(n_2, some (.cells 2 [(vL eI s_45.2.1), (vI s_45.2.2)])), (n_48, gB 4 Play.enc s_45.1)] : Hp)) p.1 p.2) (fun p => o_51 = .go p.1) ?_ ?_
  ·refine wH_block (wH_loop (β := Nat × (List Nat) × ((List Play) × (List Int) × Int) × Nm) (fun p => (fun (k_40 : Nat) (l_41 : List Nat) (s_45 : (List Play) × (List Int) × Int) (n_48 : Nm) => ([(3, (.ref n_2 0 0)), (4, (vL Campaign.enc r_3.1)), (5, (vI r_6.1)), (14, (gV n_48 4 s_45.1)), (82, (vI r_37.1)), (83, (vI (k_40 : Int)))] : List (Nat × V))) p.1 p.2.1 p.2.2.1 p.2.2.2) (fun p => (fun (k_40 : Nat) (l_41 : List Nat) (s_45 : (List Play) × (List Int) × Int) (n_48 : Nm) => ([(n_2, some (.cells 2 [(vL eI s_45.2.1), (vI s_45.2.2)])), (n_48, gB 4 Play.enc s_45.1)] : Hp)) p.1 p.2.1 p.2.2.1 p.2.2.2) (fun p => forR (fun k x s => keep_PacesGrow_L2 k x s) p.2.1 p.1 p.2.2.1 = some o_51 ∧ ((List.range (r_37.1).toNat)).drop p.1 = p.2.1) (fun p => p.2.1.length) (0, (List.range (r_37.1).toNat), (([] : List Play), r_37.2.L, r_37.2.f_at), n_46) ⟨hj_52, rfl⟩ rfl (pre_r rfl) ?_)
   rintro ⟨k_40, l_41, s_45, n_48⟩ ⟨hL_50, hD_43⟩
   dsimp only at hL_50 hD_43
   cases l_41 with
   | nil =>
    obtain rfl := some_inj hL_50
    refine wH_seq (wH_region (h_op (vB (decide ((k_40 : Int) < r_37.1))) wz rfl (h_nil ?_)))
    refine wH_seq (wH_iff rfl (range_nil hD_43) (wH_exit ?_))
    exact cut_mk (s_45, n_48) rfl rfl (pre_r rfl)
   | cons x_42 l_41 =>
    obtain ⟨c_, hc_49, hL_50⟩ := bind_some hL_50
    refine wH_seq (wH_region (h_op (vB (decide ((k_40 : Int) < r_37.1))) wz rfl (h_nil ?_)))
    refine wH_seq (wH_ift rfl (range_cons hD_43) (wH_skip ?_))
    unfold keep_PacesGrow_L2 at hc_49
    refine wH_seq (wH_block (wH_region (h_op (gV n_48 4 s_45.1) wz rfl (h_op (.ref n_2 0 0) wz rfl (h_lit (([(⟨#[99, 97]⟩ : ByteArray), (⟨#[99, 98]⟩ : ByteArray), (⟨#[99, 99]⟩ : ByteArray)] : List ByteArray).map eS) es66 ez66 rfl rfl rfl rfl rfl wz ?_)))))
    obtain ⟨r_53, hr_54, hc_49⟩ := bind_some hc_49
    refine h_callq 0 [0] (.inl rfl) (fun _ _ _ => trivial) (mk_Stream_Some_ok hr_54) rfl hb39 rfl (by kernel_rfl) (by kernel_rfl) (by kernel_rfl) (by kernel_rfl) (by kernel_rfl) (by kernel_rfl) (by kernel_rfl) (by decide) (by kernel_rfl) wz (vS r_53.1) (by kernel_rfl) ([(n_2, some (.cells 2 [(vL eI r_53.2.L), (vI r_53.2.f_at)])), (n_48, gB 4 Play.enc s_45.1)] : Hp) (by kernel_rfl) (h_op (.ref n_2 0 0) wz rfl ?_)
    obtain ⟨r_56, hr_57, hc_49⟩ := bind_some hc_49
    refine h_callq 0 [0] (.inl rfl) (fun _ _ _ => trivial) (mk_Stream_Range_ok hr_57) rfl hb10 rfl (by kernel_rfl) (by kernel_rfl) (by kernel_rfl) (by kernel_rfl) (by kernel_rfl) (by kernel_rfl) (by kernel_rfl) (by decide) (by kernel_rfl) wz (vI r_56.1) (by kernel_rfl) ([(n_2, some (.cells 2 [(vL eI r_56.2.L), (vI r_56.2.f_at)])), (n_48, gB 4 Play.enc s_45.1)] : Hp) (by kernel_rfl) (h_op (.d (.agg (Play.enc (⟨(⟨#[112]⟩ : ByteArray), r_53.1, r_56.1, 1⟩ : Play)))) wz (by kernel_rfl) (h_lit (([(⟨(⟨#[112]⟩ : ByteArray), r_53.1, r_56.1, 1⟩ : Play)] : List Play).map Play.enc) es92 ez92 rfl rfl rfl rfl rfl wz ?_))
    obtain ⟨a_59, hz_60, hc_49⟩ := bind_some hc_49
    refine h_appg 0 (.inl rfl) (fun _ _ _ => trivial) (i := 1) el92 el92 sz95 z95 rfl (by decide) by95 (by decide) (fun _ => rfl) rfl rfl rfl hz_60 wz (fun n_61 => h_op (gV n_61 4 a_59) wz rfl (h_nil (wH_region (h_opw (w64_nextr hD_43 hn_44) wz rfl (h_op (vI ((k_40 + 1 : Nat) : Int)) wz rfl (h_nil ?_))))))
    obtain rfl := some_inj hc_49
    exact loop_mk (k_40 + 1, l_41, (a_59, r_56.2.L, r_56.2.f_at), n_61) ⟨hL_50, drop_next hD_43⟩ (Nat.lt_succ_self _) rfl (pre_r rfl)
  ·rintro ⟨s_45, n_48⟩ ho_ sl_ H_ hp_ hq_
   subst ho_
   refine wH_at _ hp_ hq_ (wH_seq (wH_frozg 1 rfl (wH_cog 14 1 rfl rfl (wH_region (h_op (vL Campaign.enc r_3.1) wz rfl (h_op (vL Play.enc s_45.1) wz rfl (h_op (vI r_6.1) wz rfl ?_)))))))
   obtain ⟨r_62, hr_63, hF⟩ := bind_some hF
   refine h_call0 (booking_Choose_ok hr_63) rfl hb40 rfl rfl rfl rfl wz (h_op (.tup [(vS r_62.1), (vB r_62.2.1), (vI r_62.2.2)]) wz rfl (h_op (vS r_62.1) wz rfl (h_op (vB r_62.2.1) wz rfl (h_op (vI r_62.2.2) wz rfl (h_op (vS r_62.1) wz rfl (h_op (vB r_62.2.1) wz rfl (h_op (vI r_62.2.2) wz rfl (h_nil (wH_seq (wH_region (h_op (vL Campaign.enc r_3.1) wz rfl (h_op (vL Play.enc s_45.1) wz rfl (h_op (vI r_6.1) wz rfl ?_)))))))))))))
   obtain ⟨r_64, hr_65, hF⟩ := bind_some hF
   refine h_call0 (booking_Paces_ok hr_65) rfl hb41 rfl rfl rfl rfl wz (h_op (.tup [(vL Pace.enc r_64.1), (vI r_64.2)]) wz rfl (h_op (vL Pace.enc r_64.1) wz rfl (h_op (vI r_64.2) wz rfl (h_op (vL Pace.enc r_64.1) wz rfl (h_op (vI r_64.2) wz rfl (h_nil (wH_seq (wH_seq ?_))))))))
   obtain ⟨v_66, h_67, hF⟩ := bind_some hF
   refine wH_join (β := Unit) (fun _ => ([(4, (vL Campaign.enc r_3.1)), (5, (vI r_6.1)), (15, (vS r_62.1)), (16, (vB r_62.2.1)), (18, (vL Pace.enc r_64.1)), (122, (vB v_66))] : List (Nat × V))) (fun _ => ([(n_2, some (.cells 2 [(vL eI s_45.2.1), (vI s_45.2.2)])), (n_48, gF 4 Play.enc s_45.1)] : Hp)) (fun _ => True) ?_ ?_
   ·refine wH_region (h_op (vI r_62.2.2) wz rfl (h_op (vB (r_62.2.2 != 0)) wz rfl ?_))
    rcases cond_some h_67 with ⟨hc_68, h_67⟩ | ⟨hc_68, h_67⟩
    ·refine h_movb rfl hc_68 wz (h_skip (wg rfl rfl rfl) (h_skip (wg rfl rfl rfl) (h_op (vB true) wz rfl (h_op (vB true) wz rfl (h_skip (wg rfl rfl rfl) (h_skip (wg rfl rfl rfl) (h_skip (wg rfl rfl rfl) (h_skip (wg rfl rfl rfl) (h_skip (wg rfl rfl rfl) (h_op (vB true) wz rfl (h_nil ?_)))))))))))
     obtain rfl := some_inj h_67
     exact cut_mk () trivial rfl (pre_r rfl)
    ·refine h_movb rfl hc_68 wz (h_op (vI r_64.2) (wg rfl rfl rfl) rfl (h_op (vB (r_64.2 != 0)) (wg rfl rfl rfl) rfl (h_op (vB (r_64.2 != 0)) wz rfl ?_)))
     rcases cond_some h_67 with ⟨hc_69, h_67⟩ | ⟨hc_69, h_67⟩
     ·refine h_movb rfl hc_69 wz (h_skip (wg rfl rfl rfl) (h_skip (wg rfl rfl rfl) (h_skip (wg rfl rfl rfl) (h_skip (wg rfl rfl rfl) (h_skip (wg rfl rfl rfl) (h_op (vB true) wz rfl (h_nil ?_)))))))
      obtain rfl := some_inj h_67
      exact cut_mk () trivial rfl (pre_r rfl)
     ·refine h_movb rfl hc_69 wz (h_op (vL Pace.enc r_64.1) (wg rfl rfl rfl) rfl (h_len un97 rfl (wg rfl rfl rfl) (h_op (vL Campaign.enc r_3.1) (wg rfl rfl rfl) rfl (h_len un85 rfl (wg rfl rfl rfl) (h_op (vB ((r_64.1.length : Int) != (r_3.1.length : Int))) (wg rfl rfl rfl) rfl (h_op (vB ((r_64.1.length : Int) != (r_3.1.length : Int))) wz rfl (h_nil ?_)))))))
      obtain rfl := some_inj h_67
      exact cut_mk () trivial rfl (pre_r rfl)
   ·rintro ⟨⟩ _ sl_ H_ hp_ hq_
    refine wH_at _ hp_ hq_ ?_
    rcases cond_some hF with ⟨hc_70, hF⟩ | ⟨hc_70, hF⟩
    ·refine wH_ift rfl hc_70 (wH_seq (wH_region (h_op (vB false) wz rfl (h_nil ?_))))
     obtain rfl := some_inj hF
     exact wH_ret (fin0 (.inr rfl) [(vB false)] ⟨rfl, trivial⟩ rfl rfl rfl)
    ·refine wH_iff rfl hc_70 (wH_skip (wH_seq (wH_seq (wH_region (h_op (vL Campaign.enc r_3.1) wz rfl (h_len un85 rfl wz (h_op (vI 0) wz rfl (h_nil ?_))))))))
     obtain ⟨o_79, hj_80, hF⟩ := bind_some hF
     obtain ⟨hn_75, hj_80⟩ := forL_some hj_80
     refine wH_join (β := (Unit)) (fun (s_76 : Unit) => ([] : List (Nat × V))) (fun (s_76 : Unit) => ([(n_2, some (.cells 2 [(vL eI s_45.2.1), (vI s_45.2.2)])), (n_48, gF 4 Play.enc s_45.1)] : Hp)) (fun p => o_79 = .go p) ?_ ?_
     ·refine wH_block (wH_loop (β := Nat × (List Campaign) × (Unit)) (fun p => (fun (k_71 : Nat) (l_72 : List Campaign) (s_76 : Unit) => ([(5, (vI r_6.1)), (15, (vS r_62.1)), (16, (vB r_62.2.1)), (18, (vL Pace.enc r_64.1)), (123, (vL Campaign.enc r_3.1)), (124, (vI (r_3.1.length : Int))), (125, (vI (k_71 : Int)))] : List (Nat × V))) p.1 p.2.1 p.2.2) (fun p => (fun (k_71 : Nat) (l_72 : List Campaign) (s_76 : Unit) => ([(n_2, some (.cells 2 [(vL eI s_45.2.1), (vI s_45.2.2)])), (n_48, gF 4 Play.enc s_45.1)] : Hp)) p.1 p.2.1 p.2.2) (fun p => forR (fun k x s => keep_PacesGrow_L3 r_6 r_64 r_62 k x s) p.2.1 p.1 p.2.2 = some o_79 ∧ (r_3.1).drop p.1 = p.2.1) (fun p => p.2.1.length) (0, r_3.1, ()) ⟨hj_80, rfl⟩ rfl (pre_r rfl) ?_)
      rintro ⟨k_71, l_72, s_76⟩ ⟨hL_78, hD_74⟩
      dsimp only at hL_78 hD_74
      cases l_72 with
      | nil =>
       obtain rfl := some_inj hL_78
       refine wH_seq (wH_region (h_op (vB (decide ((k_71 : Int) < (r_3.1.length : Int)))) wz rfl (h_nil ?_)))
       refine wH_seq (wH_iff rfl (drop_nil hD_74) (wH_exit ?_))
       exact cut_mk (s_76) rfl rfl (pre_r rfl)
      | cons x_73 l_72 =>
       obtain ⟨c_, hc_77, hL_78⟩ := bind_some hL_78
       refine wH_seq (wH_region (h_op (vB (decide ((k_71 : Int) < (r_3.1.length : Int)))) wz rfl (h_nil ?_)))
       refine wH_seq (wH_ift rfl (drop_cons hD_74) (wH_skip ?_))
       unfold keep_PacesGrow_L3 at hc_77
       refine wH_seq (wH_block (wH_seq (wH_region (h_op (vI (k_71 : Int)) wz rfl (h_ia es85 rfl rfl (drop_idx hD_74) rfl wz (h_ldc sz90 ag90 rfl (.d (.agg (Campaign.enc x_73))) rfl wz (h_alloc 0 (.inl rfl) z90 rfl wz (fun n_81 => h_op (vI (k_71 : Int)) wz rfl (h_str 0 (.inl rfl) (fun _ _ _ => trivial) 2 sz90 rfl rfl [(vS x_73.Key), (vS x_73.Class), (vI x_73.Time.From), (vI x_73.Time.To), (vL eS x_73.Tags), (vI x_73.Goal), (vI x_73.Most), (vI x_73.Cents)] rfl wz (h_nil (wH_seq ?_)))))))))))
       obtain ⟨v_82, h_83, hc_77⟩ := bind_some hc_77
       refine wH_join (β := Unit) (fun _ => ([(5, (vI r_6.1)), (15, (vS r_62.1)), (16, (vB r_62.2.1)), (18, (vL Pace.enc r_64.1)), (21, (.ref n_81 0 0)), (22, (vB v_82)), (123, (vL Campaign.enc r_3.1)), (124, (vI (r_3.1.length : Int))), (125, (vI (k_71 : Int)))] : List (Nat × V))) (fun _ => ([(n_2, some (.cells 2 [(vL eI s_45.2.1), (vI s_45.2.2)])), (n_48, gF 4 Play.enc s_45.1), (n_81, some (.cells 8 [(vS x_73.Key), (vS x_73.Class), (vI x_73.Time.From), (vI x_73.Time.To), (vL eS x_73.Tags), (vI x_73.Goal), (vI x_73.Most), (vI x_73.Cents)]))] : Hp)) (fun _ => True) ?_ ?_
       ·refine wH_draws (h_far pl90_2 rfl 2 rfl wz (h_far pl88_0 rfl 2 rfl wz (h_ldr 2 2 (.inr (by kernel_rfl)) (fun _ _ ag => trivial) sz3 ag3 rfl rfl (vI x_73.Time.From) rfl wz (h_op (vI r_6.1) wz rfl (h_op (vB (decide (x_73.Time.From ≤ r_6.1))) wz rfl ?_)))))
        rcases cond_some h_83 with ⟨hc_84, h_83⟩ | ⟨hc_84, h_83⟩
        ·refine h_movb rfl hc_84 wz (h_op (vI r_6.1) (wg rfl rfl rfl) rfl (h_far pl90_2 rfl 2 rfl (wg rfl rfl rfl) (h_far pl88_1 rfl 3 rfl (wg rfl rfl rfl) (h_ldr 9 2 (.inr (by kernel_rfl)) (fun _ _ ag => ⟨.inl ⟨rfl, rfl⟩, trivial⟩) sz3 ag3 rfl rfl (vI x_73.Time.To) rfl (wg rfl rfl rfl) (h_op (vB (decide (r_6.1 < x_73.Time.To))) (wg rfl rfl rfl) rfl (h_op (vB (decide (r_6.1 < x_73.Time.To))) wz rfl ?_))))))
         rcases cond_some h_83 with ⟨hc_85, h_83⟩ | ⟨hc_85, h_83⟩
         ·refine h_movb rfl hc_85 wz (h_op (vL Pace.enc r_64.1) (wg rfl rfl rfl) rfl (h_op (vI (k_71 : Int)) (wg rfl rfl rfl) rfl ?_))
          obtain ⟨y_86, hy_87, h_83⟩ := bind_some h_83
          refine h_ia es97 rfl rfl hy_87 rfl (wg rfl rfl rfl) (h_fac pl101_2 rfl [.int .i64 y_86.Done] rfl rfl (wg rfl rfl rfl) (h_ldc sz3 ag3 rfl (vI y_86.Done) rfl (wg rfl rfl rfl) (h_far pl90_4 rfl 5 rfl (wg rfl rfl rfl) (h_ldr 19 2 (.inr (by kernel_rfl)) (fun _ _ ag => ⟨.inl ⟨rfl, rfl⟩, ⟨.inl ⟨rfl, rfl⟩, trivial⟩⟩) sz3 ag3 rfl rfl (vI x_73.Goal) rfl (wg rfl rfl rfl) (h_op (vB (decide (y_86.Done < x_73.Goal))) (wg rfl rfl rfl) rfl (h_op (vB (decide (y_86.Done < x_73.Goal))) wz rfl (h_op (vB (decide (y_86.Done < x_73.Goal))) wz rfl (h_nil ?_))))))))
          obtain rfl := some_inj h_83
          exact cut_mk () trivial rfl (pre_r rfl)
         ·refine h_movb rfl hc_85 wz (h_skip (wg rfl rfl rfl) (h_skip (wg rfl rfl rfl) (h_skip (wg rfl rfl rfl) (h_skip (wg rfl rfl rfl) (h_skip (wg rfl rfl rfl) (h_skip (wg rfl rfl rfl) (h_skip (wg rfl rfl rfl) (h_skip (wg rfl rfl rfl) (h_op (vB false) wz rfl (h_op (vB false) wz rfl (h_nil ?_)))))))))))
          obtain rfl := some_inj h_83
          exact cut_mk () trivial rfl (pre_r rfl)
        ·refine h_movb rfl hc_84 wz (h_skip (wg rfl rfl rfl) (h_skip (wg rfl rfl rfl) (h_skip (wg rfl rfl rfl) (h_skip (wg rfl rfl rfl) (h_skip (wg rfl rfl rfl) (h_op (vB false) wz rfl (h_op (vB false) wz rfl (h_skip (wg rfl rfl rfl) (h_skip (wg rfl rfl rfl) (h_skip (wg rfl rfl rfl) (h_skip (wg rfl rfl rfl) (h_skip (wg rfl rfl rfl) (h_skip (wg rfl rfl rfl) (h_skip (wg rfl rfl rfl) (h_skip (wg rfl rfl rfl) (h_op (vB false) wz rfl (h_op (vB false) wz rfl (h_nil ?_))))))))))))))))))
         obtain rfl := some_inj h_83
         exact cut_mk () trivial rfl (pre_r rfl)
       ·rintro ⟨⟩ _ sl_ H_ hp_ hq_
        refine wH_at _ hp_ hq_ (wH_seq ?_)
        obtain ⟨v_88, h_89, hc_77⟩ := bind_some hc_77
        refine wH_join (β := Unit) (fun _ => ([(5, (vI r_6.1)), (15, (vS r_62.1)), (16, (vB r_62.2.1)), (18, (vL Pace.enc r_64.1)), (123, (vL Campaign.enc r_3.1)), (124, (vI (r_3.1.length : Int))), (125, (vI (k_71 : Int))), (170, (vB v_88))] : List (Nat × V))) (fun _ => ([(n_2, some (.cells 2 [(vL eI s_45.2.1), (vI s_45.2.2)])), (n_48, gF 4 Play.enc s_45.1), (n_81, some (.cells 8 [(vS x_73.Key), (vS x_73.Class), (vI x_73.Time.From), (vI x_73.Time.To), (vL eS x_73.Tags), (vI x_73.Goal), (vI x_73.Most), (vI x_73.Cents)]))] : Hp)) (fun _ => True) ?_ ?_
        ·refine wH_region (h_far pl90_0 rfl 0 rfl wz (h_ldr 0 2 (.inl rfl) (fun _ _ _ => trivial) sz9 ag9 rfl rfl (vS x_73.Key) rfl wz (h_op (vS r_62.1) wz rfl (h_op (vB (sEq x_73.Key r_62.1)) wz rfl ?_))))
         rcases cond_some h_89 with ⟨hc_90, h_89⟩ | ⟨hc_90, h_89⟩
         ·refine h_movb rfl hc_90 wz (h_op (vB r_62.2.1) (wg rfl rfl rfl) rfl (h_op (vB (!r_62.2.1)) (wg rfl rfl rfl) rfl ?_))
          rcases cond_some h_89 with ⟨hc_91, h_89⟩ | ⟨hc_91, h_89⟩
          ·refine h_movb rfl hc_91 (wg rfl rfl rfl) (h_skip (wg rfl rfl rfl) (h_skip (wg rfl rfl rfl) (h_op (vB true) (wg rfl rfl rfl) rfl (h_op (vB true) wz rfl (h_op (vB true) wz rfl (h_skip (wg rfl rfl rfl) (h_skip (wg rfl rfl rfl) (h_skip (wn rfl rfl) (h_skip (wn rfl rfl) (h_skip (wg rfl rfl rfl) (h_op (vB true) wz rfl (h_nil ?_))))))))))))
           obtain rfl := some_inj h_89
           exact cut_mk () trivial rfl (pre_r rfl)
          ·refine h_movb rfl hc_91 (wg rfl rfl rfl) (h_op (vB v_82) (wg rfl rfl rfl) rfl (h_op (vB (!v_82)) (wg rfl rfl rfl) rfl (h_op (vB (!v_82)) (wg rfl rfl rfl) rfl (h_op (vB (!v_82)) wz rfl ?_))))
           rcases cond_some h_89 with ⟨hc_92, h_89⟩ | ⟨hc_92, h_89⟩
           ·refine h_movb rfl hc_92 wz (h_skip (wg rfl rfl rfl) (h_skip (wg rfl rfl rfl) (h_skip (wn rfl rfl) (h_skip (wn rfl rfl) (h_skip (wg rfl rfl rfl) (h_op (vB true) wz rfl (h_nil ?_)))))))
            obtain rfl := some_inj h_89
            exact cut_mk () trivial rfl (pre_r rfl)
           ·refine h_movb rfl hc_92 wz (h_op (vB v_82) (wg rfl rfl rfl) rfl ?_)
            rcases cond_some h_89 with ⟨hc_93, h_89⟩ | ⟨hc_93, h_89⟩
            ·refine h_movb rfl hc_93 (wg rfl rfl rfl) (h_op (vB r_62.2.1) (wg rfl rfl rfl) rfl (h_op (vB (!r_62.2.1)) (wg rfl rfl rfl) rfl (h_op (vB (!r_62.2.1)) (wg rfl rfl rfl) rfl (h_op (vB (!r_62.2.1)) wz rfl (h_nil ?_)))))
             obtain rfl := some_inj h_89
             exact cut_mk () trivial rfl (pre_r rfl)
            ·refine h_movb rfl hc_93 (wg rfl rfl rfl) (h_skip (wg rfl rfl rfl) (h_skip (wg rfl rfl rfl) (h_op (vB false) (wg rfl rfl rfl) rfl (h_op (vB false) wz rfl (h_nil ?_)))))
             obtain rfl := some_inj h_89
             exact cut_mk () trivial rfl (pre_r rfl)
         ·refine h_movb rfl hc_90 wz (h_skip (wg rfl rfl rfl) (h_skip (wg rfl rfl rfl) (h_skip (wg rfl rfl rfl) (h_skip (wn rfl rfl) (h_skip (wn rfl rfl) (h_skip (wg rfl rfl rfl) (h_op (vB false) wz rfl (h_op (vB false) wz rfl (h_op (vB v_82) (wg rfl rfl rfl) rfl ?_)))))))))
          rcases cond_some h_89 with ⟨hc_94, h_89⟩ | ⟨hc_94, h_89⟩
          ·refine h_movb rfl hc_94 (wg rfl rfl rfl) (h_op (vB r_62.2.1) (wg rfl rfl rfl) rfl (h_op (vB (!r_62.2.1)) (wg rfl rfl rfl) rfl (h_op (vB (!r_62.2.1)) (wg rfl rfl rfl) rfl (h_op (vB (!r_62.2.1)) wz rfl (h_nil ?_)))))
           obtain rfl := some_inj h_89
           exact cut_mk () trivial rfl (pre_r rfl)
          ·refine h_movb rfl hc_94 (wg rfl rfl rfl) (h_skip (wg rfl rfl rfl) (h_skip (wg rfl rfl rfl) (h_op (vB false) (wg rfl rfl rfl) rfl (h_op (vB false) wz rfl (h_nil ?_)))))
           obtain rfl := some_inj h_89
           exact cut_mk () trivial rfl (pre_r rfl)
        ·rintro ⟨⟩ _ sl_ H_ hp_ hq_
         refine wH_at _ hp_ hq_ ?_
         rcases cond_some hc_77 with ⟨hc_95, hc_77⟩ | ⟨hc_95, hc_77⟩
         ·refine wH_ift rfl hc_95 (wH_seq (wH_region (h_op (vB false) wz rfl (h_nil ?_))))
          obtain rfl := some_inj hc_77
          obtain rfl := some_inj hL_78
          obtain rfl := some_inj hF
          exact wH_ret (fin0 (.inr rfl) [(vB false)] ⟨rfl, trivial⟩ rfl rfl rfl)
         ·refine wH_iff rfl hc_95 (wH_skip (wH_region (h_opw (w64_next hD_74 hn_75) wz rfl (h_op (vI ((k_71 + 1 : Nat) : Int)) wz rfl (h_nil ?_)))))
          obtain rfl := some_inj hc_77
          exact loop_mk (k_71 + 1, l_72, ()) ⟨hL_78, drop_next hD_74⟩ (Nat.lt_succ_self _) rfl (pre_r rfl)
     ·rintro s_76 ho_ sl_ H_ hp_ hq_
      subst ho_
      refine wH_at _ hp_ hq_ (wH_seq (wH_region ?_))
      obtain ⟨r_96, hr_97, hF⟩ := bind_some hF
      refine h_call0 (keep_ready_ok hr_97) rfl hb14 rfl rfl rfl rfl wz (h_op (vB r_96) wz rfl (h_nil ?_))
      obtain rfl := some_inj hF
      exact wH_ret (fin0 (.inr rfl) [(vB r_96)] ⟨rfl, trivial⟩ rfl rfl rfl)
end Go.Proofs.YtipcgokielgnhaaGreatDoor.Law

