/-
 The machine computes these plain functions (written by a program of ours).
-/
import Derived.Test.YtjmpbmnakfipdaaDoorFacts
import Derived.Test.YtjmpbmnakfipdaaDoorDefs
open Go Go.Eng Go.Proofs
namespace Go.Proofs.YtjmpbmnakfipdaaDoor.Law
set_option maxRecDepth 100000
set_option linter.unusedVariables false
set_option maxHeartbeats 1000000
theorem mk_Below_ok {x_1 : Int} {n_2 : Int} {r : Int} (hF : mk_Below x_1 n_2 = some r) :
  FnM Tryd.prog 41 [(vI x_1), (vI n_2)] [] (vI r) [] := by
 refine FnM.of_wH ⟨Tryd.prog, 16, [], []⟩ rfl Tryd.func41 rfl rfl (Nat.le_of_ble_eq_true rfl) (by kernel_rfl) ?_
 unfold mk_Below at hF
 refine wH_seq (wH_region (h_op (vI 0) wz rfl (h_nil (wH_seq (wH_seq (wH_region (h_op (vI n_2) wz rfl (h_op (vB (decide (n_2 < 1))) wz rfl (h_nil ?_)))))))))
 rcases cond_some hF with ⟨hc_3, hF⟩ | ⟨hc_3, hF⟩
 ·refine wH_ift rfl hc_3 (wH_seq (wH_region (h_op (vI 0) wz rfl (h_nil ?_))))
  obtain rfl := some_inj hF
  exact wH_ret (fin0 (.inr rfl) [(vI 0)] ⟨rfl, trivial⟩ rfl rfl rfl)
 ·refine wH_iff rfl hc_3 (wH_skip (wH_seq (wH_region (h_op (vI x_1) wz rfl (h_op (vI n_2) wz rfl ?_)))))
  obtain ⟨q_4, hz_5, hF⟩ := bind_some hF
  refine h_rem rfl rfl hz_5 wz (h_op (vI q_4) wz rfl (h_nil (wH_seq (wH_seq (wH_region (h_op (vI q_4) wz rfl (h_op (vB (decide (q_4 < 0))) wz rfl (h_nil ?_))))))))
  obtain ⟨v_6, h_7, hF⟩ := bind_some hF
  refine wH_join (β := Unit) (fun _ => ([(0, (vI v_6))] : List (Nat × V))) (fun _ => ([] : Hp)) (fun _ => True) ?_ ?_
  ·rcases cond_some h_7 with ⟨hc_8, h_7⟩ | ⟨hc_8, h_7⟩
   ·refine wH_ift rfl hc_8 (wH_region (h_op (vI q_4) wz rfl (h_op (vI n_2) wz rfl (h_op (vI (w64 (q_4 + n_2))) wz rfl (h_op (vI (w64 (q_4 + n_2))) wz rfl (h_nil ?_))))))
    obtain rfl := some_inj h_7
    exact cut_mk () trivial rfl (pre_r rfl)
   ·refine wH_iff rfl hc_8 (wH_skip ?_)
    obtain rfl := some_inj h_7
    exact cut_mk () trivial rfl (pre_r rfl)
  ·rintro ⟨⟩ _ sl_ H_ hp_ hq_
   refine wH_at _ hp_ hq_ (wH_seq (wH_region (h_op (vI v_6) wz rfl (h_op (vI v_6) wz rfl (h_nil ?_)))))
   obtain rfl := some_inj hF
   exact wH_ret (fin0 (.inr rfl) [(vI v_6)] ⟨rfl, trivial⟩ rfl rfl rfl)
theorem mk_Stream_Next_ok {s_1 : Stream} {n_2 : Int} {r : Int × Stream} (hF : mk_Stream_Next s_1 n_2 = some r) :
  FnM Tryd.prog 25 [(.ref (extN 0) 0 0), (vI n_2)] [(.cells 2 [(vL eI s_1.L), (vI s_1.f_at)])] (vI r.1) [some (.cells 2 [(vL eI r.2.L), (vI r.2.f_at)])] := by
 refine FnM.of_wH ⟨Tryd.prog, 64, [], []⟩ rfl Tryd.func25 rfl rfl (Nat.le_of_ble_eq_true rfl) (by kernel_rfl) ?_
 unfold mk_Stream_Next at hF
 refine wH_seq (wH_region (h_op (vI 0) wz rfl (h_nil (wH_seq (wH_region (h_op (.ref (extN 0) 0 0) wz rfl (h_op (.ref (extN 0) 0 0) wz rfl (h_far pl25_1 rfl 1 rfl wz (h_ldr 0 0 (.inl rfl) (fun _ _ _ => trivial) sz3 ag3 rfl rfl (vI s_1.f_at) rfl wz (h_op (vI (w64 (s_1.f_at + 1))) wz rfl (h_op (.ref (extN 0) 0 0) wz rfl (h_far pl25_1 rfl 1 rfl wz (h_str 0 (.inl rfl) (fun _ _ _ => trivial) 0 sz3 rfl rfl [(vL eI s_1.L), (vI (w64 (s_1.f_at + 1)))] rfl wz (h_nil (wH_seq (wH_seq (wH_region (h_op (.ref (extN 0) 0 0) wz rfl (h_op (.ref (extN 0) 0 0) wz rfl (h_far pl25_0 rfl 0 rfl wz (h_ldr 0 0 (.inl rfl) (fun _ _ _ => trivial) sz22 ag22 rfl rfl (vL eI s_1.L) rfl wz (h_len un22 rfl wz (h_op (vB ((s_1.L.length : Int) == 0)) wz rfl ?_)))))))))))))))))))))))
 refine h_nil ?_
 rcases cond_some hF with ⟨hc_3, hF⟩ | ⟨hc_3, hF⟩
 ·refine wH_ift rfl hc_3 (wH_seq (wH_region (h_op (.ref (extN 0) 0 0) wz rfl (h_op (.ref (extN 0) 0 0) wz rfl (h_far pl25_1 rfl 1 rfl wz (h_ldr 0 0 (.inl rfl) (fun _ _ _ => trivial) sz3 ag3 rfl rfl (vI (w64 (s_1.f_at + 1))) rfl wz (h_op (vI (w64 ((w64 (s_1.f_at + 1)) * 7919))) wz rfl (h_op (vI n_2) wz rfl ?_))))))))
  obtain ⟨r_4, hr_5, hF⟩ := bind_some hF
  refine h_call0 (mk_Below_ok hr_5) rfl hb41 rfl rfl rfl rfl wz (h_op (vI r_4) wz rfl (h_nil ?_))
  obtain rfl := some_inj hF
  exact wH_ret (finB (.inr rfl) [(vI r_4)] _ [0] [extN 0] ⟨rfl, trivial⟩ (.cons (co_data rfl rfl) (.nil)) (by kernel_rfl) ⟨(by kernel_rfl), trivial⟩ (by decide) (by kernel_rfl))
 ·refine wH_iff rfl hc_3 (wH_skip (wH_seq (wH_draws (h_op (.ref (extN 0) 0 0) wz rfl (h_op (.ref (extN 0) 0 0) wz rfl (h_far pl25_1 rfl 1 rfl wz (h_ldr 3 0 (.inr (by kernel_rfl)) (fun _ _ ag => trivial) sz3 ag3 rfl rfl (vI (w64 (s_1.f_at + 1))) rfl wz (h_op (vI (w64 ((w64 (s_1.f_at + 1)) - 1))) wz rfl (h_op (.ref (extN 0) 0 0) wz rfl (h_op (.ref (extN 0) 0 0) wz rfl (h_far pl25_0 rfl 0 rfl wz (h_ldr 8 0 (.inr (by kernel_rfl)) (fun _ _ ag => ⟨.inl ⟨rfl, rfl⟩, trivial⟩) sz22 ag22 rfl rfl (vL eI s_1.L) rfl wz (h_len un22 rfl wz ?_)))))))))))))
  obtain ⟨q_6, hz_7, hF⟩ := bind_some hF
  refine h_rem rfl rfl hz_7 wz (h_op (vI q_6) wz rfl (h_nil (wH_seq (wH_draws (h_op (.ref (extN 0) 0 0) wz rfl (h_op (.ref (extN 0) 0 0) wz rfl (h_far pl25_1 rfl 1 rfl wz (h_ldr 3 0 (.inr (by kernel_rfl)) (fun _ _ ag => trivial) sz3 ag3 rfl rfl (vI (w64 (s_1.f_at + 1))) rfl wz (h_op (vI (w64 ((w64 (s_1.f_at + 1)) - 1))) wz rfl (h_op (.ref (extN 0) 0 0) wz rfl (h_op (.ref (extN 0) 0 0) wz rfl (h_far pl25_0 rfl 0 rfl wz (h_ldr 8 0 (.inr (by kernel_rfl)) (fun _ _ ag => ⟨.inl ⟨rfl, rfl⟩, trivial⟩) sz22 ag22 rfl rfl (vL eI s_1.L) rfl wz (h_len un22 rfl wz ?_))))))))))))))
  obtain ⟨q_8, hz_9, hF⟩ := bind_some hF
  refine h_quo rfl rfl hz_9 wz (h_op (vI q_8) wz rfl (h_nil (wH_at (H0 := ([((extN 0), some (.cells 2 [(vL eI s_1.L), (vI (w64 (s_1.f_at + 1)))]))] : Hp)) ([(0, (.ref (extN 0) 0 0)), (1, (vI n_2)), (5, (vI q_6)), (6, (vI q_8))] : List (Nat × V)) (by kernel_rfl) (pre_mk (by kernel_rfl)) (wH_seq (wH_region (h_op (.ref (extN 0) 0 0) wz rfl (h_op (.ref (extN 0) 0 0) wz rfl (h_far pl25_0 rfl 0 rfl wz (h_ldr 0 0 (.inl rfl) (fun _ _ _ => trivial) sz22 ag22 rfl rfl (vL eI s_1.L) rfl wz (h_op (vI q_6) wz rfl ?_))))))))))
  obtain ⟨y_10, hy_11, hF⟩ := bind_some hF
  refine h_ia es22 rfl rfl hy_11 rfl wz (h_ldc sz3 ag3 rfl (vI y_10) rfl wz ?_)
  obtain ⟨r_12, hr_13, hF⟩ := bind_some hF
  refine h_call0 (mk_Below_ok hr_13) rfl hb41 rfl rfl rfl rfl wz (h_op (vI q_8) wz rfl (h_op (vI q_6) wz rfl (h_op (vI (w64 (7919 + q_6))) wz rfl (h_op (vI (w64 (q_8 * (w64 (7919 + q_6))))) wz rfl (h_op (vI (w64 (r_12 + (w64 (q_8 * (w64 (7919 + q_6))))))) wz rfl (h_op (vI n_2) wz rfl ?_))))))
  obtain ⟨r_14, hr_15, hF⟩ := bind_some hF
  refine h_call0 (mk_Below_ok hr_15) rfl hb41 rfl rfl rfl rfl wz (h_op (vI r_14) wz rfl (h_nil ?_))
  obtain rfl := some_inj hF
  exact wH_ret (finB (.inr rfl) [(vI r_14)] _ [0] [extN 0] ⟨rfl, trivial⟩ (.cons (co_data rfl rfl) (.nil)) (by kernel_rfl) ⟨(by kernel_rfl), trivial⟩ (by decide) (by kernel_rfl))
theorem mk_Stream_Flip_ok {s_1 : Stream} {n_2 : Int} {r : Bool × Stream} (hF : mk_Stream_Flip s_1 n_2 = some r) :
  FnM Tryd.prog 24 [(.ref (extN 0) 0 0), (vI n_2)] [(.cells 2 [(vL eI s_1.L), (vI s_1.f_at)])] (vB r.1) [some (.cells 2 [(vL eI r.2.L), (vI r.2.f_at)])] := by
 refine FnM.of_wH ⟨Tryd.prog, 9, [], []⟩ rfl Tryd.func24 rfl rfl (Nat.le_of_ble_eq_true rfl) (by kernel_rfl) ?_
 unfold mk_Stream_Flip at hF
 refine wH_seq (wH_region (h_op (vB false) wz rfl (h_nil (wH_seq (wH_region (h_op (.ref (extN 0) 0 0) wz rfl (h_op (vI n_2) wz rfl ?_)))))))
 obtain ⟨r_3, hr_4, hF⟩ := bind_some hF
 refine h_callq 0 [0] (.inl rfl) (fun _ _ _ => trivial) (mk_Stream_Next_ok hr_4) rfl hb25 rfl (by kernel_rfl) (by kernel_rfl) (by kernel_rfl) (by kernel_rfl) (by kernel_rfl) (by kernel_rfl) (by kernel_rfl) (by decide) (by kernel_rfl) wz (vI r_3.1) (by kernel_rfl) ([((extN 0), some (.cells 2 [(vL eI r_3.2.L), (vI r_3.2.f_at)]))] : Hp) (by kernel_rfl) (h_op (vB (r_3.1 == 0)) wz rfl (h_op (vB (r_3.1 == 0)) wz rfl (h_nil ?_)))
 obtain rfl := some_inj hF
 exact wH_ret (finB (.inr rfl) [(vB (r_3.1 == 0))] _ [0] [extN 0] ⟨rfl, trivial⟩ (.cons (co_data rfl rfl) (.nil)) (by kernel_rfl) ⟨(by kernel_rfl), trivial⟩ (by decide) (by kernel_rfl))
theorem mk_Stream_Some_ok {s_1 : Stream} {l_2 : (List ByteArray)} {r : ByteArray × Stream} (hF : mk_Stream_Some s_1 l_2 = some r) :
  FnM Tryd.prog 26 [(.ref (extN 0) 0 0), (vL eS l_2)] [(.cells 2 [(vL eI s_1.L), (vI s_1.f_at)])] (vS r.1) [some (.cells 2 [(vL eI r.2.L), (vI r.2.f_at)])] := by
 refine FnM.of_wH ⟨Tryd.prog, 12, [], []⟩ rfl Tryd.func26 rfl rfl (Nat.le_of_ble_eq_true rfl) (by kernel_rfl) ?_
 unfold mk_Stream_Some at hF
 refine wH_seq (wH_region (h_op (vS (⟨#[]⟩ : ByteArray)) wz rfl (h_nil (wH_seq (wH_region (h_op (vL eS l_2) wz rfl (h_op (.ref (extN 0) 0 0) wz rfl (h_op (vL eS l_2) wz rfl (h_len un47 rfl wz ?_)))))))))
 obtain ⟨r_3, hr_4, hF⟩ := bind_some hF
 refine h_callq 0 [0] (.inl rfl) (fun _ _ _ => trivial) (mk_Stream_Next_ok hr_4) rfl hb25 rfl (by kernel_rfl) (by kernel_rfl) (by kernel_rfl) (by kernel_rfl) (by kernel_rfl) (by kernel_rfl) (by kernel_rfl) (by decide) (by kernel_rfl) wz (vI r_3.1) (by kernel_rfl) ([((extN 0), some (.cells 2 [(vL eI r_3.2.L), (vI r_3.2.f_at)]))] : Hp) (by kernel_rfl) ?_
 obtain ⟨y_6, hy_7, hF⟩ := bind_some hF
 refine h_ia es47 rfl rfl hy_7 rfl wz (h_ldc sz9 ag9 rfl (vS y_6) rfl wz (h_op (vS y_6) wz rfl (h_nil ?_)))
 obtain rfl := some_inj hF
 exact wH_ret (finB (.inr rfl) [(vS y_6)] _ [0] [extN 0] ⟨rfl, trivial⟩ (.cons (co_data rfl rfl) (.nil)) (by kernel_rfl) ⟨(by kernel_rfl), trivial⟩ (by decide) (by kernel_rfl))
theorem mk_Stream_Pick_ok {s_1 : Stream} {l_2 : (List Int)} {r : Int × Stream} (hF : mk_Stream_Pick s_1 l_2 = some r) :
  FnM Tryd.prog 7 [(.ref (extN 0) 0 0), (vL eI l_2)] [(.cells 2 [(vL eI s_1.L), (vI s_1.f_at)])] (vI r.1) [some (.cells 2 [(vL eI r.2.L), (vI r.2.f_at)])] := by
 refine FnM.of_wH ⟨Tryd.prog, 12, [], []⟩ rfl Tryd.func7 rfl rfl (Nat.le_of_ble_eq_true rfl) (by kernel_rfl) ?_
 unfold mk_Stream_Pick at hF
 refine wH_seq (wH_region (h_op (vI 0) wz rfl (h_nil (wH_seq (wH_region (h_op (vL eI l_2) wz rfl (h_op (.ref (extN 0) 0 0) wz rfl (h_op (vL eI l_2) wz rfl (h_len un22 rfl wz ?_)))))))))
 obtain ⟨r_3, hr_4, hF⟩ := bind_some hF
 refine h_callq 0 [0] (.inl rfl) (fun _ _ _ => trivial) (mk_Stream_Next_ok hr_4) rfl hb25 rfl (by kernel_rfl) (by kernel_rfl) (by kernel_rfl) (by kernel_rfl) (by kernel_rfl) (by kernel_rfl) (by kernel_rfl) (by decide) (by kernel_rfl) wz (vI r_3.1) (by kernel_rfl) ([((extN 0), some (.cells 2 [(vL eI r_3.2.L), (vI r_3.2.f_at)]))] : Hp) (by kernel_rfl) ?_
 obtain ⟨y_6, hy_7, hF⟩ := bind_some hF
 refine h_ia es22 rfl rfl hy_7 rfl wz (h_ldc sz3 ag3 rfl (vI y_6) rfl wz (h_op (vI y_6) wz rfl (h_nil ?_)))
 obtain rfl := some_inj hF
 exact wH_ret (finB (.inr rfl) [(vI y_6)] _ [0] [extN 0] ⟨rfl, trivial⟩ (.cons (co_data rfl rfl) (.nil)) (by kernel_rfl) ⟨(by kernel_rfl), trivial⟩ (by decide) (by kernel_rfl))
theorem mk_Stream_RightCampaigns_okb {s_1 : Stream} {most_2 : Int} {r : (List Campaign) × Stream} (hF : mk_Stream_RightCampaigns s_1 most_2 = some r) :
  FnM Tryd.prog 23 [(.ref (extN 0) 0 0), (vI most_2)] [(.cells 2 [(vL eI s_1.L), (vI s_1.f_at)])] (gV (extN 1) 8 r.1) (([(.cells 2 [(vL eI r.2.L), (vI r.2.f_at)])] : List Box).map some ++ gO 8 Campaign.enc r.1) := by
 refine FnM.of_wH ⟨Tryd.prog, 63, [], []⟩ rfl Tryd.func23 rfl rfl (Nat.le_of_ble_eq_true rfl) (by kernel_rfl) ?_
 unfold mk_Stream_RightCampaigns at hF
 refine wH_seq (wH_region (h_op .nil wz rfl (h_nil (wH_seq (wH_region (h_op .nil wz rfl (h_nil (wH_seq (wH_seq (wH_region (h_lit (([(⟨#[99, 97]⟩ : ByteArray), (⟨#[99, 98]⟩ : ByteArray), (⟨#[99, 99]⟩ : ByteArray), (⟨#[99, 100]⟩ : ByteArray)] : List ByteArray).map eS) es47 ez47 rfl rfl rfl rfl rfl wz (h_op (vI most_2) wz rfl ?_))))))))))))
 obtain ⟨y_3, hy_4, hF⟩ := bind_some hF
 refine h_sublFalseTrue un47 sz9 (fun _ => rfl) rfl rfl hy_4 wz (h_len un47 rfl wz (h_op (vI 0) wz rfl (h_nil (wH_new (fun n_11 => ?_)))))
 obtain ⟨o_16, hj_17, hF⟩ := bind_some hF
 obtain ⟨hn_9, hj_17⟩ := forL_some hj_17
 refine wH_join (β := ((List Campaign) × (List Int) × Int) × Nm) (fun p => (fun (s_10 : (List Campaign) × (List Int) × Int) (n_13 : Nm) => ([(5, (gV n_13 8 s_10.1))] : List (Nat × V))) p.1 p.2) (fun p => (fun (s_10 : (List Campaign) × (List Int) × Int) (n_13 : Nm) => ([((extN 0), some (.cells 2 [(vL eI s_10.2.1), (vI s_10.2.2)])), (n_13, gB 8 Campaign.enc s_10.1)] : Hp)) p.1 p.2) (fun p => o_16 = .go p.1) ?_ ?_
 ·refine wH_block (wH_loop (β := Nat × (List ByteArray) × ((List Campaign) × (List Int) × Int) × Nm) (fun p => (fun (k_5 : Nat) (l_6 : List ByteArray) (s_10 : (List Campaign) × (List Int) × Int) (n_13 : Nm) => ([(0, (.ref (extN 0) 0 0)), (5, (gV n_13 8 s_10.1)), (13, (vL eS y_3)), (14, (vI (y_3.length : Int))), (15, (vI (k_5 : Int)))] : List (Nat × V))) p.1 p.2.1 p.2.2.1 p.2.2.2) (fun p => (fun (k_5 : Nat) (l_6 : List ByteArray) (s_10 : (List Campaign) × (List Int) × Int) (n_13 : Nm) => ([((extN 0), some (.cells 2 [(vL eI s_10.2.1), (vI s_10.2.2)])), (n_13, gB 8 Campaign.enc s_10.1)] : Hp)) p.1 p.2.1 p.2.2.1 p.2.2.2) (fun p => forR (fun k x s => mk_Stream_RightCampaigns_L2 k x s) p.2.1 p.1 p.2.2.1 = some o_16 ∧ (y_3).drop p.1 = p.2.1) (fun p => p.2.1.length) (0, y_3, (([] : List Campaign), s_1.L, s_1.f_at), n_11) ⟨hj_17, rfl⟩ rfl (pre_r rfl) ?_)
  rintro ⟨k_5, l_6, s_10, n_13⟩ ⟨hL_15, hD_8⟩
  dsimp only at hL_15 hD_8
  cases l_6 with
  | nil =>
   obtain rfl := some_inj hL_15
   refine wH_seq (wH_region (h_op (vB (decide ((k_5 : Int) < (y_3.length : Int)))) wz rfl (h_nil ?_)))
   refine wH_seq (wH_iff rfl (drop_nil hD_8) (wH_exit ?_))
   exact cut_mk (s_10, n_13) rfl rfl (pre_r rfl)
  | cons x_7 l_6 =>
   obtain ⟨c_, hc_14, hL_15⟩ := bind_some hL_15
   refine wH_seq (wH_region (h_op (vB (decide ((k_5 : Int) < (y_3.length : Int)))) wz rfl (h_nil ?_)))
   refine wH_seq (wH_ift rfl (drop_cons hD_8) (wH_skip ?_))
   unfold mk_Stream_RightCampaigns_L2 at hc_14
   refine wH_seq (wH_block (wH_seq (wH_region (h_ia es47 rfl rfl (drop_idx hD_8) rfl wz (h_ldc sz9 ag9 rfl (vS x_7) rfl wz (h_op (vS x_7) wz rfl (h_nil (wH_seq (wH_seq (wH_region (h_op (.ref (extN 0) 0 0) wz rfl ?_)))))))))))
   obtain ⟨r_18, hr_19, hc_14⟩ := bind_some hc_14
   refine h_callq 0 [0] (.inl rfl) (fun _ _ _ => trivial) (mk_Stream_Flip_ok hr_19) rfl hb24 rfl (by kernel_rfl) (by kernel_rfl) (by kernel_rfl) (by kernel_rfl) (by kernel_rfl) (by kernel_rfl) (by kernel_rfl) (by decide) (by kernel_rfl) wz (vB r_18.1) (by kernel_rfl) ([((extN 0), some (.cells 2 [(vL eI r_18.2.L), (vI r_18.2.f_at)])), (n_13, gB 8 Campaign.enc s_10.1)] : Hp) (by kernel_rfl) (h_nil ?_)
   rcases cond_some hc_14 with ⟨hc_21, hc_14⟩ | ⟨hc_21, hc_14⟩
   ·refine wH_ift rfl hc_21 (wH_exit (wH_region (h_opw (w64_next hD_8 hn_9) wz rfl (h_op (vI ((k_5 + 1 : Nat) : Int)) wz rfl (h_nil ?_)))))
    obtain rfl := some_inj hc_14
    exact loop_mk (k_5 + 1, l_6, (s_10.1, r_18.2.L, r_18.2.f_at), n_13) ⟨hL_15, drop_next hD_8⟩ (Nat.lt_succ_self _) rfl (pre_r rfl)
   ·refine wH_iff rfl hc_21 (wH_skip (wH_seq (wH_region (h_op (vS x_7) wz rfl (h_op (.ref (extN 0) 0 0) wz rfl (h_lit (([(⟨#[]⟩ : ByteArray), (⟨#[]⟩ : ByteArray), (⟨#[99, 97, 114, 115]⟩ : ByteArray), (⟨#[102, 111, 111, 100]⟩ : ByteArray)] : List ByteArray).map eS) es47 ez47 rfl rfl rfl rfl rfl wz ?_))))))
    obtain ⟨r_22, hr_23, hc_14⟩ := bind_some hc_14
    refine h_callq 0 [0] (.inl rfl) (fun _ _ _ => trivial) (mk_Stream_Some_ok hr_23) rfl hb26 rfl (by kernel_rfl) (by kernel_rfl) (by kernel_rfl) (by kernel_rfl) (by kernel_rfl) (by kernel_rfl) (by kernel_rfl) (by decide) (by kernel_rfl) wz (vS r_22.1) (by kernel_rfl) ([((extN 0), some (.cells 2 [(vL eI r_22.2.L), (vI r_22.2.f_at)])), (n_13, gB 8 Campaign.enc s_10.1)] : Hp) (by kernel_rfl) (h_op (.ref (extN 0) 0 0) wz rfl (h_lit (([0, 0, 10, 20] : List Int).map eI) es22 ez22 rfl rfl rfl rfl rfl wz ?_))
    obtain ⟨r_25, hr_26, hc_14⟩ := bind_some hc_14
    refine h_callq 0 [0] (.inl rfl) (fun _ _ _ => trivial) (mk_Stream_Pick_ok hr_26) rfl hb7 rfl (by kernel_rfl) (by kernel_rfl) (by kernel_rfl) (by kernel_rfl) (by kernel_rfl) (by kernel_rfl) (by kernel_rfl) (by decide) (by kernel_rfl) wz (vI r_25.1) (by kernel_rfl) ([((extN 0), some (.cells 2 [(vL eI r_25.2.L), (vI r_25.2.f_at)])), (n_13, gB 8 Campaign.enc s_10.1)] : Hp) (by kernel_rfl) (h_op (.ref (extN 0) 0 0) wz rfl (h_lit (([30, 50, 60, 100] : List Int).map eI) es22 ez22 rfl rfl rfl rfl rfl wz ?_))
    obtain ⟨r_28, hr_29, hc_14⟩ := bind_some hc_14
    refine h_callq 0 [0] (.inl rfl) (fun _ _ _ => trivial) (mk_Stream_Pick_ok hr_29) rfl hb7 rfl (by kernel_rfl) (by kernel_rfl) (by kernel_rfl) (by kernel_rfl) (by kernel_rfl) (by kernel_rfl) (by kernel_rfl) (by decide) (by kernel_rfl) wz (vI r_28.1) (by kernel_rfl) ([((extN 0), some (.cells 2 [(vL eI r_28.2.L), (vI r_28.2.f_at)])), (n_13, gB 8 Campaign.enc s_10.1)] : Hp) (by kernel_rfl) (h_op (.d (.agg (Window.enc (⟨r_25.1, r_28.1⟩ : Window)))) wz (by kernel_rfl) (h_op (.ref (extN 0) 0 0) wz rfl (h_lit (([0, 1, 2, 3, 4, 6] : List Int).map eI) es22 ez22 rfl rfl rfl rfl rfl wz ?_)))
    obtain ⟨r_31, hr_32, hc_14⟩ := bind_some hc_14
    refine h_callq 0 [0] (.inl rfl) (fun _ _ _ => trivial) (mk_Stream_Pick_ok hr_32) rfl hb7 rfl (by kernel_rfl) (by kernel_rfl) (by kernel_rfl) (by kernel_rfl) (by kernel_rfl) (by kernel_rfl) (by kernel_rfl) (by decide) (by kernel_rfl) wz (vI r_31.1) (by kernel_rfl) ([((extN 0), some (.cells 2 [(vL eI r_31.2.L), (vI r_31.2.f_at)])), (n_13, gB 8 Campaign.enc s_10.1)] : Hp) (by kernel_rfl) (h_op (.ref (extN 0) 0 0) wz rfl (h_lit (([0, 1, 2, 3, 9] : List Int).map eI) es22 ez22 rfl rfl rfl rfl rfl wz ?_))
    obtain ⟨r_34, hr_35, hc_14⟩ := bind_some hc_14
    refine h_callq 0 [0] (.inl rfl) (fun _ _ _ => trivial) (mk_Stream_Pick_ok hr_35) rfl hb7 rfl (by kernel_rfl) (by kernel_rfl) (by kernel_rfl) (by kernel_rfl) (by kernel_rfl) (by kernel_rfl) (by kernel_rfl) (by decide) (by kernel_rfl) wz (vI r_34.1) (by kernel_rfl) ([((extN 0), some (.cells 2 [(vL eI r_34.2.L), (vI r_34.2.f_at)])), (n_13, gB 8 Campaign.enc s_10.1)] : Hp) (by kernel_rfl) (h_op (.ref (extN 0) 0 0) wz rfl (h_lit (([0, 500, 1000, 1500] : List Int).map eI) es22 ez22 rfl rfl rfl rfl rfl wz ?_))
    obtain ⟨r_37, hr_38, hc_14⟩ := bind_some hc_14
    refine h_callq 0 [0] (.inl rfl) (fun _ _ _ => trivial) (mk_Stream_Pick_ok hr_38) rfl hb7 rfl (by kernel_rfl) (by kernel_rfl) (by kernel_rfl) (by kernel_rfl) (by kernel_rfl) (by kernel_rfl) (by kernel_rfl) (by decide) (by kernel_rfl) wz (vI r_37.1) (by kernel_rfl) ([((extN 0), some (.cells 2 [(vL eI r_37.2.L), (vI r_37.2.f_at)])), (n_13, gB 8 Campaign.enc s_10.1)] : Hp) (by kernel_rfl) (h_op (.agg [(vS x_7), (vS r_22.1), (vI r_25.1), (vI r_28.1), .nil, (vI r_31.1), (vI r_34.1), (vI r_37.1)]) wz (by kernel_rfl) (h_alloc 0 (.inl rfl) z49 rfl wz (fun n_40 => h_str 0 (.inl rfl) (fun _ _ _ => trivial) 2 sz49 rfl rfl [(vS x_7), (vS r_22.1), (vI r_25.1), (vI r_28.1), .nil, (vI r_31.1), (vI r_34.1), (vI r_37.1)] rfl wz (h_nil (wH_seq (wH_seq (wH_region (h_lit (([(⟨#[99, 105, 116, 121]⟩ : ByteArray), (⟨#[109, 97, 108, 108]⟩ : ByteArray)] : List ByteArray).map eS) es47 ez47 rfl rfl rfl rfl rfl wz (h_len un47 rfl wz (h_op (vI 0) wz rfl (h_nil (wH_at (H0 := ([((extN 0), some (.cells 2 [(vL eI r_37.2.L), (vI r_37.2.f_at)])), (n_13, gB 8 Campaign.enc s_10.1), (n_40, some (.cells 8 [(vS x_7), (vS r_22.1), (vI r_25.1), (vI r_28.1), .nil, (vI r_31.1), (vI r_34.1), (vI r_37.1)]))] : Hp)) ([(0, (.ref (extN 0) 0 0)), (5, (gV n_13 8 s_10.1)), (8, (.ref n_40 0 0)), (13, (vL eS y_3)), (14, (vI (y_3.length : Int))), (15, (vI (k_5 : Int))), (42, (vL eS ([(⟨#[99, 105, 116, 121]⟩ : ByteArray), (⟨#[109, 97, 108, 108]⟩ : ByteArray)] : List ByteArray))), (43, (vI (([(⟨#[99, 105, 116, 121]⟩ : ByteArray), (⟨#[109, 97, 108, 108]⟩ : ByteArray)] : List ByteArray).length : Int))), (44, (vI 0))] : List (Nat × V)) (by kernel_rfl) (pre_mk (by kernel_rfl)) (wH_new (fun n_47 => ?_))))))))))))))
    obtain ⟨o_52, hj_53, hc_14⟩ := bind_some hc_14
    obtain ⟨hn_45, hj_53⟩ := forL_some hj_53
    refine wH_join (β := ((List ByteArray) × (List Int) × Int) × Nm) (fun p => (fun (s_46 : (List ByteArray) × (List Int) × Int) (n_49 : Nm) => ([(0, (.ref (extN 0) 0 0)), (5, (gV n_13 8 s_10.1)), (8, (.ref n_40 0 0)), (13, (vL eS y_3)), (14, (vI (y_3.length : Int))), (15, (vI (k_5 : Int)))] : List (Nat × V))) p.1 p.2) (fun p => (fun (s_46 : (List ByteArray) × (List Int) × Int) (n_49 : Nm) => ([((extN 0), some (.cells 2 [(vL eI s_46.2.1), (vI s_46.2.2)])), (n_13, gB 8 Campaign.enc s_10.1), (n_40, some (.cells 8 [(vS x_7), (vS r_22.1), (vI r_25.1), (vI r_28.1), (gV n_49 1 s_46.1), (vI r_31.1), (vI r_34.1), (vI r_37.1)])), (n_49, gB 1 eS s_46.1)] : Hp)) p.1 p.2) (fun p => o_52 = .go p.1) ?_ ?_
    ·refine wH_block (wH_loop (β := Nat × (List ByteArray) × ((List ByteArray) × (List Int) × Int) × Nm) (fun p => (fun (k_41 : Nat) (l_42 : List ByteArray) (s_46 : (List ByteArray) × (List Int) × Int) (n_49 : Nm) => ([(0, (.ref (extN 0) 0 0)), (5, (gV n_13 8 s_10.1)), (8, (.ref n_40 0 0)), (13, (vL eS y_3)), (14, (vI (y_3.length : Int))), (15, (vI (k_5 : Int))), (42, (vL eS ([(⟨#[99, 105, 116, 121]⟩ : ByteArray), (⟨#[109, 97, 108, 108]⟩ : ByteArray)] : List ByteArray))), (43, (vI (([(⟨#[99, 105, 116, 121]⟩ : ByteArray), (⟨#[109, 97, 108, 108]⟩ : ByteArray)] : List ByteArray).length : Int))), (44, (vI (k_41 : Int)))] : List (Nat × V))) p.1 p.2.1 p.2.2.1 p.2.2.2) (fun p => (fun (k_41 : Nat) (l_42 : List ByteArray) (s_46 : (List ByteArray) × (List Int) × Int) (n_49 : Nm) => ([((extN 0), some (.cells 2 [(vL eI s_46.2.1), (vI s_46.2.2)])), (n_13, gB 8 Campaign.enc s_10.1), (n_40, some (.cells 8 [(vS x_7), (vS r_22.1), (vI r_25.1), (vI r_28.1), (gV n_49 1 s_46.1), (vI r_31.1), (vI r_34.1), (vI r_37.1)])), (n_49, gB 1 eS s_46.1)] : Hp)) p.1 p.2.1 p.2.2.1 p.2.2.2) (fun p => forR (fun k x s => mk_Stream_RightCampaigns_L1 k x s) p.2.1 p.1 p.2.2.1 = some o_52 ∧ (([(⟨#[99, 105, 116, 121]⟩ : ByteArray), (⟨#[109, 97, 108, 108]⟩ : ByteArray)] : List ByteArray)).drop p.1 = p.2.1) (fun p => p.2.1.length) (0, ([(⟨#[99, 105, 116, 121]⟩ : ByteArray), (⟨#[109, 97, 108, 108]⟩ : ByteArray)] : List ByteArray), (([] : List ByteArray), r_37.2.L, r_37.2.f_at), n_47) ⟨hj_53, rfl⟩ rfl (pre_r rfl) ?_)
     rintro ⟨k_41, l_42, s_46, n_49⟩ ⟨hL_51, hD_44⟩
     dsimp only at hL_51 hD_44
     cases l_42 with
     | nil =>
      obtain rfl := some_inj hL_51
      refine wH_seq (wH_region (h_op (vB (decide ((k_41 : Int) < (([(⟨#[99, 105, 116, 121]⟩ : ByteArray), (⟨#[109, 97, 108, 108]⟩ : ByteArray)] : List ByteArray).length : Int)))) wz rfl (h_nil ?_)))
      refine wH_seq (wH_iff rfl (drop_nil hD_44) (wH_exit ?_))
      exact cut_mk (s_46, n_49) rfl rfl (pre_r rfl)
     | cons x_43 l_42 =>
      obtain ⟨c_, hc_50, hL_51⟩ := bind_some hL_51
      refine wH_seq (wH_region (h_op (vB (decide ((k_41 : Int) < (([(⟨#[99, 105, 116, 121]⟩ : ByteArray), (⟨#[109, 97, 108, 108]⟩ : ByteArray)] : List ByteArray).length : Int)))) wz rfl (h_nil ?_)))
      refine wH_seq (wH_ift rfl (drop_cons hD_44) (wH_skip ?_))
      unfold mk_Stream_RightCampaigns_L1 at hc_50
      refine wH_seq (wH_block (wH_seq (wH_region (h_ia es47 rfl rfl (drop_idx hD_44) rfl wz (h_ldc sz9 ag9 rfl (vS x_43) rfl wz (h_op (vS x_43) wz rfl (h_nil (wH_seq (wH_region (h_op (.ref (extN 0) 0 0) wz rfl ?_))))))))))
      obtain ⟨r_54, hr_55, hc_50⟩ := bind_some hc_50
      refine h_callq 0 [0] (.inl rfl) (fun _ _ _ => trivial) (mk_Stream_Flip_ok hr_55) rfl hb24 rfl (by kernel_rfl) (by kernel_rfl) (by kernel_rfl) (by kernel_rfl) (by kernel_rfl) (by kernel_rfl) (by kernel_rfl) (by decide) (by kernel_rfl) wz (vB r_54.1) (by kernel_rfl) ([((extN 0), some (.cells 2 [(vL eI r_54.2.L), (vI r_54.2.f_at)])), (n_13, gB 8 Campaign.enc s_10.1), (n_40, some (.cells 8 [(vS x_7), (vS r_22.1), (vI r_25.1), (vI r_28.1), (gV n_49 1 s_46.1), (vI r_31.1), (vI r_34.1), (vI r_37.1)])), (n_49, gB 1 eS s_46.1)] : Hp) (by kernel_rfl) (h_nil ?_)
      obtain ⟨v_57, h_58, hc_50⟩ := bind_some hc_50
      refine wH_join (β := Nm) (fun (n_59 : Nm) => ([(0, (.ref (extN 0) 0 0)), (5, (gV n_13 8 s_10.1)), (8, (.ref n_40 0 0)), (13, (vL eS y_3)), (14, (vI (y_3.length : Int))), (15, (vI (k_5 : Int))), (42, (vL eS ([(⟨#[99, 105, 116, 121]⟩ : ByteArray), (⟨#[109, 97, 108, 108]⟩ : ByteArray)] : List ByteArray))), (43, (vI (([(⟨#[99, 105, 116, 121]⟩ : ByteArray), (⟨#[109, 97, 108, 108]⟩ : ByteArray)] : List ByteArray).length : Int))), (44, (vI (k_41 : Int)))] : List (Nat × V))) (fun (n_59 : Nm) => ([((extN 0), some (.cells 2 [(vL eI r_54.2.L), (vI r_54.2.f_at)])), (n_13, gB 8 Campaign.enc s_10.1), (n_40, some (.cells 8 [(vS x_7), (vS r_22.1), (vI r_25.1), (vI r_28.1), (gV n_59 1 v_57), (vI r_31.1), (vI r_34.1), (vI r_37.1)])), (n_59, gB 1 eS v_57)] : Hp)) (fun _ => True) ?_ ?_
      ·rcases cond_some h_58 with ⟨hc_60, h_58⟩ | ⟨hc_60, h_58⟩
       ·refine wH_ift rfl hc_60 (wH_region (h_far pl49_3 rfl 4 rfl wz (h_ldr 0 2 (.inl rfl) (fun _ _ _ => trivial) sz47 ag47 rfl rfl (gV n_49 1 s_46.1) rfl wz (h_op (vS x_43) wz rfl (h_lit (([x_43] : List ByteArray).map eS) es47 ez47 rfl rfl rfl rfl rfl wz ?_)))))
        obtain ⟨a_61, hz_62, h_58⟩ := bind_some h_58
        refine h_appg 0 (.inl rfl) (fun _ _ _ => trivial) (i := 3) el47 el47 sz9 z9 rfl (by decide) by9 (by decide) (fun _ => rfl) rfl rfl rfl hz_62 wz (fun n_63 => h_far pl49_3 rfl 4 rfl wz (h_str 0 (.inl rfl) (fun _ _ _ => trivial) 2 sz47 rfl rfl [(vS x_7), (vS r_22.1), (vI r_25.1), (vI r_28.1), (gV n_63 1 a_61), (vI r_31.1), (vI r_34.1), (vI r_37.1)] (stC_g rfl) wz (h_nil ?_)))
        obtain rfl := some_inj h_58
        exact cut_mk n_63 trivial rfl (pre_r rfl)
       ·refine wH_iff rfl hc_60 (wH_skip ?_)
        obtain rfl := some_inj h_58
        exact cut_mk n_49 trivial rfl (pre_r rfl)
      ·rintro n_59 _ sl_ H_ hp_ hq_
       refine wH_at _ hp_ hq_ (wH_region (h_opw (w64_next hD_44 hn_45) wz rfl (h_op (vI ((k_41 + 1 : Nat) : Int)) wz rfl (h_nil ?_))))
       obtain rfl := some_inj hc_50
       exact loop_mk (k_41 + 1, l_42, (v_57, r_54.2.L, r_54.2.f_at), n_59) ⟨hL_51, drop_next hD_44⟩ (Nat.lt_succ_self _) rfl (pre_r rfl)
    ·rintro ⟨s_46, n_49⟩ ho_ sl_ H_ hp_ hq_
     subst ho_
     refine wH_at _ hp_ hq_ (wH_frozg 3 rfl (wH_coc 3 2 [(vS x_7), (vS r_22.1), (vI r_25.1), (vI r_28.1), (vL eS s_46.1), (vI r_31.1), (vI r_34.1), (vI r_37.1)] rfl rfl (fun S hS => cons_eq (rfl) (cons_eq (rfl) (cons_eq (rfl) (cons_eq (rfl) (cons_eq (hS) (cons_eq (rfl) (cons_eq (rfl) (cons_eq (rfl) (rfl))))))))) (wH_region (h_op (gV n_13 8 s_10.1) wz rfl (h_ldr 0 2 (.inl rfl) (fun _ _ _ => trivial) sz49 ag49 rfl rfl (.d (.agg (Campaign.enc (⟨x_7, r_22.1, (⟨r_25.1, r_28.1⟩ : Window), s_46.1, r_31.1, r_34.1, r_37.1⟩ : Campaign)))) rfl wz (h_lit (([(⟨x_7, r_22.1, (⟨r_25.1, r_28.1⟩ : Window), s_46.1, r_31.1, r_34.1, r_37.1⟩ : Campaign)] : List Campaign).map Campaign.enc) es26 ez26 rfl rfl rfl rfl rfl wz ?_))))))
     obtain ⟨a_64, hz_65, hc_14⟩ := bind_some hc_14
     refine h_appg 0 (.inl rfl) (fun _ _ _ => trivial) (i := 1) el26 el26 sz49 z49 rfl (by decide) by49 (by decide) (fun _ => rfl) rfl rfl rfl hz_65 wz (fun n_66 => h_op (gV n_66 8 a_64) wz rfl (h_nil (wH_region (h_opw (w64_next hD_8 hn_9) wz rfl (h_op (vI ((k_5 + 1 : Nat) : Int)) wz rfl (h_nil ?_))))))
     obtain rfl := some_inj hc_14
     exact loop_mk (k_5 + 1, l_6, (a_64, s_46.2.1, s_46.2.2), n_66) ⟨hL_15, drop_next hD_8⟩ (Nat.lt_succ_self _) rfl (pre_r rfl)
 ·rintro ⟨s_10, n_13⟩ ho_ sl_ H_ hp_ hq_
  subst ho_
  refine wH_at _ hp_ hq_ (wH_seq (wH_region (h_op (gV n_13 8 s_10.1) wz rfl (h_op (gV n_13 8 s_10.1) wz rfl (h_nil ?_)))))
  obtain rfl := some_inj hF
  exact wH_ret (finG (outs := ([(.cells 2 [(vL eI s_10.2.1), (vI s_10.2.2)])] : List Box)) (.inr rfl) 1 rfl rfl rfl (by kernel_rfl) (by kernel_rfl))
theorem mk_Stream_Range_ok {s_1 : Stream} {low_2 : Int} {high_3 : Int} {r : Int × Stream} (hF : mk_Stream_Range s_1 low_2 high_3 = some r) :
  FnM Tryd.prog 6 [(.ref (extN 0) 0 0), (vI low_2), (vI high_3)] [(.cells 2 [(vL eI s_1.L), (vI s_1.f_at)])] (vI r.1) [some (.cells 2 [(vL eI r.2.L), (vI r.2.f_at)])] := by
 refine FnM.of_wH ⟨Tryd.prog, 19, [], []⟩ rfl Tryd.func6 rfl rfl (Nat.le_of_ble_eq_true rfl) (by kernel_rfl) ?_
 unfold mk_Stream_Range at hF
 refine wH_seq (wH_region (h_op (vI 0) wz rfl (h_nil (wH_seq (wH_seq (wH_region (h_op (vI high_3) wz rfl (h_op (vI low_2) wz rfl (h_op (vB (decide (high_3 < low_2))) wz rfl (h_nil ?_))))))))))
 rcases cond_some hF with ⟨hc_4, hF⟩ | ⟨hc_4, hF⟩
 ·refine wH_ift rfl hc_4 (wH_seq (wH_region (h_op (vI low_2) wz rfl (h_op (vI low_2) wz rfl (h_nil ?_)))))
  obtain rfl := some_inj hF
  exact wH_ret (finB (.inr rfl) [(vI low_2)] _ [0] [extN 0] ⟨rfl, trivial⟩ (.cons (co_data rfl rfl) (.nil)) (by kernel_rfl) ⟨(by kernel_rfl), trivial⟩ (by decide) (by kernel_rfl))
 ·refine wH_iff rfl hc_4 (wH_skip (wH_seq (wH_region (h_op (vI low_2) wz rfl (h_op (.ref (extN 0) 0 0) wz rfl (h_op (vI high_3) wz rfl (h_op (vI low_2) wz rfl (h_op (vI (w64 (high_3 - low_2))) wz rfl (h_op (vI (w64 ((w64 (high_3 - low_2)) + 1))) wz rfl ?_)))))))))
  obtain ⟨r_5, hr_6, hF⟩ := bind_some hF
  refine h_callq 0 [0] (.inl rfl) (fun _ _ _ => trivial) (mk_Stream_Next_ok hr_6) rfl hb25 rfl (by kernel_rfl) (by kernel_rfl) (by kernel_rfl) (by kernel_rfl) (by kernel_rfl) (by kernel_rfl) (by kernel_rfl) (by decide) (by kernel_rfl) wz (vI r_5.1) (by kernel_rfl) ([((extN 0), some (.cells 2 [(vL eI r_5.2.L), (vI r_5.2.f_at)]))] : Hp) (by kernel_rfl) (h_op (vI (w64 (low_2 + r_5.1))) wz rfl (h_op (vI (w64 (low_2 + r_5.1))) wz rfl (h_nil ?_)))
  obtain rfl := some_inj hF
  exact wH_ret (finB (.inr rfl) [(vI (w64 (low_2 + r_5.1)))] _ [0] [extN 0] ⟨rfl, trivial⟩ (.cons (co_data rfl rfl) (.nil)) (by kernel_rfl) ⟨(by kernel_rfl), trivial⟩ (by decide) (by kernel_rfl))
theorem mk_Stream_Odd_ok {s_1 : Stream} {low_2 : Int} {high_3 : Int} {r : Int × Stream} (hF : mk_Stream_Odd s_1 low_2 high_3 = some r) :
  FnM Tryd.prog 27 [(.ref (extN 0) 0 0), (vI low_2), (vI high_3)] [(.cells 2 [(vL eI s_1.L), (vI s_1.f_at)])] (vI r.1) [some (.cells 2 [(vL eI r.2.L), (vI r.2.f_at)])] := by
 refine FnM.of_wH ⟨Tryd.prog, 22, [], []⟩ rfl Tryd.func27 rfl rfl (Nat.le_of_ble_eq_true rfl) (by kernel_rfl) ?_
 unfold mk_Stream_Odd at hF
 refine wH_seq (wH_region (h_op (vI 0) wz rfl (h_nil (wH_seq (wH_seq (wH_region (h_op (.ref (extN 0) 0 0) wz rfl ?_)))))))
 obtain ⟨r_4, hr_5, hF⟩ := bind_some hF
 refine h_callq 0 [0] (.inl rfl) (fun _ _ _ => trivial) (mk_Stream_Flip_ok hr_5) rfl hb24 rfl (by kernel_rfl) (by kernel_rfl) (by kernel_rfl) (by kernel_rfl) (by kernel_rfl) (by kernel_rfl) (by kernel_rfl) (by decide) (by kernel_rfl) wz (vB r_4.1) (by kernel_rfl) ([((extN 0), some (.cells 2 [(vL eI r_4.2.L), (vI r_4.2.f_at)]))] : Hp) (by kernel_rfl) (h_nil ?_)
 rcases cond_some hF with ⟨hc_7, hF⟩ | ⟨hc_7, hF⟩
 ·refine wH_ift rfl hc_7 (wH_seq (wH_region (h_op (.ref (extN 0) 0 0) wz rfl (h_op (vI low_2) wz rfl (h_op (vI (w64 (low_2 - 1))) wz rfl (h_op (vI high_3) wz rfl (h_op (vI (w64 (high_3 + 1))) wz rfl (h_op (vI low_2) wz rfl (h_op (vI high_3) wz rfl (h_lit (([(w64 (low_2 - 1)), (w64 (high_3 + 1)), low_2, high_3, (-1099511627776), 1099511627776] : List Int).map eI) es22 ez22 rfl rfl rfl rfl rfl wz ?_))))))))))
  obtain ⟨r_8, hr_9, hF⟩ := bind_some hF
  refine h_callq 0 [0] (.inl rfl) (fun _ _ _ => trivial) (mk_Stream_Pick_ok hr_9) rfl hb7 rfl (by kernel_rfl) (by kernel_rfl) (by kernel_rfl) (by kernel_rfl) (by kernel_rfl) (by kernel_rfl) (by kernel_rfl) (by decide) (by kernel_rfl) wz (vI r_8.1) (by kernel_rfl) ([((extN 0), some (.cells 2 [(vL eI r_8.2.L), (vI r_8.2.f_at)]))] : Hp) (by kernel_rfl) (h_op (vI r_8.1) wz rfl (h_nil ?_))
  obtain rfl := some_inj hF
  exact wH_ret (finB (.inr rfl) [(vI r_8.1)] _ [0] [extN 0] ⟨rfl, trivial⟩ (.cons (co_data rfl rfl) (.nil)) (by kernel_rfl) ⟨(by kernel_rfl), trivial⟩ (by decide) (by kernel_rfl))
 ·refine wH_iff rfl hc_7 (wH_skip (wH_seq (wH_region (h_op (.ref (extN 0) 0 0) wz rfl (h_op (vI low_2) wz rfl (h_op (vI high_3) wz rfl ?_))))))
  obtain ⟨r_11, hr_12, hF⟩ := bind_some hF
  refine h_callq 0 [0] (.inl rfl) (fun _ _ _ => trivial) (mk_Stream_Range_ok hr_12) rfl hb6 rfl (by kernel_rfl) (by kernel_rfl) (by kernel_rfl) (by kernel_rfl) (by kernel_rfl) (by kernel_rfl) (by kernel_rfl) (by decide) (by kernel_rfl) wz (vI r_11.1) (by kernel_rfl) ([((extN 0), some (.cells 2 [(vL eI r_11.2.L), (vI r_11.2.f_at)]))] : Hp) (by kernel_rfl) (h_op (vI r_11.1) wz rfl (h_nil ?_))
  obtain rfl := some_inj hF
  exact wH_ret (finB (.inr rfl) [(vI r_11.1)] _ [0] [extN 0] ⟨rfl, trivial⟩ (.cons (co_data rfl rfl) (.nil)) (by kernel_rfl) ⟨(by kernel_rfl), trivial⟩ (by decide) (by kernel_rfl))
theorem mk_Stream_Campaigns_ok {s_1 : Stream} {most_2 : Int} {r : (List Campaign) × Stream} (hF : mk_Stream_Campaigns s_1 most_2 = some r) :
  FnM Tryd.prog 4 [(.ref (extN 0) 0 0), (vI most_2)] [(.cells 2 [(vL eI s_1.L), (vI s_1.f_at)])] (vL Campaign.enc r.1) [some (.cells 2 [(vL eI r.2.L), (vI r.2.f_at)])] := by
 refine FnM.of_wH ⟨Tryd.prog, 80, [], []⟩ rfl Tryd.func4 rfl rfl (Nat.le_of_ble_eq_true rfl) (by kernel_rfl) ?_
 unfold mk_Stream_Campaigns at hF
 refine wH_seq (wH_region (h_op .nil wz rfl (h_nil (wH_seq (wH_region (h_op (.ref (extN 0) 0 0) wz rfl (h_op (vI most_2) wz rfl ?_)))))))
 obtain ⟨r_3, hr_4, hF⟩ := bind_some hF
 refine h_callg [0] (mk_Stream_RightCampaigns_okb hr_4) rfl hb23 rfl (by kernel_rfl) (by kernel_rfl) (by kernel_rfl) (by kernel_rfl) (by kernel_rfl) rfl (by decide) (by kernel_rfl) wz ([((extN 0), some (.cells 2 [(vL eI r_3.2.L), (vI r_3.2.f_at)]))] : Hp) (fun _ => by kernel_rfl) (fun n_6 => h_op (gV n_6 8 r_3.1) wz rfl (h_nil (wH_seq (wH_seq ?_))))
 obtain ⟨v_7, h_8, hF⟩ := bind_some hF
 refine wH_join (β := Unit) (fun _ => ([(0, (.ref (extN 0) 0 0)), (5, (gV n_6 8 r_3.1)), (16, (vB v_7.1))] : List (Nat × V))) (fun _ => ([((extN 0), some (.cells 2 [(vL eI v_7.2.1), (vI v_7.2.2)])), (n_6, gB 8 Campaign.enc r_3.1)] : Hp)) (fun _ => True) ?_ ?_
 ·refine wH_region (h_op (gV n_6 8 r_3.1) wz rfl (h_leng un26 rfl wz (h_op (vB (decide ((r_3.1.length : Int) > 0))) wz rfl ?_)))
  rcases cond_some h_8 with ⟨hc_9, h_8⟩ | ⟨hc_9, h_8⟩
  ·refine h_movb rfl hc_9 wz (h_op (.ref (extN 0) 0 0) (wg rfl rfl rfl) rfl ?_)
   obtain ⟨r_10, hr_11, h_8⟩ := bind_some h_8
   refine h_callq 0 [0] (.inl rfl) (fun _ _ _ => trivial) (mk_Stream_Flip_ok hr_11) rfl hb24 rfl (by kernel_rfl) (by kernel_rfl) (by kernel_rfl) (by kernel_rfl) (by kernel_rfl) (by kernel_rfl) (by kernel_rfl) (by decide) (by kernel_rfl) (wg rfl rfl rfl) (vB r_10.1) (by kernel_rfl) ([((extN 0), some (.cells 2 [(vL eI r_10.2.L), (vI r_10.2.f_at)])), (n_6, gB 8 Campaign.enc r_3.1)] : Hp) (by kernel_rfl) (h_op (vB r_10.1) wz rfl (h_nil ?_))
   obtain rfl := some_inj h_8
   exact cut_mk () trivial rfl (pre_r rfl)
  ·refine h_movb rfl hc_9 wz (h_skip (wg rfl rfl rfl) (h_skip (wg rfl rfl rfl) (h_op (vB false) wz rfl (h_nil ?_))))
   obtain rfl := some_inj h_8
   exact cut_mk () trivial rfl (pre_r rfl)
 ·rintro ⟨⟩ _ sl_ H_ hp_ hq_
  refine wH_at _ hp_ hq_ ?_
  obtain ⟨v_13, h_14, hF⟩ := bind_some hF
  refine wH_join (β := Unit) (fun _ => ([(5, (gV n_6 8 v_13.1))] : List (Nat × V))) (fun _ => ([((extN 0), some (.cells 2 [(vL eI v_13.2.1), (vI v_13.2.2)])), (n_6, gB 8 Campaign.enc v_13.1)] : Hp)) (fun _ => True) ?_ ?_
  ·rcases cond_some h_14 with ⟨hc_15, h_14⟩ | ⟨hc_15, h_14⟩
   ·refine wH_ift rfl hc_15 (wH_seq (wH_region (h_op (gV n_6 8 r_3.1) wz rfl (h_op (.ref (extN 0) 0 0) wz rfl (h_op (gV n_6 8 r_3.1) wz rfl (h_leng un26 rfl wz ?_))))))
    obtain ⟨r_16, hr_17, h_14⟩ := bind_some h_14
    refine h_callq 0 [0] (.inl rfl) (fun _ _ _ => trivial) (mk_Stream_Next_ok hr_17) rfl hb25 rfl (by kernel_rfl) (by kernel_rfl) (by kernel_rfl) (by kernel_rfl) (by kernel_rfl) (by kernel_rfl) (by kernel_rfl) (by decide) (by kernel_rfl) wz (vI r_16.1) (by kernel_rfl) ([((extN 0), some (.cells 2 [(vL eI r_16.2.L), (vI r_16.2.f_at)])), (n_6, gB 8 Campaign.enc r_3.1)] : Hp) (by kernel_rfl) ?_
    obtain ⟨_, hi_19, h_14⟩ := bind_some h_14
    refine h_iavg es26 rfl rfl (inR_0 hi_19) (inR_lt hi_19) wz (h_op (.ref n_6 (0 + (r_16.1).toNat) 0) wz rfl (h_nil (wH_seq (wH_region (h_op (.ref (extN 0) 0 0) wz rfl ?_)))))
    obtain ⟨r_20, hr_21, h_14⟩ := bind_some h_14
    refine h_callq 0 [0] (.inl rfl) (fun _ _ _ => trivial) (mk_Stream_Next_ok hr_21) rfl hb25 rfl (by kernel_rfl) (by kernel_rfl) (by kernel_rfl) (by kernel_rfl) (by kernel_rfl) (by kernel_rfl) (by kernel_rfl) (by decide) (by kernel_rfl) wz (vI r_20.1) (by kernel_rfl) ([((extN 0), some (.cells 2 [(vL eI r_20.2.L), (vI r_20.2.f_at)])), (n_6, gB 8 Campaign.enc r_3.1)] : Hp) (by kernel_rfl) (h_nil (wH_block (wH_seq (wH_region (h_op (vB (r_20.1 == 0)) wz rfl (h_op (vB (r_20.1 == 0)) wz rfl (h_nil ?_)))))))
    rcases cond_some h_14 with ⟨hc_23, h_14⟩ | ⟨hc_23, h_14⟩
    ·refine wH_ift rfl hc_23 (wH_region (h_op (.ref n_6 (0 + (r_16.1).toNat) 0) wz rfl (h_op (.ref n_6 (0 + (r_16.1).toNat) 0) wz rfl (h_op (.ref (extN 0) 0 0) wz rfl (h_op (.ref n_6 (0 + (r_16.1).toNat) 0) wz rfl (h_op (.ref n_6 (0 + (r_16.1).toNat) 0) wz rfl (h_far pl49_0 rfl 0 rfl wz ?_)))))))
     obtain ⟨e_24, hy_25, h_14⟩ := bind_some h_14
     refine h_ldvg 0 1 (.inl rfl) (fun _ _ _ => trivial) sz9 ag9 rfl rfl hy_25 (vS e_24.Key) rfl wz (h_lit (([e_24.Key, (⟨#[]⟩ : ByteArray), (⟨#[99, 97]⟩ : ByteArray)] : List ByteArray).map eS) es47 ez47 rfl rfl rfl rfl rfl wz ?_)
     obtain ⟨r_26, hr_27, h_14⟩ := bind_some h_14
     refine h_callq 0 [0] (.inl rfl) (fun _ _ _ => trivial) (mk_Stream_Some_ok hr_27) rfl hb26 rfl (by kernel_rfl) (by kernel_rfl) (by kernel_rfl) (by kernel_rfl) (by kernel_rfl) (by kernel_rfl) (by kernel_rfl) (by decide) (by kernel_rfl) wz (vS r_26.1) (by kernel_rfl) ([((extN 0), some (.cells 2 [(vL eI r_26.2.L), (vI r_26.2.f_at)])), (n_6, gB 8 Campaign.enc r_3.1)] : Hp) (by kernel_rfl) (h_op (.ref (extN 0) 0 0) wz rfl (h_lit (([(⟨#[]⟩ : ByteArray), (⟨#[65]⟩ : ByteArray)] : List ByteArray).map eS) es47 ez47 rfl rfl rfl rfl rfl wz ?_))
     obtain ⟨r_29, hr_30, h_14⟩ := bind_some h_14
     refine h_callq 0 [0] (.inl rfl) (fun _ _ _ => trivial) (mk_Stream_Some_ok hr_30) rfl hb26 rfl (by kernel_rfl) (by kernel_rfl) (by kernel_rfl) (by kernel_rfl) (by kernel_rfl) (by kernel_rfl) (by kernel_rfl) (by decide) (by kernel_rfl) wz (vS r_29.1) (by kernel_rfl) ([((extN 0), some (.cells 2 [(vL eI r_29.2.L), (vI r_29.2.f_at)])), (n_6, gB 8 Campaign.enc r_3.1)] : Hp) (by kernel_rfl) (h_op (.ref n_6 (0 + (r_16.1).toNat) 0) wz rfl (h_far pl49_0 rfl 0 rfl wz ?_))
     obtain ⟨e_32, hy_33, h_14⟩ := bind_some h_14
     refine h_stvg 0 (.inl rfl) (fun _ _ _ => trivial) 1 sz9 rfl rfl hy_33 (⟨r_26.1, e_32.Class, e_32.Time, e_32.Tags, e_32.Goal, e_32.Most, e_32.Cents⟩ : Campaign) rfl wz (h_re (v' := (gV n_6 8 (r_3.1.set (0 + (r_16.1).toNat) (⟨r_26.1, e_32.Class, e_32.Time, e_32.Tags, e_32.Goal, e_32.Most, e_32.Cents⟩ : Campaign)))) 5 rfl (gV_len (by simp)) (h_re (v' := (gV n_6 8 (r_3.1.set (0 + (r_16.1).toNat) (⟨r_26.1, e_32.Class, e_32.Time, e_32.Tags, e_32.Goal, e_32.Most, e_32.Cents⟩ : Campaign)))) 17 rfl (gV_len (by simp)) (h_re (v' := (gV n_6 8 (r_3.1.set (0 + (r_16.1).toNat) (⟨r_26.1, e_32.Class, e_32.Time, e_32.Tags, e_32.Goal, e_32.Most, e_32.Cents⟩ : Campaign)))) 19 rfl (gV_len (by simp)) (h_op (.ref n_6 (0 + (r_16.1).toNat) 0) wz rfl (h_far pl49_1 rfl 1 rfl wz ?_)))))
     obtain ⟨e_34, hy_35, h_14⟩ := bind_some h_14
     refine h_stvg 0 (.inl rfl) (fun _ _ _ => trivial) 1 sz9 rfl rfl hy_35 (⟨e_34.Key, r_29.1, e_34.Time, e_34.Tags, e_34.Goal, e_34.Most, e_34.Cents⟩ : Campaign) rfl wz (h_re (v' := (gV n_6 8 ((r_3.1.set (0 + (r_16.1).toNat) (⟨r_26.1, e_32.Class, e_32.Time, e_32.Tags, e_32.Goal, e_32.Most, e_32.Cents⟩ : Campaign)).set (0 + (r_16.1).toNat) (⟨e_34.Key, r_29.1, e_34.Time, e_34.Tags, e_34.Goal, e_34.Most, e_34.Cents⟩ : Campaign)))) 5 rfl (gV_len (by simp)) (h_re (v' := (gV n_6 8 ((r_3.1.set (0 + (r_16.1).toNat) (⟨r_26.1, e_32.Class, e_32.Time, e_32.Tags, e_32.Goal, e_32.Most, e_32.Cents⟩ : Campaign)).set (0 + (r_16.1).toNat) (⟨e_34.Key, r_29.1, e_34.Time, e_34.Tags, e_34.Goal, e_34.Most, e_34.Cents⟩ : Campaign)))) 17 rfl (gV_len (by simp)) (h_re (v' := (gV n_6 8 ((r_3.1.set (0 + (r_16.1).toNat) (⟨r_26.1, e_32.Class, e_32.Time, e_32.Tags, e_32.Goal, e_32.Most, e_32.Cents⟩ : Campaign)).set (0 + (r_16.1).toNat) (⟨e_34.Key, r_29.1, e_34.Time, e_34.Tags, e_34.Goal, e_34.Most, e_34.Cents⟩ : Campaign)))) 19 rfl (gV_len (by simp)) (h_nil ?_))))
     obtain rfl := some_inj h_14
     exact cut_mk () trivial rfl (pre_r rfl)
    ·refine wH_iff rfl hc_23 (wH_seq (wH_region (h_op (vB (r_20.1 == 1)) wz rfl (h_op (vB (r_20.1 == 1)) wz rfl (h_nil ?_)))))
     rcases cond_some h_14 with ⟨hc_36, h_14⟩ | ⟨hc_36, h_14⟩
     ·refine wH_ift rfl hc_36 (wH_region (h_op (.ref n_6 (0 + (r_16.1).toNat) 0) wz rfl (h_op (.ref (extN 0) 0 0) wz rfl ?_)))
      obtain ⟨r_37, hr_38, h_14⟩ := bind_some h_14
      refine h_callq 0 [0] (.inl rfl) (fun _ _ _ => trivial) (mk_Stream_Odd_ok hr_38) rfl hb27 rfl (by kernel_rfl) (by kernel_rfl) (by kernel_rfl) (by kernel_rfl) (by kernel_rfl) (by kernel_rfl) (by kernel_rfl) (by decide) (by kernel_rfl) wz (vI r_37.1) (by kernel_rfl) ([((extN 0), some (.cells 2 [(vL eI r_37.2.L), (vI r_37.2.f_at)])), (n_6, gB 8 Campaign.enc r_3.1)] : Hp) (by kernel_rfl) (h_op (.ref n_6 (0 + (r_16.1).toNat) 0) wz rfl (h_far pl49_2 rfl 2 rfl wz (h_far pl46_1 rfl 3 rfl wz ?_)))
      obtain ⟨e_40, hy_41, h_14⟩ := bind_some h_14
      refine h_stvg 0 (.inl rfl) (fun _ _ _ => trivial) 1 sz3 rfl rfl hy_41 (⟨e_40.Key, e_40.Class, (⟨e_40.Time.From, r_37.1⟩ : Window), e_40.Tags, e_40.Goal, e_40.Most, e_40.Cents⟩ : Campaign) rfl wz (h_re (v' := (gV n_6 8 (r_3.1.set (0 + (r_16.1).toNat) (⟨e_40.Key, e_40.Class, (⟨e_40.Time.From, r_37.1⟩ : Window), e_40.Tags, e_40.Goal, e_40.Most, e_40.Cents⟩ : Campaign)))) 5 rfl (gV_len (by simp)) (h_re (v' := (gV n_6 8 (r_3.1.set (0 + (r_16.1).toNat) (⟨e_40.Key, e_40.Class, (⟨e_40.Time.From, r_37.1⟩ : Window), e_40.Tags, e_40.Goal, e_40.Most, e_40.Cents⟩ : Campaign)))) 17 rfl (gV_len (by simp)) (h_re (v' := (gV n_6 8 (r_3.1.set (0 + (r_16.1).toNat) (⟨e_40.Key, e_40.Class, (⟨e_40.Time.From, r_37.1⟩ : Window), e_40.Tags, e_40.Goal, e_40.Most, e_40.Cents⟩ : Campaign)))) 19 rfl (gV_len (by simp)) (h_nil ?_))))
      obtain rfl := some_inj h_14
      exact cut_mk () trivial rfl (pre_r rfl)
     ·refine wH_iff rfl hc_36 (wH_seq (wH_region (h_op (vB (r_20.1 == 2)) wz rfl (h_op (vB (r_20.1 == 2)) wz rfl (h_nil ?_)))))
      rcases cond_some h_14 with ⟨hc_42, h_14⟩ | ⟨hc_42, h_14⟩
      ·refine wH_ift rfl hc_42 (wH_region (h_op (.ref n_6 (0 + (r_16.1).toNat) 0) wz rfl (h_op (.ref n_6 (0 + (r_16.1).toNat) 0) wz rfl (h_op (.ref n_6 (0 + (r_16.1).toNat) 0) wz rfl (h_op (.ref (extN 0) 0 0) wz rfl ?_)))))
       obtain ⟨r_43, hr_44, h_14⟩ := bind_some h_14
       refine h_callq 0 [0] (.inl rfl) (fun _ _ _ => trivial) (mk_Stream_Odd_ok hr_44) rfl hb27 rfl (by kernel_rfl) (by kernel_rfl) (by kernel_rfl) (by kernel_rfl) (by kernel_rfl) (by kernel_rfl) (by kernel_rfl) (by decide) (by kernel_rfl) wz (vI r_43.1) (by kernel_rfl) ([((extN 0), some (.cells 2 [(vL eI r_43.2.L), (vI r_43.2.f_at)])), (n_6, gB 8 Campaign.enc r_3.1)] : Hp) (by kernel_rfl) (h_op (.ref (extN 0) 0 0) wz rfl ?_)
       obtain ⟨r_46, hr_47, h_14⟩ := bind_some h_14
       refine h_callq 0 [0] (.inl rfl) (fun _ _ _ => trivial) (mk_Stream_Odd_ok hr_47) rfl hb27 rfl (by kernel_rfl) (by kernel_rfl) (by kernel_rfl) (by kernel_rfl) (by kernel_rfl) (by kernel_rfl) (by kernel_rfl) (by decide) (by kernel_rfl) wz (vI r_46.1) (by kernel_rfl) ([((extN 0), some (.cells 2 [(vL eI r_46.2.L), (vI r_46.2.f_at)])), (n_6, gB 8 Campaign.enc r_3.1)] : Hp) (by kernel_rfl) (h_op (.ref (extN 0) 0 0) wz rfl ?_)
       obtain ⟨r_49, hr_50, h_14⟩ := bind_some h_14
       refine h_callq 0 [0] (.inl rfl) (fun _ _ _ => trivial) (mk_Stream_Odd_ok hr_50) rfl hb27 rfl (by kernel_rfl) (by kernel_rfl) (by kernel_rfl) (by kernel_rfl) (by kernel_rfl) (by kernel_rfl) (by kernel_rfl) (by decide) (by kernel_rfl) wz (vI r_49.1) (by kernel_rfl) ([((extN 0), some (.cells 2 [(vL eI r_49.2.L), (vI r_49.2.f_at)])), (n_6, gB 8 Campaign.enc r_3.1)] : Hp) (by kernel_rfl) (h_op (.ref n_6 (0 + (r_16.1).toNat) 0) wz rfl (h_far pl49_4 rfl 5 rfl wz ?_))
       obtain ⟨e_52, hy_53, h_14⟩ := bind_some h_14
       refine h_stvg 0 (.inl rfl) (fun _ _ _ => trivial) 1 sz3 rfl rfl hy_53 (⟨e_52.Key, e_52.Class, e_52.Time, e_52.Tags, r_43.1, e_52.Most, e_52.Cents⟩ : Campaign) rfl wz (h_re (v' := (gV n_6 8 (r_3.1.set (0 + (r_16.1).toNat) (⟨e_52.Key, e_52.Class, e_52.Time, e_52.Tags, r_43.1, e_52.Most, e_52.Cents⟩ : Campaign)))) 5 rfl (gV_len (by simp)) (h_re (v' := (gV n_6 8 (r_3.1.set (0 + (r_16.1).toNat) (⟨e_52.Key, e_52.Class, e_52.Time, e_52.Tags, r_43.1, e_52.Most, e_52.Cents⟩ : Campaign)))) 17 rfl (gV_len (by simp)) (h_re (v' := (gV n_6 8 (r_3.1.set (0 + (r_16.1).toNat) (⟨e_52.Key, e_52.Class, e_52.Time, e_52.Tags, r_43.1, e_52.Most, e_52.Cents⟩ : Campaign)))) 19 rfl (gV_len (by simp)) (h_op (.ref n_6 (0 + (r_16.1).toNat) 0) wz rfl (h_far pl49_5 rfl 6 rfl wz ?_)))))
       obtain ⟨e_54, hy_55, h_14⟩ := bind_some h_14
       refine h_stvg 0 (.inl rfl) (fun _ _ _ => trivial) 1 sz3 rfl rfl hy_55 (⟨e_54.Key, e_54.Class, e_54.Time, e_54.Tags, e_54.Goal, r_46.1, e_54.Cents⟩ : Campaign) rfl wz (h_re (v' := (gV n_6 8 ((r_3.1.set (0 + (r_16.1).toNat) (⟨e_52.Key, e_52.Class, e_52.Time, e_52.Tags, r_43.1, e_52.Most, e_52.Cents⟩ : Campaign)).set (0 + (r_16.1).toNat) (⟨e_54.Key, e_54.Class, e_54.Time, e_54.Tags, e_54.Goal, r_46.1, e_54.Cents⟩ : Campaign)))) 5 rfl (gV_len (by simp)) (h_re (v' := (gV n_6 8 ((r_3.1.set (0 + (r_16.1).toNat) (⟨e_52.Key, e_52.Class, e_52.Time, e_52.Tags, r_43.1, e_52.Most, e_52.Cents⟩ : Campaign)).set (0 + (r_16.1).toNat) (⟨e_54.Key, e_54.Class, e_54.Time, e_54.Tags, e_54.Goal, r_46.1, e_54.Cents⟩ : Campaign)))) 17 rfl (gV_len (by simp)) (h_re (v' := (gV n_6 8 ((r_3.1.set (0 + (r_16.1).toNat) (⟨e_52.Key, e_52.Class, e_52.Time, e_52.Tags, r_43.1, e_52.Most, e_52.Cents⟩ : Campaign)).set (0 + (r_16.1).toNat) (⟨e_54.Key, e_54.Class, e_54.Time, e_54.Tags, e_54.Goal, r_46.1, e_54.Cents⟩ : Campaign)))) 19 rfl (gV_len (by simp)) (h_op (.ref n_6 (0 + (r_16.1).toNat) 0) wz rfl (h_far pl49_6 rfl 7 rfl wz ?_)))))
       obtain ⟨e_56, hy_57, h_14⟩ := bind_some h_14
       refine h_stvg 0 (.inl rfl) (fun _ _ _ => trivial) 1 sz3 rfl rfl hy_57 (⟨e_56.Key, e_56.Class, e_56.Time, e_56.Tags, e_56.Goal, e_56.Most, r_49.1⟩ : Campaign) rfl wz (h_re (v' := (gV n_6 8 (((r_3.1.set (0 + (r_16.1).toNat) (⟨e_52.Key, e_52.Class, e_52.Time, e_52.Tags, r_43.1, e_52.Most, e_52.Cents⟩ : Campaign)).set (0 + (r_16.1).toNat) (⟨e_54.Key, e_54.Class, e_54.Time, e_54.Tags, e_54.Goal, r_46.1, e_54.Cents⟩ : Campaign)).set (0 + (r_16.1).toNat) (⟨e_56.Key, e_56.Class, e_56.Time, e_56.Tags, e_56.Goal, e_56.Most, r_49.1⟩ : Campaign)))) 5 rfl (gV_len (by simp)) (h_re (v' := (gV n_6 8 (((r_3.1.set (0 + (r_16.1).toNat) (⟨e_52.Key, e_52.Class, e_52.Time, e_52.Tags, r_43.1, e_52.Most, e_52.Cents⟩ : Campaign)).set (0 + (r_16.1).toNat) (⟨e_54.Key, e_54.Class, e_54.Time, e_54.Tags, e_54.Goal, r_46.1, e_54.Cents⟩ : Campaign)).set (0 + (r_16.1).toNat) (⟨e_56.Key, e_56.Class, e_56.Time, e_56.Tags, e_56.Goal, e_56.Most, r_49.1⟩ : Campaign)))) 17 rfl (gV_len (by simp)) (h_re (v' := (gV n_6 8 (((r_3.1.set (0 + (r_16.1).toNat) (⟨e_52.Key, e_52.Class, e_52.Time, e_52.Tags, r_43.1, e_52.Most, e_52.Cents⟩ : Campaign)).set (0 + (r_16.1).toNat) (⟨e_54.Key, e_54.Class, e_54.Time, e_54.Tags, e_54.Goal, r_46.1, e_54.Cents⟩ : Campaign)).set (0 + (r_16.1).toNat) (⟨e_56.Key, e_56.Class, e_56.Time, e_56.Tags, e_56.Goal, e_56.Most, r_49.1⟩ : Campaign)))) 19 rfl (gV_len (by simp)) (h_nil ?_))))
       obtain rfl := some_inj h_14
       exact cut_mk () trivial rfl (pre_r rfl)
      ·refine wH_iff rfl hc_42 (wH_region (h_op (.ref n_6 (0 + (r_16.1).toNat) 0) wz rfl (h_lit (([(⟨#[98]⟩ : ByteArray), (⟨#[97]⟩ : ByteArray)] : List ByteArray).map eS) es47 ez47 rfl rfl rfl rfl rfl wz (h_lit (([(⟨#[65]⟩ : ByteArray)] : List ByteArray).map eS) es47 ez47 rfl rfl rfl rfl rfl wz (h_lit (([(⟨#[97]⟩ : ByteArray), (⟨#[97]⟩ : ByteArray)] : List ByteArray).map eS) es47 ez47 rfl rfl rfl rfl rfl wz (h_lit (([([(⟨#[98]⟩ : ByteArray), (⟨#[97]⟩ : ByteArray)] : List ByteArray), ([(⟨#[65]⟩ : ByteArray)] : List ByteArray), ([(⟨#[97]⟩ : ByteArray), (⟨#[97]⟩ : ByteArray)] : List ByteArray)] : List (List ByteArray)).map (eL eS)) es69 ez69 rfl rfl rfl rfl rfl wz (h_op (.ref (extN 0) 0 0) wz rfl ?_)))))))
       obtain ⟨r_58, hr_59, h_14⟩ := bind_some h_14
       refine h_callq 0 [0] (.inl rfl) (fun _ _ _ => trivial) (mk_Stream_Next_ok hr_59) rfl hb25 rfl (by kernel_rfl) (by kernel_rfl) (by kernel_rfl) (by kernel_rfl) (by kernel_rfl) (by kernel_rfl) (by kernel_rfl) (by decide) (by kernel_rfl) wz (vI r_58.1) (by kernel_rfl) ([((extN 0), some (.cells 2 [(vL eI r_58.2.L), (vI r_58.2.f_at)])), (n_6, gB 8 Campaign.enc r_3.1)] : Hp) (by kernel_rfl) ?_
       obtain ⟨y_61, hy_62, h_14⟩ := bind_some h_14
       refine h_ia es69 rfl rfl hy_62 rfl wz (h_ldc sz47 ag47 rfl (vL eS y_61) rfl wz (h_op (.ref n_6 (0 + (r_16.1).toNat) 0) wz rfl (h_far pl49_3 rfl 4 rfl wz ?_)))
       obtain ⟨e_63, hy_64, h_14⟩ := bind_some h_14
       refine h_stvg 0 (.inl rfl) (fun _ _ _ => trivial) 1 sz47 rfl rfl hy_64 (⟨e_63.Key, e_63.Class, e_63.Time, y_61, e_63.Goal, e_63.Most, e_63.Cents⟩ : Campaign) rfl wz (h_re (v' := (gV n_6 8 (r_3.1.set (0 + (r_16.1).toNat) (⟨e_63.Key, e_63.Class, e_63.Time, y_61, e_63.Goal, e_63.Most, e_63.Cents⟩ : Campaign)))) 5 rfl (gV_len (by simp)) (h_re (v' := (gV n_6 8 (r_3.1.set (0 + (r_16.1).toNat) (⟨e_63.Key, e_63.Class, e_63.Time, y_61, e_63.Goal, e_63.Most, e_63.Cents⟩ : Campaign)))) 17 rfl (gV_len (by simp)) (h_re (v' := (gV n_6 8 (r_3.1.set (0 + (r_16.1).toNat) (⟨e_63.Key, e_63.Class, e_63.Time, y_61, e_63.Goal, e_63.Most, e_63.Cents⟩ : Campaign)))) 19 rfl (gV_len (by simp)) (h_nil ?_))))
       obtain rfl := some_inj h_14
       exact cut_mk () trivial rfl (pre_r rfl)
   ·refine wH_iff rfl hc_15 (wH_skip ?_)
    obtain rfl := some_inj h_14
    exact cut_mk () trivial rfl (pre_r rfl)
  ·rintro ⟨⟩ _ sl_ H_ hp_ hq_
   refine wH_at _ hp_ hq_ (wH_seq (wH_region (h_op (gV n_6 8 v_13.1) wz rfl (h_op (gV n_6 8 v_13.1) wz rfl (h_nil (wH_frozg 1 rfl (wH_cog 4 1 rfl rfl (wH_cog 5 1 rfl rfl (wH_cog 79 1 rfl rfl ?_)))))))))
   obtain rfl := some_inj hF
   exact wH_ret (finB (.inr rfl) [(vL Campaign.enc v_13.1)] _ [0] [extN 0] ⟨rfl, trivial⟩ (.cons (co_data rfl rfl) (.nil)) (by kernel_rfl) ⟨(by kernel_rfl), trivial⟩ (by decide) (by kernel_rfl))
theorem mk_Stream_Played_ok {s_1 : Stream} {many_2 : Int} {r : (List Play) × Stream} (hF : mk_Stream_Played s_1 many_2 = some r) :
  FnM Tryd.prog 5 [(.ref (extN 0) 0 0), (vI many_2)] [(.cells 2 [(vL eI s_1.L), (vI s_1.f_at)])] (vL Play.enc r.1) [some (.cells 2 [(vL eI r.2.L), (vI r.2.f_at)])] := by
 refine FnM.of_wH ⟨Tryd.prog, 38, [], []⟩ rfl Tryd.func5 rfl rfl (Nat.le_of_ble_eq_true rfl) (by kernel_rfl) ?_
 unfold mk_Stream_Played at hF
 refine wH_seq (wH_region (h_op .nil wz rfl (h_nil (wH_seq (wH_region (h_op .nil wz rfl (h_nil (wH_seq (wH_seq (wH_region (h_op (vI many_2) wz rfl (h_op (vI 0) wz rfl (h_nil (wH_new (fun n_9 => ?_)))))))))))))))
 obtain ⟨o_14, hj_15, hF⟩ := bind_some hF
 obtain ⟨hn_7, hj_15⟩ := forL_some hj_15
 refine wH_join (β := ((List Play) × (List Int) × Int) × Nm) (fun p => (fun (s_8 : (List Play) × (List Int) × Int) (n_11 : Nm) => ([(5, (gV n_11 4 s_8.1))] : List (Nat × V))) p.1 p.2) (fun p => (fun (s_8 : (List Play) × (List Int) × Int) (n_11 : Nm) => ([((extN 0), some (.cells 2 [(vL eI s_8.2.1), (vI s_8.2.2)])), (n_11, gB 4 Play.enc s_8.1)] : Hp)) p.1 p.2) (fun p => o_14 = .go p.1) ?_ ?_
 ·refine wH_block (wH_loop (β := Nat × (List Nat) × ((List Play) × (List Int) × Int) × Nm) (fun p => (fun (k_3 : Nat) (l_4 : List Nat) (s_8 : (List Play) × (List Int) × Int) (n_11 : Nm) => ([(0, (.ref (extN 0) 0 0)), (5, (gV n_11 4 s_8.1)), (7, (vI many_2)), (8, (vI (k_3 : Int)))] : List (Nat × V))) p.1 p.2.1 p.2.2.1 p.2.2.2) (fun p => (fun (k_3 : Nat) (l_4 : List Nat) (s_8 : (List Play) × (List Int) × Int) (n_11 : Nm) => ([((extN 0), some (.cells 2 [(vL eI s_8.2.1), (vI s_8.2.2)])), (n_11, gB 4 Play.enc s_8.1)] : Hp)) p.1 p.2.1 p.2.2.1 p.2.2.2) (fun p => forR (fun k x s => mk_Stream_Played_L1 k x s) p.2.1 p.1 p.2.2.1 = some o_14 ∧ ((List.range (many_2).toNat)).drop p.1 = p.2.1) (fun p => p.2.1.length) (0, (List.range (many_2).toNat), (([] : List Play), s_1.L, s_1.f_at), n_9) ⟨hj_15, rfl⟩ rfl (pre_r rfl) ?_)
  rintro ⟨k_3, l_4, s_8, n_11⟩ ⟨hL_13, hD_6⟩
  dsimp only at hL_13 hD_6
  cases l_4 with
  | nil =>
   obtain rfl := some_inj hL_13
   refine wH_seq (wH_region (h_op (vB (decide ((k_3 : Int) < many_2))) wz rfl (h_nil ?_)))
   refine wH_seq (wH_iff rfl (range_nil hD_6) (wH_exit ?_))
   exact cut_mk (s_8, n_11) rfl rfl (pre_r rfl)
  | cons x_5 l_4 =>
   obtain ⟨c_, hc_12, hL_13⟩ := bind_some hL_13
   refine wH_seq (wH_region (h_op (vB (decide ((k_3 : Int) < many_2))) wz rfl (h_nil ?_)))
   refine wH_seq (wH_ift rfl (range_cons hD_6) (wH_skip ?_))
   unfold mk_Stream_Played_L1 at hc_12
   refine wH_seq (wH_block (wH_seq (wH_region (h_op (.ref (extN 0) 0 0) wz rfl (h_lit (([(⟨#[99, 97]⟩ : ByteArray), (⟨#[99, 97]⟩ : ByteArray), (⟨#[99, 98]⟩ : ByteArray), (⟨#[99, 99]⟩ : ByteArray), (⟨#[122, 122]⟩ : ByteArray)] : List ByteArray).map eS) es47 ez47 rfl rfl rfl rfl rfl wz ?_)))))
   obtain ⟨r_16, hr_17, hc_12⟩ := bind_some hc_12
   refine h_callq 0 [0] (.inl rfl) (fun _ _ _ => trivial) (mk_Stream_Some_ok hr_17) rfl hb26 rfl (by kernel_rfl) (by kernel_rfl) (by kernel_rfl) (by kernel_rfl) (by kernel_rfl) (by kernel_rfl) (by kernel_rfl) (by decide) (by kernel_rfl) wz (vS r_16.1) (by kernel_rfl) ([((extN 0), some (.cells 2 [(vL eI r_16.2.L), (vI r_16.2.f_at)])), (n_11, gB 4 Play.enc s_8.1)] : Hp) (by kernel_rfl) (h_op (.ref (extN 0) 0 0) wz rfl ?_)
   obtain ⟨r_19, hr_20, hc_12⟩ := bind_some hc_12
   refine h_callq 0 [0] (.inl rfl) (fun _ _ _ => trivial) (mk_Stream_Range_ok hr_20) rfl hb6 rfl (by kernel_rfl) (by kernel_rfl) (by kernel_rfl) (by kernel_rfl) (by kernel_rfl) (by kernel_rfl) (by kernel_rfl) (by decide) (by kernel_rfl) wz (vI r_19.1) (by kernel_rfl) ([((extN 0), some (.cells 2 [(vL eI r_19.2.L), (vI r_19.2.f_at)])), (n_11, gB 4 Play.enc s_8.1)] : Hp) (by kernel_rfl) (h_op (.ref (extN 0) 0 0) wz rfl (h_lit (([1, 5] : List Int).map eI) es22 ez22 rfl rfl rfl rfl rfl wz ?_))
   obtain ⟨r_22, hr_23, hc_12⟩ := bind_some hc_12
   refine h_callq 0 [0] (.inl rfl) (fun _ _ _ => trivial) (mk_Stream_Pick_ok hr_23) rfl hb7 rfl (by kernel_rfl) (by kernel_rfl) (by kernel_rfl) (by kernel_rfl) (by kernel_rfl) (by kernel_rfl) (by kernel_rfl) (by decide) (by kernel_rfl) wz (vI r_22.1) (by kernel_rfl) ([((extN 0), some (.cells 2 [(vL eI r_22.2.L), (vI r_22.2.f_at)])), (n_11, gB 4 Play.enc s_8.1)] : Hp) (by kernel_rfl) (h_op (.d (.agg (Play.enc (⟨(⟨#[112]⟩ : ByteArray), r_16.1, r_19.1, r_22.1⟩ : Play)))) wz (by kernel_rfl) (h_alloc 0 (.inl rfl) z71 rfl wz (fun n_25 => h_str 0 (.inl rfl) (fun _ _ _ => trivial) 2 sz71 rfl rfl [(vS (⟨#[112]⟩ : ByteArray)), (vS r_16.1), (vI r_19.1), (vI r_22.1)] rfl wz (h_nil (wH_seq (wH_seq (wH_region (h_op (.ref (extN 0) 0 0) wz rfl ?_))))))))
   obtain ⟨r_26, hr_27, hc_12⟩ := bind_some hc_12
   refine h_callq 0 [0] (.inl rfl) (fun _ _ _ => trivial) (mk_Stream_Flip_ok hr_27) rfl hb24 rfl (by kernel_rfl) (by kernel_rfl) (by kernel_rfl) (by kernel_rfl) (by kernel_rfl) (by kernel_rfl) (by kernel_rfl) (by decide) (by kernel_rfl) wz (vB r_26.1) (by kernel_rfl) ([((extN 0), some (.cells 2 [(vL eI r_26.2.L), (vI r_26.2.f_at)])), (n_11, gB 4 Play.enc s_8.1), (n_25, some (.cells 4 [(vS (⟨#[112]⟩ : ByteArray)), (vS r_16.1), (vI r_19.1), (vI r_22.1)]))] : Hp) (by kernel_rfl) (h_nil ?_)
   obtain ⟨v_29, h_30, hc_12⟩ := bind_some hc_12
   refine wH_join (β := Unit) (fun _ => ([(0, (.ref (extN 0) 0 0)), (5, (gV n_11 4 s_8.1)), (6, (.ref n_25 0 0)), (7, (vI many_2)), (8, (vI (k_3 : Int)))] : List (Nat × V))) (fun _ => ([((extN 0), some (.cells 2 [(vL eI v_29.1), (vI v_29.2.1)])), (n_11, gB 4 Play.enc s_8.1), (n_25, some (.cells 4 [(vS v_29.2.2.1), (vS v_29.2.2.2.1), (vI v_29.2.2.2.2.1), (vI v_29.2.2.2.2.2)]))] : Hp)) (fun _ => True) ?_ ?_
   ·rcases cond_some h_30 with ⟨hc_31, h_30⟩ | ⟨hc_31, h_30⟩
    ·refine wH_ift rfl hc_31 (wH_region (h_op (.ref (extN 0) 0 0) wz rfl (h_lit (([(⟨#[112]⟩ : ByteArray), (⟨#[]⟩ : ByteArray)] : List ByteArray).map eS) es47 ez47 rfl rfl rfl rfl rfl wz ?_)))
     obtain ⟨r_32, hr_33, h_30⟩ := bind_some h_30
     refine h_callq 0 [0] (.inl rfl) (fun _ _ _ => trivial) (mk_Stream_Some_ok hr_33) rfl hb26 rfl (by kernel_rfl) (by kernel_rfl) (by kernel_rfl) (by kernel_rfl) (by kernel_rfl) (by kernel_rfl) (by kernel_rfl) (by decide) (by kernel_rfl) wz (vS r_32.1) (by kernel_rfl) ([((extN 0), some (.cells 2 [(vL eI r_32.2.L), (vI r_32.2.f_at)])), (n_11, gB 4 Play.enc s_8.1), (n_25, some (.cells 4 [(vS (⟨#[112]⟩ : ByteArray)), (vS r_16.1), (vI r_19.1), (vI r_22.1)]))] : Hp) (by kernel_rfl) (h_op (.ref (extN 0) 0 0) wz rfl (h_lit (([(⟨#[99, 97]⟩ : ByteArray), (⟨#[65]⟩ : ByteArray)] : List ByteArray).map eS) es47 ez47 rfl rfl rfl rfl rfl wz ?_))
     obtain ⟨r_35, hr_36, h_30⟩ := bind_some h_30
     refine h_callq 0 [0] (.inl rfl) (fun _ _ _ => trivial) (mk_Stream_Some_ok hr_36) rfl hb26 rfl (by kernel_rfl) (by kernel_rfl) (by kernel_rfl) (by kernel_rfl) (by kernel_rfl) (by kernel_rfl) (by kernel_rfl) (by decide) (by kernel_rfl) wz (vS r_35.1) (by kernel_rfl) ([((extN 0), some (.cells 2 [(vL eI r_35.2.L), (vI r_35.2.f_at)])), (n_11, gB 4 Play.enc s_8.1), (n_25, some (.cells 4 [(vS (⟨#[112]⟩ : ByteArray)), (vS r_16.1), (vI r_19.1), (vI r_22.1)]))] : Hp) (by kernel_rfl) (h_op (.ref (extN 0) 0 0) wz rfl ?_)
     obtain ⟨r_38, hr_39, h_30⟩ := bind_some h_30
     refine h_callq 0 [0] (.inl rfl) (fun _ _ _ => trivial) (mk_Stream_Odd_ok hr_39) rfl hb27 rfl (by kernel_rfl) (by kernel_rfl) (by kernel_rfl) (by kernel_rfl) (by kernel_rfl) (by kernel_rfl) (by kernel_rfl) (by decide) (by kernel_rfl) wz (vI r_38.1) (by kernel_rfl) ([((extN 0), some (.cells 2 [(vL eI r_38.2.L), (vI r_38.2.f_at)])), (n_11, gB 4 Play.enc s_8.1), (n_25, some (.cells 4 [(vS (⟨#[112]⟩ : ByteArray)), (vS r_16.1), (vI r_19.1), (vI r_22.1)]))] : Hp) (by kernel_rfl) (h_op (.ref (extN 0) 0 0) wz rfl ?_)
     obtain ⟨r_41, hr_42, h_30⟩ := bind_some h_30
     refine h_callq 0 [0] (.inl rfl) (fun _ _ _ => trivial) (mk_Stream_Odd_ok hr_42) rfl hb27 rfl (by kernel_rfl) (by kernel_rfl) (by kernel_rfl) (by kernel_rfl) (by kernel_rfl) (by kernel_rfl) (by kernel_rfl) (by decide) (by kernel_rfl) wz (vI r_41.1) (by kernel_rfl) ([((extN 0), some (.cells 2 [(vL eI r_41.2.L), (vI r_41.2.f_at)])), (n_11, gB 4 Play.enc s_8.1), (n_25, some (.cells 4 [(vS (⟨#[112]⟩ : ByteArray)), (vS r_16.1), (vI r_19.1), (vI r_22.1)]))] : Hp) (by kernel_rfl) (h_op (.d (.agg (Play.enc (⟨r_32.1, r_35.1, r_38.1, r_41.1⟩ : Play)))) wz (by kernel_rfl) (h_str 0 (.inl rfl) (fun _ _ _ => trivial) 2 sz71 rfl rfl [(vS r_32.1), (vS r_35.1), (vI r_38.1), (vI r_41.1)] rfl wz (h_nil ?_)))
     obtain rfl := some_inj h_30
     exact cut_mk () trivial rfl (pre_r rfl)
    ·refine wH_iff rfl hc_31 (wH_skip ?_)
     obtain rfl := some_inj h_30
     exact cut_mk () trivial rfl (pre_r rfl)
   ·rintro ⟨⟩ _ sl_ H_ hp_ hq_
    refine wH_at _ hp_ hq_ (wH_region (h_op (gV n_11 4 s_8.1) wz rfl (h_ldr 0 2 (.inl rfl) (fun _ _ _ => trivial) sz71 ag71 rfl rfl (.d (.agg (Play.enc (⟨v_29.2.2.1, v_29.2.2.2.1, v_29.2.2.2.2.1, v_29.2.2.2.2.2⟩ : Play)))) rfl wz (h_lit (([(⟨v_29.2.2.1, v_29.2.2.2.1, v_29.2.2.2.2.1, v_29.2.2.2.2.2⟩ : Play)] : List Play).map Play.enc) es28 ez28 rfl rfl rfl rfl rfl wz ?_))))
    obtain ⟨a_44, hz_45, hc_12⟩ := bind_some hc_12
    refine h_appg 0 (.inl rfl) (fun _ _ _ => trivial) (i := 1) el28 el28 sz71 z71 rfl (by decide) by71 (by decide) (fun _ => rfl) rfl rfl rfl hz_45 wz (fun n_46 => h_op (gV n_46 4 a_44) wz rfl (h_nil (wH_region (h_opw (w64_nextr hD_6 hn_7) wz rfl (h_op (vI ((k_3 + 1 : Nat) : Int)) wz rfl (h_nil ?_))))))
    obtain rfl := some_inj hc_12
    exact loop_mk (k_3 + 1, l_4, (a_44, v_29.1, v_29.2.1), n_46) ⟨hL_13, drop_next hD_6⟩ (Nat.lt_succ_self _) rfl (pre_r rfl)
 ·rintro ⟨s_8, n_11⟩ ho_ sl_ H_ hp_ hq_
  subst ho_
  refine wH_at _ hp_ hq_ (wH_seq (wH_region (h_op (gV n_11 4 s_8.1) wz rfl (h_op (gV n_11 4 s_8.1) wz rfl (h_nil (wH_frozg 1 rfl (wH_cog 4 1 rfl rfl (wH_cog 5 1 rfl rfl (wH_cog 37 1 rfl rfl ?_)))))))))
  obtain rfl := some_inj hF
  exact wH_ret (finB (.inr rfl) [(vL Play.enc s_8.1)] _ [0] [extN 0] ⟨rfl, trivial⟩ (.cons (co_data rfl rfl) (.nil)) (by kernel_rfl) ⟨(by kernel_rfl), trivial⟩ (by decide) (by kernel_rfl))
theorem kit_IsKey_ok {s_1 : ByteArray} {r : Bool} (hF : kit_IsKey s_1 = some r) :
  FnM Tryd.prog 42 [(vS s_1)] [] (vB r) [] := by
 refine FnM.of_wH ⟨Tryd.prog, 48, [], []⟩ rfl Tryd.func42 rfl rfl (Nat.le_of_ble_eq_true rfl) (by kernel_rfl) ?_
 unfold kit_IsKey at hF
 refine wH_seq (wH_region (h_op (vB false) wz rfl (h_nil (wH_seq (wH_seq (wH_region (h_op (vI 0) wz rfl (h_nil ?_))))))))
 obtain ⟨o_10, hj_11, hF⟩ := bind_some hF
 obtain ⟨nq_33, hj_11⟩ := loopO_iter hj_11
 refine wH_join (β := (Int)) (fun (s_7 : Int) => ([(0, (vS s_1))] : List (Nat × V))) (fun (s_7 : Int) => ([] : Hp)) (fun p => o_10 = .go p) ?_ ?_
 ·refine wH_block (wH_loop (β := Nat × (Int)) (fun p => (fun (k_2 : Nat) (s_7 : Int) => ([(0, (vS s_1)), (3, (vI s_7))] : List (Nat × V))) p.1 p.2) (fun p => (fun (k_2 : Nat) (s_7 : Int) => ([] : Hp)) p.1 p.2) (fun p => iterN (fun s => kit_IsKey_L1 s_1 s) p.1 p.2 = some o_10) (fun p => p.1) (nq_33, 0) hj_11 rfl (pre_r rfl) ?_)
  rintro ⟨k_2, s_7⟩ hL_9
  dsimp only at hL_9
  cases k_2 with
  | zero => cases hL_9
  | succ k_2 =>
   obtain ⟨c_, hc_8, hL_9⟩ := bind_some hL_9
   unfold kit_IsKey_L1 at hc_8
   refine wH_seq (wH_seq (wH_region (h_op (vI s_7) wz rfl (h_op (vS s_1) wz rfl (h_lens un9 rfl wz (h_op (vB (decide (s_7 < (s_1.size : Int)))) wz rfl (h_nil ?_)))))))
   rcases cond_some hc_8 with ⟨hc_12, hc_8⟩ | ⟨hc_12, hc_8⟩
   ·refine wH_ift rfl hc_12 (wH_skip (wH_seq (wH_block (wH_seq (wH_region (h_op (vS s_1) wz rfl (h_op (vI s_7) wz rfl ?_)))))))
    obtain ⟨b_13, hy_14, hc_8⟩ := bind_some hc_8
    refine h_idxs un9 rfl rfl hy_14 wz (h_op (.d (.int .u8 (b_13.toNat : Int))) wz rfl (h_nil (wH_seq ?_)))
    obtain ⟨v_15, h_16, hc_8⟩ := bind_some hc_8
    refine wH_join (β := Unit) (fun _ => ([(0, (vS s_1)), (3, (vI s_7)), (40, (vB v_15))] : List (Nat × V))) (fun _ => ([] : Hp)) (fun _ => True) ?_ ?_
    ·refine wH_region (h_op (.d (.int .u8 (b_13.toNat : Int))) wz rfl (h_op (vB (decide ((b_13.toNat : Int) ≥ 97))) wz rfl ?_))
     rcases cond_some h_16 with ⟨hc_17, h_16⟩ | ⟨hc_17, h_16⟩
     ·refine h_movb rfl hc_17 wz (h_op (.d (.int .u8 (b_13.toNat : Int))) (wg rfl rfl rfl) rfl (h_op (vB (decide ((b_13.toNat : Int) ≤ 122))) (wg rfl rfl rfl) rfl (h_op (vB (decide ((b_13.toNat : Int) ≤ 122))) wz rfl ?_)))
      rcases cond_some h_16 with ⟨hc_18, h_16⟩ | ⟨hc_18, h_16⟩
      ·refine h_movb rfl hc_18 wz (h_skip (wg rfl rfl rfl) (h_skip (wg rfl rfl rfl) (h_skip (wg rfl rfl rfl) (h_skip (wn rfl rfl) (h_skip (wn rfl rfl) (h_skip (wn rfl rfl) (h_skip (wn rfl rfl) (h_skip (wn rfl rfl) (h_skip (wn rfl rfl) (h_skip (wn rfl rfl) (h_skip (wn rfl rfl) (h_skip (wn rfl rfl) (h_skip (wn rfl rfl) (h_skip (wn rfl rfl) (h_skip (wn rfl rfl) (h_skip (wn rfl rfl) (h_skip (wn rfl rfl) (h_skip (wg rfl rfl rfl) (h_op (vB true) wz rfl (h_op (vB false) wz rfl (h_nil ?_)))))))))))))))))))))
       obtain rfl := some_inj h_16
       exact cut_mk () trivial rfl (pre_r rfl)
      ·refine h_movb rfl hc_18 wz (h_op (vI s_7) (wg rfl rfl rfl) rfl (h_op (vB (decide (s_7 > 0))) (wg rfl rfl rfl) rfl ?_))
       rcases cond_some h_16 with ⟨hc_19, h_16⟩ | ⟨hc_19, h_16⟩
       ·refine h_movb rfl hc_19 (wg rfl rfl rfl) (h_op (.d (.int .u8 (b_13.toNat : Int))) (wg rfl rfl rfl) rfl (h_op (vB (decide ((b_13.toNat : Int) ≥ 48))) (wg rfl rfl rfl) rfl ?_))
        rcases cond_some h_16 with ⟨hc_20, h_16⟩ | ⟨hc_20, h_16⟩
        ·refine h_movb rfl hc_20 (wg rfl rfl rfl) (h_op (.d (.int .u8 (b_13.toNat : Int))) (wg rfl rfl rfl) rfl (h_op (vB (decide ((b_13.toNat : Int) ≤ 57))) (wg rfl rfl rfl) rfl (h_op (vB (decide ((b_13.toNat : Int) ≤ 57))) (wg rfl rfl rfl) rfl ?_)))
         rcases cond_some h_16 with ⟨hc_21, h_16⟩ | ⟨hc_21, h_16⟩
         ·refine h_movb rfl hc_21 (wg rfl rfl rfl) (h_skip (wg rfl rfl rfl) (h_skip (wg rfl rfl rfl) (h_op (vB true) (wg rfl rfl rfl) rfl (h_op (vB true) (wg rfl rfl rfl) rfl (h_skip (wg rfl rfl rfl) (h_skip (wg rfl rfl rfl) (h_op (vB true) (wg rfl rfl rfl) rfl (h_op (vB true) (wg rfl rfl rfl) rfl (h_op (vB true) wz rfl (h_op (vB false) wz rfl (h_nil ?_)))))))))))
          obtain rfl := some_inj h_16
          exact cut_mk () trivial rfl (pre_r rfl)
         ·refine h_movb rfl hc_21 (wg rfl rfl rfl) (h_op (.d (.int .u8 (b_13.toNat : Int))) (wg rfl rfl rfl) rfl (h_op (vB ((b_13.toNat : Int) == 45)) (wg rfl rfl rfl) rfl (h_op (vB ((b_13.toNat : Int) == 45)) (wg rfl rfl rfl) rfl ?_)))
          rcases cond_some h_16 with ⟨hc_22, h_16⟩ | ⟨hc_22, h_16⟩
          ·refine h_movb rfl hc_22 (wg rfl rfl rfl) (h_skip (wg rfl rfl rfl) (h_skip (wg rfl rfl rfl) (h_op (vB true) (wg rfl rfl rfl) rfl (h_op (vB true) (wg rfl rfl rfl) rfl (h_op (vB true) wz rfl (h_op (vB false) wz rfl (h_nil ?_)))))))
           obtain rfl := some_inj h_16
           exact cut_mk () trivial rfl (pre_r rfl)
          ·refine h_movb rfl hc_22 (wg rfl rfl rfl) (h_op (.d (.int .u8 (b_13.toNat : Int))) (wg rfl rfl rfl) rfl (h_op (vB ((b_13.toNat : Int) == 95)) (wg rfl rfl rfl) rfl (h_op (vB ((b_13.toNat : Int) == 95)) (wg rfl rfl rfl) rfl (h_op (vB ((b_13.toNat : Int) == 95)) (wg rfl rfl rfl) rfl (h_op (vB ((b_13.toNat : Int) == 95)) wz rfl (h_op (vB (!((b_13.toNat : Int) == 95))) wz rfl (h_nil ?_)))))))
           obtain rfl := some_inj h_16
           exact cut_mk () trivial rfl (pre_r rfl)
        ·refine h_movb rfl hc_20 (wg rfl rfl rfl) (h_skip (wg rfl rfl rfl) (h_skip (wg rfl rfl rfl) (h_op (vB false) (wg rfl rfl rfl) rfl (h_op (vB false) (wg rfl rfl rfl) rfl (h_op (.d (.int .u8 (b_13.toNat : Int))) (wg rfl rfl rfl) rfl (h_op (vB ((b_13.toNat : Int) == 45)) (wg rfl rfl rfl) rfl (h_op (vB ((b_13.toNat : Int) == 45)) (wg rfl rfl rfl) rfl ?_)))))))
         rcases cond_some h_16 with ⟨hc_23, h_16⟩ | ⟨hc_23, h_16⟩
         ·refine h_movb rfl hc_23 (wg rfl rfl rfl) (h_skip (wg rfl rfl rfl) (h_skip (wg rfl rfl rfl) (h_op (vB true) (wg rfl rfl rfl) rfl (h_op (vB true) (wg rfl rfl rfl) rfl (h_op (vB true) wz rfl (h_op (vB false) wz rfl (h_nil ?_)))))))
          obtain rfl := some_inj h_16
          exact cut_mk () trivial rfl (pre_r rfl)
         ·refine h_movb rfl hc_23 (wg rfl rfl rfl) (h_op (.d (.int .u8 (b_13.toNat : Int))) (wg rfl rfl rfl) rfl (h_op (vB ((b_13.toNat : Int) == 95)) (wg rfl rfl rfl) rfl (h_op (vB ((b_13.toNat : Int) == 95)) (wg rfl rfl rfl) rfl (h_op (vB ((b_13.toNat : Int) == 95)) (wg rfl rfl rfl) rfl (h_op (vB ((b_13.toNat : Int) == 95)) wz rfl (h_op (vB (!((b_13.toNat : Int) == 95))) wz rfl (h_nil ?_)))))))
          obtain rfl := some_inj h_16
          exact cut_mk () trivial rfl (pre_r rfl)
       ·refine h_movb rfl hc_19 (wg rfl rfl rfl) (h_skip (wg rfl rfl rfl) (h_skip (wg rfl rfl rfl) (h_skip (wg rfl rfl rfl) (h_skip (wn rfl rfl) (h_skip (wn rfl rfl) (h_skip (wg rfl rfl rfl) (h_skip (wg rfl rfl rfl) (h_skip (wn rfl rfl) (h_skip (wn rfl rfl) (h_skip (wg rfl rfl rfl) (h_skip (wg rfl rfl rfl) (h_skip (wn rfl rfl) (h_skip (wn rfl rfl) (h_skip (wg rfl rfl rfl) (h_op (vB false) (wg rfl rfl rfl) rfl (h_op (vB false) wz rfl (h_op (vB true) wz rfl (h_nil ?_))))))))))))))))))
        obtain rfl := some_inj h_16
        exact cut_mk () trivial rfl (pre_r rfl)
     ·refine h_movb rfl hc_17 wz (h_skip (wg rfl rfl rfl) (h_skip (wg rfl rfl rfl) (h_op (vB false) wz rfl (h_op (vB false) wz rfl (h_op (vI s_7) (wg rfl rfl rfl) rfl (h_op (vB (decide (s_7 > 0))) (wg rfl rfl rfl) rfl ?_))))))
      rcases cond_some h_16 with ⟨hc_24, h_16⟩ | ⟨hc_24, h_16⟩
      ·refine h_movb rfl hc_24 (wg rfl rfl rfl) (h_op (.d (.int .u8 (b_13.toNat : Int))) (wg rfl rfl rfl) rfl (h_op (vB (decide ((b_13.toNat : Int) ≥ 48))) (wg rfl rfl rfl) rfl ?_))
       rcases cond_some h_16 with ⟨hc_25, h_16⟩ | ⟨hc_25, h_16⟩
       ·refine h_movb rfl hc_25 (wg rfl rfl rfl) (h_op (.d (.int .u8 (b_13.toNat : Int))) (wg rfl rfl rfl) rfl (h_op (vB (decide ((b_13.toNat : Int) ≤ 57))) (wg rfl rfl rfl) rfl (h_op (vB (decide ((b_13.toNat : Int) ≤ 57))) (wg rfl rfl rfl) rfl ?_)))
        rcases cond_some h_16 with ⟨hc_26, h_16⟩ | ⟨hc_26, h_16⟩
        ·refine h_movb rfl hc_26 (wg rfl rfl rfl) (h_skip (wg rfl rfl rfl) (h_skip (wg rfl rfl rfl) (h_op (vB true) (wg rfl rfl rfl) rfl (h_op (vB true) (wg rfl rfl rfl) rfl (h_skip (wg rfl rfl rfl) (h_skip (wg rfl rfl rfl) (h_op (vB true) (wg rfl rfl rfl) rfl (h_op (vB true) (wg rfl rfl rfl) rfl (h_op (vB true) wz rfl (h_op (vB false) wz rfl (h_nil ?_)))))))))))
         obtain rfl := some_inj h_16
         exact cut_mk () trivial rfl (pre_r rfl)
        ·refine h_movb rfl hc_26 (wg rfl rfl rfl) (h_op (.d (.int .u8 (b_13.toNat : Int))) (wg rfl rfl rfl) rfl (h_op (vB ((b_13.toNat : Int) == 45)) (wg rfl rfl rfl) rfl (h_op (vB ((b_13.toNat : Int) == 45)) (wg rfl rfl rfl) rfl ?_)))
         rcases cond_some h_16 with ⟨hc_27, h_16⟩ | ⟨hc_27, h_16⟩
         ·refine h_movb rfl hc_27 (wg rfl rfl rfl) (h_skip (wg rfl rfl rfl) (h_skip (wg rfl rfl rfl) (h_op (vB true) (wg rfl rfl rfl) rfl (h_op (vB true) (wg rfl rfl rfl) rfl (h_op (vB true) wz rfl (h_op (vB false) wz rfl (h_nil ?_)))))))
          obtain rfl := some_inj h_16
          exact cut_mk () trivial rfl (pre_r rfl)
         ·refine h_movb rfl hc_27 (wg rfl rfl rfl) (h_op (.d (.int .u8 (b_13.toNat : Int))) (wg rfl rfl rfl) rfl (h_op (vB ((b_13.toNat : Int) == 95)) (wg rfl rfl rfl) rfl (h_op (vB ((b_13.toNat : Int) == 95)) (wg rfl rfl rfl) rfl (h_op (vB ((b_13.toNat : Int) == 95)) (wg rfl rfl rfl) rfl (h_op (vB ((b_13.toNat : Int) == 95)) wz rfl (h_op (vB (!((b_13.toNat : Int) == 95))) wz rfl (h_nil ?_)))))))
          obtain rfl := some_inj h_16
          exact cut_mk () trivial rfl (pre_r rfl)
       ·refine h_movb rfl hc_25 (wg rfl rfl rfl) (h_skip (wg rfl rfl rfl) (h_skip (wg rfl rfl rfl) (h_op (vB false) (wg rfl rfl rfl) rfl (h_op (vB false) (wg rfl rfl rfl) rfl (h_op (.d (.int .u8 (b_13.toNat : Int))) (wg rfl rfl rfl) rfl (h_op (vB ((b_13.toNat : Int) == 45)) (wg rfl rfl rfl) rfl (h_op (vB ((b_13.toNat : Int) == 45)) (wg rfl rfl rfl) rfl ?_)))))))
        rcases cond_some h_16 with ⟨hc_28, h_16⟩ | ⟨hc_28, h_16⟩
        ·refine h_movb rfl hc_28 (wg rfl rfl rfl) (h_skip (wg rfl rfl rfl) (h_skip (wg rfl rfl rfl) (h_op (vB true) (wg rfl rfl rfl) rfl (h_op (vB true) (wg rfl rfl rfl) rfl (h_op (vB true) wz rfl (h_op (vB false) wz rfl (h_nil ?_)))))))
         obtain rfl := some_inj h_16
         exact cut_mk () trivial rfl (pre_r rfl)
        ·refine h_movb rfl hc_28 (wg rfl rfl rfl) (h_op (.d (.int .u8 (b_13.toNat : Int))) (wg rfl rfl rfl) rfl (h_op (vB ((b_13.toNat : Int) == 95)) (wg rfl rfl rfl) rfl (h_op (vB ((b_13.toNat : Int) == 95)) (wg rfl rfl rfl) rfl (h_op (vB ((b_13.toNat : Int) == 95)) (wg rfl rfl rfl) rfl (h_op (vB ((b_13.toNat : Int) == 95)) wz rfl (h_op (vB (!((b_13.toNat : Int) == 95))) wz rfl (h_nil ?_)))))))
         obtain rfl := some_inj h_16
         exact cut_mk () trivial rfl (pre_r rfl)
      ·refine h_movb rfl hc_24 (wg rfl rfl rfl) (h_skip (wg rfl rfl rfl) (h_skip (wg rfl rfl rfl) (h_skip (wg rfl rfl rfl) (h_skip (wn rfl rfl) (h_skip (wn rfl rfl) (h_skip (wg rfl rfl rfl) (h_skip (wg rfl rfl rfl) (h_skip (wn rfl rfl) (h_skip (wn rfl rfl) (h_skip (wg rfl rfl rfl) (h_skip (wg rfl rfl rfl) (h_skip (wn rfl rfl) (h_skip (wn rfl rfl) (h_skip (wg rfl rfl rfl) (h_op (vB false) (wg rfl rfl rfl) rfl (h_op (vB false) wz rfl (h_op (vB true) wz rfl (h_nil ?_))))))))))))))))))
       obtain rfl := some_inj h_16
       exact cut_mk () trivial rfl (pre_r rfl)
    ·rintro ⟨⟩ _ sl_ H_ hp_ hq_
     refine wH_at _ hp_ hq_ ?_
     rcases cond_some hc_8 with ⟨hc_29, hc_8⟩ | ⟨hc_29, hc_8⟩
     ·refine wH_ift rfl hc_29 (wH_seq (wH_region (h_op (vB false) wz rfl (h_nil ?_))))
      obtain rfl := some_inj hc_8
      obtain rfl := some_inj hL_9
      obtain rfl := some_inj hF
      exact wH_ret (fin0 (.inr rfl) [(vB false)] ⟨rfl, trivial⟩ rfl rfl rfl)
     ·refine wH_iff rfl hc_29 (wH_skip (wH_region (h_op (vI s_7) wz rfl (h_op (vI (w64 (s_7 + 1))) wz rfl (h_op (vI (w64 (s_7 + 1))) wz rfl (h_nil ?_))))))
      obtain rfl := some_inj hc_8
      exact loop_mk (k_2, (w64 (s_7 + 1))) hL_9 (Nat.lt_succ_self _) rfl (pre_r rfl)
   ·refine wH_iff rfl hc_12 (wH_exit ?_)
    obtain rfl := some_inj hc_8
    obtain rfl := some_inj hL_9
    exact cut_mk (s_7) rfl rfl (pre_r rfl)
 ·rintro s_7 ho_ sl_ H_ hp_ hq_
  subst ho_
  refine wH_at _ hp_ hq_ (wH_seq ?_)
  obtain ⟨v_30, h_31, hF⟩ := bind_some hF
  refine wH_join (β := Unit) (fun _ => ([(2, (vB v_30))] : List (Nat × V))) (fun _ => ([] : Hp)) (fun _ => True) ?_ ?_
  ·refine wH_region (h_op (vS s_1) wz rfl (h_op (vB (sNe s_1 (⟨#[]⟩ : ByteArray))) wz rfl ?_))
   rcases cond_some h_31 with ⟨hc_32, h_31⟩ | ⟨hc_32, h_31⟩
   ·refine h_movb rfl hc_32 wz (h_op (vS s_1) (wg rfl rfl rfl) rfl (h_lens un9 rfl (wg rfl rfl rfl) (h_op (vB (decide ((s_1.size : Int) ≤ 40))) (wg rfl rfl rfl) rfl (h_op (vB (decide ((s_1.size : Int) ≤ 40))) wz rfl (h_op (vB (decide ((s_1.size : Int) ≤ 40))) wz rfl (h_nil ?_))))))
    obtain rfl := some_inj h_31
    exact cut_mk () trivial rfl (pre_r rfl)
   ·refine h_movb rfl hc_32 wz (h_skip (wg rfl rfl rfl) (h_skip (wg rfl rfl rfl) (h_skip (wg rfl rfl rfl) (h_op (vB false) wz rfl (h_op (vB false) wz rfl (h_nil ?_))))))
    obtain rfl := some_inj h_31
    exact cut_mk () trivial rfl (pre_r rfl)
  ·rintro ⟨⟩ _ sl_ H_ hp_ hq_
   refine wH_at _ hp_ hq_ ?_
   obtain rfl := some_inj hF
   exact wH_ret (fin0 (.inr rfl) [(vB v_30)] ⟨rfl, trivial⟩ rfl rfl rfl)
theorem booking_isTime_ok {wv_1 : Window} {r : Bool} (hF : booking_isTime wv_1 = some r) :
  FnM Tryd.prog 47 [(.d (.agg (Window.enc wv_1)))] [] (vB r) [] := by
 refine FnM.of_wH ⟨Tryd.prog, 18, [], []⟩ rfl Tryd.func47 rfl rfl (Nat.le_of_ble_eq_true rfl) (by kernel_rfl) ?_
 unfold booking_isTime at hF
 refine wH_seq (wH_region (h_box 0 (.inl rfl) [(vI wv_1.From), (vI wv_1.To)] rfl rfl wz (fun n_2 => h_op (vB false) wz rfl (h_nil (wH_seq ?_)))))
 obtain ⟨v_3, h_4, hF⟩ := bind_some hF
 refine wH_join (β := Unit) (fun _ => ([(2, (vB v_3))] : List (Nat × V))) (fun _ => ([(n_2, some (.cells 2 [(vI wv_1.From), (vI wv_1.To)]))] : Hp)) (fun _ => True) ?_ ?_
 ·refine wH_region (h_far pl46_0 rfl 0 rfl wz (h_ldr 0 0 (.inl rfl) (fun _ _ _ => trivial) sz3 ag3 rfl rfl (vI wv_1.From) rfl wz (h_op (vB (decide (wv_1.From ≥ 0))) wz rfl ?_)))
  rcases cond_some h_4 with ⟨hc_5, h_4⟩ | ⟨hc_5, h_4⟩
  ·refine h_movb rfl hc_5 wz (h_far pl46_0 rfl 0 rfl (wg rfl rfl rfl) (h_ldr 0 0 (.inl rfl) (fun _ _ _ => trivial) sz3 ag3 rfl rfl (vI wv_1.From) rfl (wg rfl rfl rfl) (h_far pl46_1 rfl 1 rfl (wg rfl rfl rfl) (h_ldr 0 0 (.inl rfl) (fun _ _ _ => trivial) sz3 ag3 rfl rfl (vI wv_1.To) rfl (wg rfl rfl rfl) (h_op (vB (decide (wv_1.From < wv_1.To))) (wg rfl rfl rfl) rfl (h_op (vB (decide (wv_1.From < wv_1.To))) wz rfl ?_))))))
   rcases cond_some h_4 with ⟨hc_6, h_4⟩ | ⟨hc_6, h_4⟩
   ·refine h_movb rfl hc_6 wz (h_far pl46_1 rfl 1 rfl (wg rfl rfl rfl) (h_ldr 0 0 (.inl rfl) (fun _ _ _ => trivial) sz3 ag3 rfl rfl (vI wv_1.To) rfl (wg rfl rfl rfl) (h_op (vB (decide (wv_1.To ≤ 345686400000))) (wg rfl rfl rfl) rfl (h_op (vB (decide (wv_1.To ≤ 345686400000))) wz rfl (h_op (vB (decide (wv_1.To ≤ 345686400000))) wz rfl (h_nil ?_))))))
    obtain rfl := some_inj h_4
    exact cut_mk () trivial rfl (pre_r rfl)
   ·refine h_movb rfl hc_6 wz (h_skip (wg rfl rfl rfl) (h_skip (wg rfl rfl rfl) (h_skip (wg rfl rfl rfl) (h_op (vB false) wz rfl (h_op (vB false) wz rfl (h_nil ?_))))))
    obtain rfl := some_inj h_4
    exact cut_mk () trivial rfl (pre_r rfl)
  ·refine h_movb rfl hc_5 wz (h_skip (wg rfl rfl rfl) (h_skip (wg rfl rfl rfl) (h_skip (wg rfl rfl rfl) (h_skip (wg rfl rfl rfl) (h_skip (wg rfl rfl rfl) (h_op (vB false) wz rfl (h_op (vB false) wz rfl (h_skip (wg rfl rfl rfl) (h_skip (wg rfl rfl rfl) (h_skip (wg rfl rfl rfl) (h_op (vB false) wz rfl (h_op (vB false) wz rfl (h_nil ?_)))))))))))))
   obtain rfl := some_inj h_4
   exact cut_mk () trivial rfl (pre_r rfl)
 ·rintro ⟨⟩ _ sl_ H_ hp_ hq_
  refine wH_at _ hp_ hq_ ?_
  obtain rfl := some_inj hF
  exact wH_ret (fin0 (.inr rfl) [(vB v_3)] ⟨rfl, trivial⟩ rfl rfl rfl)
theorem kit_Outside_ok {n_1 : Int} {low_2 : Int} {high_3 : Int} {r : Bool} (hF : kit_Outside n_1 low_2 high_3 = some r) :
  FnM Tryd.prog 43 [(vI n_1), (vI low_2), (vI high_3)] [] (vB r) [] := by
 refine FnM.of_wH ⟨Tryd.prog, 15, [], []⟩ rfl Tryd.func43 rfl rfl (Nat.le_of_ble_eq_true rfl) (by kernel_rfl) ?_
 unfold kit_Outside at hF
 refine wH_seq (wH_region (h_op (vB false) wz rfl (h_nil (wH_seq ?_))))
 obtain ⟨v_4, h_5, hF⟩ := bind_some hF
 refine wH_join (β := Unit) (fun _ => ([(6, (vB v_4))] : List (Nat × V))) (fun _ => ([] : Hp)) (fun _ => True) ?_ ?_
 ·refine wH_region (h_op (vI n_1) wz rfl (h_op (vI low_2) wz rfl (h_op (vB (decide (n_1 < low_2))) wz rfl ?_)))
  rcases cond_some h_5 with ⟨hc_6, h_5⟩ | ⟨hc_6, h_5⟩
  ·refine h_movb rfl hc_6 wz (h_skip (wg rfl rfl rfl) (h_skip (wg rfl rfl rfl) (h_skip (wg rfl rfl rfl) (h_op (vB true) wz rfl (h_op (vB true) wz rfl (h_nil ?_))))))
   obtain rfl := some_inj h_5
   exact cut_mk () trivial rfl (pre_r rfl)
  ·refine h_movb rfl hc_6 wz (h_op (vI n_1) (wg rfl rfl rfl) rfl (h_op (vI high_3) (wg rfl rfl rfl) rfl (h_op (vB (decide (n_1 > high_3))) (wg rfl rfl rfl) rfl (h_op (vB (decide (n_1 > high_3))) wz rfl (h_op (vB (decide (n_1 > high_3))) wz rfl (h_nil ?_))))))
   obtain rfl := some_inj h_5
   exact cut_mk () trivial rfl (pre_r rfl)
 ·rintro ⟨⟩ _ sl_ H_ hp_ hq_
  refine wH_at _ hp_ hq_ ?_
  obtain rfl := some_inj hF
  exact wH_ret (fin0 (.inr rfl) [(vB v_4)] ⟨rfl, trivial⟩ rfl rfl rfl)
theorem kit_RisingFault_ok {l_1 : (List ByteArray)} {r : Int} (hF : kit_RisingFault l_1 = some r) :
  FnM Tryd.prog 51 [(vL eS l_1)] [] (vI r) [] := by
 refine FnM.of_wH ⟨Tryd.prog, 27, [], []⟩ rfl Tryd.func51 rfl rfl (Nat.le_of_ble_eq_true rfl) (by kernel_rfl) ?_
 unfold kit_RisingFault at hF
 refine wH_seq (wH_region (h_op (vI 0) wz rfl (h_nil (wH_seq (wH_seq (wH_region (h_op (vL eS l_1) wz rfl (h_len un47 rfl wz (h_op (vI 0) wz rfl (h_nil ?_))))))))))
 obtain ⟨o_10, hj_11, hF⟩ := bind_some hF
 obtain ⟨hn_6, hj_11⟩ := forL_some hj_11
 refine wH_join (β := (Unit)) (fun (s_7 : Unit) => ([] : List (Nat × V))) (fun (s_7 : Unit) => ([] : Hp)) (fun p => o_10 = .go p) ?_ ?_
 ·refine wH_block (wH_loop (β := Nat × (List ByteArray) × (Unit)) (fun p => (fun (k_2 : Nat) (l_3 : List ByteArray) (s_7 : Unit) => ([(0, (vL eS l_1)), (5, (vL eS l_1)), (6, (vI (l_1.length : Int))), (7, (vI (k_2 : Int)))] : List (Nat × V))) p.1 p.2.1 p.2.2) (fun p => (fun (k_2 : Nat) (l_3 : List ByteArray) (s_7 : Unit) => ([] : Hp)) p.1 p.2.1 p.2.2) (fun p => forR (fun k x s => kit_RisingFault_L1 l_1 k x s) p.2.1 p.1 p.2.2 = some o_10 ∧ (l_1).drop p.1 = p.2.1) (fun p => p.2.1.length) (0, l_1, ()) ⟨hj_11, rfl⟩ rfl (pre_r rfl) ?_)
  rintro ⟨k_2, l_3, s_7⟩ ⟨hL_9, hD_5⟩
  dsimp only at hL_9 hD_5
  cases l_3 with
  | nil =>
   obtain rfl := some_inj hL_9
   refine wH_seq (wH_region (h_op (vB (decide ((k_2 : Int) < (l_1.length : Int)))) wz rfl (h_nil ?_)))
   refine wH_seq (wH_iff rfl (drop_nil hD_5) (wH_exit ?_))
   exact cut_mk (s_7) rfl rfl (pre_r rfl)
  | cons x_4 l_3 =>
   obtain ⟨c_, hc_8, hL_9⟩ := bind_some hL_9
   refine wH_seq (wH_region (h_op (vB (decide ((k_2 : Int) < (l_1.length : Int)))) wz rfl (h_nil ?_)))
   refine wH_seq (wH_ift rfl (drop_cons hD_5) (wH_skip ?_))
   unfold kit_RisingFault_L1 at hc_8
   refine wH_seq (wH_block (wH_seq (wH_region (h_op (vI (k_2 : Int)) wz rfl (h_ia es47 rfl rfl (drop_idx hD_5) rfl wz (h_ldc sz9 ag9 rfl (vS x_4) rfl wz (h_op (vI (k_2 : Int)) wz rfl (h_op (vS x_4) wz rfl (h_nil (wH_seq (wH_seq (wH_region (h_op (vS x_4) wz rfl ?_)))))))))))))
   obtain ⟨r_12, hr_13, hc_8⟩ := bind_some hc_8
   refine h_call0 (kit_IsKey_ok hr_13) rfl hb42 rfl rfl rfl rfl wz (h_op (vB (!r_12)) wz rfl (h_nil ?_))
   rcases cond_some hc_8 with ⟨hc_14, hc_8⟩ | ⟨hc_14, hc_8⟩
   ·refine wH_ift rfl hc_14 (wH_seq (wH_region (h_op (vI 5) wz rfl (h_nil ?_))))
    obtain rfl := some_inj hc_8
    obtain rfl := some_inj hL_9
    obtain rfl := some_inj hF
    exact wH_ret (fin0 (.inr rfl) [(vI 5)] ⟨rfl, trivial⟩ rfl rfl rfl)
   ·refine wH_iff rfl hc_14 (wH_skip (wH_seq ?_))
    obtain ⟨v_15, h_16, hc_8⟩ := bind_some hc_8
    refine wH_join (β := Unit) (fun _ => ([(0, (vL eS l_1)), (5, (vL eS l_1)), (6, (vI (l_1.length : Int))), (7, (vI (k_2 : Int))), (25, (vB v_15))] : List (Nat × V))) (fun _ => ([] : Hp)) (fun _ => True) ?_ ?_
    ·refine wH_region (h_op (vI (k_2 : Int)) wz rfl (h_op (vB (decide ((k_2 : Int) > 0))) wz rfl ?_))
     rcases cond_some h_16 with ⟨hc_17, h_16⟩ | ⟨hc_17, h_16⟩
     ·refine h_movb rfl hc_17 wz (h_op (vS x_4) (wg rfl rfl rfl) rfl (h_op (vL eS l_1) (wg rfl rfl rfl) rfl (h_op (vI (k_2 : Int)) (wg rfl rfl rfl) rfl (h_op (vI (w64 ((k_2 : Int) - 1))) (wg rfl rfl rfl) rfl ?_))))
      obtain ⟨y_18, hy_19, h_16⟩ := bind_some h_16
      refine h_ia es47 rfl rfl hy_19 rfl (wg rfl rfl rfl) (h_ldc sz9 ag9 rfl (vS y_18) rfl (wg rfl rfl rfl) (h_op (vB (sLe x_4 y_18)) (wg rfl rfl rfl) rfl (h_op (vB (sLe x_4 y_18)) wz rfl (h_nil ?_))))
      obtain rfl := some_inj h_16
      exact cut_mk () trivial rfl (pre_r rfl)
     ·refine h_movb rfl hc_17 wz (h_skip (wg rfl rfl rfl) (h_skip (wg rfl rfl rfl) (h_skip (wg rfl rfl rfl) (h_skip (wg rfl rfl rfl) (h_skip (wg rfl rfl rfl) (h_skip (wg rfl rfl rfl) (h_skip (wg rfl rfl rfl) (h_op (vB false) wz rfl (h_nil ?_)))))))))
      obtain rfl := some_inj h_16
      exact cut_mk () trivial rfl (pre_r rfl)
    ·rintro ⟨⟩ _ sl_ H_ hp_ hq_
     refine wH_at _ hp_ hq_ ?_
     rcases cond_some hc_8 with ⟨hc_20, hc_8⟩ | ⟨hc_20, hc_8⟩
     ·refine wH_ift rfl hc_20 (wH_seq (wH_region (h_op (vI 7) wz rfl (h_nil ?_))))
      obtain rfl := some_inj hc_8
      obtain rfl := some_inj hL_9
      obtain rfl := some_inj hF
      exact wH_ret (fin0 (.inr rfl) [(vI 7)] ⟨rfl, trivial⟩ rfl rfl rfl)
     ·refine wH_iff rfl hc_20 (wH_skip (wH_region (h_opw (w64_next hD_5 hn_6) wz rfl (h_op (vI ((k_2 + 1 : Nat) : Int)) wz rfl (h_nil ?_)))))
      obtain rfl := some_inj hc_8
      exact loop_mk (k_2 + 1, l_3, ()) ⟨hL_9, drop_next hD_5⟩ (Nat.lt_succ_self _) rfl (pre_r rfl)
 ·rintro s_7 ho_ sl_ H_ hp_ hq_
  subst ho_
  refine wH_at _ hp_ hq_ (wH_seq (wH_region (h_op (vI 0) wz rfl (h_nil ?_))))
  obtain rfl := some_inj hF
  exact wH_ret (fin0 (.inr rfl) [(vI 0)] ⟨rfl, trivial⟩ rfl rfl rfl)
theorem booking_tagsFault_ok {l_1 : (List ByteArray)} {r : Int} (hF : booking_tagsFault l_1 = some r) :
  FnM Tryd.prog 48 [(vL eS l_1)] [] (vI r) [] := by
 refine FnM.of_wH ⟨Tryd.prog, 8, [], []⟩ rfl Tryd.func48 rfl rfl (Nat.le_of_ble_eq_true rfl) (by kernel_rfl) ?_
 unfold booking_tagsFault at hF
 refine wH_seq (wH_region (h_op (vI 0) wz rfl (h_nil (wH_seq (wH_seq (wH_region (h_op (vL eS l_1) wz rfl (h_len un47 rfl wz (h_op (vB (decide ((l_1.length : Int) > 20))) wz rfl (h_nil ?_))))))))))
 rcases cond_some hF with ⟨hc_2, hF⟩ | ⟨hc_2, hF⟩
 ·refine wH_ift rfl hc_2 (wH_seq (wH_region (h_op (vI 2) wz rfl (h_nil ?_))))
  obtain rfl := some_inj hF
  exact wH_ret (fin0 (.inr rfl) [(vI 2)] ⟨rfl, trivial⟩ rfl rfl rfl)
 ·refine wH_iff rfl hc_2 (wH_skip (wH_seq (wH_region (h_op (vL eS l_1) wz rfl ?_))))
  obtain ⟨r_3, hr_4, hF⟩ := bind_some hF
  refine h_call0 (kit_RisingFault_ok hr_4) rfl hb51 rfl rfl rfl rfl wz (h_op (vI r_3) wz rfl (h_nil ?_))
  obtain rfl := some_inj hF
  exact wH_ret (fin0 (.inr rfl) [(vI r_3)] ⟨rfl, trivial⟩ rfl rfl rfl)
end Go.Proofs.YtjmpbmnakfipdaaDoor.Law

