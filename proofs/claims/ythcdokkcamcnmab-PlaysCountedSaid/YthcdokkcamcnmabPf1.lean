/-
 The machine computes these plain functions (written by a program of ours).
-/
import Derived.Test.YthcdokkcamcnmabFacts
import Derived.Test.YthcdokkcamcnmabDefs
open Go Go.Eng Go.Proofs
namespace Go.Proofs.Ythcdokkcamcnmab.Law
set_option maxRecDepth 100000
set_option linter.unusedVariables false
set_option maxHeartbeats 1000000
theorem mk_Below_ok {x_1:Int} {n_2:Int} {r:Int} (hF:mk_Below x_1 n_2=some r) :
  FnM Try.prog 55 [(vI x_1),(vI n_2)] [] (vI r) []:=by
 refine FnM.of_wH ⟨Try.prog,16,[],[]⟩ rfl Try.func55 rfl rfl (Nat.le_of_ble_eq_true rfl) (by kernel_rfl) ?_
 unfold mk_Below at hF
 refine wH_sr (h_opz (vI 0) (h_nil (wH_seq (wH_sr (h_opz (vI n_2) (h_opz (vB (decide (n_2 < 1))) (h_nil ?_)))))))
 rcases cond_some hF with⟨hc_3,hF⟩ | ⟨hc_3,hF⟩
 ·refine wH_ift rfl hc_3 (wH_sr (h_opz (vI 0) (h_nil ?_)))
  obtain rfl:=some_inj hF
  exact wH_ret (fin0r [(vI 0)] ⟨rfl,trivial⟩)
 ·refine wH_iff rfl hc_3 (wH_skip (wH_sr (h_opz (vI x_1) (h_opz (vI n_2) ?_))))
  obtain ⟨q_4,hz_5,hF⟩:=bind_some hF
  refine h_rem rfl rfl hz_5 wz (h_opz (vI q_4) (h_nil (wH_seq (wH_sr (h_opz (vI q_4) (h_opz (vB (decide (q_4 < 0))) (h_nil ?_)))))))
  obtain ⟨v_6,h_7,hF⟩:=bind_some hF
  refine wH_joinU [(0,(vI v_6))] [] ?_ ?_
  ·rcases cond_some h_7 with⟨hc_8,h_7⟩ | ⟨hc_8,h_7⟩
   ·refine wH_ift rfl hc_8 (wH_region (h_opz (vI q_4) (h_opz (vI n_2) (h_opz (vI (w64 (q_4 + n_2))) (h_opz (vI (w64 (q_4 + n_2))) (h_nil ?_))))))
    obtain rfl:=some_inj h_7
    exact cu
   ·refine wH_iff rfl hc_8 (wH_skip ?_)
    obtain rfl:=some_inj h_7
    exact cu
  ·rintro ⟨⟩ _ sl_ H_ hp_ hq_
   refine wH_at _ hp_ hq_ (wH_sr (h_opz (vI v_6) (h_opz (vI v_6) (h_nil ?_))))
   obtain rfl:=some_inj hF
   exact wH_ret (fin0r [(vI v_6)] ⟨rfl,trivial⟩)
theorem mk_Stream_Next_ok {s_1:Stream} {n_2:Int} {r:Int×Stream} (hF:mk_Stream_Next s_1 n_2=some r) :
  FnM Try.prog 27 [(.ref (extN 0) 0 0),(vI n_2)] [(.cells 2 [(vL eI s_1.L),(vI s_1.f_at)])] (vI r.1) [some (.cells 2 [(vL eI r.2.L),(vI r.2.f_at)])]:=by
 refine FnM.of_wH ⟨Try.prog,64,[],[]⟩ rfl Try.func27 rfl rfl (Nat.le_of_ble_eq_true rfl) (by kernel_rfl) ?_
 unfold mk_Stream_Next at hF
 refine wH_sr (h_opz (vI 0) (h_nil (wH_sr (h_opz (.ref (extN 0) 0 0) (h_opz (.ref (extN 0) 0 0) (h_far pl25_1 rfl 1 rfl wz (h_ldr 0 0 il ft sz3 ag3 rfl rfl (vI s_1.f_at) rfl wz (h_opz (vI (w64 (s_1.f_at + 1))) (h_opz (.ref (extN 0) 0 0) (h_far pl25_1 rfl 1 rfl wz (h_str 0 il ft 0 sz3 rfl rfl [(vL eI s_1.L),(vI (w64 (s_1.f_at + 1)))] rfl wz (h_nil (wH_seq (wH_sr (h_opz (.ref (extN 0) 0 0) (h_opz (.ref (extN 0) 0 0) (h_far pl25_0 rfl 0 rfl wz (h_ldr 0 0 il ft sz22 ag22 rfl rfl (vL eI s_1.L) rfl wz (h_len un22 rfl wz (h_opz (vB ((s_1.L.length:Int) == 0)) (h_nil ?_)))))))))))))))))))))
 rcases cond_some hF with⟨hc_3,hF⟩ | ⟨hc_3,hF⟩
 ·refine wH_ift rfl hc_3 (wH_sr (h_opz (.ref (extN 0) 0 0) (h_opz (.ref (extN 0) 0 0) (h_far pl25_1 rfl 1 rfl wz (h_ldr 0 0 il ft sz3 ag3 rfl rfl (vI (w64 (s_1.f_at + 1))) rfl wz (h_opz (vI (w64 ((w64 (s_1.f_at + 1)) * 7919))) (h_opz (vI n_2) ?_)))))))
  obtain ⟨r_4,hr_5,hF⟩:=bind_some hF
  refine h_call0 (mk_Below_ok hr_5) rfl hb55 rfl rfl rfl rfl wz (h_opz (vI r_4) (h_nil ?_))
  obtain rfl:=some_inj hF
  exact wH_ret (finB (.inr rfl) [(vI r_4)] _ [0] [extN 0] ⟨rfl,trivial⟩ (.cons (co_data rfl rfl) (.nil)) (by kernel_rfl) ⟨(by kernel_rfl),trivial⟩ (by decide) (by kernel_rfl))
 ·refine wH_iff rfl hc_3 (wH_skip (wH_seq (wH_draws (h_opz (.ref (extN 0) 0 0) (h_opz (.ref (extN 0) 0 0) (h_far pl25_1 rfl 1 rfl wz (h_ldr 3 0 (.inr (by kernel_rfl)) (fun _ _ ag=>trivial) sz3 ag3 rfl rfl (vI (w64 (s_1.f_at + 1))) rfl wz (h_opz (vI (w64 ((w64 (s_1.f_at + 1)) - 1))) (h_opz (.ref (extN 0) 0 0) (h_opz (.ref (extN 0) 0 0) (h_far pl25_0 rfl 0 rfl wz (h_ldr 8 0 (.inr (by kernel_rfl)) (fun _ _ ag=>⟨.inl ⟨rfl,rfl⟩,trivial⟩) sz22 ag22 rfl rfl (vL eI s_1.L) rfl wz (h_len un22 rfl wz ?_)))))))))))))
  obtain ⟨q_6,hz_7,hF⟩:=bind_some hF
  refine h_rem rfl rfl hz_7 wz (h_opz (vI q_6) (h_nil (wH_seq (wH_draws (h_opz (.ref (extN 0) 0 0) (h_opz (.ref (extN 0) 0 0) (h_far pl25_1 rfl 1 rfl wz (h_ldr 3 0 (.inr (by kernel_rfl)) (fun _ _ ag=>trivial) sz3 ag3 rfl rfl (vI (w64 (s_1.f_at + 1))) rfl wz (h_opz (vI (w64 ((w64 (s_1.f_at + 1)) - 1))) (h_opz (.ref (extN 0) 0 0) (h_opz (.ref (extN 0) 0 0) (h_far pl25_0 rfl 0 rfl wz (h_ldr 8 0 (.inr (by kernel_rfl)) (fun _ _ ag=>⟨.inl ⟨rfl,rfl⟩,trivial⟩) sz22 ag22 rfl rfl (vL eI s_1.L) rfl wz (h_len un22 rfl wz ?_))))))))))))))
  obtain ⟨q_8,hz_9,hF⟩:=bind_some hF
  refine h_quo rfl rfl hz_9 wz (h_opz (vI q_8) (h_nil (wH_at (H0:=([((extN 0),some (.cells 2 [(vL eI s_1.L),(vI (w64 (s_1.f_at + 1)))]))]:Hp)) ([(0,(.ref (extN 0) 0 0)),(1,(vI n_2)),(5,(vI q_6)),(6,(vI q_8))]:List (Nat×V)) (by kernel_rfl) (pre_mk (by kernel_rfl)) (wH_sr (h_opz (.ref (extN 0) 0 0) (h_opz (.ref (extN 0) 0 0) (h_far pl25_0 rfl 0 rfl wz (h_ldr 0 0 il ft sz22 ag22 rfl rfl (vL eI s_1.L) rfl wz (h_opz (vI q_6) ?_)))))))))
  obtain ⟨y_10,hy_11,hF⟩:=bind_some hF
  refine h_ia es22 rfl rfl hy_11 rfl wz (h_ldc sz3 ag3 rfl (vI y_10) rfl wz ?_)
  obtain ⟨r_12,hr_13,hF⟩:=bind_some hF
  refine h_call0 (mk_Below_ok hr_13) rfl hb55 rfl rfl rfl rfl wz (h_opz (vI q_8) (h_opz (vI q_6) (h_opz (vI (w64 (7919 + q_6))) (h_opz (vI (w64 (q_8 * (w64 (7919 + q_6))))) (h_opz (vI (w64 (r_12 + (w64 (q_8 * (w64 (7919 + q_6))))))) (h_opz (vI n_2) ?_))))))
  obtain ⟨r_14,hr_15,hF⟩:=bind_some hF
  refine h_call0 (mk_Below_ok hr_15) rfl hb55 rfl rfl rfl rfl wz (h_opz (vI r_14) (h_nil ?_))
  obtain rfl:=some_inj hF
  exact wH_ret (finB (.inr rfl) [(vI r_14)] _ [0] [extN 0] ⟨rfl,trivial⟩ (.cons (co_data rfl rfl) (.nil)) (by kernel_rfl) ⟨(by kernel_rfl),trivial⟩ (by decide) (by kernel_rfl))
theorem mk_Stream_Pick_ok {s_1:Stream} {l_2:(List Int)} {r:Int×Stream} (hF:mk_Stream_Pick s_1 l_2=some r) :
  FnM Try.prog 5 [(.ref (extN 0) 0 0),(vL eI l_2)] [(.cells 2 [(vL eI s_1.L),(vI s_1.f_at)])] (vI r.1) [some (.cells 2 [(vL eI r.2.L),(vI r.2.f_at)])]:=by
 refine FnM.of_wH ⟨Try.prog,12,[],[]⟩ rfl Try.func5 rfl rfl (Nat.le_of_ble_eq_true rfl) (by kernel_rfl) ?_
 unfold mk_Stream_Pick at hF
 refine wH_sr (h_opz (vI 0) (h_nil (wH_sr (h_opz (vL eI l_2) (h_opz (.ref (extN 0) 0 0) (h_opz (vL eI l_2) (h_len un22 rfl wz ?_)))))))
 obtain ⟨r_3,hr_4,hF⟩:=bind_some hF
 refine h_callq 0 [0] il ft (mk_Stream_Next_ok hr_4) rfl hb27 rfl (by kernel_rfl) (by kernel_rfl) (by kernel_rfl) (by kernel_rfl) (by kernel_rfl) (by kernel_rfl) (by kernel_rfl) (by decide) (by kernel_rfl) wz (vI r_3.1) (by kernel_rfl) ([((extN 0),some (.cells 2 [(vL eI r_3.2.L),(vI r_3.2.f_at)]))]:Hp) (by kernel_rfl) ?_
 obtain ⟨y_6,hy_7,hF⟩:=bind_some hF
 refine h_ia es22 rfl rfl hy_7 rfl wz (h_ldc sz3 ag3 rfl (vI y_6) rfl wz (h_opz (vI y_6) (h_nil ?_)))
 obtain rfl:=some_inj hF
 exact wH_ret (finB (.inr rfl) [(vI y_6)] _ [0] [extN 0] ⟨rfl,trivial⟩ (.cons (co_data rfl rfl) (.nil)) (by kernel_rfl) ⟨(by kernel_rfl),trivial⟩ (by decide) (by kernel_rfl))
theorem mk_Stream_Range_ok {s_1:Stream} {low_2:Int} {high_3:Int} {r:Int×Stream} (hF:mk_Stream_Range s_1 low_2 high_3=some r) :
  FnM Try.prog 28 [(.ref (extN 0) 0 0),(vI low_2),(vI high_3)] [(.cells 2 [(vL eI s_1.L),(vI s_1.f_at)])] (vI r.1) [some (.cells 2 [(vL eI r.2.L),(vI r.2.f_at)])]:=by
 refine FnM.of_wH ⟨Try.prog,19,[],[]⟩ rfl Try.func28 rfl rfl (Nat.le_of_ble_eq_true rfl) (by kernel_rfl) ?_
 unfold mk_Stream_Range at hF
 refine wH_sr (h_opz (vI 0) (h_nil (wH_seq (wH_sr (h_opz (vI high_3) (h_opz (vI low_2) (h_opz (vB (decide (high_3 < low_2))) (h_nil ?_))))))))
 rcases cond_some hF with⟨hc_4,hF⟩ | ⟨hc_4,hF⟩
 ·refine wH_ift rfl hc_4 (wH_sr (h_opz (vI low_2) (h_opz (vI low_2) (h_nil ?_))))
  obtain rfl:=some_inj hF
  exact wH_ret (finB (.inr rfl) [(vI low_2)] _ [0] [extN 0] ⟨rfl,trivial⟩ (.cons (co_data rfl rfl) (.nil)) (by kernel_rfl) ⟨(by kernel_rfl),trivial⟩ (by decide) (by kernel_rfl))
 ·refine wH_iff rfl hc_4 (wH_skip (wH_sr (h_opz (vI low_2) (h_opz (.ref (extN 0) 0 0) (h_opz (vI high_3) (h_opz (vI low_2) (h_opz (vI (w64 (high_3 - low_2))) (h_opz (vI (w64 ((w64 (high_3 - low_2)) + 1))) ?_))))))))
  obtain ⟨r_5,hr_6,hF⟩:=bind_some hF
  refine h_callq 0 [0] il ft (mk_Stream_Next_ok hr_6) rfl hb27 rfl (by kernel_rfl) (by kernel_rfl) (by kernel_rfl) (by kernel_rfl) (by kernel_rfl) (by kernel_rfl) (by kernel_rfl) (by decide) (by kernel_rfl) wz (vI r_5.1) (by kernel_rfl) ([((extN 0),some (.cells 2 [(vL eI r_5.2.L),(vI r_5.2.f_at)]))]:Hp) (by kernel_rfl) (h_opz (vI (w64 (low_2 + r_5.1))) (h_opz (vI (w64 (low_2 + r_5.1))) (h_nil ?_)))
  obtain rfl:=some_inj hF
  exact wH_ret (finB (.inr rfl) [(vI (w64 (low_2 + r_5.1)))] _ [0] [extN 0] ⟨rfl,trivial⟩ (.cons (co_data rfl rfl) (.nil)) (by kernel_rfl) ⟨(by kernel_rfl),trivial⟩ (by decide) (by kernel_rfl))
theorem mk_Stream_Some_ok {s_1:Stream} {l_2:(List ByteArray)} {r:ByteArray×Stream} (hF:mk_Stream_Some s_1 l_2=some r) :
  FnM Try.prog 6 [(.ref (extN 0) 0 0),(vL eS l_2)] [(.cells 2 [(vL eI s_1.L),(vI s_1.f_at)])] (vS r.1) [some (.cells 2 [(vL eI r.2.L),(vI r.2.f_at)])]:=by
 refine FnM.of_wH ⟨Try.prog,12,[],[]⟩ rfl Try.func6 rfl rfl (Nat.le_of_ble_eq_true rfl) (by kernel_rfl) ?_
 unfold mk_Stream_Some at hF
 refine wH_sr (h_opz (vS (⟨#[]⟩:ByteArray)) (h_nil (wH_sr (h_opz (vL eS l_2) (h_opz (.ref (extN 0) 0 0) (h_opz (vL eS l_2) (h_len un67 rfl wz ?_)))))))
 obtain ⟨r_3,hr_4,hF⟩:=bind_some hF
 refine h_callq 0 [0] il ft (mk_Stream_Next_ok hr_4) rfl hb27 rfl (by kernel_rfl) (by kernel_rfl) (by kernel_rfl) (by kernel_rfl) (by kernel_rfl) (by kernel_rfl) (by kernel_rfl) (by decide) (by kernel_rfl) wz (vI r_3.1) (by kernel_rfl) ([((extN 0),some (.cells 2 [(vL eI r_3.2.L),(vI r_3.2.f_at)]))]:Hp) (by kernel_rfl) ?_
 obtain ⟨y_6,hy_7,hF⟩:=bind_some hF
 refine h_ia es67 rfl rfl hy_7 rfl wz (h_ldc sz9 ag9 rfl (vS y_6) rfl wz (h_opz (vS y_6) (h_nil ?_)))
 obtain rfl:=some_inj hF
 exact wH_ret (finB (.inr rfl) [(vS y_6)] _ [0] [extN 0] ⟨rfl,trivial⟩ (.cons (co_data rfl rfl) (.nil)) (by kernel_rfl) ⟨(by kernel_rfl),trivial⟩ (by decide) (by kernel_rfl))
theorem mk_Stream_Flip_ok {s_1:Stream} {n_2:Int} {r:Bool×Stream} (hF:mk_Stream_Flip s_1 n_2=some r) :
  FnM Try.prog 7 [(.ref (extN 0) 0 0),(vI n_2)] [(.cells 2 [(vL eI s_1.L),(vI s_1.f_at)])] (vB r.1) [some (.cells 2 [(vL eI r.2.L),(vI r.2.f_at)])]:=by
 refine FnM.of_wH ⟨Try.prog,9,[],[]⟩ rfl Try.func7 rfl rfl (Nat.le_of_ble_eq_true rfl) (by kernel_rfl) ?_
 unfold mk_Stream_Flip at hF
 refine wH_sr (h_opz (vB false) (h_nil (wH_sr (h_opz (.ref (extN 0) 0 0) (h_opz (vI n_2) ?_)))))
 obtain ⟨r_3,hr_4,hF⟩:=bind_some hF
 refine h_callq 0 [0] il ft (mk_Stream_Next_ok hr_4) rfl hb27 rfl (by kernel_rfl) (by kernel_rfl) (by kernel_rfl) (by kernel_rfl) (by kernel_rfl) (by kernel_rfl) (by kernel_rfl) (by decide) (by kernel_rfl) wz (vI r_3.1) (by kernel_rfl) ([((extN 0),some (.cells 2 [(vL eI r_3.2.L),(vI r_3.2.f_at)]))]:Hp) (by kernel_rfl) (h_opz (vB (r_3.1 == 0)) (h_opz (vB (r_3.1 == 0)) (h_nil ?_)))
 obtain rfl:=some_inj hF
 exact wH_ret (finB (.inr rfl) [(vB (r_3.1 == 0))] _ [0] [extN 0] ⟨rfl,trivial⟩ (.cons (co_data rfl rfl) (.nil)) (by kernel_rfl) ⟨(by kernel_rfl),trivial⟩ (by decide) (by kernel_rfl))
theorem mk_Stream_Odd_ok {s_1:Stream} {low_2:Int} {high_3:Int} {r:Int×Stream} (hF:mk_Stream_Odd s_1 low_2 high_3=some r) :
  FnM Try.prog 8 [(.ref (extN 0) 0 0),(vI low_2),(vI high_3)] [(.cells 2 [(vL eI s_1.L),(vI s_1.f_at)])] (vI r.1) [some (.cells 2 [(vL eI r.2.L),(vI r.2.f_at)])]:=by
 refine FnM.of_wH ⟨Try.prog,22,[],[]⟩ rfl Try.func8 rfl rfl (Nat.le_of_ble_eq_true rfl) (by kernel_rfl) ?_
 unfold mk_Stream_Odd at hF
 refine wH_sr (h_opz (vI 0) (h_nil (wH_seq (wH_sr (h_opz (.ref (extN 0) 0 0) ?_)))))
 obtain ⟨r_4,hr_5,hF⟩:=bind_some hF
 refine h_callq 0 [0] il ft (mk_Stream_Flip_ok hr_5) rfl hb7 rfl (by kernel_rfl) (by kernel_rfl) (by kernel_rfl) (by kernel_rfl) (by kernel_rfl) (by kernel_rfl) (by kernel_rfl) (by decide) (by kernel_rfl) wz (vB r_4.1) (by kernel_rfl) ([((extN 0),some (.cells 2 [(vL eI r_4.2.L),(vI r_4.2.f_at)]))]:Hp) (by kernel_rfl) (h_nil ?_)
 rcases cond_some hF with⟨hc_7,hF⟩ | ⟨hc_7,hF⟩
 ·refine wH_ift rfl hc_7 (wH_sr (h_opz (.ref (extN 0) 0 0) (h_opz (vI low_2) (h_opz (vI (w64 (low_2 - 1))) (h_opz (vI high_3) (h_opz (vI (w64 (high_3 + 1))) (h_opz (vI low_2) (h_opz (vI high_3) (h_lit (([(w64 (low_2 - 1)),(w64 (high_3 + 1)),low_2,high_3,(-1099511627776),1099511627776]:List Int).map eI) es22 ez22 rfl rfl rfl rfl rfl wz ?_)))))))))
  obtain ⟨r_8,hr_9,hF⟩:=bind_some hF
  refine h_callq 0 [0] il ft (mk_Stream_Pick_ok hr_9) rfl hb5 rfl (by kernel_rfl) (by kernel_rfl) (by kernel_rfl) (by kernel_rfl) (by kernel_rfl) (by kernel_rfl) (by kernel_rfl) (by decide) (by kernel_rfl) wz (vI r_8.1) (by kernel_rfl) ([((extN 0),some (.cells 2 [(vL eI r_8.2.L),(vI r_8.2.f_at)]))]:Hp) (by kernel_rfl) (h_opz (vI r_8.1) (h_nil ?_))
  obtain rfl:=some_inj hF
  exact wH_ret (finB (.inr rfl) [(vI r_8.1)] _ [0] [extN 0] ⟨rfl,trivial⟩ (.cons (co_data rfl rfl) (.nil)) (by kernel_rfl) ⟨(by kernel_rfl),trivial⟩ (by decide) (by kernel_rfl))
 ·refine wH_iff rfl hc_7 (wH_skip (wH_sr (h_opz (.ref (extN 0) 0 0) (h_opz (vI low_2) (h_opz (vI high_3) ?_)))))
  obtain ⟨r_11,hr_12,hF⟩:=bind_some hF
  refine h_callq 0 [0] il ft (mk_Stream_Range_ok hr_12) rfl hb28 rfl (by kernel_rfl) (by kernel_rfl) (by kernel_rfl) (by kernel_rfl) (by kernel_rfl) (by kernel_rfl) (by kernel_rfl) (by decide) (by kernel_rfl) wz (vI r_11.1) (by kernel_rfl) ([((extN 0),some (.cells 2 [(vL eI r_11.2.L),(vI r_11.2.f_at)]))]:Hp) (by kernel_rfl) (h_opz (vI r_11.1) (h_nil ?_))
  obtain rfl:=some_inj hF
  exact wH_ret (finB (.inr rfl) [(vI r_11.1)] _ [0] [extN 0] ⟨rfl,trivial⟩ (.cons (co_data rfl rfl) (.nil)) (by kernel_rfl) ⟨(by kernel_rfl),trivial⟩ (by decide) (by kernel_rfl))
theorem mk_Stream_RightPlays_okb {s_1:Stream} {most_2:Int} {r:(List Play)×Stream} (hF:mk_Stream_RightPlays s_1 most_2=some r) :
  FnM Try.prog 26 [(.ref (extN 0) 0 0),(vI most_2)] [(.cells 2 [(vL eI s_1.L),(vI s_1.f_at)])] (gV (extN 1) 4 r.1) (([(.cells 2 [(vL eI r.2.L),(vI r.2.f_at)])]:List Box).map some++gO 4 Play.enc r.1):=by
 refine FnM.of_wH ⟨Try.prog,45,[],[]⟩ rfl Try.func26 rfl rfl (Nat.le_of_ble_eq_true rfl) (by kernel_rfl) ?_
 unfold mk_Stream_RightPlays at hF
 refine wH_sr (h_opz .nil (h_nil (wH_sr (h_opz .nil (h_nil (wH_seq (wH_sr (h_lit (([(⟨#[112,97]⟩:ByteArray),(⟨#[112,98]⟩:ByteArray)]:List ByteArray).map eS) es67 ez67 rfl rfl rfl rfl rfl wz (h_len un67 rfl wz (h_opz (vI 0) (h_nil (wH_new (fun n_9 => ?_)))))))))))))
 obtain ⟨o_14,hj_15,hF⟩:=bind_some hF
 obtain ⟨hn_7,hj_15⟩:=forL_some hj_15
 refine wH_loopF (σ:=(List Play)×(List Int)×Int) (N:=Nm) (fun p=>(fun (s_8:(List Play)×(List Int)×Int) (n_11:Nm)=>([(5,(gV n_11 4 s_8.1))]:List (Nat×V))) p.1 p.2) (fun p=>(fun (s_8:(List Play)×(List Int)×Int) (n_11:Nm)=>([((extN 0),some (.cells 2 [(vL eI s_8.2.1),(vI s_8.2.2)])),(n_11,gB 4 Play.enc s_8.1)]:Hp)) p.1 p.2) (fun (k_3:Nat)=>(fun p=>(fun (s_8:(List Play)×(List Int)×Int) (n_11:Nm)=>([(0,(.ref (extN 0) 0 0)),(1,(vI most_2)),(5,(gV n_11 4 s_8.1)),(10,(vL eS ([(⟨#[112,97]⟩:ByteArray),(⟨#[112,98]⟩:ByteArray)]:List ByteArray))),(11,(vI (([(⟨#[112,97]⟩:ByteArray),(⟨#[112,98]⟩:ByteArray)]:List ByteArray).length:Int))),(12,(vI (k_3:Int)))]:List (Nat×V))) p.1 p.2)) (fun k x s=>mk_Stream_RightPlays_L2 most_2 k x s) o_14 ([(⟨#[112,97]⟩:ByteArray),(⟨#[112,98]⟩:ByteArray)]:List ByteArray) ((([]:List Play),s_1.L,s_1.f_at),n_9) hj_15 rfl (pre_r rfl) ?_ ?_
 ·rintro ⟨k_3,l_4,s_8,n_11⟩ ⟨hL_13,hD_6⟩
  dsimp only at hL_13 hD_6
  cases l_4 with
  | nil =>
   obtain rfl:=some_inj hL_13
   refine wH_sr (h_opz (vB (decide ((k_3:Int) < (([(⟨#[112,97]⟩:ByteArray),(⟨#[112,98]⟩:ByteArray)]:List ByteArray).length:Int)))) (h_nil ?_))
   refine wH_seq (wH_iff rfl (drop_nil hD_6) (wH_exit ?_))
   exact cut_mk (s_8,n_11) rfl rfl (pre_r rfl)
  | cons x_5 l_4 =>
   obtain ⟨c_,hc_12,hL_13⟩:=bind_some hL_13
   refine wH_sr (h_opz (vB (decide ((k_3:Int) < (([(⟨#[112,97]⟩:ByteArray),(⟨#[112,98]⟩:ByteArray)]:List ByteArray).length:Int)))) (h_nil ?_))
   refine wH_seq (wH_ift rfl (drop_cons hD_6) (wH_skip ?_))
   unfold mk_Stream_RightPlays_L2 at hc_12
   refine wH_seq (wH_block (wH_sr (h_ia es67 rfl rfl (drop_idx hD_6) rfl wz (h_ldc sz9 ag9 rfl (vS x_5) rfl wz (h_opz (vS x_5) (h_nil (wH_sr (h_opz (.ref (extN 0) 0 0) (h_lit (([0,5,86399990]:List Int).map eI) es22 ez22 rfl rfl rfl rfl rfl wz ?_)))))))))
   obtain ⟨r_16,hr_17,hc_12⟩:=bind_some hc_12
   refine h_callq 0 [0] il ft (mk_Stream_Pick_ok hr_17) rfl hb5 rfl (by kernel_rfl) (by kernel_rfl) (by kernel_rfl) (by kernel_rfl) (by kernel_rfl) (by kernel_rfl) (by kernel_rfl) (by decide) (by kernel_rfl) wz (vI r_16.1) (by kernel_rfl) ([((extN 0),some (.cells 2 [(vL eI r_16.2.L),(vI r_16.2.f_at)])),(n_11,gB 4 Play.enc s_8.1)]:Hp) (by kernel_rfl) (h_opz (vI r_16.1) (h_nil (wH_sr (h_opz (.ref (extN 0) 0 0) (h_opz (vI most_2) ?_)))))
   obtain ⟨r_19,hr_20,hc_12⟩:=bind_some hc_12
   refine h_callq 0 [0] il ft (mk_Stream_Range_ok hr_20) rfl hb28 rfl (by kernel_rfl) (by kernel_rfl) (by kernel_rfl) (by kernel_rfl) (by kernel_rfl) (by kernel_rfl) (by kernel_rfl) (by decide) (by kernel_rfl) wz (vI r_19.1) (by kernel_rfl) ([((extN 0),some (.cells 2 [(vL eI r_19.2.L),(vI r_19.2.f_at)])),(n_11,gB 4 Play.enc s_8.1)]:Hp) (by kernel_rfl) (h_opz (vI 0) (h_nil ?_))
   obtain ⟨o_32,hj_33,hc_12⟩:=bind_some hc_12
   obtain ⟨hn_26,hj_33⟩:=forL_some hj_33
   refine wH_loopF (σ:=(List Play)×Int×(List Int)×Int) (N:=Nm) (fun p=>(fun (s_27:(List Play)×Int×(List Int)×Int) (n_29:Nm)=>([(0,(.ref (extN 0) 0 0)),(1,(vI most_2)),(5,(gV n_29 4 s_27.1)),(10,(vL eS ([(⟨#[112,97]⟩:ByteArray),(⟨#[112,98]⟩:ByteArray)]:List ByteArray))),(11,(vI (([(⟨#[112,97]⟩:ByteArray),(⟨#[112,98]⟩:ByteArray)]:List ByteArray).length:Int))),(12,(vI (k_3:Int)))]:List (Nat×V))) p.1 p.2) (fun p=>(fun (s_27:(List Play)×Int×(List Int)×Int) (n_29:Nm)=>([((extN 0),some (.cells 2 [(vL eI s_27.2.2.1),(vI s_27.2.2.2)])),(n_29,gB 4 Play.enc s_27.1)]:Hp)) p.1 p.2) (fun (k_22:Nat)=>(fun p=>(fun (s_27:(List Play)×Int×(List Int)×Int) (n_29:Nm)=>([(0,(.ref (extN 0) 0 0)),(1,(vI most_2)),(5,(gV n_29 4 s_27.1)),(7,(vS x_5)),(8,(vI s_27.2.1)),(10,(vL eS ([(⟨#[112,97]⟩:ByteArray),(⟨#[112,98]⟩:ByteArray)]:List ByteArray))),(11,(vI (([(⟨#[112,97]⟩:ByteArray),(⟨#[112,98]⟩:ByteArray)]:List ByteArray).length:Int))),(12,(vI (k_3:Int))),(21,(vI r_19.1)),(22,(vI (k_22:Int)))]:List (Nat×V))) p.1 p.2)) (fun k x s=>mk_Stream_RightPlays_L1 x_5 k x s) o_32 (List.range (r_19.1).toNat) ((s_8.1,r_16.1,r_19.2.L,r_19.2.f_at),n_11) hj_33 rfl (pre_r rfl) ?_ ?_
   ·rintro ⟨k_22,l_23,s_27,n_29⟩ ⟨hL_31,hD_25⟩
    dsimp only at hL_31 hD_25
    cases l_23 with
    | nil =>
     obtain rfl:=some_inj hL_31
     refine wH_sr (h_opz (vB (decide ((k_22:Int) < r_19.1))) (h_nil ?_))
     refine wH_seq (wH_iff rfl (range_nil hD_25) (wH_exit ?_))
     exact cut_mk (s_27,n_29) rfl rfl (pre_r rfl)
    | cons x_24 l_23 =>
     obtain ⟨c_,hc_30,hL_31⟩:=bind_some hL_31
     refine wH_sr (h_opz (vB (decide ((k_22:Int) < r_19.1))) (h_nil ?_))
     refine wH_seq (wH_ift rfl (range_cons hD_25) (wH_skip ?_))
     unfold mk_Stream_RightPlays_L1 at hc_30
     refine wH_seq (wH_block (wH_sr (h_opz (vS x_5) (h_opz (.ref (extN 0) 0 0) (h_lit (([(⟨#[105,97]⟩:ByteArray),(⟨#[105,98]⟩:ByteArray)]:List ByteArray).map eS) es67 ez67 rfl rfl rfl rfl rfl wz ?_)))))
     obtain ⟨r_34,hr_35,hc_30⟩:=bind_some hc_30
     refine h_callq 0 [0] il ft (mk_Stream_Some_ok hr_35) rfl hb6 rfl (by kernel_rfl) (by kernel_rfl) (by kernel_rfl) (by kernel_rfl) (by kernel_rfl) (by kernel_rfl) (by kernel_rfl) (by decide) (by kernel_rfl) wz (vS r_34.1) (by kernel_rfl) ([((extN 0),some (.cells 2 [(vL eI r_34.2.L),(vI r_34.2.f_at)])),(n_29,gB 4 Play.enc s_27.1)]:Hp) (by kernel_rfl) (h_opz (vI s_27.2.1) (h_opz (.ref (extN 0) 0 0) (h_lit (([1,5,10,20]:List Int).map eI) es22 ez22 rfl rfl rfl rfl rfl wz ?_)))
     obtain ⟨r_37,hr_38,hc_30⟩:=bind_some hc_30
     refine h_callq 0 [0] il ft (mk_Stream_Pick_ok hr_38) rfl hb5 rfl (by kernel_rfl) (by kernel_rfl) (by kernel_rfl) (by kernel_rfl) (by kernel_rfl) (by kernel_rfl) (by kernel_rfl) (by decide) (by kernel_rfl) wz (vI r_37.1) (by kernel_rfl) ([((extN 0),some (.cells 2 [(vL eI r_37.2.L),(vI r_37.2.f_at)])),(n_29,gB 4 Play.enc s_27.1)]:Hp) (by kernel_rfl) (h_op (.d (.agg (Play.enc (⟨x_5,r_34.1,s_27.2.1,r_37.1⟩:Play)))) wz (by kernel_rfl) (h_alloc 0 (.inl rfl) z65 rfl wz (fun n_40=>h_str 0 il ft 2 sz65 rfl rfl [(vS x_5),(vS r_34.1),(vI s_27.2.1),(vI r_37.1)] rfl wz (h_nil (wH_sr (h_opz (vI s_27.2.1) (h_opz (.ref (extN 0) 0 0) (h_lit (([1,5,10,30]:List Int).map eI) es22 ez22 rfl rfl rfl rfl rfl wz ?_))))))))
     obtain ⟨r_41,hr_42,hc_30⟩:=bind_some hc_30
     refine h_callq 0 [0] il ft (mk_Stream_Pick_ok hr_42) rfl hb5 rfl (by kernel_rfl) (by kernel_rfl) (by kernel_rfl) (by kernel_rfl) (by kernel_rfl) (by kernel_rfl) (by kernel_rfl) (by decide) (by kernel_rfl) wz (vI r_41.1) (by kernel_rfl) ([((extN 0),some (.cells 2 [(vL eI r_41.2.L),(vI r_41.2.f_at)])),(n_29,gB 4 Play.enc s_27.1),(n_40,some (.cells 4 [(vS x_5),(vS r_34.1),(vI s_27.2.1),(vI r_37.1)]))]:Hp) (by kernel_rfl) (h_opz (vI (w64 (s_27.2.1 + r_41.1))) (h_opz (vI (w64 (s_27.2.1 + r_41.1))) (h_nil (wH_region (h_opz (gV n_29 4 s_27.1) (h_ldr 0 2 il ft sz65 ag65 rfl rfl (.d (.agg (Play.enc (⟨x_5,r_34.1,s_27.2.1,r_37.1⟩:Play)))) rfl wz (h_lit (([(⟨x_5,r_34.1,s_27.2.1,r_37.1⟩:Play)]:List Play).map Play.enc) es26 ez26 rfl rfl rfl rfl rfl wz ?_)))))))
     obtain ⟨a_44,hz_45,hc_30⟩:=bind_some hc_30
     refine h_appg 0 il ft (i:=1) el26 el26 sz65 z65 rfl (by decide) by65 (by decide) (fun _=>rfl) rfl rfl rfl hz_45 wz (fun n_46=>h_opz (gV n_46 4 a_44) (h_nil (wH_region (h_opw (w64_nextr hD_25 hn_26) wz rfl (h_opz (vI ((k_22 + 1:Nat):Int)) (h_nil ?_))))))
     obtain rfl:=some_inj hc_30
     exact loop_mk (k_22 + 1,l_23,(a_44,(w64 (s_27.2.1 + r_41.1)),r_41.2.L,r_41.2.f_at),n_46) ⟨hL_31,drop_next hD_25⟩ (Nat.lt_succ_self _) rfl (pre_r rfl)
   ·rintro ⟨s_27,n_29⟩ ho_ sl_ H_ hp_ hq_
    subst ho_
    refine wH_at _ hp_ hq_ (wH_region (h_opw (w64_next hD_6 hn_7) wz rfl (h_opz (vI ((k_3 + 1:Nat):Int)) (h_nil ?_))))
    obtain rfl:=some_inj hc_12
    exact loop_mk (k_3 + 1,l_4,(s_27.1,s_27.2.2.1,s_27.2.2.2),n_29) ⟨hL_13,drop_next hD_6⟩ (Nat.lt_succ_self _) rfl (pre_r rfl)
 ·rintro ⟨s_8,n_11⟩ ho_ sl_ H_ hp_ hq_
  subst ho_
  refine wH_at _ hp_ hq_ (wH_sr (h_opz (gV n_11 4 s_8.1) (h_opz (gV n_11 4 s_8.1) (h_nil ?_))))
  obtain rfl:=some_inj hF
  exact wH_ret (finG (outs:=([(.cells 2 [(vL eI s_8.2.1),(vI s_8.2.2)])]:List Box)) (.inr rfl) 1 rfl rfl rfl (by kernel_rfl) (by kernel_rfl))
theorem mk_Stream_Plays_ok {s_1:Stream} {most_2:Int} {r:(List Play)×Stream} (hF:mk_Stream_Plays s_1 most_2=some r) :
  FnM Try.prog 4 [(.ref (extN 0) 0 0),(vI most_2)] [(.cells 2 [(vL eI s_1.L),(vI s_1.f_at)])] (vL Play.enc r.1) [some (.cells 2 [(vL eI r.2.L),(vI r.2.f_at)])]:=by
 refine FnM.of_wH ⟨Try.prog,50,[],[]⟩ rfl Try.func4 rfl rfl (Nat.le_of_ble_eq_true rfl) (by kernel_rfl) ?_
 unfold mk_Stream_Plays at hF
 refine wH_sr (h_opz .nil (h_nil (wH_sr (h_opz (.ref (extN 0) 0 0) (h_opz (vI most_2) ?_)))))
 obtain ⟨r_3,hr_4,hF⟩:=bind_some hF
 refine h_callg [0] (mk_Stream_RightPlays_okb hr_4) rfl hb26 rfl (by kernel_rfl) (by kernel_rfl) (by kernel_rfl) (by kernel_rfl) (by kernel_rfl) rfl (by decide) (by kernel_rfl) wz ([((extN 0),some (.cells 2 [(vL eI r_3.2.L),(vI r_3.2.f_at)]))]:Hp) (fun _=>by kernel_rfl) (fun n_6=>h_opz (gV n_6 4 r_3.1) (h_nil (wH_seq (wH_seq ?_))))
 obtain ⟨v_7,h_8,hF⟩:=bind_some hF
 refine wH_joinU [(0,(.ref (extN 0) 0 0)),(5,(gV n_6 4 r_3.1)),(16,(vB v_7.1))] [((extN 0),some (.cells 2 [(vL eI v_7.2.1),(vI v_7.2.2)])),(n_6,gB 4 Play.enc r_3.1)] ?_ ?_
 ·refine wH_region (h_opz (gV n_6 4 r_3.1) (h_leng un26 rfl wz (h_opz (vB (decide ((r_3.1.length:Int) > 0))) ?_)))
  rcases cond_some h_8 with⟨hc_9,h_8⟩ | ⟨hc_9,h_8⟩
  ·refine h_movb rfl hc_9 wz (h_op (.ref (extN 0) 0 0) wa rfl ?_)
   obtain ⟨r_10,hr_11,h_8⟩:=bind_some h_8
   refine h_callq 0 [0] il ft (mk_Stream_Flip_ok hr_11) rfl hb7 rfl (by kernel_rfl) (by kernel_rfl) (by kernel_rfl) (by kernel_rfl) (by kernel_rfl) (by kernel_rfl) (by kernel_rfl) (by decide) (by kernel_rfl) wa (vB r_10.1) (by kernel_rfl) ([((extN 0),some (.cells 2 [(vL eI r_10.2.L),(vI r_10.2.f_at)])),(n_6,gB 4 Play.enc r_3.1)]:Hp) (by kernel_rfl) (h_opz (vB r_10.1) (h_nil ?_))
   obtain rfl:=some_inj h_8
   exact cu
  ·refine h_movb rfl hc_9 wz (h_skipz (h_skipz (h_opz (vB false) (h_nil ?_))))
   obtain rfl:=some_inj h_8
   exact cu
 ·rintro ⟨⟩ _ sl_ H_ hp_ hq_
  refine wH_at _ hp_ hq_ ?_
  obtain ⟨v_13,h_14,hF⟩:=bind_some hF
  refine wH_joinU [(5,(gV n_6 4 v_13.1))] [((extN 0),some (.cells 2 [(vL eI v_13.2.1),(vI v_13.2.2)])),(n_6,gB 4 Play.enc v_13.1)] ?_ ?_
  ·rcases cond_some h_14 with⟨hc_15,h_14⟩ | ⟨hc_15,h_14⟩
   ·refine wH_ift rfl hc_15 (wH_sr (h_opz (gV n_6 4 r_3.1) (h_opz (.ref (extN 0) 0 0) (h_opz (gV n_6 4 r_3.1) (h_leng un26 rfl wz ?_)))))
    obtain ⟨r_16,hr_17,h_14⟩:=bind_some h_14
    refine h_callq 0 [0] il ft (mk_Stream_Next_ok hr_17) rfl hb27 rfl (by kernel_rfl) (by kernel_rfl) (by kernel_rfl) (by kernel_rfl) (by kernel_rfl) (by kernel_rfl) (by kernel_rfl) (by decide) (by kernel_rfl) wz (vI r_16.1) (by kernel_rfl) ([((extN 0),some (.cells 2 [(vL eI r_16.2.L),(vI r_16.2.f_at)])),(n_6,gB 4 Play.enc r_3.1)]:Hp) (by kernel_rfl) ?_
    obtain ⟨_,hi_19,h_14⟩:=bind_some h_14
    refine h_iavg es26 rfl rfl (inR_0 hi_19) (inR_lt hi_19) wz (h_opz (.ref n_6 (0 + (r_16.1).toNat) 0) (h_nil (wH_region (h_opz (.ref n_6 (0 + (r_16.1).toNat) 0) (h_opz (.ref n_6 (0 + (r_16.1).toNat) 0) (h_opz (.ref n_6 (0 + (r_16.1).toNat) 0) (h_opz (.ref n_6 (0 + (r_16.1).toNat) 0) (h_opz (.ref (extN 0) 0 0) (h_opz (.ref n_6 (0 + (r_16.1).toNat) 0) (h_opz (.ref n_6 (0 + (r_16.1).toNat) 0) (h_far pl65_0 rfl 0 rfl wz ?_)))))))))))
    obtain ⟨e_20,hy_21,h_14⟩:=bind_some h_14
    refine h_ldvg 0 1 il ft sz9 ag9 rfl rfl hy_21 (vS e_20.Player) rfl wz (h_lit (([e_20.Player,(⟨#[]⟩:ByteArray),(⟨#[112,97]⟩:ByteArray)]:List ByteArray).map eS) es67 ez67 rfl rfl rfl rfl rfl wz ?_)
    obtain ⟨r_22,hr_23,h_14⟩:=bind_some h_14
    refine h_callq 0 [0] il ft (mk_Stream_Some_ok hr_23) rfl hb6 rfl (by kernel_rfl) (by kernel_rfl) (by kernel_rfl) (by kernel_rfl) (by kernel_rfl) (by kernel_rfl) (by kernel_rfl) (by decide) (by kernel_rfl) wz (vS r_22.1) (by kernel_rfl) ([((extN 0),some (.cells 2 [(vL eI r_22.2.L),(vI r_22.2.f_at)])),(n_6,gB 4 Play.enc r_3.1)]:Hp) (by kernel_rfl) (h_opz (.ref (extN 0) 0 0) (h_lit (([(⟨#[105,97]⟩:ByteArray),(⟨#[65]⟩:ByteArray)]:List ByteArray).map eS) es67 ez67 rfl rfl rfl rfl rfl wz ?_))
    obtain ⟨r_25,hr_26,h_14⟩:=bind_some h_14
    refine h_callq 0 [0] il ft (mk_Stream_Some_ok hr_26) rfl hb6 rfl (by kernel_rfl) (by kernel_rfl) (by kernel_rfl) (by kernel_rfl) (by kernel_rfl) (by kernel_rfl) (by kernel_rfl) (by decide) (by kernel_rfl) wz (vS r_25.1) (by kernel_rfl) ([((extN 0),some (.cells 2 [(vL eI r_25.2.L),(vI r_25.2.f_at)])),(n_6,gB 4 Play.enc r_3.1)]:Hp) (by kernel_rfl) (h_opz (.ref (extN 0) 0 0) ?_)
    obtain ⟨r_28,hr_29,h_14⟩:=bind_some h_14
    refine h_callq 0 [0] il ft (mk_Stream_Odd_ok hr_29) rfl hb8 rfl (by kernel_rfl) (by kernel_rfl) (by kernel_rfl) (by kernel_rfl) (by kernel_rfl) (by kernel_rfl) (by kernel_rfl) (by decide) (by kernel_rfl) wz (vI r_28.1) (by kernel_rfl) ([((extN 0),some (.cells 2 [(vL eI r_28.2.L),(vI r_28.2.f_at)])),(n_6,gB 4 Play.enc r_3.1)]:Hp) (by kernel_rfl) (h_opz (.ref (extN 0) 0 0) ?_)
    obtain ⟨r_31,hr_32,h_14⟩:=bind_some h_14
    refine h_callq 0 [0] il ft (mk_Stream_Odd_ok hr_32) rfl hb8 rfl (by kernel_rfl) (by kernel_rfl) (by kernel_rfl) (by kernel_rfl) (by kernel_rfl) (by kernel_rfl) (by kernel_rfl) (by decide) (by kernel_rfl) wz (vI r_31.1) (by kernel_rfl) ([((extN 0),some (.cells 2 [(vL eI r_31.2.L),(vI r_31.2.f_at)])),(n_6,gB 4 Play.enc r_3.1)]:Hp) (by kernel_rfl) (h_opz (.ref n_6 (0 + (r_16.1).toNat) 0) (h_far pl65_0 rfl 0 rfl wz ?_))
    obtain ⟨e_34,hy_35,h_14⟩:=bind_some h_14
    refine h_stvg 0 il ft 1 sz9 rfl rfl hy_35 (⟨r_22.1,e_34.Item,e_34.At,e_34.Long⟩:Play) rfl wz (h_re (v':=(gV n_6 4 (r_3.1.set (0 + (r_16.1).toNat) (⟨r_22.1,e_34.Item,e_34.At,e_34.Long⟩:Play)))) 5 rfl (gV_len (by simp)) (h_re (v':=(gV n_6 4 (r_3.1.set (0 + (r_16.1).toNat) (⟨r_22.1,e_34.Item,e_34.At,e_34.Long⟩:Play)))) 17 rfl (gV_len (by simp)) (h_re (v':=(gV n_6 4 (r_3.1.set (0 + (r_16.1).toNat) (⟨r_22.1,e_34.Item,e_34.At,e_34.Long⟩:Play)))) 19 rfl (gV_len (by simp)) (h_opz (.ref n_6 (0 + (r_16.1).toNat) 0) (h_far pl65_1 rfl 1 rfl wz ?_)))))
    obtain ⟨e_36,hy_37,h_14⟩:=bind_some h_14
    refine h_stvg 0 il ft 1 sz9 rfl rfl hy_37 (⟨e_36.Player,r_25.1,e_36.At,e_36.Long⟩:Play) rfl wz (h_re (v':=(gV n_6 4 ((r_3.1.set (0 + (r_16.1).toNat) (⟨r_22.1,e_34.Item,e_34.At,e_34.Long⟩:Play)).set (0 + (r_16.1).toNat) (⟨e_36.Player,r_25.1,e_36.At,e_36.Long⟩:Play)))) 5 rfl (gV_len (by simp)) (h_re (v':=(gV n_6 4 ((r_3.1.set (0 + (r_16.1).toNat) (⟨r_22.1,e_34.Item,e_34.At,e_34.Long⟩:Play)).set (0 + (r_16.1).toNat) (⟨e_36.Player,r_25.1,e_36.At,e_36.Long⟩:Play)))) 17 rfl (gV_len (by simp)) (h_re (v':=(gV n_6 4 ((r_3.1.set (0 + (r_16.1).toNat) (⟨r_22.1,e_34.Item,e_34.At,e_34.Long⟩:Play)).set (0 + (r_16.1).toNat) (⟨e_36.Player,r_25.1,e_36.At,e_36.Long⟩:Play)))) 19 rfl (gV_len (by simp)) (h_opz (.ref n_6 (0 + (r_16.1).toNat) 0) (h_far pl65_2 rfl 2 rfl wz ?_)))))
    obtain ⟨e_38,hy_39,h_14⟩:=bind_some h_14
    refine h_stvg 0 il ft 1 sz3 rfl rfl hy_39 (⟨e_38.Player,e_38.Item,r_28.1,e_38.Long⟩:Play) rfl wz (h_re (v':=(gV n_6 4 (((r_3.1.set (0 + (r_16.1).toNat) (⟨r_22.1,e_34.Item,e_34.At,e_34.Long⟩:Play)).set (0 + (r_16.1).toNat) (⟨e_36.Player,r_25.1,e_36.At,e_36.Long⟩:Play)).set (0 + (r_16.1).toNat) (⟨e_38.Player,e_38.Item,r_28.1,e_38.Long⟩:Play)))) 5 rfl (gV_len (by simp)) (h_re (v':=(gV n_6 4 (((r_3.1.set (0 + (r_16.1).toNat) (⟨r_22.1,e_34.Item,e_34.At,e_34.Long⟩:Play)).set (0 + (r_16.1).toNat) (⟨e_36.Player,r_25.1,e_36.At,e_36.Long⟩:Play)).set (0 + (r_16.1).toNat) (⟨e_38.Player,e_38.Item,r_28.1,e_38.Long⟩:Play)))) 17 rfl (gV_len (by simp)) (h_re (v':=(gV n_6 4 (((r_3.1.set (0 + (r_16.1).toNat) (⟨r_22.1,e_34.Item,e_34.At,e_34.Long⟩:Play)).set (0 + (r_16.1).toNat) (⟨e_36.Player,r_25.1,e_36.At,e_36.Long⟩:Play)).set (0 + (r_16.1).toNat) (⟨e_38.Player,e_38.Item,r_28.1,e_38.Long⟩:Play)))) 19 rfl (gV_len (by simp)) (h_opz (.ref n_6 (0 + (r_16.1).toNat) 0) (h_far pl65_3 rfl 3 rfl wz ?_)))))
    obtain ⟨e_40,hy_41,h_14⟩:=bind_some h_14
    refine h_stvg 0 il ft 1 sz3 rfl rfl hy_41 (⟨e_40.Player,e_40.Item,e_40.At,r_31.1⟩:Play) rfl wz (h_re (v':=(gV n_6 4 ((((r_3.1.set (0 + (r_16.1).toNat) (⟨r_22.1,e_34.Item,e_34.At,e_34.Long⟩:Play)).set (0 + (r_16.1).toNat) (⟨e_36.Player,r_25.1,e_36.At,e_36.Long⟩:Play)).set (0 + (r_16.1).toNat) (⟨e_38.Player,e_38.Item,r_28.1,e_38.Long⟩:Play)).set (0 + (r_16.1).toNat) (⟨e_40.Player,e_40.Item,e_40.At,r_31.1⟩:Play)))) 5 rfl (gV_len (by simp)) (h_re (v':=(gV n_6 4 ((((r_3.1.set (0 + (r_16.1).toNat) (⟨r_22.1,e_34.Item,e_34.At,e_34.Long⟩:Play)).set (0 + (r_16.1).toNat) (⟨e_36.Player,r_25.1,e_36.At,e_36.Long⟩:Play)).set (0 + (r_16.1).toNat) (⟨e_38.Player,e_38.Item,r_28.1,e_38.Long⟩:Play)).set (0 + (r_16.1).toNat) (⟨e_40.Player,e_40.Item,e_40.At,r_31.1⟩:Play)))) 17 rfl (gV_len (by simp)) (h_re (v':=(gV n_6 4 ((((r_3.1.set (0 + (r_16.1).toNat) (⟨r_22.1,e_34.Item,e_34.At,e_34.Long⟩:Play)).set (0 + (r_16.1).toNat) (⟨e_36.Player,r_25.1,e_36.At,e_36.Long⟩:Play)).set (0 + (r_16.1).toNat) (⟨e_38.Player,e_38.Item,r_28.1,e_38.Long⟩:Play)).set (0 + (r_16.1).toNat) (⟨e_40.Player,e_40.Item,e_40.At,r_31.1⟩:Play)))) 19 rfl (gV_len (by simp)) (h_nil ?_))))
    obtain rfl:=some_inj h_14
    exact cu
   ·refine wH_iff rfl hc_15 (wH_skip ?_)
    obtain rfl:=some_inj h_14
    exact cu
  ·rintro ⟨⟩ _ sl_ H_ hp_ hq_
   refine wH_at _ hp_ hq_ (wH_sr (h_opz (gV n_6 4 v_13.1) (h_opz (gV n_6 4 v_13.1) (h_nil (wH_frozg 1 rfl (wH_cog 4 1 rfl rfl (wH_cog 5 1 rfl rfl (wH_cog 49 1 rfl rfl ?_))))))))
   obtain rfl:=some_inj hF
   exact wH_ret (finB (.inr rfl) [(vL Play.enc v_13.1)] _ [0] [extN 0] ⟨rfl,trivial⟩ (.cons (co_data rfl rfl) (.nil)) (by kernel_rfl) ⟨(by kernel_rfl),trivial⟩ (by decide) (by kernel_rfl))
theorem kit_IsKey_ok {s_1:ByteArray} {r:Bool} (hF:kit_IsKey s_1=some r) :
  FnM Try.prog 36 [(vS s_1)] [] (vB r) []:=by
 refine FnM.of_wH ⟨Try.prog,48,[],[]⟩ rfl Try.func36 rfl rfl (Nat.le_of_ble_eq_true rfl) (by kernel_rfl) ?_
 unfold kit_IsKey at hF
 refine wH_sr (h_opz (vB false) (h_nil (wH_seq (wH_sr (h_opz (vI 0) (h_nil ?_))))))
 obtain ⟨o_10,hj_11,hF⟩:=bind_some hF
 obtain ⟨nq_33,hj_11⟩:=loopO_iter hj_11
 refine wH_loopI0 (fun (s_7:Int) => [(0,(vS s_1))]) (fun (s_7:Int) => []) (fun (k_2:Nat)=>(fun (s_7:Int) => [(0,(vS s_1)),(3,(vI s_7))])) (fun s=>kit_IsKey_L1 s_1 s) o_10 nq_33 0 hj_11 rfl (pre_r rfl) ?_ ?_
 ·rintro ⟨k_2,s_7⟩ hL_9
  dsimp only at hL_9
  cases k_2 with
  | zero=>cases hL_9
  | succ k_2 =>
   obtain ⟨c_,hc_8,hL_9⟩:=bind_some hL_9
   unfold kit_IsKey_L1 at hc_8
   refine wH_seq (wH_sr (h_opz (vI s_7) (h_opz (vS s_1) (h_lens un9 rfl wz (h_opz (vB (decide (s_7 < (s_1.size:Int)))) (h_nil ?_))))))
   rcases cond_some hc_8 with⟨hc_12,hc_8⟩ | ⟨hc_12,hc_8⟩
   ·refine wH_ift rfl hc_12 (wH_skip (wH_seq (wH_block (wH_sr (h_opz (vS s_1) (h_opz (vI s_7) ?_))))))
    obtain ⟨b_13,hy_14,hc_8⟩:=bind_some hc_8
    refine h_idxs un9 rfl rfl hy_14 wz (h_opz (.d (.int .u8 (b_13.toNat:Int))) (h_nil (wH_seq ?_)))
    obtain ⟨v_15,h_16,hc_8⟩:=bind_some hc_8
    refine wH_joinU [(0,(vS s_1)),(3,(vI s_7)),(40,(vB v_15))] [] ?_ ?_
    ·refine wH_region (h_opz (.d (.int .u8 (b_13.toNat:Int))) (h_opz (vB (decide ((b_13.toNat:Int)≥97))) ?_))
     rcases cond_some h_16 with⟨hc_17,h_16⟩ | ⟨hc_17,h_16⟩
     ·refine h_movb rfl hc_17 wz (h_op (.d (.int .u8 (b_13.toNat:Int))) wa rfl (h_op (vB (decide ((b_13.toNat:Int)≤122))) wa rfl (h_opz (vB (decide ((b_13.toNat:Int)≤122))) ?_)))
      rcases cond_some h_16 with⟨hc_18,h_16⟩ | ⟨hc_18,h_16⟩
      ·refine h_movb rfl hc_18 wz (h_skipz (h_skipz (h_skipz (h_skip (wn rfl rfl) (h_skip (wn rfl rfl) (h_skip (wn rfl rfl) (h_skip (wn rfl rfl) (h_skip (wn rfl rfl) (h_skip (wn rfl rfl) (h_skip (wn rfl rfl) (h_skip (wn rfl rfl) (h_skip (wn rfl rfl) (h_skip (wn rfl rfl) (h_skip (wn rfl rfl) (h_skip (wn rfl rfl) (h_skip (wn rfl rfl) (h_skip (wn rfl rfl) (h_skipz (h_opz (vB true) (h_opz (vB false) (h_nil ?_)))))))))))))))))))))
       obtain rfl:=some_inj h_16
       exact cu
      ·refine h_movb rfl hc_18 wz (h_op (vI s_7) wa rfl (h_op (vB (decide (s_7 > 0))) wa rfl ?_))
       rcases cond_some h_16 with⟨hc_19,h_16⟩ | ⟨hc_19,h_16⟩
       ·refine h_movb rfl hc_19 wa (h_op (.d (.int .u8 (b_13.toNat:Int))) wa rfl (h_op (vB (decide ((b_13.toNat:Int)≥48))) wa rfl ?_))
        rcases cond_some h_16 with⟨hc_20,h_16⟩ | ⟨hc_20,h_16⟩
        ·refine h_movb rfl hc_20 wa (h_op (.d (.int .u8 (b_13.toNat:Int))) wa rfl (h_op (vB (decide ((b_13.toNat:Int)≤57))) wa rfl (h_op (vB (decide ((b_13.toNat:Int)≤57))) wa rfl ?_)))
         rcases cond_some h_16 with⟨hc_21,h_16⟩ | ⟨hc_21,h_16⟩
         ·refine h_movb rfl hc_21 wa (h_skipz (h_skipz (h_op (vB true) wa rfl (h_op (vB true) wa rfl (h_skipz (h_skipz (h_op (vB true) wa rfl (h_op (vB true) wa rfl (h_opz (vB true) (h_opz (vB false) (h_nil ?_)))))))))))
          obtain rfl:=some_inj h_16
          exact cu
         ·refine h_movb rfl hc_21 wa (h_op (.d (.int .u8 (b_13.toNat:Int))) wa rfl (h_op (vB ((b_13.toNat:Int) == 45)) wa rfl (h_op (vB ((b_13.toNat:Int) == 45)) wa rfl ?_)))
          rcases cond_some h_16 with⟨hc_22,h_16⟩ | ⟨hc_22,h_16⟩
          ·refine h_movb rfl hc_22 wa (h_skipz (h_skipz (h_op (vB true) wa rfl (h_op (vB true) wa rfl (h_opz (vB true) (h_opz (vB false) (h_nil ?_)))))))
           obtain rfl:=some_inj h_16
           exact cu
          ·refine h_movb rfl hc_22 wa (h_op (.d (.int .u8 (b_13.toNat:Int))) wa rfl (h_op (vB ((b_13.toNat:Int) == 95)) wa rfl (h_op (vB ((b_13.toNat:Int) == 95)) wa rfl (h_op (vB ((b_13.toNat:Int) == 95)) wa rfl (h_opz (vB ((b_13.toNat:Int) == 95)) (h_opz (vB (!((b_13.toNat:Int) == 95))) (h_nil ?_)))))))
           obtain rfl:=some_inj h_16
           exact cu
        ·refine h_movb rfl hc_20 wa (h_skipz (h_skipz (h_op (vB false) wa rfl (h_op (vB false) wa rfl (h_op (.d (.int .u8 (b_13.toNat:Int))) wa rfl (h_op (vB ((b_13.toNat:Int) == 45)) wa rfl (h_op (vB ((b_13.toNat:Int) == 45)) wa rfl ?_)))))))
         rcases cond_some h_16 with⟨hc_23,h_16⟩ | ⟨hc_23,h_16⟩
         ·refine h_movb rfl hc_23 wa (h_skipz (h_skipz (h_op (vB true) wa rfl (h_op (vB true) wa rfl (h_opz (vB true) (h_opz (vB false) (h_nil ?_)))))))
          obtain rfl:=some_inj h_16
          exact cu
         ·refine h_movb rfl hc_23 wa (h_op (.d (.int .u8 (b_13.toNat:Int))) wa rfl (h_op (vB ((b_13.toNat:Int) == 95)) wa rfl (h_op (vB ((b_13.toNat:Int) == 95)) wa rfl (h_op (vB ((b_13.toNat:Int) == 95)) wa rfl (h_opz (vB ((b_13.toNat:Int) == 95)) (h_opz (vB (!((b_13.toNat:Int) == 95))) (h_nil ?_)))))))
          obtain rfl:=some_inj h_16
          exact cu
       ·refine h_movb rfl hc_19 wa (h_skipz (h_skipz (h_skipz (h_skip (wn rfl rfl) (h_skip (wn rfl rfl) (h_skipz (h_skipz (h_skip (wn rfl rfl) (h_skip (wn rfl rfl) (h_skipz (h_skipz (h_skip (wn rfl rfl) (h_skip (wn rfl rfl) (h_skipz (h_op (vB false) wa rfl (h_opz (vB false) (h_opz (vB true) (h_nil ?_))))))))))))))))))
        obtain rfl:=some_inj h_16
        exact cu
     ·refine h_movb rfl hc_17 wz (h_skipz (h_skipz (h_opz (vB false) (h_opz (vB false) (h_op (vI s_7) wa rfl (h_op (vB (decide (s_7 > 0))) wa rfl ?_))))))
      rcases cond_some h_16 with⟨hc_24,h_16⟩ | ⟨hc_24,h_16⟩
      ·refine h_movb rfl hc_24 wa (h_op (.d (.int .u8 (b_13.toNat:Int))) wa rfl (h_op (vB (decide ((b_13.toNat:Int)≥48))) wa rfl ?_))
       rcases cond_some h_16 with⟨hc_25,h_16⟩ | ⟨hc_25,h_16⟩
       ·refine h_movb rfl hc_25 wa (h_op (.d (.int .u8 (b_13.toNat:Int))) wa rfl (h_op (vB (decide ((b_13.toNat:Int)≤57))) wa rfl (h_op (vB (decide ((b_13.toNat:Int)≤57))) wa rfl ?_)))
        rcases cond_some h_16 with⟨hc_26,h_16⟩ | ⟨hc_26,h_16⟩
        ·refine h_movb rfl hc_26 wa (h_skipz (h_skipz (h_op (vB true) wa rfl (h_op (vB true) wa rfl (h_skipz (h_skipz (h_op (vB true) wa rfl (h_op (vB true) wa rfl (h_opz (vB true) (h_opz (vB false) (h_nil ?_)))))))))))
         obtain rfl:=some_inj h_16
         exact cu
        ·refine h_movb rfl hc_26 wa (h_op (.d (.int .u8 (b_13.toNat:Int))) wa rfl (h_op (vB ((b_13.toNat:Int) == 45)) wa rfl (h_op (vB ((b_13.toNat:Int) == 45)) wa rfl ?_)))
         rcases cond_some h_16 with⟨hc_27,h_16⟩ | ⟨hc_27,h_16⟩
         ·refine h_movb rfl hc_27 wa (h_skipz (h_skipz (h_op (vB true) wa rfl (h_op (vB true) wa rfl (h_opz (vB true) (h_opz (vB false) (h_nil ?_)))))))
          obtain rfl:=some_inj h_16
          exact cu
         ·refine h_movb rfl hc_27 wa (h_op (.d (.int .u8 (b_13.toNat:Int))) wa rfl (h_op (vB ((b_13.toNat:Int) == 95)) wa rfl (h_op (vB ((b_13.toNat:Int) == 95)) wa rfl (h_op (vB ((b_13.toNat:Int) == 95)) wa rfl (h_opz (vB ((b_13.toNat:Int) == 95)) (h_opz (vB (!((b_13.toNat:Int) == 95))) (h_nil ?_)))))))
          obtain rfl:=some_inj h_16
          exact cu
       ·refine h_movb rfl hc_25 wa (h_skipz (h_skipz (h_op (vB false) wa rfl (h_op (vB false) wa rfl (h_op (.d (.int .u8 (b_13.toNat:Int))) wa rfl (h_op (vB ((b_13.toNat:Int) == 45)) wa rfl (h_op (vB ((b_13.toNat:Int) == 45)) wa rfl ?_)))))))
        rcases cond_some h_16 with⟨hc_28,h_16⟩ | ⟨hc_28,h_16⟩
        ·refine h_movb rfl hc_28 wa (h_skipz (h_skipz (h_op (vB true) wa rfl (h_op (vB true) wa rfl (h_opz (vB true) (h_opz (vB false) (h_nil ?_)))))))
         obtain rfl:=some_inj h_16
         exact cu
        ·refine h_movb rfl hc_28 wa (h_op (.d (.int .u8 (b_13.toNat:Int))) wa rfl (h_op (vB ((b_13.toNat:Int) == 95)) wa rfl (h_op (vB ((b_13.toNat:Int) == 95)) wa rfl (h_op (vB ((b_13.toNat:Int) == 95)) wa rfl (h_opz (vB ((b_13.toNat:Int) == 95)) (h_opz (vB (!((b_13.toNat:Int) == 95))) (h_nil ?_)))))))
         obtain rfl:=some_inj h_16
         exact cu
      ·refine h_movb rfl hc_24 wa (h_skipz (h_skipz (h_skipz (h_skip (wn rfl rfl) (h_skip (wn rfl rfl) (h_skipz (h_skipz (h_skip (wn rfl rfl) (h_skip (wn rfl rfl) (h_skipz (h_skipz (h_skip (wn rfl rfl) (h_skip (wn rfl rfl) (h_skipz (h_op (vB false) wa rfl (h_opz (vB false) (h_opz (vB true) (h_nil ?_))))))))))))))))))
       obtain rfl:=some_inj h_16
       exact cu
    ·rintro ⟨⟩ _ sl_ H_ hp_ hq_
     refine wH_at _ hp_ hq_ ?_
     rcases cond_some hc_8 with⟨hc_29,hc_8⟩ | ⟨hc_29,hc_8⟩
     ·refine wH_ift rfl hc_29 (wH_sr (h_opz (vB false) (h_nil ?_)))
      obtain rfl:=some_inj hc_8
      obtain rfl:=some_inj hL_9
      obtain rfl:=some_inj hF
      exact wH_ret (fin0r [(vB false)] ⟨rfl,trivial⟩)
     ·refine wH_iff rfl hc_29 (wH_skip (wH_region (h_opz (vI s_7) (h_opz (vI (w64 (s_7 + 1))) (h_opz (vI (w64 (s_7 + 1))) (h_nil ?_))))))
      obtain rfl:=some_inj hc_8
      exact loop_mk (k_2,(w64 (s_7 + 1))) hL_9 (Nat.lt_succ_self _) rfl (pre_r rfl)
   ·refine wH_iff rfl hc_12 (wH_exit ?_)
    obtain rfl:=some_inj hc_8
    obtain rfl:=some_inj hL_9
    exact cut_mk (s_7) rfl rfl (pre_r rfl)
 ·rintro s_7 ho_ sl_ H_ hp_ hq_
  subst ho_
  refine wH_at _ hp_ hq_ (wH_seq ?_)
  obtain ⟨v_30,h_31,hF⟩:=bind_some hF
  refine wH_joinU [(2,(vB v_30))] [] ?_ ?_
  ·refine wH_region (h_opz (vS s_1) (h_opz (vB (sNe s_1 (⟨#[]⟩:ByteArray))) ?_))
   rcases cond_some h_31 with⟨hc_32,h_31⟩ | ⟨hc_32,h_31⟩
   ·refine h_movb rfl hc_32 wz (h_op (vS s_1) wa rfl (h_lens un9 rfl wa (h_op (vB (decide ((s_1.size:Int)≤40))) wa rfl (h_opz (vB (decide ((s_1.size:Int)≤40))) (h_opz (vB (decide ((s_1.size:Int)≤40))) (h_nil ?_))))))
    obtain rfl:=some_inj h_31
    exact cu
   ·refine h_movb rfl hc_32 wz (h_skipz (h_skipz (h_skipz (h_opz (vB false) (h_opz (vB false) (h_nil ?_))))))
    obtain rfl:=some_inj h_31
    exact cu
  ·rintro ⟨⟩ _ sl_ H_ hp_ hq_
   refine wH_at _ hp_ hq_ ?_
   obtain rfl:=some_inj hF
   exact wH_ret (fin0r [(vB v_30)] ⟨rfl,trivial⟩)
theorem kit_IsMoment_ok {n_1:Int} {r:Bool} (hF:kit_IsMoment n_1=some r) :
  FnM Try.prog 40 [(vI n_1)] [] (vB r) []:=by
 refine FnM.of_wH ⟨Try.prog,9,[],[]⟩ rfl Try.func40 rfl rfl (Nat.le_of_ble_eq_true rfl) (by kernel_rfl) ?_
 unfold kit_IsMoment at hF
 refine wH_sr (h_opz (vB false) (h_nil (wH_seq ?_)))
 obtain ⟨v_2,h_3,hF⟩:=bind_some hF
 refine wH_joinU [(2,(vB v_2))] [] ?_ ?_
 ·refine wH_region (h_opz (vI n_1) (h_opz (vB (decide (n_1≥0))) ?_))
  rcases cond_some h_3 with⟨hc_4,h_3⟩ | ⟨hc_4,h_3⟩
  ·refine h_movb rfl hc_4 wz (h_op (vI n_1) wa rfl (h_op (vB (decide (n_1 < 345686400000))) wa rfl (h_opz (vB (decide (n_1 < 345686400000))) (h_opz (vB (decide (n_1 < 345686400000))) (h_nil ?_)))))
   obtain rfl:=some_inj h_3
   exact cu
  ·refine h_movb rfl hc_4 wz (h_skipz (h_skipz (h_opz (vB false) (h_opz (vB false) (h_nil ?_)))))
   obtain rfl:=some_inj h_3
   exact cu
 ·rintro ⟨⟩ _ sl_ H_ hp_ hq_
  refine wH_at _ hp_ hq_ ?_
  obtain rfl:=some_inj hF
  exact wH_ret (fin0r [(vB v_2)] ⟨rfl,trivial⟩)
theorem kit_Outside_ok {n_1:Int} {low_2:Int} {high_3:Int} {r:Bool} (hF:kit_Outside n_1 low_2 high_3=some r) :
  FnM Try.prog 29 [(vI n_1),(vI low_2),(vI high_3)] [] (vB r) []:=by
 refine FnM.of_wH ⟨Try.prog,15,[],[]⟩ rfl Try.func29 rfl rfl (Nat.le_of_ble_eq_true rfl) (by kernel_rfl) ?_
 unfold kit_Outside at hF
 refine wH_sr (h_opz (vB false) (h_nil (wH_seq ?_)))
 obtain ⟨v_4,h_5,hF⟩:=bind_some hF
 refine wH_joinU [(6,(vB v_4))] [] ?_ ?_
 ·refine wH_region (h_opz (vI n_1) (h_opz (vI low_2) (h_opz (vB (decide (n_1 < low_2))) ?_)))
  rcases cond_some h_5 with⟨hc_6,h_5⟩ | ⟨hc_6,h_5⟩
  ·refine h_movb rfl hc_6 wz (h_skipz (h_skipz (h_skipz (h_opz (vB true) (h_opz (vB true) (h_nil ?_))))))
   obtain rfl:=some_inj h_5
   exact cu
  ·refine h_movb rfl hc_6 wz (h_op (vI n_1) wa rfl (h_op (vI high_3) wa rfl (h_op (vB (decide (n_1 > high_3))) wa rfl (h_opz (vB (decide (n_1 > high_3))) (h_opz (vB (decide (n_1 > high_3))) (h_nil ?_))))))
   obtain rfl:=some_inj h_5
   exact cu
 ·rintro ⟨⟩ _ sl_ H_ hp_ hq_
  refine wH_at _ hp_ hq_ ?_
  obtain rfl:=some_inj hF
  exact wH_ret (fin0r [(vB v_4)] ⟨rfl,trivial⟩)
theorem internal_bytealg_CompareString_ok {a_1:ByteArray} {b_2:ByteArray} {r:Int} (hF:internal_bytealg_CompareString a_1 b_2=some r) :
  FnM Try.prog 58 [(vS a_1),(vS b_2)] [] (vI r) []:=by
 refine FnM.of_wH ⟨Try.prog,8,[],[]⟩ rfl Try.func58 rfl rfl (Nat.le_of_ble_eq_true rfl) (by kernel_rfl) ?_
 unfold internal_bytealg_CompareString at hF
 refine wH_sr (h_opz (vI 0) (h_nil (wH_sr (h_opz (vS a_1) (h_opz (vS b_2) (h_ext (ext_cmpB (f:=76) Try.func76 rfl rfl (by kernel_rfl) (by kernel_rfl) _ _) rfl nb76 rfl wz (h_opz (vI (cmpB a_1 b_2)) (h_nil ?_))))))))
 obtain rfl:=some_inj hF
 exact wH_ret (fin0r [(vI (cmpB a_1 b_2))] ⟨rfl,trivial⟩)
theorem strings_Compare_ok {a_1:ByteArray} {b_2:ByteArray} {r:Int} (hF:strings_Compare a_1 b_2=some r) :
  FnM Try.prog 34 [(vS a_1),(vS b_2)] [] (vI r) []:=by
 refine FnM.of_wH ⟨Try.prog,8,[],[]⟩ rfl Try.func34 rfl rfl (Nat.le_of_ble_eq_true rfl) (by kernel_rfl) ?_
 unfold strings_Compare at hF
 refine wH_sr (h_opz (vI 0) (h_nil (wH_sr (h_opz (vS a_1) (h_opz (vS b_2) ?_)))))
 obtain ⟨r_3,hr_4,hF⟩:=bind_some hF
 refine h_call0 (internal_bytealg_CompareString_ok hr_4) rfl hb58 rfl rfl rfl rfl wz (h_opz (vI r_3) (h_nil ?_))
 obtain rfl:=some_inj hF
 exact wH_ret (fin0r [(vI r_3)] ⟨rfl,trivial⟩)
theorem cmp_isNaN_int_ok {x_1:Int} {r:Bool} (hF:cmp_isNaN_int x_1=some r) :
  FnM Try.prog 59 [(vI x_1)] [] (vB r) []:=by
 refine FnM.of_wH ⟨Try.prog,6,[],[]⟩ rfl Try.func59 rfl rfl (Nat.le_of_ble_eq_true rfl) (by kernel_rfl) ?_
 unfold cmp_isNaN_int at hF
 refine wH_sr (h_opz (vB false) (h_nil (wH_sr (h_opz (vI x_1) (h_opz (vI x_1) (h_opz (vB (x_1 != x_1)) (h_opz (vB (x_1 != x_1)) (h_nil ?_))))))))
 obtain rfl:=some_inj hF
 exact wH_ret (fin0r [(vB (x_1 != x_1))] ⟨rfl,trivial⟩)
theorem cmp_Compare_int_ok {x_1:Int} {y_2:Int} {r:Int} (hF:cmp_Compare_int x_1 y_2=some r) :
  FnM Try.prog 35 [(vI x_1),(vI y_2)] [] (vI r) []:=by
 refine FnM.of_wH ⟨Try.prog,20,[],[]⟩ rfl Try.func35 rfl rfl (Nat.le_of_ble_eq_true rfl) (by kernel_rfl) ?_
 unfold cmp_Compare_int at hF
 refine wH_sr (h_opz (vI 0) (h_nil (wH_sr (h_opz (vI x_1) ?_))))
 obtain ⟨r_3,hr_4,hF⟩:=bind_some hF
 refine h_call0 (cmp_isNaN_int_ok hr_4) rfl hb59 rfl rfl rfl rfl wz (h_opz (vB r_3) (h_nil (wH_sr (h_opz (vI y_2) ?_))))
 obtain ⟨r_5,hr_6,hF⟩:=bind_some hF
 refine h_call0 (cmp_isNaN_int_ok hr_6) rfl hb59 rfl rfl rfl rfl wz (h_opz (vB r_5) (h_nil (wH_seq (wH_sr (h_opz (vB r_3) (h_nil ?_))))))
 rcases cond_some hF with⟨hc_7,hF⟩ | ⟨hc_7,hF⟩
 ·refine wH_ift rfl hc_7 (wH_seq (wH_sr (h_opz (vB r_5) (h_nil ?_))))
  rcases cond_some hF with⟨hc_8,hF⟩ | ⟨hc_8,hF⟩
  ·refine wH_ift rfl hc_8 (wH_sr (h_opz (vI 0) (h_nil ?_)))
   obtain rfl:=some_inj hF
   exact wH_ret (fin0r [(vI 0)] ⟨rfl,trivial⟩)
  ·refine wH_iff rfl hc_8 (wH_skip (wH_sr (h_opz (vI (-1)) (h_nil ?_))))
   obtain rfl:=some_inj hF
   exact wH_ret (fin0r [(vI (-1))] ⟨rfl,trivial⟩)
 ·refine wH_iff rfl hc_7 (wH_skip (wH_seq (wH_sr (h_opz (vB r_5) (h_nil ?_)))))
  rcases cond_some hF with⟨hc_9,hF⟩ | ⟨hc_9,hF⟩
  ·refine wH_ift rfl hc_9 (wH_sr (h_opz (vI 1) (h_nil ?_)))
   obtain rfl:=some_inj hF
   exact wH_ret (fin0r [(vI 1)] ⟨rfl,trivial⟩)
  ·refine wH_iff rfl hc_9 (wH_skip (wH_seq (wH_sr (h_opz (vI x_1) (h_opz (vI y_2) (h_opz (vB (decide (x_1 < y_2))) (h_nil ?_)))))))
   rcases cond_some hF with⟨hc_10,hF⟩ | ⟨hc_10,hF⟩
   ·refine wH_ift rfl hc_10 (wH_sr (h_opz (vI (-1)) (h_nil ?_)))
    obtain rfl:=some_inj hF
    exact wH_ret (fin0r [(vI (-1))] ⟨rfl,trivial⟩)
   ·refine wH_iff rfl hc_10 (wH_skip (wH_seq (wH_sr (h_opz (vI x_1) (h_opz (vI y_2) (h_opz (vB (decide (x_1 > y_2))) (h_nil ?_)))))))
    rcases cond_some hF with⟨hc_11,hF⟩ | ⟨hc_11,hF⟩
    ·refine wH_ift rfl hc_11 (wH_sr (h_opz (vI 1) (h_nil ?_)))
     obtain rfl:=some_inj hF
     exact wH_ret (fin0r [(vI 1)] ⟨rfl,trivial⟩)
    ·refine wH_iff rfl hc_11 (wH_skip (wH_sr (h_opz (vI 0) (h_nil ?_))))
     obtain rfl:=some_inj hF
     exact wH_ret (fin0r [(vI 0)] ⟨rfl,trivial⟩)
theorem cmp_Or_int_ok {vals_1:(List Int)} {r:Int} (hF:cmp_Or_int vals_1=some r) :
  FnM Try.prog 33 [(vL eI vals_1)] [] (vI r) []:=by
 refine FnM.of_wH ⟨Try.prog,18,[],[]⟩ rfl Try.func33 rfl rfl (Nat.le_of_ble_eq_true rfl) (by kernel_rfl) ?_
 unfold cmp_Or_int at hF
 refine wH_sr (h_opz (vI 0) (h_nil (wH_sr (h_opz (vI 0) (h_nil (wH_seq (wH_sr (h_opz (vL eI vals_1) (h_len un22 rfl wz (h_opz (vI 0) (h_nil ?_)))))))))))
 obtain ⟨o_10,hj_11,hF⟩:=bind_some hF
 obtain ⟨hn_6,hj_11⟩:=forL_some hj_11
 refine wH_loopF0 (fun (s_7:Unit) => [(3,(vI 0))]) (fun (s_7:Unit) => []) (fun (k_2:Nat)=>(fun (s_7:Unit) => [(3,(vI 0)),(6,(vL eI vals_1)),(7,(vI (vals_1.length:Int))),(8,(vI (k_2:Int)))])) (fun k x s=>cmp_Or_int_L1 k x s) o_10 vals_1 () hj_11 rfl (pre_r rfl) ?_ ?_
 ·rintro ⟨k_2,l_3,s_7⟩ ⟨hL_9,hD_5⟩
  dsimp only at hL_9 hD_5
  cases l_3 with
  | nil =>
   obtain rfl:=some_inj hL_9
   refine wH_sr (h_opz (vB (decide ((k_2:Int) < (vals_1.length:Int)))) (h_nil ?_))
   refine wH_seq (wH_iff rfl (drop_nil hD_5) (wH_exit ?_))
   exact cut_mk (s_7) rfl rfl (pre_r rfl)
  | cons x_4 l_3 =>
   obtain ⟨c_,hc_8,hL_9⟩:=bind_some hL_9
   refine wH_sr (h_opz (vB (decide ((k_2:Int) < (vals_1.length:Int)))) (h_nil ?_))
   refine wH_seq (wH_ift rfl (drop_cons hD_5) (wH_skip ?_))
   unfold cmp_Or_int_L1 at hc_8
   refine wH_seq (wH_block (wH_sr (h_ia es22 rfl rfl (drop_idx hD_5) rfl wz (h_ldc sz3 ag3 rfl (vI x_4) rfl wz (h_opz (vI x_4) (h_nil (wH_sr (h_opz (vI x_4) (h_opz (vI 0) (h_opz (vB (x_4 != 0)) (h_nil ?_)))))))))))
   rcases cond_some hc_8 with⟨hc_12,hc_8⟩ | ⟨hc_12,hc_8⟩
   ·refine wH_ift rfl hc_12 (wH_sr (h_opz (vI x_4) (h_opz (vI x_4) (h_nil ?_))))
    obtain rfl:=some_inj hc_8
    obtain rfl:=some_inj hL_9
    obtain rfl:=some_inj hF
    exact wH_ret (fin0r [(vI x_4)] ⟨rfl,trivial⟩)
   ·refine wH_iff rfl hc_12 (wH_skip (wH_region (h_opw (w64_next hD_5 hn_6) wz rfl (h_opz (vI ((k_2 + 1:Nat):Int)) (h_nil ?_)))))
    obtain rfl:=some_inj hc_8
    exact loop_mk (k_2 + 1,l_3,()) ⟨hL_9,drop_next hD_5⟩ (Nat.lt_succ_self _) rfl (pre_r rfl)
 ·rintro s_7 ho_ sl_ H_ hp_ hq_
  subst ho_
  refine wH_at _ hp_ hq_ (wH_sr (h_opz (vI 0) (h_opz (vI 0) (h_nil ?_))))
  obtain rfl:=some_inj hF
  exact wH_ret (fin0r [(vI 0)] ⟨rfl,trivial⟩)
theorem proof_comparePlays_ok {a_1:Play} {b_2:Play} {r:Int} (hF:proof_comparePlays a_1 b_2=some r) :
  FnM Try.prog 41 [(.d (.agg (Play.enc a_1))),(.d (.agg (Play.enc b_2)))] [] (vI r) []:=by
 refine FnM.of_wH ⟨Try.prog,17,[],[]⟩ rfl Try.func41 rfl rfl (Nat.le_of_ble_eq_true rfl) (by kernel_rfl) ?_
 unfold proof_comparePlays at hF
 refine wH_sr (h_box 0 (.inl rfl) (Play.v a_1) rfl rfl wz (fun n_3=>h_box 0 (.inl rfl) (Play.v b_2) rfl rfl wz (fun n_4=>h_opz (vI 0) (h_nil (wH_seq (wH_draws (h_far pl65_0 rfl 0 rfl wz (h_ldr 1 0 (.inr (by kernel_rfl)) (fun _ _ ag=>trivial) sz9 ag9 rfl rfl (vS a_1.Player) rfl wz (h_far pl65_0 rfl 0 rfl wz (h_ldr 3 1 (.inr (by kernel_rfl)) (fun _ _ ag=>⟨.inl ⟨rfl,rfl⟩,trivial⟩) sz9 ag9 rfl rfl (vS b_2.Player) rfl wz ?_))))))))))
 obtain ⟨r_5,hr_6,hF⟩:=bind_some hF
 refine h_call0 (strings_Compare_ok hr_6) rfl hb34 rfl rfl rfl rfl wz (h_far pl65_2 rfl 2 rfl wz (h_ldr 6 0 (.inr (by kernel_rfl)) (fun _ _ ag=>⟨.inl ⟨rfl,rfl⟩,⟨.inl ⟨rfl,rfl⟩,trivial⟩⟩) sz3 ag3 rfl rfl (vI a_1.At) rfl wz (h_far pl65_2 rfl 2 rfl wz (h_ldr 8 1 (.inr (by kernel_rfl)) (fun _ _ ag=>⟨.inl ⟨rfl,rfl⟩,⟨.inl ⟨rfl,rfl⟩,⟨.inl ⟨rfl,rfl⟩,trivial⟩⟩⟩) sz3 ag3 rfl rfl (vI b_2.At) rfl wz ?_))))
 obtain ⟨r_7,hr_8,hF⟩:=bind_some hF
 refine h_call0 (cmp_Compare_int_ok hr_8) rfl hb35 rfl rfl rfl rfl wz (h_lit (([r_5,r_7]:List Int).map eI) es22 ez22 rfl rfl rfl rfl rfl wz ?_)
 obtain ⟨r_9,hr_10,hF⟩:=bind_some hF
 refine h_call0 (cmp_Or_int_ok hr_10) rfl hb33 rfl rfl rfl rfl wz (h_opz (vI r_9) (h_nil ?_))
 obtain rfl:=some_inj hF
 exact wH_ret (fin0r [(vI r_9)] ⟨rfl,trivial⟩)
theorem proof_CheckPlays_ok {l_1:(List Play)} {r:Int} (hF:proof_CheckPlays l_1=some r) :
  FnM Try.prog 13 [(vL Play.enc l_1)] [] (vI r) []:=by
 refine FnM.of_wH ⟨Try.prog,50,[],[]⟩ rfl Try.func13 rfl rfl (Nat.le_of_ble_eq_true rfl) (by kernel_rfl) ?_
 unfold proof_CheckPlays at hF
 refine wH_sr (h_opz (vI 0) (h_nil (wH_seq (wH_sr (h_opz (vL Play.enc l_1) (h_len un26 rfl wz (h_opz (vB (decide ((l_1.length:Int) > 3000))) (h_nil ?_))))))))
 rcases cond_some hF with⟨hc_2,hF⟩ | ⟨hc_2,hF⟩
 ·refine wH_ift rfl hc_2 (wH_sr (h_opz (vI 2) (h_nil ?_)))
  obtain rfl:=some_inj hF
  exact wH_ret (fin0r [(vI 2)] ⟨rfl,trivial⟩)
 ·refine wH_iff rfl hc_2 (wH_skip (wH_seq (wH_sr (h_opz (vL Play.enc l_1) (h_len un26 rfl wz (h_opz (vI 0) (h_nil ?_)))))))
  obtain ⟨o_11,hj_12,hF⟩:=bind_some hF
  obtain ⟨hn_7,hj_12⟩:=forL_some hj_12
  refine wH_loopF0 (fun (s_8:Unit) => []) (fun (s_8:Unit) => []) (fun (k_3:Nat)=>(fun (s_8:Unit) => [(0,(vL Play.enc l_1)),(8,(vL Play.enc l_1)),(9,(vI (l_1.length:Int))),(10,(vI (k_3:Int)))])) (fun k x s=>proof_CheckPlays_L1 l_1 k x s) o_11 l_1 () hj_12 rfl (pre_r rfl) ?_ ?_
  ·rintro ⟨k_3,l_4,s_8⟩ ⟨hL_10,hD_6⟩
   dsimp only at hL_10 hD_6
   cases l_4 with
   | nil =>
    obtain rfl:=some_inj hL_10
    refine wH_sr (h_opz (vB (decide ((k_3:Int) < (l_1.length:Int)))) (h_nil ?_))
    refine wH_seq (wH_iff rfl (drop_nil hD_6) (wH_exit ?_))
    exact cut_mk (s_8) rfl rfl (pre_r rfl)
   | cons x_5 l_4 =>
    obtain ⟨c_,hc_9,hL_10⟩:=bind_some hL_10
    refine wH_sr (h_opz (vB (decide ((k_3:Int) < (l_1.length:Int)))) (h_nil ?_))
    refine wH_seq (wH_ift rfl (drop_cons hD_6) (wH_skip ?_))
    unfold proof_CheckPlays_L1 at hc_9
    refine wH_seq (wH_block (wH_sr (h_opz (vI (k_3:Int)) (h_ia es26 rfl rfl (drop_idx hD_6) rfl wz (h_ldc sz65 ag65 rfl (.d (.agg (Play.enc x_5))) rfl wz (h_alloc 0 (.inl rfl) z65 rfl wz (fun n_13=>h_opz (vI (k_3:Int)) (h_str 0 il ft 0 sz65 rfl rfl (Play.v x_5) rfl wz (h_nil (wH_block (wH_seq ?_)))))))))))
    obtain ⟨v_14,h_15,hc_9⟩:=bind_some hc_9
    refine wH_joinU [(0,(vL Play.enc l_1)),(3,(vI (k_3:Int))),(4,(.ref n_13 0 0)),(8,(vL Play.enc l_1)),(9,(vI (l_1.length:Int))),(10,(vI (k_3:Int))),(15,(vB v_14))] [(n_13,some (.cells 4 (Play.v x_5)))] ?_ ?_
    ·refine wH_region (h_far pl65_0 rfl 0 rfl wz (h_ldr 0 0 il ft sz9 ag9 rfl rfl (vS x_5.Player) rfl wz ?_))
     obtain ⟨r_16,hr_17,h_15⟩:=bind_some h_15
     refine h_call0 (kit_IsKey_ok hr_17) rfl hb36 rfl rfl rfl rfl wz (h_opz (vB (!r_16)) ?_)
     rcases cond_some h_15 with⟨hc_18,h_15⟩ | ⟨hc_18,h_15⟩
     ·refine h_movb rfl hc_18 wz (h_skipz (h_skipz (h_skipz (h_skipz (h_opz (vB true) (h_opz (vB true) (h_nil ?_)))))))
      obtain rfl:=some_inj h_15
      exact cu
     ·refine h_movb rfl hc_18 wz (h_far pl65_1 rfl 1 rfl wa (h_ldr 0 0 il ft sz9 ag9 rfl rfl (vS x_5.Item) rfl wa ?_))
      obtain ⟨r_19,hr_20,h_15⟩:=bind_some h_15
      refine h_call0 (kit_IsKey_ok hr_20) rfl hb36 rfl rfl rfl rfl wa (h_op (vB (!r_19)) wa rfl (h_opz (vB (!r_19)) (h_opz (vB (!r_19)) (h_nil ?_))))
      obtain rfl:=some_inj h_15
      exact cu
    ·rintro ⟨⟩ _ sl_ H_ hp_ hq_
     refine wH_at _ hp_ hq_ ?_
     rcases cond_some hc_9 with⟨hc_21,hc_9⟩ | ⟨hc_21,hc_9⟩
     ·refine wH_ift rfl hc_21 (wH_sr (h_opz (vI 5) (h_nil ?_)))
      obtain rfl:=some_inj hc_9
      obtain rfl:=some_inj hL_10
      obtain rfl:=some_inj hF
      exact wH_ret (fin0r [(vI 5)] ⟨rfl,trivial⟩)
     ·refine wH_iff rfl hc_21 (wH_seq ?_)
      obtain ⟨v_22,h_23,hc_9⟩:=bind_some hc_9
      refine wH_joinU [(0,(vL Play.enc l_1)),(3,(vI (k_3:Int))),(4,(.ref n_13 0 0)),(8,(vL Play.enc l_1)),(9,(vI (l_1.length:Int))),(10,(vI (k_3:Int))),(26,(vB v_22))] [(n_13,some (.cells 4 (Play.v x_5)))] ?_ ?_
      ·refine wH_region (h_far pl65_2 rfl 2 rfl wz (h_ldr 0 0 il ft sz3 ag3 rfl rfl (vI x_5.At) rfl wz ?_))
       obtain ⟨r_24,hr_25,h_23⟩:=bind_some h_23
       refine h_call0 (kit_IsMoment_ok hr_25) rfl hb40 rfl rfl rfl rfl wz (h_opz (vB (!r_24)) ?_)
       rcases cond_some h_23 with⟨hc_26,h_23⟩ | ⟨hc_26,h_23⟩
       ·refine h_movb rfl hc_26 wz (h_skipz (h_skipz (h_skipz (h_opz (vB true) (h_opz (vB true) (h_nil ?_))))))
        obtain rfl:=some_inj h_23
        exact cu
       ·refine h_movb rfl hc_26 wz (h_far pl65_3 rfl 3 rfl wa (h_ldr 0 0 il ft sz3 ag3 rfl rfl (vI x_5.Long) rfl wa ?_))
        obtain ⟨r_27,hr_28,h_23⟩:=bind_some h_23
        refine h_call0 (kit_Outside_ok hr_28) rfl hb29 rfl rfl rfl rfl wa (h_opz (vB r_27) (h_opz (vB r_27) (h_nil ?_)))
        obtain rfl:=some_inj h_23
        exact cu
      ·rintro ⟨⟩ _ sl_ H_ hp_ hq_
       refine wH_at _ hp_ hq_ ?_
       rcases cond_some hc_9 with⟨hc_29,hc_9⟩ | ⟨hc_29,hc_9⟩
       ·refine wH_ift rfl hc_29 (wH_sr (h_opz (vI 1) (h_nil ?_)))
        obtain rfl:=some_inj hc_9
        obtain rfl:=some_inj hL_10
        obtain rfl:=some_inj hF
        exact wH_ret (fin0r [(vI 1)] ⟨rfl,trivial⟩)
       ·refine wH_iff rfl hc_29 (wH_seq ?_)
        obtain ⟨v_30,h_31,hc_9⟩:=bind_some hc_9
        refine wH_joinU [(0,(vL Play.enc l_1)),(8,(vL Play.enc l_1)),(9,(vI (l_1.length:Int))),(10,(vI (k_3:Int))),(36,(vB v_30))] [(n_13,some (.cells 4 (Play.v x_5)))] ?_ ?_
        ·refine wH_draws (h_opz (vI (k_3:Int)) (h_opz (vB (decide ((k_3:Int) > 0))) ?_))
         rcases cond_some h_31 with⟨hc_32,h_31⟩ | ⟨hc_32,h_31⟩
         ·refine h_movb rfl hc_32 wz (h_op (vL Play.enc l_1) wa rfl (h_op (vI (k_3:Int)) wa rfl (h_op (vI (w64 ((k_3:Int) - 1))) wa rfl ?_)))
          obtain ⟨y_33,hy_34,h_31⟩:=bind_some h_31
          refine h_ia es26 rfl rfl hy_34 rfl wa (h_ldc sz65 ag65 rfl (.d (.agg (Play.enc y_33))) rfl wa (h_ldr 8 0 (.inr (by kernel_rfl)) (fun _ _ ag=>trivial) sz65 ag65 rfl rfl (.d (.agg (Play.enc x_5))) rfl wa ?_))
          obtain ⟨r_35,hr_36,h_31⟩:=bind_some h_31
          refine h_call0 (proof_comparePlays_ok hr_36) rfl hb41 rfl rfl rfl rfl wa (h_op (vB (decide (r_35≥0))) wa rfl (h_opz (vB (decide (r_35≥0))) (h_opz (vB (decide (r_35≥0))) (h_nil ?_))))
          obtain rfl:=some_inj h_31
          exact cu
         ·refine h_movb rfl hc_32 wz (h_skipz (h_skipz (h_skipz (h_skipz (h_skipz (h_skipz (h_skipz (h_skipz (h_opz (vB false) (h_opz (vB false) (h_nil ?_)))))))))))
          obtain rfl:=some_inj h_31
          exact cu
        ·rintro ⟨⟩ _ sl_ H_ hp_ hq_
         refine wH_at _ hp_ hq_ ?_
         rcases cond_some hc_9 with⟨hc_37,hc_9⟩ | ⟨hc_37,hc_9⟩
         ·refine wH_ift rfl hc_37 (wH_sr (h_opz (vI 7) (h_nil ?_)))
          obtain rfl:=some_inj hc_9
          obtain rfl:=some_inj hL_10
          obtain rfl:=some_inj hF
          exact wH_ret (fin0r [(vI 7)] ⟨rfl,trivial⟩)
         ·refine wH_iff rfl hc_37 (wH_skip (wH_region (h_opw (w64_next hD_6 hn_7) wz rfl (h_opz (vI ((k_3 + 1:Nat):Int)) (h_nil ?_)))))
          obtain rfl:=some_inj hc_9
          exact loop_mk (k_3 + 1,l_4,()) ⟨hL_10,drop_next hD_6⟩ (Nat.lt_succ_self _) rfl (pre_r rfl)
  ·rintro s_8 ho_ sl_ H_ hp_ hq_
   subst ho_
   refine wH_at _ hp_ hq_ (wH_sr (h_opz (vI 0) (h_nil ?_)))
   obtain rfl:=some_inj hF
   exact wH_ret (fin0r [(vI 0)] ⟨rfl,trivial⟩)
theorem proof_dayOf_ok {atv_1:Int} {zone_2:Int} {r:Int} (hF:proof_dayOf atv_1 zone_2=some r) :
  FnM Try.prog 30 [(vI atv_1),(vI zone_2)] [] (vI r) []:=by
 refine FnM.of_wH ⟨Try.prog,12,[],[]⟩ rfl Try.func30 rfl rfl (Nat.le_of_ble_eq_true rfl) (by kernel_rfl) ?_
 unfold proof_dayOf at hF
 refine wH_sr (h_opz (vI 0) (h_nil (wH_sr (h_opz (vI atv_1) (h_opz (vI zone_2) (h_opz (vI (w64 (zone_2 * 60000))) (h_opz (vI (w64 (atv_1 + (w64 (zone_2 * 60000))))) (h_opz (vI (w64 ((w64 (atv_1 + (w64 (zone_2 * 60000)))) + 86400000))) (h_opz (vI (w64 ((w64 ((w64 (atv_1 + (w64 (zone_2 * 60000)))) + 86400000)).tdiv 86400000))) (h_opz (vI (w64 ((w64 ((w64 ((w64 (atv_1 + (w64 (zone_2 * 60000)))) + 86400000)).tdiv 86400000)) - 1))) (h_opz (vI (w64 ((w64 ((w64 ((w64 (atv_1 + (w64 (zone_2 * 60000)))) + 86400000)).tdiv 86400000)) - 1))) (h_nil ?_))))))))))))
 obtain rfl:=some_inj hF
 exact wH_ret (fin0r [(vI (w64 ((w64 ((w64 ((w64 (atv_1 + (w64 (zone_2 * 60000)))) + 86400000)).tdiv 86400000)) - 1)))] ⟨rfl,trivial⟩)
theorem proof_Counts_1_ok {a_1:Tally} {b_2:Tally} {r:Int} (hF:proof_Counts_1 a_1 b_2=some r) :
  FnM Try.prog 32 [(.d (.agg (Tally.enc a_1))),(.d (.agg (Tally.enc b_2)))] [] (vI r) []:=by
 refine FnM.of_wH ⟨Try.prog,22,[],[]⟩ rfl Try.func32 rfl rfl (Nat.le_of_ble_eq_true rfl) (by kernel_rfl) ?_
 unfold proof_Counts_1 at hF
 refine wH_sr (h_box 0 (.inl rfl) (Tally.v a_1) rfl rfl wz (fun n_3=>h_box 0 (.inl rfl) (Tally.v b_2) rfl rfl wz (fun n_4=>h_opz (vI 0) (h_nil (wH_seq (wH_draws (h_far pl55_0 rfl 0 rfl wz (h_ldr 1 0 (.inr (by kernel_rfl)) (fun _ _ ag=>trivial) sz9 ag9 rfl rfl (vS a_1.Player) rfl wz (h_far pl55_0 rfl 0 rfl wz (h_ldr 3 1 (.inr (by kernel_rfl)) (fun _ _ ag=>⟨.inl ⟨rfl,rfl⟩,trivial⟩) sz9 ag9 rfl rfl (vS b_2.Player) rfl wz ?_))))))))))
 obtain ⟨r_5,hr_6,hF⟩:=bind_some hF
 refine h_call0 (strings_Compare_ok hr_6) rfl hb34 rfl rfl rfl rfl wz (h_far pl55_1 rfl 1 rfl wz (h_ldr 6 0 (.inr (by kernel_rfl)) (fun _ _ ag=>⟨.inl ⟨rfl,rfl⟩,⟨.inl ⟨rfl,rfl⟩,trivial⟩⟩) sz9 ag9 rfl rfl (vS a_1.Item) rfl wz (h_far pl55_1 rfl 1 rfl wz (h_ldr 8 1 (.inr (by kernel_rfl)) (fun _ _ ag=>⟨.inl ⟨rfl,rfl⟩,⟨.inl ⟨rfl,rfl⟩,⟨.inl ⟨rfl,rfl⟩,trivial⟩⟩⟩) sz9 ag9 rfl rfl (vS b_2.Item) rfl wz ?_))))
 obtain ⟨r_7,hr_8,hF⟩:=bind_some hF
 refine h_call0 (strings_Compare_ok hr_8) rfl hb34 rfl rfl rfl rfl wz (h_far pl55_2 rfl 2 rfl wz (h_ldr 11 0 (.inr (by kernel_rfl)) (fun _ _ ag=>⟨.inl ⟨rfl,rfl⟩,⟨.inl ⟨rfl,rfl⟩,⟨.inl ⟨rfl,rfl⟩,⟨.inl ⟨rfl,rfl⟩,trivial⟩⟩⟩⟩) sz3 ag3 rfl rfl (vI a_1.Day) rfl wz (h_far pl55_2 rfl 2 rfl wz (h_ldr 13 1 (.inr (by kernel_rfl)) (fun _ _ ag=>⟨.inl ⟨rfl,rfl⟩,⟨.inl ⟨rfl,rfl⟩,⟨.inl ⟨rfl,rfl⟩,⟨.inl ⟨rfl,rfl⟩,⟨.inl ⟨rfl,rfl⟩,trivial⟩⟩⟩⟩⟩) sz3 ag3 rfl rfl (vI b_2.Day) rfl wz ?_))))
 obtain ⟨r_9,hr_10,hF⟩:=bind_some hF
 refine h_call0 (cmp_Compare_int_ok hr_10) rfl hb35 rfl rfl rfl rfl wz (h_lit (([r_5,r_7,r_9]:List Int).map eI) es22 ez22 rfl rfl rfl rfl rfl wz ?_)
 obtain ⟨r_11,hr_12,hF⟩:=bind_some hF
 refine h_call0 (cmp_Or_int_ok hr_12) rfl hb33 rfl rfl rfl rfl wz (h_opz (vI r_11) (h_nil ?_))
 obtain rfl:=some_inj hF
 exact wH_ret (fin0r [(vI r_11)] ⟨rfl,trivial⟩)
theorem math_bits_Len64_ok {x_1:Int} {r:Int} (hF:math_bits_Len64 x_1=some r) :
  FnM Try.prog 75 [(.d (.int .u64 x_1))] [] (vI r) []:=by
 refine FnM.of_wH ⟨Try.prog,25,[],[]⟩ rfl Try.func75 rfl rfl (Nat.le_of_ble_eq_true rfl) (by kernel_rfl) ?_
 unfold math_bits_Len64 at hF
 refine wH_sr (h_opz (vI 0) (h_nil (wH_seq (wH_sr (h_opz (.d (.int .u64 x_1)) (h_opz (vB (decide (x_1≥4294967296))) (h_nil ?_)))))))
 obtain ⟨v_2,h_3,hF⟩:=bind_some hF
 refine wH_joinU [(0,(.d (.int .u64 v_2.1))),(2,(vI v_2.2))] [] ?_ ?_
 ·rcases cond_some h_3 with⟨hc_4,h_3⟩ | ⟨hc_4,h_3⟩
  ·refine wH_ift rfl hc_4 (wH_sr (h_opz (.d (.int .u64 x_1)) ?_))
   obtain ⟨q_5,hz_6,h_3⟩:=bind_some h_3
   refine h_shr rfl rfl hz_6 wz (h_opz (.d (.int .u64 q_5)) (h_nil (wH_region (h_opz (vI 32) (h_nil ?_)))))
   obtain rfl:=some_inj h_3
   exact cu
  ·refine wH_iff rfl hc_4 (wH_skip ?_)
   obtain rfl:=some_inj h_3
   exact cu
 ·rintro ⟨⟩ _ sl_ H_ hp_ hq_
  refine wH_at _ hp_ hq_ (wH_seq (wH_sr (h_opz (.d (.int .u64 v_2.1)) (h_opz (vB (decide (v_2.1≥65536))) (h_nil ?_)))))
  obtain ⟨v_7,h_8,hF⟩:=bind_some hF
  refine wH_joinU [(0,(.d (.int .u64 v_7.1))),(2,(vI v_7.2))] [] ?_ ?_
  ·rcases cond_some h_8 with⟨hc_9,h_8⟩ | ⟨hc_9,h_8⟩
   ·refine wH_ift rfl hc_9 (wH_sr (h_opz (.d (.int .u64 v_2.1)) ?_))
    obtain ⟨q_10,hz_11,h_8⟩:=bind_some h_8
    refine h_shr rfl rfl hz_11 wz (h_opz (.d (.int .u64 q_10)) (h_nil (wH_region (h_opz (vI v_2.2) (h_opz (vI (w64 (v_2.2 + 16))) (h_opz (vI (w64 (v_2.2 + 16))) (h_nil ?_)))))))
    obtain rfl:=some_inj h_8
    exact cu
   ·refine wH_iff rfl hc_9 (wH_skip ?_)
    obtain rfl:=some_inj h_8
    exact cu
  ·rintro ⟨⟩ _ sl_ H_ hp_ hq_
   refine wH_at _ hp_ hq_ (wH_seq (wH_sr (h_opz (.d (.int .u64 v_7.1)) (h_opz (vB (decide (v_7.1≥256))) (h_nil ?_)))))
   obtain ⟨v_12,h_13,hF⟩:=bind_some hF
   refine wH_joinU [(0,(.d (.int .u64 v_12.1))),(2,(vI v_12.2))] [] ?_ ?_
   ·rcases cond_some h_13 with⟨hc_14,h_13⟩ | ⟨hc_14,h_13⟩
    ·refine wH_ift rfl hc_14 (wH_sr (h_opz (.d (.int .u64 v_7.1)) ?_))
     obtain ⟨q_15,hz_16,h_13⟩:=bind_some h_13
     refine h_shr rfl rfl hz_16 wz (h_opz (.d (.int .u64 q_15)) (h_nil (wH_region (h_opz (vI v_7.2) (h_opz (vI (w64 (v_7.2 + 8))) (h_opz (vI (w64 (v_7.2 + 8))) (h_nil ?_)))))))
     obtain rfl:=some_inj h_13
     exact cu
    ·refine wH_iff rfl hc_14 (wH_skip ?_)
     obtain rfl:=some_inj h_13
     exact cu
   ·rintro ⟨⟩ _ sl_ H_ hp_ hq_
    refine wH_at _ hp_ hq_ (wH_sr (h_opz (vI v_12.2) (h_opz (.d (.int .u64 v_12.1)) (h_conv un108 un5 rfl wz ?_))))
    obtain ⟨b_17,hy_18,hF⟩:=bind_some hF
    refine h_idxs un9 rfl rfl hy_18 wz (h_conv un5 un3 rfl wz (h_opz (vI (w64 (v_12.2 + (w64 (b_17.toNat:Int))))) (h_opz (vI (w64 (v_12.2 + (w64 (b_17.toNat:Int))))) (h_nil ?_))))
    obtain rfl:=some_inj hF
    exact wH_ret (fin0r [(vI (w64 (v_12.2 + (w64 (b_17.toNat:Int)))))] ⟨rfl,trivial⟩)
theorem math_bits_Len_ok {x_1:Int} {r:Int} (hF:math_bits_Len x_1=some r) :
  FnM Try.prog 57 [(.d (.int .u64 x_1))] [] (vI r) []:=by
 refine FnM.of_wH ⟨Try.prog,8,[],[]⟩ rfl Try.func57 rfl rfl (Nat.le_of_ble_eq_true rfl) (by kernel_rfl) ?_
 unfold math_bits_Len at hF
 refine wH_sr (h_opz (vI 0) (h_nil (wH_seq (wH_iff rfl rfl (wH_skip (wH_sr (h_opz (.d (.int .u64 x_1)) ?_)))))))
 obtain ⟨r_2,hr_3,hF⟩:=bind_some hF
 refine h_call0 (math_bits_Len64_ok hr_3) rfl hb75 rfl rfl rfl rfl wz (h_opz (vI r_2) (h_nil ?_))
 obtain rfl:=some_inj hF
 exact wH_ret (fin0r [(vI r_2)] ⟨rfl,trivial⟩)
theorem slices_insertionSortCmpFunc_api_Tally_v1_ok {data_1:(List Tally)} {a_2:Int} {b_3:Int} {r:(List Tally)} (hF:slices_insertionSortCmpFunc_api_Tally_v1 data_1 a_2 b_3=some r) :
  FnM Try.prog 66 [(dV (extN 0) 5 data_1),(vI a_2),(vI b_3),(.fn 32 [])] (([]:List Box)++gI 5 Tally.enc data_1) (.tup []) (([]:List Box).map some++gT data_1 (gB 5 Tally.enc r)):=by
 refine FnM.of_wHv ⟨Try.prog,53,[],[]⟩ rfl Try.func66 rfl rfl (Nat.le_of_ble_eq_true rfl) (by kernel_rfl) ?_
 unfold slices_insertionSortCmpFunc_api_Tally_v1 at hF
 refine wH_sr (h_opz (vI a_2) (h_opz (vI (w64 (a_2 + 1))) (h_opz (vI (w64 (a_2 + 1))) (h_nil ?_))))
 obtain ⟨o_13,hj_14,hF⟩:=bind_some hF
 obtain ⟨nq_51,hj_14⟩:=loopO_iter hj_14
 refine wH_loopI0 (fun (s_10:(List Tally)×Int) => []) (fun (s_10:(List Tally)×Int) => [((extN 0),gB 5 Tally.enc s_10.1)]) (fun (k_5:Nat)=>(fun (s_10:(List Tally)×Int) => [(0,(dV (extN 0) 5 s_10.1)),(1,(vI a_2)),(2,(vI b_3)),(3,(.fn 32 [])),(8,(vI s_10.2))])) (fun s=>slices_insertionSortCmpFunc_api_Tally_v1_L2 b_3 a_2 s) o_13 nq_51 (data_1,(w64 (a_2 + 1))) hj_14 rfl (pre_r rfl) ?_ ?_
 ·rintro ⟨k_5,s_10⟩ hL_12
  dsimp only at hL_12
  cases k_5 with
  | zero=>cases hL_12
  | succ k_5 =>
   obtain ⟨c_,hc_11,hL_12⟩:=bind_some hL_12
   unfold slices_insertionSortCmpFunc_api_Tally_v1_L2 at hc_11
   refine wH_seq (wH_sr (h_opz (vI s_10.2) (h_opz (vI b_3) (h_opz (vB (decide (s_10.2 < b_3))) (h_nil ?_)))))
   rcases cond_some hc_11 with⟨hc_15,hc_11⟩ | ⟨hc_15,hc_11⟩
   ·refine wH_ift rfl hc_15 (wH_skip (wH_seq (wH_block (wH_sr (h_opz (vI s_10.2) (h_opz (vI s_10.2) (h_nil ?_)))))))
    obtain ⟨o_24,hj_25,hc_11⟩:=bind_some hc_11
    obtain ⟨nq_50,hj_25⟩:=loopO_iter hj_25
    refine wH_loopI0 (fun (s_21:(List Tally)×Int) => [(0,(dV (extN 0) 5 s_21.1)),(1,(vI a_2)),(2,(vI b_3)),(3,(.fn 32 [])),(8,(vI s_10.2))]) (fun (s_21:(List Tally)×Int) => [((extN 0),gB 5 Tally.enc s_21.1)]) (fun (k_16:Nat)=>(fun (s_21:(List Tally)×Int) => [(0,(dV (extN 0) 5 s_21.1)),(1,(vI a_2)),(2,(vI b_3)),(3,(.fn 32 [])),(8,(vI s_10.2)),(9,(vI s_21.2))])) (fun s=>slices_insertionSortCmpFunc_api_Tally_v1_L1 a_2 s) o_24 nq_50 (s_10.1,s_10.2) hj_25 rfl (pre_r rfl) ?_ ?_
    ·rintro ⟨k_16,s_21⟩ hL_23
     dsimp only at hL_23
     cases k_16 with
     | zero=>cases hL_23
     | succ k_16 =>
      obtain ⟨c_,hc_22,hL_23⟩:=bind_some hL_23
      unfold slices_insertionSortCmpFunc_api_Tally_v1_L1 at hc_22
      refine wH_seq (wH_seq ?_)
      obtain ⟨v_26,h_27,hc_22⟩:=bind_some hc_22
      refine wH_joinU [(0,(dV (extN 0) 5 s_21.1)),(1,(vI a_2)),(2,(vI b_3)),(3,(.fn 32 [])),(8,(vI s_10.2)),(9,(vI s_21.2)),(34,(vB v_26))] [((extN 0),gB 5 Tally.enc s_21.1)] ?_ ?_
      ·refine wH_draws (h_opz (vI s_21.2) (h_opz (vI a_2) (h_opz (vB (decide (s_21.2 > a_2))) ?_)))
       rcases cond_some h_27 with⟨hc_28,h_27⟩ | ⟨hc_28,h_27⟩
       ·refine h_movb rfl hc_28 wz (h_op (.fn 32 []) wa rfl (h_op (dV (extN 0) 5 s_21.1) wa rfl (h_op (vI s_21.2) wa rfl ?_)))
        obtain ⟨_,hi_29,h_27⟩:=bind_some h_27
        refine h_iavd es34 rfl rfl (inR_0 hi_29) (inR_lt hi_29) wa ?_
        obtain ⟨e_30,hy_31,h_27⟩:=bind_some h_27
        refine h_ldvg 8 0 (.inr (by kernel_rfl)) (fun _ _ ag=>trivial) sz55 ag55 rfl rfl hy_31 (.d (.agg (Tally.enc e_30))) rfl wa (h_op (dV (extN 0) 5 s_21.1) wa rfl (h_op (vI s_21.2) wa rfl (h_op (vI (w64 (s_21.2 - 1))) wa rfl ?_)))
        obtain ⟨_,hi_32,h_27⟩:=bind_some h_27
        refine h_iavd es34 rfl rfl (inR_0 hi_32) (inR_lt hi_32) wa ?_
        obtain ⟨e_33,hy_34,h_27⟩:=bind_some h_27
        refine h_ldvg 13 0 (.inr (by kernel_rfl)) (fun _ _ ag=>⟨.inl ⟨rfl,rfl⟩,trivial⟩) sz55 ag55 rfl rfl hy_34 (.d (.agg (Tally.enc e_33))) rfl wa ?_
        obtain ⟨r_35,hr_36,h_27⟩:=bind_some h_27
        refine h_call0 (proof_Counts_1_ok hr_36) rfl hb32 rfl rfl rfl rfl wa (h_op (vB (decide (r_35 < 0))) wa rfl (h_opz (vB (decide (r_35 < 0))) (h_nil ?_)))
        obtain rfl:=some_inj h_27
        exact cu
       ·refine h_movb rfl hc_28 wz (h_skipz (h_skipz (h_skipz (h_skipz (h_skipz (h_skipz (h_skipz (h_skipz (h_skipz (h_skipz (h_skipz (h_skipz (h_opz (vB false) (h_nil ?_))))))))))))))
        obtain rfl:=some_inj h_27
        exact cu
      ·rintro ⟨⟩ _ sl_ H_ hp_ hq_
       refine wH_at _ hp_ hq_ ?_
       rcases cond_some hc_22 with⟨hc_37,hc_22⟩ | ⟨hc_37,hc_22⟩
       ·refine wH_ift rfl hc_37 (wH_skip (wH_seq (wH_block (wH_draws (h_opz (dV (extN 0) 5 s_21.1) (h_opz (vI s_21.2) (h_opz (dV (extN 0) 5 s_21.1) (h_opz (vI s_21.2) (h_opz (vI (w64 (s_21.2 - 1))) (h_opz (dV (extN 0) 5 s_21.1) (h_opz (vI s_21.2) (h_opz (vI (w64 (s_21.2 - 1))) ?_))))))))))))
        obtain ⟨_,hi_38,hc_22⟩:=bind_some hc_22
        refine h_iavd es34 rfl rfl (inR_0 hi_38) (inR_lt hi_38) wz ?_
        obtain ⟨e_39,hy_40,hc_22⟩:=bind_some hc_22
        refine h_ldvg 9 0 (.inr (by kernel_rfl)) (fun _ _ ag=>trivial) sz55 ag55 rfl rfl hy_40 (.d (.agg (Tally.enc e_39))) rfl wz (h_opz (dV (extN 0) 5 s_21.1) (h_opz (vI s_21.2) ?_))
        obtain ⟨_,hi_41,hc_22⟩:=bind_some hc_22
        refine h_iavd es34 rfl rfl (inR_0 hi_41) (inR_lt hi_41) wz ?_
        obtain ⟨e_42,hy_43,hc_22⟩:=bind_some hc_22
        refine h_ldvg 13 0 (.inr (by kernel_rfl)) (fun _ _ ag=>⟨.inl ⟨rfl,rfl⟩,trivial⟩) sz55 ag55 rfl rfl hy_43 (.d (.agg (Tally.enc e_42))) rfl wz ?_
        obtain ⟨_,hi_44,hc_22⟩:=bind_some hc_22
        refine h_iavd es34 rfl rfl (inR_0 hi_44) (inR_lt hi_44) wz ?_
        obtain ⟨e_45,hy_46,hc_22⟩:=bind_some hc_22
        refine h_stvg 15 (.inr (by kernel_rfl)) (fun _ _ ag=>⟨.inr (.inr (by kernel_rfl)),⟨.inr (.inr (by kernel_rfl)),trivial⟩⟩) 0 sz55 rfl rfl hy_46 e_39 rfl wz (h_re (v':=(dV (extN 0) 5 (s_21.1.set (0 + (s_21.2).toNat) e_39))) 0 rfl (dV_len (by simp)) (h_re (v':=(dV (extN 0) 5 (s_21.1.set (0 + (s_21.2).toNat) e_39))) 37 rfl (dV_len (by simp)) (h_re (v':=(dV (extN 0) 5 (s_21.1.set (0 + (s_21.2).toNat) e_39))) 39 rfl (dV_len (by simp)) (h_re (v':=(dV (extN 0) 5 (s_21.1.set (0 + (s_21.2).toNat) e_39))) 42 rfl (dV_len (by simp)) (h_re (v':=(dV (extN 0) 5 (s_21.1.set (0 + (s_21.2).toNat) e_39))) 47 rfl (dV_len (by simp)) ?_)))))
        obtain ⟨_,hi_47,hc_22⟩:=bind_some hc_22
        refine h_iavd es34 rfl rfl (inR_0 hi_47) (inR_lt hi_47) wz ?_
        obtain ⟨e_48,hy_49,hc_22⟩:=bind_some hc_22
        refine h_stvg 17 (.inr (by kernel_rfl)) (fun _ _ ag=>⟨.inr (.inr (by kernel_rfl)),⟨.inr (.inr (by kernel_rfl)),⟨.inr (.inr (by kernel_rfl)),trivial⟩⟩⟩) 0 sz55 rfl rfl hy_49 e_42 rfl wz (h_re (v':=(dV (extN 0) 5 ((s_21.1.set (0 + (s_21.2).toNat) e_39).set (0 + ((w64 (s_21.2 - 1))).toNat) e_42))) 0 rfl (dV_len (by simp)) (h_re (v':=(dV (extN 0) 5 ((s_21.1.set (0 + (s_21.2).toNat) e_39).set (0 + ((w64 (s_21.2 - 1))).toNat) e_42))) 37 rfl (dV_len (by simp)) (h_re (v':=(dV (extN 0) 5 ((s_21.1.set (0 + (s_21.2).toNat) e_39).set (0 + ((w64 (s_21.2 - 1))).toNat) e_42))) 39 rfl (dV_len (by simp)) (h_re (v':=(dV (extN 0) 5 ((s_21.1.set (0 + (s_21.2).toNat) e_39).set (0 + ((w64 (s_21.2 - 1))).toNat) e_42))) 42 rfl (dV_len (by simp)) (h_re (v':=(dV (extN 0) 5 ((s_21.1.set (0 + (s_21.2).toNat) e_39).set (0 + ((w64 (s_21.2 - 1))).toNat) e_42))) 47 rfl (dV_len (by simp)) (h_nil (wH_region (h_opz (vI s_21.2) (h_opz (vI (w64 (s_21.2 - 1))) (h_opz (vI (w64 (s_21.2 - 1))) (h_nil ?_)))))))))))
        obtain rfl:=some_inj hc_22
        exact loop_mk (k_16,(((s_21.1.set (0 + (s_21.2).toNat) e_39).set (0 + ((w64 (s_21.2 - 1))).toNat) e_42),(w64 (s_21.2 - 1)))) hL_23 (Nat.lt_succ_self _) rfl (pre_r rfl)
       ·refine wH_iff rfl hc_37 (wH_exit ?_)
        obtain rfl:=some_inj hc_22
        obtain rfl:=some_inj hL_23
        exact cut_mk ((s_21.1,s_21.2)) rfl rfl (pre_r rfl)
    ·rintro s_21 ho_ sl_ H_ hp_ hq_
     subst ho_
     refine wH_at _ hp_ hq_ (wH_region (h_opz (vI s_10.2) (h_opz (vI (w64 (s_10.2 + 1))) (h_opz (vI (w64 (s_10.2 + 1))) (h_nil ?_)))))
     obtain rfl:=some_inj hc_11
     exact loop_mk (k_5,(s_21.1,(w64 (s_10.2 + 1)))) hL_12 (Nat.lt_succ_self _) rfl (pre_r rfl)
   ·refine wH_iff rfl hc_15 (wH_exit ?_)
    obtain rfl:=some_inj hc_11
    obtain rfl:=some_inj hL_12
    exact cut_mk ((s_10.1,s_10.2)) rfl rfl (pre_r rfl)
 ·rintro s_10 ho_ sl_ H_ hp_ hq_
  subst ho_
  show finH _ _ _ _ _ _ _ _
  obtain rfl:=some_inj hF
  exact finH_at (H0:=([((extN 0),gB 5 Tally.enc s_10.1)]:Hp)) (sl':=envS []) hq_ (finV (bs:=([]:List Box)) (os:=([]:List Box)) (xs:=data_1) (o:=gB 5 Tally.enc s_10.1) (.inl rfl) [] trivial rfl rfl rfl rfl rfl (by kernel_rfl) gB_ok rfl)
theorem slices_pdqsortCmpFunc_api_Tally_v1_ok {data_1:(List Tally)} {a_2:Int} {b_3:Int} {limit_4:Int} {r:(List Tally)} (hF:slices_pdqsortCmpFunc_api_Tally_v1 data_1 a_2 b_3 limit_4=some r) :
  FnM Try.prog 56 [(dV (extN 0) 5 data_1),(vI a_2),(vI b_3),(vI limit_4),(.fn 32 [])] (([]:List Box)++gI 5 Tally.enc data_1) (.tup []) (([]:List Box).map some++gT data_1 (gB 5 Tally.enc r)):=by
 refine FnM.of_wHv ⟨Try.prog,148,[],[]⟩ rfl Try.func56 rfl rfl (Nat.le_of_ble_eq_true rfl) (by kernel_rfl) ?_
 unfold slices_pdqsortCmpFunc_api_Tally_v1 at hF
 refine wH_sr (h_opz (vB true) (h_nil (wH_sr (h_opz (vB true) (h_nil ?_)))))
 obtain ⟨o_14,hj_15,hF⟩:=bind_some hF
 obtain ⟨nq_21,hj_15⟩:=loopO_iter hj_15
 refine wH_loopI0 (fun (s_11:Unit) => []) (fun (s_11:Unit) => [((extN 0),gB 5 Tally.enc data_1)]) (fun (k_6:Nat)=>(fun (s_11:Unit) => [(0,(dV (extN 0) 5 data_1)),(1,(vI a_2)),(2,(vI b_3)),(3,(vI limit_4)),(4,(.fn 32 [])),(10,(vB true)),(11,(vB true))])) (fun s=>slices_pdqsortCmpFunc_api_Tally_v1_L1 b_3 a_2 data_1 limit_4 s) o_14 nq_21 () hj_15 rfl (pre_r rfl) ?_ ?_
 ·rintro ⟨k_6,s_11⟩ hL_13
  dsimp only at hL_13
  cases k_6 with
  | zero=>cases hL_13
  | succ k_6 =>
   obtain ⟨c_,hc_12,hL_13⟩:=bind_some hL_13
   unfold slices_pdqsortCmpFunc_api_Tally_v1_L1 at hc_12
   refine wH_block (wH_sr (h_opz (vI b_3) (h_opz (vI a_2) (h_opz (vI (w64 (b_3 - a_2))) (h_opz (vI (w64 (b_3 - a_2))) (h_nil (wH_seq (wH_sr (h_opz (vI (w64 (b_3 - a_2))) (h_opz (vB (decide ((w64 (b_3 - a_2))≤12))) (h_nil ?_)))))))))))
   rcases cond_some hc_12 with⟨hc_16,hc_12⟩ | ⟨hc_16,hc_12⟩
   ·refine wH_ift rfl hc_16 (wH_sr (h_opz (dV (extN 0) 5 data_1) (h_opz (vI a_2) (h_opz (vI b_3) (h_opz (.fn 32 []) ?_)))))
    obtain ⟨r_17,hr_18,hc_12⟩:=bind_some hc_12
    obtain ⟨_,hs_19,hc_12⟩:=bind_some hc_12
    replace hs_19:=sameL_eq hs_19
    refine h_callv 0 [] 0 0 il ft (slices_insertionSortCmpFunc_api_Tally_v1_ok hr_18) rfl hb66 rfl rfl rfl (by kernel_rfl) rfl (.inr (.inl rfl)) rfl (by kernel_rfl) (by kernel_rfl) (by kernel_rfl) (by kernel_rfl) rfl (by decide) (by kernel_rfl) gB_ok (gB_ho hs_19) wz ([((extN 0),gB 5 Tally.enc r_17)]:Hp) (by kernel_rfl) (h_re (v':=(dV (extN 0) 5 r_17)) 0 rfl (dV_len hs_19.symm) (h_re (v':=(dV (extN 0) 5 r_17)) 26 rfl (dV_len hs_19.symm) (h_nil ?_)))
    obtain rfl:=some_inj hc_12
    obtain rfl:=some_inj hL_13
    obtain rfl:=some_inj hF
    exact wH_ret (finV (bs:=([]:List Box)) (os:=([]:List Box)) (xs:=data_1) (o:=gB 5 Tally.enc r_17) (.inr rfl) [] trivial rfl rfl rfl rfl rfl (by kernel_rfl) gB_ok rfl)
   ·refine wH_iff rfl hc_16 (wH_skip (wH_seq (wH_sr (h_opz (vI limit_4) (h_opz (vB (limit_4 == 0)) (h_nil ?_))))))
    rcases cond_some hc_12 with⟨hc_20,hc_12⟩ | ⟨hc_20,hc_12⟩
    ·refine wH_ift rfl hc_20 (wH_sr (h_opz (dV (extN 0) 5 data_1) (h_opz (vI a_2) (h_opz (vI b_3) (h_opz (.fn 32 []) ?_)))))
     cases hc_12
    ·refine wH_iff rfl hc_20 (wH_skip (wH_seq (wH_sr (h_opz (vB true) (h_opz (vB false) (h_nil (wH_iff rfl rfl (wH_skip (wH_sr (h_opz (dV (extN 0) 5 data_1) (h_opz (vI a_2) (h_opz (vI b_3) (h_opz (.fn 32 []) ?_)))))))))))))
     cases hc_12
 ·rintro s_11 ho_ sl_ H_ hp_ hq_
  subst ho_
  show finH _ _ _ _ _ _ _ _
  obtain rfl:=some_inj hF
  exact finH_at (H0:=([((extN 0),gB 5 Tally.enc data_1)]:Hp)) (sl':=envS []) hq_ (finV (bs:=([]:List Box)) (os:=([]:List Box)) (xs:=data_1) (o:=gB 5 Tally.enc data_1) (.inl rfl) [] trivial rfl rfl rfl rfl rfl (by kernel_rfl) gB_ok rfl)
theorem slices_SortFunc_api_Tally_api_Tally_v1_ok {x_1:(List Tally)} {r:(List Tally)} (hF:slices_SortFunc_api_Tally_api_Tally_v1 x_1=some r) :
  FnM Try.prog 31 [(dV (extN 0) 5 x_1),(.fn 32 [])] (([]:List Box)++gI 5 Tally.enc x_1) (.tup []) (([]:List Box).map some++gT x_1 (gB 5 Tally.enc r)):=by
 refine FnM.of_wHv ⟨Try.prog,14,[],[]⟩ rfl Try.func31 rfl rfl (Nat.le_of_ble_eq_true rfl) (by kernel_rfl) ?_
 unfold slices_SortFunc_api_Tally_api_Tally_v1 at hF
 refine wH_sr (h_opz (dV (extN 0) 5 x_1) (h_lend un34 rfl wz (h_opz (vI (x_1.length:Int)) (h_nil (wH_region (h_opz (dV (extN 0) 5 x_1) (h_opz (vI (x_1.length:Int)) (h_opz (vI (x_1.length:Int)) (h_conv un3 un92 rfl wz ?_)))))))))
 obtain ⟨r_3,hr_4,hF⟩:=bind_some hF
 refine h_call0 (math_bits_Len_ok hr_4) rfl hb57 rfl rfl rfl rfl wz (h_opz (.fn 32 []) ?_)
 obtain ⟨r_5,hr_6,hF⟩:=bind_some hF
 obtain ⟨_,hs_7,hF⟩:=bind_some hF
 replace hs_7:=sameL_eq hs_7
 refine h_callv 0 [] 0 0 il ft (slices_pdqsortCmpFunc_api_Tally_v1_ok hr_6) rfl hb56 rfl rfl rfl (by kernel_rfl) rfl (.inr (.inl rfl)) rfl (by kernel_rfl) (by kernel_rfl) (by kernel_rfl) (by kernel_rfl) rfl (by decide) (by kernel_rfl) gB_ok (gB_ho hs_7) wz ([((extN 0),gB 5 Tally.enc r_5)]:Hp) (by kernel_rfl) (h_re (v':=(dV (extN 0) 5 r_5)) 0 rfl (dV_len hs_7.symm) (h_re (v':=(dV (extN 0) 5 r_5)) 5 rfl (dV_len hs_7.symm) (h_re (v':=(dV (extN 0) 5 r_5)) 7 rfl (dV_len hs_7.symm) (h_nil ?_))))
 show finH _ _ _ _ _ _ _ _
 obtain rfl:=some_inj hF
 exact finV (bs:=([]:List Box)) (os:=([]:List Box)) (xs:=x_1) (o:=gB 5 Tally.enc r_5) (.inl rfl) [] trivial rfl rfl rfl rfl rfl (by kernel_rfl) gB_ok rfl
end Go.Proofs.Ythcdokkcamcnmab.Law

