/-
 The machine computes these plain functions (written by a program of ours).
-/
import Derived.Test.YtipjpkpmkijdoabFacts
import Derived.Test.YtipjpkpmkijdoabDefs
open Go Go.Eng Go.Proofs
namespace Go.Proofs.Ytipjpkpmkijdoab.Law
set_option maxRecDepth 100000
set_option linter.unusedVariables false
set_option maxHeartbeats 1000000
theorem mk_Below_ok {x_1:Int} {n_2:Int} {r:Int} (hF:mk_Below x_1 n_2=some r) :
  FnM Try.prog 49 [(vI x_1),(vI n_2)] [] (vI r) []:=by
 refine FnM.of_wH ⟨Try.prog,16,[],[]⟩ rfl Try.func49 rfl rfl (Nat.le_of_ble_eq_true rfl) (by kernel_rfl) ?_
 unfold mk_Below at hF
 refine wH_sr (h_opz (vI 0) (h_nil (wH_seq (wH_sr (h_opz (vI n_2) (h_opz (vB (decide (n_2 < 1))) (h_nil ?_)))))))
 rcases cond_some hF with⟨hc_3,hF⟩ | ⟨hc_3,hF⟩
 ·refine wH_ift rfl hc_3 (wH_sr (h_opz (vI 0) (h_nil ?_)))
  obtain rfl:=some_inj hF
  exact wH_ret (fin0r [(vI 0)] ⟨rfl,trivial⟩)
 ·refine wH_iff rfl hc_3 (wH_skip (wH_sr (h_opz (vI x_1) (h_opz (vI n_2) ?_))))
  obtain ⟨q_4,hz_5,hF⟩:=bind_some hF
  refine h_rem rfl rfl hz_5 wz (h_opz (vI q_4) (h_nil (wH_seq (wH_sr (h_opz (vI q_4) (h_opz (vB (decide (q_4 < 0))) (h_nil ?_)))))))
  obtain ⟨v_6,h_7,hF⟩:=bind_some hF
  refine wH_joinU [(0,(vI v_6))] [] ?_ ?_
  ·rcases cond_some h_7 with⟨hc_8,h_7⟩ | ⟨hc_8,h_7⟩
   ·refine wH_ift rfl hc_8 (wH_region (h_opz (vI q_4) (h_opz (vI n_2) (h_opz (vI (w64 (q_4 + n_2))) (h_opz (vI (w64 (q_4 + n_2))) (h_nil ?_))))))
    obtain rfl:=some_inj h_7
    exact cu
   ·refine wH_iff rfl hc_8 (wH_skip ?_)
    obtain rfl:=some_inj h_7
    exact cu
  ·rintro ⟨⟩ _ sl_ H_ hp_ hq_
   refine wH_at _ hp_ hq_ (wH_sr (h_opz (vI v_6) (h_opz (vI v_6) (h_nil ?_))))
   obtain rfl:=some_inj hF
   exact wH_ret (fin0r [(vI v_6)] ⟨rfl,trivial⟩)
theorem mk_Stream_Next_ok {s_1:Stream} {n_2:Int} {r:Int×Stream} (hF:mk_Stream_Next s_1 n_2=some r) :
  FnM Try.prog 24 [(.ref (extN 0) 0 0),(vI n_2)] [(.cells 2 [(vL eI s_1.L),(vI s_1.f_at)])] (vI r.1) [some (.cells 2 [(vL eI r.2.L),(vI r.2.f_at)])]:=by
 refine FnM.of_wH ⟨Try.prog,64,[],[]⟩ rfl Try.func24 rfl rfl (Nat.le_of_ble_eq_true rfl) (by kernel_rfl) ?_
 unfold mk_Stream_Next at hF
 refine wH_sr (h_opz (vI 0) (h_nil (wH_sr (h_opz (.ref (extN 0) 0 0) (h_opz (.ref (extN 0) 0 0) (h_far pl25_1 rfl 1 rfl wz (h_ldr 0 0 il ft sz3 ag3 rfl rfl (vI s_1.f_at) rfl wz (h_opz (vI (w64 (s_1.f_at + 1))) (h_opz (.ref (extN 0) 0 0) (h_far pl25_1 rfl 1 rfl wz (h_str 0 il ft 0 sz3 rfl rfl [(vL eI s_1.L),(vI (w64 (s_1.f_at + 1)))] rfl wz (h_nil (wH_seq (wH_sr (h_opz (.ref (extN 0) 0 0) (h_opz (.ref (extN 0) 0 0) (h_far pl25_0 rfl 0 rfl wz (h_ldr 0 0 il ft sz22 ag22 rfl rfl (vL eI s_1.L) rfl wz (h_len un22 rfl wz (h_opz (vB ((s_1.L.length:Int) == 0)) (h_nil ?_)))))))))))))))))))))
 rcases cond_some hF with⟨hc_3,hF⟩ | ⟨hc_3,hF⟩
 ·refine wH_ift rfl hc_3 (wH_sr (h_opz (.ref (extN 0) 0 0) (h_opz (.ref (extN 0) 0 0) (h_far pl25_1 rfl 1 rfl wz (h_ldr 0 0 il ft sz3 ag3 rfl rfl (vI (w64 (s_1.f_at + 1))) rfl wz (h_opz (vI (w64 ((w64 (s_1.f_at + 1)) * 7919))) (h_opz (vI n_2) ?_)))))))
  obtain ⟨r_4,hr_5,hF⟩:=bind_some hF
  refine h_call0 (mk_Below_ok hr_5) rfl hb49 rfl rfl rfl rfl wz (h_opz (vI r_4) (h_nil ?_))
  obtain rfl:=some_inj hF
  exact wH_ret (finB (.inr rfl) [(vI r_4)] _ [0] [extN 0] ⟨rfl,trivial⟩ (.cons (co_data rfl rfl) (.nil)) (by kernel_rfl) ⟨(by kernel_rfl),trivial⟩ (by decide) (by kernel_rfl))
 ·refine wH_iff rfl hc_3 (wH_skip (wH_seq (wH_draws (h_opz (.ref (extN 0) 0 0) (h_opz (.ref (extN 0) 0 0) (h_far pl25_1 rfl 1 rfl wz (h_ldr 3 0 (.inr (by kernel_rfl)) (fun _ _ ag=>trivial) sz3 ag3 rfl rfl (vI (w64 (s_1.f_at + 1))) rfl wz (h_opz (vI (w64 ((w64 (s_1.f_at + 1)) - 1))) (h_opz (.ref (extN 0) 0 0) (h_opz (.ref (extN 0) 0 0) (h_far pl25_0 rfl 0 rfl wz (h_ldr 8 0 (.inr (by kernel_rfl)) (fun _ _ ag=>⟨.inl ⟨rfl,rfl⟩,trivial⟩) sz22 ag22 rfl rfl (vL eI s_1.L) rfl wz (h_len un22 rfl wz ?_)))))))))))))
  obtain ⟨q_6,hz_7,hF⟩:=bind_some hF
  refine h_rem rfl rfl hz_7 wz (h_opz (vI q_6) (h_nil (wH_seq (wH_draws (h_opz (.ref (extN 0) 0 0) (h_opz (.ref (extN 0) 0 0) (h_far pl25_1 rfl 1 rfl wz (h_ldr 3 0 (.inr (by kernel_rfl)) (fun _ _ ag=>trivial) sz3 ag3 rfl rfl (vI (w64 (s_1.f_at + 1))) rfl wz (h_opz (vI (w64 ((w64 (s_1.f_at + 1)) - 1))) (h_opz (.ref (extN 0) 0 0) (h_opz (.ref (extN 0) 0 0) (h_far pl25_0 rfl 0 rfl wz (h_ldr 8 0 (.inr (by kernel_rfl)) (fun _ _ ag=>⟨.inl ⟨rfl,rfl⟩,trivial⟩) sz22 ag22 rfl rfl (vL eI s_1.L) rfl wz (h_len un22 rfl wz ?_))))))))))))))
  obtain ⟨q_8,hz_9,hF⟩:=bind_some hF
  refine h_quo rfl rfl hz_9 wz (h_opz (vI q_8) (h_nil (wH_at (H0:=([((extN 0),some (.cells 2 [(vL eI s_1.L),(vI (w64 (s_1.f_at + 1)))]))]:Hp)) ([(0,(.ref (extN 0) 0 0)),(1,(vI n_2)),(5,(vI q_6)),(6,(vI q_8))]:List (Nat×V)) (by kernel_rfl) (pre_mk (by kernel_rfl)) (wH_sr (h_opz (.ref (extN 0) 0 0) (h_opz (.ref (extN 0) 0 0) (h_far pl25_0 rfl 0 rfl wz (h_ldr 0 0 il ft sz22 ag22 rfl rfl (vL eI s_1.L) rfl wz (h_opz (vI q_6) ?_)))))))))
  obtain ⟨y_10,hy_11,hF⟩:=bind_some hF
  refine h_ia es22 rfl rfl hy_11 rfl wz (h_ldc sz3 ag3 rfl (vI y_10) rfl wz ?_)
  obtain ⟨r_12,hr_13,hF⟩:=bind_some hF
  refine h_call0 (mk_Below_ok hr_13) rfl hb49 rfl rfl rfl rfl wz (h_opz (vI q_8) (h_opz (vI q_6) (h_opz (vI (w64 (7919 + q_6))) (h_opz (vI (w64 (q_8 * (w64 (7919 + q_6))))) (h_opz (vI (w64 (r_12 + (w64 (q_8 * (w64 (7919 + q_6))))))) (h_opz (vI n_2) ?_))))))
  obtain ⟨r_14,hr_15,hF⟩:=bind_some hF
  refine h_call0 (mk_Below_ok hr_15) rfl hb49 rfl rfl rfl rfl wz (h_opz (vI r_14) (h_nil ?_))
  obtain rfl:=some_inj hF
  exact wH_ret (finB (.inr rfl) [(vI r_14)] _ [0] [extN 0] ⟨rfl,trivial⟩ (.cons (co_data rfl rfl) (.nil)) (by kernel_rfl) ⟨(by kernel_rfl),trivial⟩ (by decide) (by kernel_rfl))
theorem mk_Stream_Flip_ok {s_1:Stream} {n_2:Int} {r:Bool×Stream} (hF:mk_Stream_Flip s_1 n_2=some r) :
  FnM Try.prog 46 [(.ref (extN 0) 0 0),(vI n_2)] [(.cells 2 [(vL eI s_1.L),(vI s_1.f_at)])] (vB r.1) [some (.cells 2 [(vL eI r.2.L),(vI r.2.f_at)])]:=by
 refine FnM.of_wH ⟨Try.prog,9,[],[]⟩ rfl Try.func46 rfl rfl (Nat.le_of_ble_eq_true rfl) (by kernel_rfl) ?_
 unfold mk_Stream_Flip at hF
 refine wH_sr (h_opz (vB false) (h_nil (wH_sr (h_opz (.ref (extN 0) 0 0) (h_opz (vI n_2) ?_)))))
 obtain ⟨r_3,hr_4,hF⟩:=bind_some hF
 refine h_callq 0 [0] il ft (mk_Stream_Next_ok hr_4) rfl hb24 rfl (by kernel_rfl) (by kernel_rfl) (by kernel_rfl) (by kernel_rfl) (by kernel_rfl) (by kernel_rfl) (by kernel_rfl) (by decide) (by kernel_rfl) wz (vI r_3.1) (by kernel_rfl) ([((extN 0),some (.cells 2 [(vL eI r_3.2.L),(vI r_3.2.f_at)]))]:Hp) (by kernel_rfl) (h_opz (vB (r_3.1 == 0)) (h_opz (vB (r_3.1 == 0)) (h_nil ?_)))
 obtain rfl:=some_inj hF
 exact wH_ret (finB (.inr rfl) [(vB (r_3.1 == 0))] _ [0] [extN 0] ⟨rfl,trivial⟩ (.cons (co_data rfl rfl) (.nil)) (by kernel_rfl) ⟨(by kernel_rfl),trivial⟩ (by decide) (by kernel_rfl))
theorem mk_Stream_Pick_ok {s_1:Stream} {l_2:(List Int)} {r:Int×Stream} (hF:mk_Stream_Pick s_1 l_2=some r) :
  FnM Try.prog 6 [(.ref (extN 0) 0 0),(vL eI l_2)] [(.cells 2 [(vL eI s_1.L),(vI s_1.f_at)])] (vI r.1) [some (.cells 2 [(vL eI r.2.L),(vI r.2.f_at)])]:=by
 refine FnM.of_wH ⟨Try.prog,12,[],[]⟩ rfl Try.func6 rfl rfl (Nat.le_of_ble_eq_true rfl) (by kernel_rfl) ?_
 unfold mk_Stream_Pick at hF
 refine wH_sr (h_opz (vI 0) (h_nil (wH_sr (h_opz (vL eI l_2) (h_opz (.ref (extN 0) 0 0) (h_opz (vL eI l_2) (h_len un22 rfl wz ?_)))))))
 obtain ⟨r_3,hr_4,hF⟩:=bind_some hF
 refine h_callq 0 [0] il ft (mk_Stream_Next_ok hr_4) rfl hb24 rfl (by kernel_rfl) (by kernel_rfl) (by kernel_rfl) (by kernel_rfl) (by kernel_rfl) (by kernel_rfl) (by kernel_rfl) (by decide) (by kernel_rfl) wz (vI r_3.1) (by kernel_rfl) ([((extN 0),some (.cells 2 [(vL eI r_3.2.L),(vI r_3.2.f_at)]))]:Hp) (by kernel_rfl) ?_
 obtain ⟨y_6,hy_7,hF⟩:=bind_some hF
 refine h_ia es22 rfl rfl hy_7 rfl wz (h_ldc sz3 ag3 rfl (vI y_6) rfl wz (h_opz (vI y_6) (h_nil ?_)))
 obtain rfl:=some_inj hF
 exact wH_ret (finB (.inr rfl) [(vI y_6)] _ [0] [extN 0] ⟨rfl,trivial⟩ (.cons (co_data rfl rfl) (.nil)) (by kernel_rfl) ⟨(by kernel_rfl),trivial⟩ (by decide) (by kernel_rfl))
theorem mk_Stream_Some_ok {s_1:Stream} {l_2:(List ByteArray)} {r:ByteArray×Stream} (hF:mk_Stream_Some s_1 l_2=some r) :
  FnM Try.prog 5 [(.ref (extN 0) 0 0),(vL eS l_2)] [(.cells 2 [(vL eI s_1.L),(vI s_1.f_at)])] (vS r.1) [some (.cells 2 [(vL eI r.2.L),(vI r.2.f_at)])]:=by
 refine FnM.of_wH ⟨Try.prog,12,[],[]⟩ rfl Try.func5 rfl rfl (Nat.le_of_ble_eq_true rfl) (by kernel_rfl) ?_
 unfold mk_Stream_Some at hF
 refine wH_sr (h_opz (vS (⟨#[]⟩:ByteArray)) (h_nil (wH_sr (h_opz (vL eS l_2) (h_opz (.ref (extN 0) 0 0) (h_opz (vL eS l_2) (h_len un35 rfl wz ?_)))))))
 obtain ⟨r_3,hr_4,hF⟩:=bind_some hF
 refine h_callq 0 [0] il ft (mk_Stream_Next_ok hr_4) rfl hb24 rfl (by kernel_rfl) (by kernel_rfl) (by kernel_rfl) (by kernel_rfl) (by kernel_rfl) (by kernel_rfl) (by kernel_rfl) (by decide) (by kernel_rfl) wz (vI r_3.1) (by kernel_rfl) ([((extN 0),some (.cells 2 [(vL eI r_3.2.L),(vI r_3.2.f_at)]))]:Hp) (by kernel_rfl) ?_
 obtain ⟨y_6,hy_7,hF⟩:=bind_some hF
 refine h_ia es35 rfl rfl hy_7 rfl wz (h_ldc sz9 ag9 rfl (vS y_6) rfl wz (h_opz (vS y_6) (h_nil ?_)))
 obtain rfl:=some_inj hF
 exact wH_ret (finB (.inr rfl) [(vS y_6)] _ [0] [extN 0] ⟨rfl,trivial⟩ (.cons (co_data rfl rfl) (.nil)) (by kernel_rfl) ⟨(by kernel_rfl),trivial⟩ (by decide) (by kernel_rfl))
theorem mk_Stream_Range_ok {s_1:Stream} {low_2:Int} {high_3:Int} {r:Int×Stream} (hF:mk_Stream_Range s_1 low_2 high_3=some r) :
  FnM Try.prog 66 [(.ref (extN 0) 0 0),(vI low_2),(vI high_3)] [(.cells 2 [(vL eI s_1.L),(vI s_1.f_at)])] (vI r.1) [some (.cells 2 [(vL eI r.2.L),(vI r.2.f_at)])]:=by
 refine FnM.of_wH ⟨Try.prog,19,[],[]⟩ rfl Try.func66 rfl rfl (Nat.le_of_ble_eq_true rfl) (by kernel_rfl) ?_
 unfold mk_Stream_Range at hF
 refine wH_sr (h_opz (vI 0) (h_nil (wH_seq (wH_sr (h_opz (vI high_3) (h_opz (vI low_2) (h_opz (vB (decide (high_3 < low_2))) (h_nil ?_))))))))
 rcases cond_some hF with⟨hc_4,hF⟩ | ⟨hc_4,hF⟩
 ·refine wH_ift rfl hc_4 (wH_sr (h_opz (vI low_2) (h_opz (vI low_2) (h_nil ?_))))
  obtain rfl:=some_inj hF
  exact wH_ret (finB (.inr rfl) [(vI low_2)] _ [0] [extN 0] ⟨rfl,trivial⟩ (.cons (co_data rfl rfl) (.nil)) (by kernel_rfl) ⟨(by kernel_rfl),trivial⟩ (by decide) (by kernel_rfl))
 ·refine wH_iff rfl hc_4 (wH_skip (wH_sr (h_opz (vI low_2) (h_opz (.ref (extN 0) 0 0) (h_opz (vI high_3) (h_opz (vI low_2) (h_opz (vI (w64 (high_3 - low_2))) (h_opz (vI (w64 ((w64 (high_3 - low_2)) + 1))) ?_))))))))
  obtain ⟨r_5,hr_6,hF⟩:=bind_some hF
  refine h_callq 0 [0] il ft (mk_Stream_Next_ok hr_6) rfl hb24 rfl (by kernel_rfl) (by kernel_rfl) (by kernel_rfl) (by kernel_rfl) (by kernel_rfl) (by kernel_rfl) (by kernel_rfl) (by decide) (by kernel_rfl) wz (vI r_5.1) (by kernel_rfl) ([((extN 0),some (.cells 2 [(vL eI r_5.2.L),(vI r_5.2.f_at)]))]:Hp) (by kernel_rfl) (h_opz (vI (w64 (low_2 + r_5.1))) (h_opz (vI (w64 (low_2 + r_5.1))) (h_nil ?_)))
  obtain rfl:=some_inj hF
  exact wH_ret (finB (.inr rfl) [(vI (w64 (low_2 + r_5.1)))] _ [0] [extN 0] ⟨rfl,trivial⟩ (.cons (co_data rfl rfl) (.nil)) (by kernel_rfl) ⟨(by kernel_rfl),trivial⟩ (by decide) (by kernel_rfl))
theorem mk_Stream_Odd_ok {s_1:Stream} {low_2:Int} {high_3:Int} {r:Int×Stream} (hF:mk_Stream_Odd s_1 low_2 high_3=some r) :
  FnM Try.prog 47 [(.ref (extN 0) 0 0),(vI low_2),(vI high_3)] [(.cells 2 [(vL eI s_1.L),(vI s_1.f_at)])] (vI r.1) [some (.cells 2 [(vL eI r.2.L),(vI r.2.f_at)])]:=by
 refine FnM.of_wH ⟨Try.prog,22,[],[]⟩ rfl Try.func47 rfl rfl (Nat.le_of_ble_eq_true rfl) (by kernel_rfl) ?_
 unfold mk_Stream_Odd at hF
 refine wH_sr (h_opz (vI 0) (h_nil (wH_seq (wH_sr (h_opz (.ref (extN 0) 0 0) ?_)))))
 obtain ⟨r_4,hr_5,hF⟩:=bind_some hF
 refine h_callq 0 [0] il ft (mk_Stream_Flip_ok hr_5) rfl hb46 rfl (by kernel_rfl) (by kernel_rfl) (by kernel_rfl) (by kernel_rfl) (by kernel_rfl) (by kernel_rfl) (by kernel_rfl) (by decide) (by kernel_rfl) wz (vB r_4.1) (by kernel_rfl) ([((extN 0),some (.cells 2 [(vL eI r_4.2.L),(vI r_4.2.f_at)]))]:Hp) (by kernel_rfl) (h_nil ?_)
 rcases cond_some hF with⟨hc_7,hF⟩ | ⟨hc_7,hF⟩
 ·refine wH_ift rfl hc_7 (wH_sr (h_opz (.ref (extN 0) 0 0) (h_opz (vI low_2) (h_opz (vI (w64 (low_2 - 1))) (h_opz (vI high_3) (h_opz (vI (w64 (high_3 + 1))) (h_opz (vI low_2) (h_opz (vI high_3) (h_lit (([(w64 (low_2 - 1)),(w64 (high_3 + 1)),low_2,high_3,(-1099511627776),1099511627776]:List Int).map eI) es22 ez22 rfl rfl rfl rfl rfl wz ?_)))))))))
  obtain ⟨r_8,hr_9,hF⟩:=bind_some hF
  refine h_callq 0 [0] il ft (mk_Stream_Pick_ok hr_9) rfl hb6 rfl (by kernel_rfl) (by kernel_rfl) (by kernel_rfl) (by kernel_rfl) (by kernel_rfl) (by kernel_rfl) (by kernel_rfl) (by decide) (by kernel_rfl) wz (vI r_8.1) (by kernel_rfl) ([((extN 0),some (.cells 2 [(vL eI r_8.2.L),(vI r_8.2.f_at)]))]:Hp) (by kernel_rfl) (h_opz (vI r_8.1) (h_nil ?_))
  obtain rfl:=some_inj hF
  exact wH_ret (finB (.inr rfl) [(vI r_8.1)] _ [0] [extN 0] ⟨rfl,trivial⟩ (.cons (co_data rfl rfl) (.nil)) (by kernel_rfl) ⟨(by kernel_rfl),trivial⟩ (by decide) (by kernel_rfl))
 ·refine wH_iff rfl hc_7 (wH_skip (wH_sr (h_opz (.ref (extN 0) 0 0) (h_opz (vI low_2) (h_opz (vI high_3) ?_)))))
  obtain ⟨r_11,hr_12,hF⟩:=bind_some hF
  refine h_callq 0 [0] il ft (mk_Stream_Range_ok hr_12) rfl hb66 rfl (by kernel_rfl) (by kernel_rfl) (by kernel_rfl) (by kernel_rfl) (by kernel_rfl) (by kernel_rfl) (by kernel_rfl) (by decide) (by kernel_rfl) wz (vI r_11.1) (by kernel_rfl) ([((extN 0),some (.cells 2 [(vL eI r_11.2.L),(vI r_11.2.f_at)]))]:Hp) (by kernel_rfl) (h_opz (vI r_11.1) (h_nil ?_))
  obtain rfl:=some_inj hF
  exact wH_ret (finB (.inr rfl) [(vI r_11.1)] _ [0] [extN 0] ⟨rfl,trivial⟩ (.cons (co_data rfl rfl) (.nil)) (by kernel_rfl) ⟨(by kernel_rfl),trivial⟩ (by decide) (by kernel_rfl))
theorem mk_Stream_RightSpots_okb {s_1:Stream} {r:(List Spot)×Stream} (hF:mk_Stream_RightSpots s_1=some r) :
  FnM Try.prog 45 [(.ref (extN 0) 0 0)] [(.cells 2 [(vL eI s_1.L),(vI s_1.f_at)])] (gV (extN 1) 5 r.1) (([(.cells 2 [(vL eI r.2.L),(vI r.2.f_at)])]:List Box).map some++gO 5 Spot.enc r.1):=by
 refine FnM.of_wH ⟨Try.prog,53,[],[]⟩ rfl Try.func45 rfl rfl (Nat.le_of_ble_eq_true rfl) (by kernel_rfl) ?_
 unfold mk_Stream_RightSpots at hF
 refine wH_sr (h_opz .nil (h_nil (wH_sr (h_opz .nil (h_nil (wH_seq (wH_sr (h_lit (([(⟨#[115,97]⟩:ByteArray),(⟨#[115,98]⟩:ByteArray),(⟨#[115,99]⟩:ByteArray),(⟨#[115,100]⟩:ByteArray),(⟨#[115,101]⟩:ByteArray)]:List ByteArray).map eS) es35 ez35 rfl rfl rfl rfl rfl wz (h_len un35 rfl wz (h_opz (vI 0) (h_nil (wH_new (fun n_8 => ?_)))))))))))))
 obtain ⟨o_13,hj_14,hF⟩:=bind_some hF
 obtain ⟨hn_6,hj_14⟩:=forL_some hj_14
 refine wH_loopF (σ:=(List Spot)×(List Int)×Int) (N:=Nm) (fun p=>(fun (s_7:(List Spot)×(List Int)×Int) (n_10:Nm)=>([(3,(gV n_10 5 s_7.1))]:List (Nat×V))) p.1 p.2) (fun p=>(fun (s_7:(List Spot)×(List Int)×Int) (n_10:Nm)=>([((extN 0),some (.cells 2 [(vL eI s_7.2.1),(vI s_7.2.2)])),(n_10,gB 5 Spot.enc s_7.1)]:Hp)) p.1 p.2) (fun (k_2:Nat)=>(fun p=>(fun (s_7:(List Spot)×(List Int)×Int) (n_10:Nm)=>([(0,(.ref (extN 0) 0 0)),(3,(gV n_10 5 s_7.1)),(9,(vL eS ([(⟨#[115,97]⟩:ByteArray),(⟨#[115,98]⟩:ByteArray),(⟨#[115,99]⟩:ByteArray),(⟨#[115,100]⟩:ByteArray),(⟨#[115,101]⟩:ByteArray)]:List ByteArray))),(10,(vI (([(⟨#[115,97]⟩:ByteArray),(⟨#[115,98]⟩:ByteArray),(⟨#[115,99]⟩:ByteArray),(⟨#[115,100]⟩:ByteArray),(⟨#[115,101]⟩:ByteArray)]:List ByteArray).length:Int))),(11,(vI (k_2:Int)))]:List (Nat×V))) p.1 p.2)) (fun k x s=>mk_Stream_RightSpots_L2 k x s) o_13 ([(⟨#[115,97]⟩:ByteArray),(⟨#[115,98]⟩:ByteArray),(⟨#[115,99]⟩:ByteArray),(⟨#[115,100]⟩:ByteArray),(⟨#[115,101]⟩:ByteArray)]:List ByteArray) ((([]:List Spot),s_1.L,s_1.f_at),n_8) hj_14 rfl (pre_r rfl) ?_ ?_
 ·rintro ⟨k_2,l_3,s_7,n_10⟩ ⟨hL_12,hD_5⟩
  dsimp only at hL_12 hD_5
  cases l_3 with
  | nil =>
   obtain rfl:=some_inj hL_12
   refine wH_sr (h_opz (vB (decide ((k_2:Int) < (([(⟨#[115,97]⟩:ByteArray),(⟨#[115,98]⟩:ByteArray),(⟨#[115,99]⟩:ByteArray),(⟨#[115,100]⟩:ByteArray),(⟨#[115,101]⟩:ByteArray)]:List ByteArray).length:Int)))) (h_nil ?_))
   refine wH_seq (wH_iff rfl (drop_nil hD_5) (wH_exit ?_))
   exact cut_mk (s_7,n_10) rfl rfl (pre_r rfl)
  | cons x_4 l_3 =>
   obtain ⟨c_,hc_11,hL_12⟩:=bind_some hL_12
   refine wH_sr (h_opz (vB (decide ((k_2:Int) < (([(⟨#[115,97]⟩:ByteArray),(⟨#[115,98]⟩:ByteArray),(⟨#[115,99]⟩:ByteArray),(⟨#[115,100]⟩:ByteArray),(⟨#[115,101]⟩:ByteArray)]:List ByteArray).length:Int)))) (h_nil ?_))
   refine wH_seq (wH_ift rfl (drop_cons hD_5) (wH_skip ?_))
   unfold mk_Stream_RightSpots_L2 at hc_11
   refine wH_seq (wH_block (wH_sr (h_opz (vI (k_2:Int)) (h_ia es35 rfl rfl (drop_idx hD_5) rfl wz (h_ldc sz9 ag9 rfl (vS x_4) rfl wz (h_opz (vI (k_2:Int)) (h_opz (vS x_4) (h_nil (wH_seq (wH_sr (h_opz (.ref (extN 0) 0 0) ?_)))))))))))
   obtain ⟨r_15,hr_16,hc_11⟩:=bind_some hc_11
   refine h_callq 0 [0] il ft (mk_Stream_Flip_ok hr_16) rfl hb46 rfl (by kernel_rfl) (by kernel_rfl) (by kernel_rfl) (by kernel_rfl) (by kernel_rfl) (by kernel_rfl) (by kernel_rfl) (by decide) (by kernel_rfl) wz (vB r_15.1) (by kernel_rfl) ([((extN 0),some (.cells 2 [(vL eI r_15.2.L),(vI r_15.2.f_at)])),(n_10,gB 5 Spot.enc s_7.1)]:Hp) (by kernel_rfl) (h_nil ?_)
   rcases cond_some hc_11 with⟨hc_18,hc_11⟩ | ⟨hc_18,hc_11⟩
   ·refine wH_ift rfl hc_18 (wH_exit (wH_region (h_opw (w64_next hD_5 hn_6) wz rfl (h_opz (vI ((k_2 + 1:Nat):Int)) (h_nil ?_)))))
    obtain rfl:=some_inj hc_11
    exact loop_mk (k_2 + 1,l_3,(s_7.1,r_15.2.L,r_15.2.f_at),n_10) ⟨hL_12,drop_next hD_5⟩ (Nat.lt_succ_self _) rfl (pre_r rfl)
   ·refine wH_iff rfl hc_18 (wH_skip (wH_sr (h_opz (vS x_4) (h_opz (vI (k_2:Int)) (h_opz (vI (w64 (10 * (k_2:Int)))) (h_opz (vI (k_2:Int)) (h_opz (vI (w64 (10 * (k_2:Int)))) (h_opz (.ref (extN 0) 0 0) (h_lit (([5,10,10]:List Int).map eI) es22 ez22 rfl rfl rfl rfl rfl wz ?_)))))))))
    obtain ⟨r_19,hr_20,hc_11⟩:=bind_some hc_11
    refine h_callq 0 [0] il ft (mk_Stream_Pick_ok hr_20) rfl hb6 rfl (by kernel_rfl) (by kernel_rfl) (by kernel_rfl) (by kernel_rfl) (by kernel_rfl) (by kernel_rfl) (by kernel_rfl) (by decide) (by kernel_rfl) wz (vI r_19.1) (by kernel_rfl) ([((extN 0),some (.cells 2 [(vL eI r_19.2.L),(vI r_19.2.f_at)])),(n_10,gB 5 Spot.enc s_7.1)]:Hp) (by kernel_rfl) (h_opz (vI (w64 ((w64 (10 * (k_2:Int))) + r_19.1))) (h_op (.d (.agg (Window.enc (⟨(w64 (10 * (k_2:Int))),(w64 ((w64 (10 * (k_2:Int))) + r_19.1))⟩:Window)))) wz (by kernel_rfl) (h_opz (.ref (extN 0) 0 0) (h_lit (([0,1,2,3,5]:List Int).map eI) es22 ez22 rfl rfl rfl rfl rfl wz ?_))))
    obtain ⟨r_22,hr_23,hc_11⟩:=bind_some hc_11
    refine h_callq 0 [0] il ft (mk_Stream_Pick_ok hr_23) rfl hb6 rfl (by kernel_rfl) (by kernel_rfl) (by kernel_rfl) (by kernel_rfl) (by kernel_rfl) (by kernel_rfl) (by kernel_rfl) (by decide) (by kernel_rfl) wz (vI r_22.1) (by kernel_rfl) ([((extN 0),some (.cells 2 [(vL eI r_22.2.L),(vI r_22.2.f_at)])),(n_10,gB 5 Spot.enc s_7.1)]:Hp) (by kernel_rfl) (h_op (.agg [(vS x_4),(vI (w64 (10 * (k_2:Int)))),(vI (w64 ((w64 (10 * (k_2:Int))) + r_19.1))),(vI r_22.1),.nil]) wz (by kernel_rfl) (h_alloc 0 (.inl rfl) z69 rfl wz (fun n_25=>h_str 0 il ft 2 sz69 rfl rfl [(vS x_4),(vI (w64 (10 * (k_2:Int)))),(vI (w64 ((w64 (10 * (k_2:Int))) + r_19.1))),(vI r_22.1),.nil] rfl wz (h_nil (wH_seq (wH_sr (h_lit (([(⟨#[99,105,116,121]⟩:ByteArray),(⟨#[109,97,108,108]⟩:ByteArray)]:List ByteArray).map eS) es35 ez35 rfl rfl rfl rfl rfl wz (h_len un35 rfl wz (h_opz (vI 0) (h_nil (wH_new (fun n_32 => ?_))))))))))))
    obtain ⟨o_37,hj_38,hc_11⟩:=bind_some hc_11
    obtain ⟨hn_30,hj_38⟩:=forL_some hj_38
    refine wH_loopF (σ:=(List ByteArray)×(List Int)×Int) (N:=Nm) (fun p=>(fun (s_31:(List ByteArray)×(List Int)×Int) (n_34:Nm)=>([(0,(.ref (extN 0) 0 0)),(3,(gV n_10 5 s_7.1)),(6,(.ref n_25 0 0)),(9,(vL eS ([(⟨#[115,97]⟩:ByteArray),(⟨#[115,98]⟩:ByteArray),(⟨#[115,99]⟩:ByteArray),(⟨#[115,100]⟩:ByteArray),(⟨#[115,101]⟩:ByteArray)]:List ByteArray))),(10,(vI (([(⟨#[115,97]⟩:ByteArray),(⟨#[115,98]⟩:ByteArray),(⟨#[115,99]⟩:ByteArray),(⟨#[115,100]⟩:ByteArray),(⟨#[115,101]⟩:ByteArray)]:List ByteArray).length:Int))),(11,(vI (k_2:Int)))]:List (Nat×V))) p.1 p.2) (fun p=>(fun (s_31:(List ByteArray)×(List Int)×Int) (n_34:Nm)=>([((extN 0),some (.cells 2 [(vL eI s_31.2.1),(vI s_31.2.2)])),(n_10,gB 5 Spot.enc s_7.1),(n_25,some (.cells 5 [(vS x_4),(vI (w64 (10 * (k_2:Int)))),(vI (w64 ((w64 (10 * (k_2:Int))) + r_19.1))),(vI r_22.1),(gV n_34 1 s_31.1)])),(n_34,gB 1 eS s_31.1)]:Hp)) p.1 p.2) (fun (k_26:Nat)=>(fun p=>(fun (s_31:(List ByteArray)×(List Int)×Int) (n_34:Nm)=>([(0,(.ref (extN 0) 0 0)),(3,(gV n_10 5 s_7.1)),(6,(.ref n_25 0 0)),(9,(vL eS ([(⟨#[115,97]⟩:ByteArray),(⟨#[115,98]⟩:ByteArray),(⟨#[115,99]⟩:ByteArray),(⟨#[115,100]⟩:ByteArray),(⟨#[115,101]⟩:ByteArray)]:List ByteArray))),(10,(vI (([(⟨#[115,97]⟩:ByteArray),(⟨#[115,98]⟩:ByteArray),(⟨#[115,99]⟩:ByteArray),(⟨#[115,100]⟩:ByteArray),(⟨#[115,101]⟩:ByteArray)]:List ByteArray).length:Int))),(11,(vI (k_2:Int))),(32,(vL eS ([(⟨#[99,105,116,121]⟩:ByteArray),(⟨#[109,97,108,108]⟩:ByteArray)]:List ByteArray))),(33,(vI (([(⟨#[99,105,116,121]⟩:ByteArray),(⟨#[109,97,108,108]⟩:ByteArray)]:List ByteArray).length:Int))),(34,(vI (k_26:Int)))]:List (Nat×V))) p.1 p.2)) (fun k x s=>mk_Stream_RightSpots_L1 k x s) o_37 ([(⟨#[99,105,116,121]⟩:ByteArray),(⟨#[109,97,108,108]⟩:ByteArray)]:List ByteArray) ((([]:List ByteArray),r_22.2.L,r_22.2.f_at),n_32) hj_38 rfl (pre_r rfl) ?_ ?_
    ·rintro ⟨k_26,l_27,s_31,n_34⟩ ⟨hL_36,hD_29⟩
     dsimp only at hL_36 hD_29
     cases l_27 with
     | nil =>
      obtain rfl:=some_inj hL_36
      refine wH_sr (h_opz (vB (decide ((k_26:Int) < (([(⟨#[99,105,116,121]⟩:ByteArray),(⟨#[109,97,108,108]⟩:ByteArray)]:List ByteArray).length:Int)))) (h_nil ?_))
      refine wH_seq (wH_iff rfl (drop_nil hD_29) (wH_exit ?_))
      exact cut_mk (s_31,n_34) rfl rfl (pre_r rfl)
     | cons x_28 l_27 =>
      obtain ⟨c_,hc_35,hL_36⟩:=bind_some hL_36
      refine wH_sr (h_opz (vB (decide ((k_26:Int) < (([(⟨#[99,105,116,121]⟩:ByteArray),(⟨#[109,97,108,108]⟩:ByteArray)]:List ByteArray).length:Int)))) (h_nil ?_))
      refine wH_seq (wH_ift rfl (drop_cons hD_29) (wH_skip ?_))
      unfold mk_Stream_RightSpots_L1 at hc_35
      refine wH_seq (wH_block (wH_sr (h_ia es35 rfl rfl (drop_idx hD_29) rfl wz (h_ldc sz9 ag9 rfl (vS x_28) rfl wz (h_opz (vS x_28) (h_nil (wH_sr (h_opz (.ref (extN 0) 0 0) ?_))))))))
      obtain ⟨r_39,hr_40,hc_35⟩:=bind_some hc_35
      refine h_callq 0 [0] il ft (mk_Stream_Flip_ok hr_40) rfl hb46 rfl (by kernel_rfl) (by kernel_rfl) (by kernel_rfl) (by kernel_rfl) (by kernel_rfl) (by kernel_rfl) (by kernel_rfl) (by decide) (by kernel_rfl) wz (vB r_39.1) (by kernel_rfl) ([((extN 0),some (.cells 2 [(vL eI r_39.2.L),(vI r_39.2.f_at)])),(n_10,gB 5 Spot.enc s_7.1),(n_25,some (.cells 5 [(vS x_4),(vI (w64 (10 * (k_2:Int)))),(vI (w64 ((w64 (10 * (k_2:Int))) + r_19.1))),(vI r_22.1),(gV n_34 1 s_31.1)])),(n_34,gB 1 eS s_31.1)]:Hp) (by kernel_rfl) (h_nil ?_)
      obtain ⟨v_42,h_43,hc_35⟩:=bind_some hc_35
      refine wH_join (β:=Nm) (fun (n_44:Nm)=>([(0,(.ref (extN 0) 0 0)),(3,(gV n_10 5 s_7.1)),(6,(.ref n_25 0 0)),(9,(vL eS ([(⟨#[115,97]⟩:ByteArray),(⟨#[115,98]⟩:ByteArray),(⟨#[115,99]⟩:ByteArray),(⟨#[115,100]⟩:ByteArray),(⟨#[115,101]⟩:ByteArray)]:List ByteArray))),(10,(vI (([(⟨#[115,97]⟩:ByteArray),(⟨#[115,98]⟩:ByteArray),(⟨#[115,99]⟩:ByteArray),(⟨#[115,100]⟩:ByteArray),(⟨#[115,101]⟩:ByteArray)]:List ByteArray).length:Int))),(11,(vI (k_2:Int))),(32,(vL eS ([(⟨#[99,105,116,121]⟩:ByteArray),(⟨#[109,97,108,108]⟩:ByteArray)]:List ByteArray))),(33,(vI (([(⟨#[99,105,116,121]⟩:ByteArray),(⟨#[109,97,108,108]⟩:ByteArray)]:List ByteArray).length:Int))),(34,(vI (k_26:Int)))]:List (Nat×V))) (fun (n_44:Nm)=>([((extN 0),some (.cells 2 [(vL eI r_39.2.L),(vI r_39.2.f_at)])),(n_10,gB 5 Spot.enc s_7.1),(n_25,some (.cells 5 [(vS x_4),(vI (w64 (10 * (k_2:Int)))),(vI (w64 ((w64 (10 * (k_2:Int))) + r_19.1))),(vI r_22.1),(gV n_44 1 v_42)])),(n_44,gB 1 eS v_42)]:Hp)) (fun _=>True) ?_ ?_
      ·rcases cond_some h_43 with⟨hc_45,h_43⟩ | ⟨hc_45,h_43⟩
       ·refine wH_ift rfl hc_45 (wH_region (h_far pl69_3 rfl 4 rfl wz (h_ldr 0 2 il ft sz35 ag35 rfl rfl (gV n_34 1 s_31.1) rfl wz (h_opz (vS x_28) (h_lit (([x_28]:List ByteArray).map eS) es35 ez35 rfl rfl rfl rfl rfl wz ?_)))))
        obtain ⟨a_46,hz_47,h_43⟩:=bind_some h_43
        refine h_appg 0 il ft (i:=3) el35 el35 sz9 z9 rfl (by decide) by9 (by decide) (fun _=>rfl) rfl rfl rfl hz_47 wz (fun n_48=>h_far pl69_3 rfl 4 rfl wz (h_str 0 il ft 2 sz35 rfl rfl [(vS x_4),(vI (w64 (10 * (k_2:Int)))),(vI (w64 ((w64 (10 * (k_2:Int))) + r_19.1))),(vI r_22.1),(gV n_48 1 a_46)] (stC_g rfl) wz (h_nil ?_)))
        obtain rfl:=some_inj h_43
        exact cut_mk n_48 trivial rfl (pre_r rfl)
       ·refine wH_iff rfl hc_45 (wH_skip ?_)
        obtain rfl:=some_inj h_43
        exact cut_mk n_34 trivial rfl (pre_r rfl)
      ·rintro n_44 _ sl_ H_ hp_ hq_
       refine wH_at _ hp_ hq_ (wH_region (h_opw (w64_next hD_29 hn_30) wz rfl (h_opz (vI ((k_26 + 1:Nat):Int)) (h_nil ?_))))
       obtain rfl:=some_inj hc_35
       exact loop_mk (k_26 + 1,l_27,(v_42,r_39.2.L,r_39.2.f_at),n_44) ⟨hL_36,drop_next hD_29⟩ (Nat.lt_succ_self _) rfl (pre_r rfl)
    ·rintro ⟨s_31,n_34⟩ ho_ sl_ H_ hp_ hq_
     subst ho_
     refine wH_at _ hp_ hq_ (wH_frozg 3 rfl (wH_coc 3 2 [(vS x_4),(vI (w64 (10 * (k_2:Int)))),(vI (w64 ((w64 (10 * (k_2:Int))) + r_19.1))),(vI r_22.1),(vL eS s_31.1)] rfl rfl (fun S hS=>cons_eq (rfl) (cons_eq (rfl) (cons_eq (rfl) (cons_eq (rfl) (cons_eq (hS) (rfl)))))) (wH_region (h_opz (gV n_10 5 s_7.1) (h_ldr 0 2 il ft sz69 ag69 rfl rfl (.d (.agg (Spot.enc (⟨x_4,(⟨(w64 (10 * (k_2:Int))),(w64 ((w64 (10 * (k_2:Int))) + r_19.1))⟩:Window),r_22.1,s_31.1⟩:Spot)))) rfl wz (h_lit (([(⟨x_4,(⟨(w64 (10 * (k_2:Int))),(w64 ((w64 (10 * (k_2:Int))) + r_19.1))⟩:Window),r_22.1,s_31.1⟩:Spot)]:List Spot).map Spot.enc) es26 ez26 rfl rfl rfl rfl rfl wz ?_))))))
     obtain ⟨a_49,hz_50,hc_11⟩:=bind_some hc_11
     refine h_appg 0 il ft (i:=1) el26 el26 sz69 z69 rfl (by decide) by69 (by decide) (fun _=>rfl) rfl rfl rfl hz_50 wz (fun n_51=>h_opz (gV n_51 5 a_49) (h_nil (wH_region (h_opw (w64_next hD_5 hn_6) wz rfl (h_opz (vI ((k_2 + 1:Nat):Int)) (h_nil ?_))))))
     obtain rfl:=some_inj hc_11
     exact loop_mk (k_2 + 1,l_3,(a_49,s_31.2.1,s_31.2.2),n_51) ⟨hL_12,drop_next hD_5⟩ (Nat.lt_succ_self _) rfl (pre_r rfl)
 ·rintro ⟨s_7,n_10⟩ ho_ sl_ H_ hp_ hq_
  subst ho_
  refine wH_at _ hp_ hq_ (wH_sr (h_opz (gV n_10 5 s_7.1) (h_opz (gV n_10 5 s_7.1) (h_nil ?_))))
  obtain rfl:=some_inj hF
  exact wH_ret (finG (outs:=([(.cells 2 [(vL eI s_7.2.1),(vI s_7.2.2)])]:List Box)) (.inr rfl) 1 rfl rfl rfl (by kernel_rfl) (by kernel_rfl))
theorem mk_Stream_Spots_ok {s_1:Stream} {r:(List Spot)×Stream} (hF:mk_Stream_Spots s_1=some r) :
  FnM Try.prog 21 [(.ref (extN 0) 0 0)] [(.cells 2 [(vL eI s_1.L),(vI s_1.f_at)])] (vL Spot.enc r.1) [some (.cells 2 [(vL eI r.2.L),(vI r.2.f_at)])]:=by
 refine FnM.of_wH ⟨Try.prog,52,[],[]⟩ rfl Try.func21 rfl rfl (Nat.le_of_ble_eq_true rfl) (by kernel_rfl) ?_
 unfold mk_Stream_Spots at hF
 refine wH_sr (h_opz .nil (h_nil (wH_sr (h_opz (.ref (extN 0) 0 0) ?_))))
 obtain ⟨r_2,hr_3,hF⟩:=bind_some hF
 refine h_callg [0] (mk_Stream_RightSpots_okb hr_3) rfl hb45 rfl (by kernel_rfl) (by kernel_rfl) (by kernel_rfl) (by kernel_rfl) (by kernel_rfl) rfl (by decide) (by kernel_rfl) wz ([((extN 0),some (.cells 2 [(vL eI r_2.2.L),(vI r_2.2.f_at)]))]:Hp) (fun _=>by kernel_rfl) (fun n_5=>h_opz (gV n_5 5 r_2.1) (h_nil (wH_seq (wH_seq ?_))))
 obtain ⟨v_6,h_7,hF⟩:=bind_some hF
 refine wH_joinU [(0,(.ref (extN 0) 0 0)),(3,(gV n_5 5 r_2.1)),(13,(vB v_6.1))] [((extN 0),some (.cells 2 [(vL eI v_6.2.1),(vI v_6.2.2)])),(n_5,gB 5 Spot.enc r_2.1)] ?_ ?_
 ·refine wH_region (h_opz (gV n_5 5 r_2.1) (h_leng un26 rfl wz (h_opz (vB (decide ((r_2.1.length:Int) > 0))) ?_)))
  rcases cond_some h_7 with⟨hc_8,h_7⟩ | ⟨hc_8,h_7⟩
  ·refine h_movb rfl hc_8 wz (h_op (.ref (extN 0) 0 0) wa rfl ?_)
   obtain ⟨r_9,hr_10,h_7⟩:=bind_some h_7
   refine h_callq 0 [0] il ft (mk_Stream_Flip_ok hr_10) rfl hb46 rfl (by kernel_rfl) (by kernel_rfl) (by kernel_rfl) (by kernel_rfl) (by kernel_rfl) (by kernel_rfl) (by kernel_rfl) (by decide) (by kernel_rfl) wa (vB r_9.1) (by kernel_rfl) ([((extN 0),some (.cells 2 [(vL eI r_9.2.L),(vI r_9.2.f_at)])),(n_5,gB 5 Spot.enc r_2.1)]:Hp) (by kernel_rfl) (h_opz (vB r_9.1) (h_nil ?_))
   obtain rfl:=some_inj h_7
   exact cu
  ·refine h_movb rfl hc_8 wz (h_skipz (h_skipz (h_opz (vB false) (h_nil ?_))))
   obtain rfl:=some_inj h_7
   exact cu
 ·rintro ⟨⟩ _ sl_ H_ hp_ hq_
  refine wH_at _ hp_ hq_ ?_
  obtain ⟨v_12,h_13,hF⟩:=bind_some hF
  refine wH_joinU [(3,(gV n_5 5 v_12.1))] [((extN 0),some (.cells 2 [(vL eI v_12.2.1),(vI v_12.2.2)])),(n_5,gB 5 Spot.enc v_12.1)] ?_ ?_
  ·rcases cond_some h_13 with⟨hc_14,h_13⟩ | ⟨hc_14,h_13⟩
   ·refine wH_ift rfl hc_14 (wH_sr (h_opz (gV n_5 5 r_2.1) (h_opz (.ref (extN 0) 0 0) (h_opz (gV n_5 5 r_2.1) (h_leng un26 rfl wz ?_)))))
    obtain ⟨r_15,hr_16,h_13⟩:=bind_some h_13
    refine h_callq 0 [0] il ft (mk_Stream_Next_ok hr_16) rfl hb24 rfl (by kernel_rfl) (by kernel_rfl) (by kernel_rfl) (by kernel_rfl) (by kernel_rfl) (by kernel_rfl) (by kernel_rfl) (by decide) (by kernel_rfl) wz (vI r_15.1) (by kernel_rfl) ([((extN 0),some (.cells 2 [(vL eI r_15.2.L),(vI r_15.2.f_at)])),(n_5,gB 5 Spot.enc r_2.1)]:Hp) (by kernel_rfl) ?_
    obtain ⟨_,hi_18,h_13⟩:=bind_some h_13
    refine h_iavg es26 rfl rfl (inR_0 hi_18) (inR_lt hi_18) wz (h_opz (.ref n_5 (0 + (r_15.1).toNat) 0) (h_nil (wH_region (h_opz (.ref n_5 (0 + (r_15.1).toNat) 0) (h_opz (.ref n_5 (0 + (r_15.1).toNat) 0) (h_opz (.ref n_5 (0 + (r_15.1).toNat) 0) (h_opz (.ref n_5 (0 + (r_15.1).toNat) 0) (h_opz (.ref (extN 0) 0 0) (h_opz (.ref n_5 (0 + (r_15.1).toNat) 0) (h_opz (.ref n_5 (0 + (r_15.1).toNat) 0) (h_far pl69_0 rfl 0 rfl wz ?_)))))))))))
    obtain ⟨e_19,hy_20,h_13⟩:=bind_some h_13
    refine h_ldvg 0 1 il ft sz9 ag9 rfl rfl hy_20 (vS e_19.Key) rfl wz (h_lit (([e_19.Key,(⟨#[]⟩:ByteArray),(⟨#[115,97]⟩:ByteArray)]:List ByteArray).map eS) es35 ez35 rfl rfl rfl rfl rfl wz ?_)
    obtain ⟨r_21,hr_22,h_13⟩:=bind_some h_13
    refine h_callq 0 [0] il ft (mk_Stream_Some_ok hr_22) rfl hb5 rfl (by kernel_rfl) (by kernel_rfl) (by kernel_rfl) (by kernel_rfl) (by kernel_rfl) (by kernel_rfl) (by kernel_rfl) (by decide) (by kernel_rfl) wz (vS r_21.1) (by kernel_rfl) ([((extN 0),some (.cells 2 [(vL eI r_21.2.L),(vI r_21.2.f_at)])),(n_5,gB 5 Spot.enc r_2.1)]:Hp) (by kernel_rfl) (h_opz (.ref (extN 0) 0 0) ?_)
    obtain ⟨r_24,hr_25,h_13⟩:=bind_some h_13
    refine h_callq 0 [0] il ft (mk_Stream_Odd_ok hr_25) rfl hb47 rfl (by kernel_rfl) (by kernel_rfl) (by kernel_rfl) (by kernel_rfl) (by kernel_rfl) (by kernel_rfl) (by kernel_rfl) (by decide) (by kernel_rfl) wz (vI r_24.1) (by kernel_rfl) ([((extN 0),some (.cells 2 [(vL eI r_24.2.L),(vI r_24.2.f_at)])),(n_5,gB 5 Spot.enc r_2.1)]:Hp) (by kernel_rfl) (h_opz (.ref (extN 0) 0 0) ?_)
    obtain ⟨r_27,hr_28,h_13⟩:=bind_some h_13
    refine h_callq 0 [0] il ft (mk_Stream_Odd_ok hr_28) rfl hb47 rfl (by kernel_rfl) (by kernel_rfl) (by kernel_rfl) (by kernel_rfl) (by kernel_rfl) (by kernel_rfl) (by kernel_rfl) (by decide) (by kernel_rfl) wz (vI r_27.1) (by kernel_rfl) ([((extN 0),some (.cells 2 [(vL eI r_27.2.L),(vI r_27.2.f_at)])),(n_5,gB 5 Spot.enc r_2.1)]:Hp) (by kernel_rfl) (h_lit (([(⟨#[98]⟩:ByteArray),(⟨#[97]⟩:ByteArray)]:List ByteArray).map eS) es35 ez35 rfl rfl rfl rfl rfl wz (h_lit (([(⟨#[65]⟩:ByteArray)]:List ByteArray).map eS) es35 ez35 rfl rfl rfl rfl rfl wz (h_lit (([([]:List ByteArray),([(⟨#[98]⟩:ByteArray),(⟨#[97]⟩:ByteArray)]:List ByteArray),([(⟨#[65]⟩:ByteArray)]:List ByteArray)]:List (List ByteArray)).map (eL eS)) es84 ez84 rfl rfl rfl rfl rfl wz (h_opz (.ref (extN 0) 0 0) ?_))))
    obtain ⟨r_30,hr_31,h_13⟩:=bind_some h_13
    refine h_callq 0 [0] il ft (mk_Stream_Next_ok hr_31) rfl hb24 rfl (by kernel_rfl) (by kernel_rfl) (by kernel_rfl) (by kernel_rfl) (by kernel_rfl) (by kernel_rfl) (by kernel_rfl) (by decide) (by kernel_rfl) wz (vI r_30.1) (by kernel_rfl) ([((extN 0),some (.cells 2 [(vL eI r_30.2.L),(vI r_30.2.f_at)])),(n_5,gB 5 Spot.enc r_2.1)]:Hp) (by kernel_rfl) ?_
    obtain ⟨y_33,hy_34,h_13⟩:=bind_some h_13
    refine h_ia es84 rfl rfl hy_34 rfl wz (h_ldc sz35 ag35 rfl (vL eS y_33) rfl wz (h_opz (.ref n_5 (0 + (r_15.1).toNat) 0) (h_far pl69_0 rfl 0 rfl wz ?_)))
    obtain ⟨e_35,hy_36,h_13⟩:=bind_some h_13
    refine h_stvg 0 il ft 1 sz9 rfl rfl hy_36 (⟨r_21.1,e_35.Time,e_35.Room,e_35.Tags⟩:Spot) rfl wz (h_re (v':=(gV n_5 5 (r_2.1.set (0 + (r_15.1).toNat) (⟨r_21.1,e_35.Time,e_35.Room,e_35.Tags⟩:Spot)))) 3 rfl (gV_len (by simp)) (h_re (v':=(gV n_5 5 (r_2.1.set (0 + (r_15.1).toNat) (⟨r_21.1,e_35.Time,e_35.Room,e_35.Tags⟩:Spot)))) 14 rfl (gV_len (by simp)) (h_re (v':=(gV n_5 5 (r_2.1.set (0 + (r_15.1).toNat) (⟨r_21.1,e_35.Time,e_35.Room,e_35.Tags⟩:Spot)))) 16 rfl (gV_len (by simp)) (h_opz (.ref n_5 (0 + (r_15.1).toNat) 0) (h_far pl69_1 rfl 1 rfl wz (h_far pl34_1 rfl 2 rfl wz ?_))))))
    obtain ⟨e_37,hy_38,h_13⟩:=bind_some h_13
    refine h_stvg 0 il ft 1 sz3 rfl rfl hy_38 (⟨e_37.Key,(⟨e_37.Time.From,r_24.1⟩:Window),e_37.Room,e_37.Tags⟩:Spot) rfl wz (h_re (v':=(gV n_5 5 ((r_2.1.set (0 + (r_15.1).toNat) (⟨r_21.1,e_35.Time,e_35.Room,e_35.Tags⟩:Spot)).set (0 + (r_15.1).toNat) (⟨e_37.Key,(⟨e_37.Time.From,r_24.1⟩:Window),e_37.Room,e_37.Tags⟩:Spot)))) 3 rfl (gV_len (by simp)) (h_re (v':=(gV n_5 5 ((r_2.1.set (0 + (r_15.1).toNat) (⟨r_21.1,e_35.Time,e_35.Room,e_35.Tags⟩:Spot)).set (0 + (r_15.1).toNat) (⟨e_37.Key,(⟨e_37.Time.From,r_24.1⟩:Window),e_37.Room,e_37.Tags⟩:Spot)))) 14 rfl (gV_len (by simp)) (h_re (v':=(gV n_5 5 ((r_2.1.set (0 + (r_15.1).toNat) (⟨r_21.1,e_35.Time,e_35.Room,e_35.Tags⟩:Spot)).set (0 + (r_15.1).toNat) (⟨e_37.Key,(⟨e_37.Time.From,r_24.1⟩:Window),e_37.Room,e_37.Tags⟩:Spot)))) 16 rfl (gV_len (by simp)) (h_opz (.ref n_5 (0 + (r_15.1).toNat) 0) (h_far pl69_2 rfl 3 rfl wz ?_)))))
    obtain ⟨e_39,hy_40,h_13⟩:=bind_some h_13
    refine h_stvg 0 il ft 1 sz3 rfl rfl hy_40 (⟨e_39.Key,e_39.Time,r_27.1,e_39.Tags⟩:Spot) rfl wz (h_re (v':=(gV n_5 5 (((r_2.1.set (0 + (r_15.1).toNat) (⟨r_21.1,e_35.Time,e_35.Room,e_35.Tags⟩:Spot)).set (0 + (r_15.1).toNat) (⟨e_37.Key,(⟨e_37.Time.From,r_24.1⟩:Window),e_37.Room,e_37.Tags⟩:Spot)).set (0 + (r_15.1).toNat) (⟨e_39.Key,e_39.Time,r_27.1,e_39.Tags⟩:Spot)))) 3 rfl (gV_len (by simp)) (h_re (v':=(gV n_5 5 (((r_2.1.set (0 + (r_15.1).toNat) (⟨r_21.1,e_35.Time,e_35.Room,e_35.Tags⟩:Spot)).set (0 + (r_15.1).toNat) (⟨e_37.Key,(⟨e_37.Time.From,r_24.1⟩:Window),e_37.Room,e_37.Tags⟩:Spot)).set (0 + (r_15.1).toNat) (⟨e_39.Key,e_39.Time,r_27.1,e_39.Tags⟩:Spot)))) 14 rfl (gV_len (by simp)) (h_re (v':=(gV n_5 5 (((r_2.1.set (0 + (r_15.1).toNat) (⟨r_21.1,e_35.Time,e_35.Room,e_35.Tags⟩:Spot)).set (0 + (r_15.1).toNat) (⟨e_37.Key,(⟨e_37.Time.From,r_24.1⟩:Window),e_37.Room,e_37.Tags⟩:Spot)).set (0 + (r_15.1).toNat) (⟨e_39.Key,e_39.Time,r_27.1,e_39.Tags⟩:Spot)))) 16 rfl (gV_len (by simp)) (h_opz (.ref n_5 (0 + (r_15.1).toNat) 0) (h_far pl69_3 rfl 4 rfl wz ?_)))))
    obtain ⟨e_41,hy_42,h_13⟩:=bind_some h_13
    refine h_stvg 0 il ft 1 sz35 rfl rfl hy_42 (⟨e_41.Key,e_41.Time,e_41.Room,y_33⟩:Spot) rfl wz (h_re (v':=(gV n_5 5 ((((r_2.1.set (0 + (r_15.1).toNat) (⟨r_21.1,e_35.Time,e_35.Room,e_35.Tags⟩:Spot)).set (0 + (r_15.1).toNat) (⟨e_37.Key,(⟨e_37.Time.From,r_24.1⟩:Window),e_37.Room,e_37.Tags⟩:Spot)).set (0 + (r_15.1).toNat) (⟨e_39.Key,e_39.Time,r_27.1,e_39.Tags⟩:Spot)).set (0 + (r_15.1).toNat) (⟨e_41.Key,e_41.Time,e_41.Room,y_33⟩:Spot)))) 3 rfl (gV_len (by simp)) (h_re (v':=(gV n_5 5 ((((r_2.1.set (0 + (r_15.1).toNat) (⟨r_21.1,e_35.Time,e_35.Room,e_35.Tags⟩:Spot)).set (0 + (r_15.1).toNat) (⟨e_37.Key,(⟨e_37.Time.From,r_24.1⟩:Window),e_37.Room,e_37.Tags⟩:Spot)).set (0 + (r_15.1).toNat) (⟨e_39.Key,e_39.Time,r_27.1,e_39.Tags⟩:Spot)).set (0 + (r_15.1).toNat) (⟨e_41.Key,e_41.Time,e_41.Room,y_33⟩:Spot)))) 14 rfl (gV_len (by simp)) (h_re (v':=(gV n_5 5 ((((r_2.1.set (0 + (r_15.1).toNat) (⟨r_21.1,e_35.Time,e_35.Room,e_35.Tags⟩:Spot)).set (0 + (r_15.1).toNat) (⟨e_37.Key,(⟨e_37.Time.From,r_24.1⟩:Window),e_37.Room,e_37.Tags⟩:Spot)).set (0 + (r_15.1).toNat) (⟨e_39.Key,e_39.Time,r_27.1,e_39.Tags⟩:Spot)).set (0 + (r_15.1).toNat) (⟨e_41.Key,e_41.Time,e_41.Room,y_33⟩:Spot)))) 16 rfl (gV_len (by simp)) (h_nil ?_))))
    obtain rfl:=some_inj h_13
    exact cu
   ·refine wH_iff rfl hc_14 (wH_skip ?_)
    obtain rfl:=some_inj h_13
    exact cu
  ·rintro ⟨⟩ _ sl_ H_ hp_ hq_
   refine wH_at _ hp_ hq_ (wH_sr (h_opz (gV n_5 5 v_12.1) (h_opz (gV n_5 5 v_12.1) (h_nil (wH_frozg 1 rfl (wH_cog 2 1 rfl rfl (wH_cog 3 1 rfl rfl (wH_cog 51 1 rfl rfl ?_))))))))
   obtain rfl:=some_inj hF
   exact wH_ret (finB (.inr rfl) [(vL Spot.enc v_12.1)] _ [0] [extN 0] ⟨rfl,trivial⟩ (.cons (co_data rfl rfl) (.nil)) (by kernel_rfl) ⟨(by kernel_rfl),trivial⟩ (by decide) (by kernel_rfl))
theorem mk_Stream_RightCampaigns_okb {s_1:Stream} {most_2:Int} {r:(List Campaign)×Stream} (hF:mk_Stream_RightCampaigns s_1 most_2=some r) :
  FnM Try.prog 48 [(.ref (extN 0) 0 0),(vI most_2)] [(.cells 2 [(vL eI s_1.L),(vI s_1.f_at)])] (gV (extN 1) 8 r.1) (([(.cells 2 [(vL eI r.2.L),(vI r.2.f_at)])]:List Box).map some++gO 8 Campaign.enc r.1):=by
 refine FnM.of_wH ⟨Try.prog,63,[],[]⟩ rfl Try.func48 rfl rfl (Nat.le_of_ble_eq_true rfl) (by kernel_rfl) ?_
 unfold mk_Stream_RightCampaigns at hF
 refine wH_sr (h_opz .nil (h_nil (wH_sr (h_opz .nil (h_nil (wH_seq (wH_sr (h_lit (([(⟨#[99,97]⟩:ByteArray),(⟨#[99,98]⟩:ByteArray),(⟨#[99,99]⟩:ByteArray),(⟨#[99,100]⟩:ByteArray)]:List ByteArray).map eS) es35 ez35 rfl rfl rfl rfl rfl wz (h_opz (vI most_2) ?_)))))))))
 obtain ⟨y_3,hy_4,hF⟩:=bind_some hF
 refine h_sublFalseTrue un35 sz9 (fun _=>rfl) rfl rfl hy_4 wz (h_len un35 rfl wz (h_opz (vI 0) (h_nil (wH_new (fun n_11 => ?_)))))
 obtain ⟨o_16,hj_17,hF⟩:=bind_some hF
 obtain ⟨hn_9,hj_17⟩:=forL_some hj_17
 refine wH_loopF (σ:=(List Campaign)×(List Int)×Int) (N:=Nm) (fun p=>(fun (s_10:(List Campaign)×(List Int)×Int) (n_13:Nm)=>([(5,(gV n_13 8 s_10.1))]:List (Nat×V))) p.1 p.2) (fun p=>(fun (s_10:(List Campaign)×(List Int)×Int) (n_13:Nm)=>([((extN 0),some (.cells 2 [(vL eI s_10.2.1),(vI s_10.2.2)])),(n_13,gB 8 Campaign.enc s_10.1)]:Hp)) p.1 p.2) (fun (k_5:Nat)=>(fun p=>(fun (s_10:(List Campaign)×(List Int)×Int) (n_13:Nm)=>([(0,(.ref (extN 0) 0 0)),(5,(gV n_13 8 s_10.1)),(13,(vL eS y_3)),(14,(vI (y_3.length:Int))),(15,(vI (k_5:Int)))]:List (Nat×V))) p.1 p.2)) (fun k x s=>mk_Stream_RightCampaigns_L2 k x s) o_16 y_3 ((([]:List Campaign),s_1.L,s_1.f_at),n_11) hj_17 rfl (pre_r rfl) ?_ ?_
 ·rintro ⟨k_5,l_6,s_10,n_13⟩ ⟨hL_15,hD_8⟩
  dsimp only at hL_15 hD_8
  cases l_6 with
  | nil =>
   obtain rfl:=some_inj hL_15
   refine wH_sr (h_opz (vB (decide ((k_5:Int) < (y_3.length:Int)))) (h_nil ?_))
   refine wH_seq (wH_iff rfl (drop_nil hD_8) (wH_exit ?_))
   exact cut_mk (s_10,n_13) rfl rfl (pre_r rfl)
  | cons x_7 l_6 =>
   obtain ⟨c_,hc_14,hL_15⟩:=bind_some hL_15
   refine wH_sr (h_opz (vB (decide ((k_5:Int) < (y_3.length:Int)))) (h_nil ?_))
   refine wH_seq (wH_ift rfl (drop_cons hD_8) (wH_skip ?_))
   unfold mk_Stream_RightCampaigns_L2 at hc_14
   refine wH_seq (wH_block (wH_sr (h_ia es35 rfl rfl (drop_idx hD_8) rfl wz (h_ldc sz9 ag9 rfl (vS x_7) rfl wz (h_opz (vS x_7) (h_nil (wH_seq (wH_sr (h_opz (.ref (extN 0) 0 0) ?_)))))))))
   obtain ⟨r_18,hr_19,hc_14⟩:=bind_some hc_14
   refine h_callq 0 [0] il ft (mk_Stream_Flip_ok hr_19) rfl hb46 rfl (by kernel_rfl) (by kernel_rfl) (by kernel_rfl) (by kernel_rfl) (by kernel_rfl) (by kernel_rfl) (by kernel_rfl) (by decide) (by kernel_rfl) wz (vB r_18.1) (by kernel_rfl) ([((extN 0),some (.cells 2 [(vL eI r_18.2.L),(vI r_18.2.f_at)])),(n_13,gB 8 Campaign.enc s_10.1)]:Hp) (by kernel_rfl) (h_nil ?_)
   rcases cond_some hc_14 with⟨hc_21,hc_14⟩ | ⟨hc_21,hc_14⟩
   ·refine wH_ift rfl hc_21 (wH_exit (wH_region (h_opw (w64_next hD_8 hn_9) wz rfl (h_opz (vI ((k_5 + 1:Nat):Int)) (h_nil ?_)))))
    obtain rfl:=some_inj hc_14
    exact loop_mk (k_5 + 1,l_6,(s_10.1,r_18.2.L,r_18.2.f_at),n_13) ⟨hL_15,drop_next hD_8⟩ (Nat.lt_succ_self _) rfl (pre_r rfl)
   ·refine wH_iff rfl hc_21 (wH_skip (wH_sr (h_opz (vS x_7) (h_opz (.ref (extN 0) 0 0) (h_lit (([(⟨#[]⟩:ByteArray),(⟨#[]⟩:ByteArray),(⟨#[99,97,114,115]⟩:ByteArray),(⟨#[102,111,111,100]⟩:ByteArray)]:List ByteArray).map eS) es35 ez35 rfl rfl rfl rfl rfl wz ?_)))))
    obtain ⟨r_22,hr_23,hc_14⟩:=bind_some hc_14
    refine h_callq 0 [0] il ft (mk_Stream_Some_ok hr_23) rfl hb5 rfl (by kernel_rfl) (by kernel_rfl) (by kernel_rfl) (by kernel_rfl) (by kernel_rfl) (by kernel_rfl) (by kernel_rfl) (by decide) (by kernel_rfl) wz (vS r_22.1) (by kernel_rfl) ([((extN 0),some (.cells 2 [(vL eI r_22.2.L),(vI r_22.2.f_at)])),(n_13,gB 8 Campaign.enc s_10.1)]:Hp) (by kernel_rfl) (h_opz (.ref (extN 0) 0 0) (h_lit (([0,0,10,20]:List Int).map eI) es22 ez22 rfl rfl rfl rfl rfl wz ?_))
    obtain ⟨r_25,hr_26,hc_14⟩:=bind_some hc_14
    refine h_callq 0 [0] il ft (mk_Stream_Pick_ok hr_26) rfl hb6 rfl (by kernel_rfl) (by kernel_rfl) (by kernel_rfl) (by kernel_rfl) (by kernel_rfl) (by kernel_rfl) (by kernel_rfl) (by decide) (by kernel_rfl) wz (vI r_25.1) (by kernel_rfl) ([((extN 0),some (.cells 2 [(vL eI r_25.2.L),(vI r_25.2.f_at)])),(n_13,gB 8 Campaign.enc s_10.1)]:Hp) (by kernel_rfl) (h_opz (.ref (extN 0) 0 0) (h_lit (([30,50,60,100]:List Int).map eI) es22 ez22 rfl rfl rfl rfl rfl wz ?_))
    obtain ⟨r_28,hr_29,hc_14⟩:=bind_some hc_14
    refine h_callq 0 [0] il ft (mk_Stream_Pick_ok hr_29) rfl hb6 rfl (by kernel_rfl) (by kernel_rfl) (by kernel_rfl) (by kernel_rfl) (by kernel_rfl) (by kernel_rfl) (by kernel_rfl) (by decide) (by kernel_rfl) wz (vI r_28.1) (by kernel_rfl) ([((extN 0),some (.cells 2 [(vL eI r_28.2.L),(vI r_28.2.f_at)])),(n_13,gB 8 Campaign.enc s_10.1)]:Hp) (by kernel_rfl) (h_op (.d (.agg (Window.enc (⟨r_25.1,r_28.1⟩:Window)))) wz (by kernel_rfl) (h_opz (.ref (extN 0) 0 0) (h_lit (([0,1,2,3,4,6]:List Int).map eI) es22 ez22 rfl rfl rfl rfl rfl wz ?_)))
    obtain ⟨r_31,hr_32,hc_14⟩:=bind_some hc_14
    refine h_callq 0 [0] il ft (mk_Stream_Pick_ok hr_32) rfl hb6 rfl (by kernel_rfl) (by kernel_rfl) (by kernel_rfl) (by kernel_rfl) (by kernel_rfl) (by kernel_rfl) (by kernel_rfl) (by decide) (by kernel_rfl) wz (vI r_31.1) (by kernel_rfl) ([((extN 0),some (.cells 2 [(vL eI r_31.2.L),(vI r_31.2.f_at)])),(n_13,gB 8 Campaign.enc s_10.1)]:Hp) (by kernel_rfl) (h_opz (.ref (extN 0) 0 0) (h_lit (([0,1,2,3,9]:List Int).map eI) es22 ez22 rfl rfl rfl rfl rfl wz ?_))
    obtain ⟨r_34,hr_35,hc_14⟩:=bind_some hc_14
    refine h_callq 0 [0] il ft (mk_Stream_Pick_ok hr_35) rfl hb6 rfl (by kernel_rfl) (by kernel_rfl) (by kernel_rfl) (by kernel_rfl) (by kernel_rfl) (by kernel_rfl) (by kernel_rfl) (by decide) (by kernel_rfl) wz (vI r_34.1) (by kernel_rfl) ([((extN 0),some (.cells 2 [(vL eI r_34.2.L),(vI r_34.2.f_at)])),(n_13,gB 8 Campaign.enc s_10.1)]:Hp) (by kernel_rfl) (h_opz (.ref (extN 0) 0 0) (h_lit (([0,500,1000,1500]:List Int).map eI) es22 ez22 rfl rfl rfl rfl rfl wz ?_))
    obtain ⟨r_37,hr_38,hc_14⟩:=bind_some hc_14
    refine h_callq 0 [0] il ft (mk_Stream_Pick_ok hr_38) rfl hb6 rfl (by kernel_rfl) (by kernel_rfl) (by kernel_rfl) (by kernel_rfl) (by kernel_rfl) (by kernel_rfl) (by kernel_rfl) (by decide) (by kernel_rfl) wz (vI r_37.1) (by kernel_rfl) ([((extN 0),some (.cells 2 [(vL eI r_37.2.L),(vI r_37.2.f_at)])),(n_13,gB 8 Campaign.enc s_10.1)]:Hp) (by kernel_rfl) (h_op (.agg [(vS x_7),(vS r_22.1),(vI r_25.1),(vI r_28.1),.nil,(vI r_31.1),(vI r_34.1),(vI r_37.1)]) wz (by kernel_rfl) (h_alloc 0 (.inl rfl) z37 rfl wz (fun n_40=>h_str 0 il ft 2 sz37 rfl rfl [(vS x_7),(vS r_22.1),(vI r_25.1),(vI r_28.1),.nil,(vI r_31.1),(vI r_34.1),(vI r_37.1)] rfl wz (h_nil (wH_seq (wH_sr (h_lit (([(⟨#[99,105,116,121]⟩:ByteArray),(⟨#[109,97,108,108]⟩:ByteArray)]:List ByteArray).map eS) es35 ez35 rfl rfl rfl rfl rfl wz (h_len un35 rfl wz (h_opz (vI 0) (h_nil (wH_at (H0:=([((extN 0),some (.cells 2 [(vL eI r_37.2.L),(vI r_37.2.f_at)])),(n_13,gB 8 Campaign.enc s_10.1),(n_40,some (.cells 8 [(vS x_7),(vS r_22.1),(vI r_25.1),(vI r_28.1),.nil,(vI r_31.1),(vI r_34.1),(vI r_37.1)]))]:Hp)) ([(0,(.ref (extN 0) 0 0)),(5,(gV n_13 8 s_10.1)),(8,(.ref n_40 0 0)),(13,(vL eS y_3)),(14,(vI (y_3.length:Int))),(15,(vI (k_5:Int))),(42,(vL eS ([(⟨#[99,105,116,121]⟩:ByteArray),(⟨#[109,97,108,108]⟩:ByteArray)]:List ByteArray))),(43,(vI (([(⟨#[99,105,116,121]⟩:ByteArray),(⟨#[109,97,108,108]⟩:ByteArray)]:List ByteArray).length:Int))),(44,(vI 0))]:List (Nat×V)) (by kernel_rfl) (pre_mk (by kernel_rfl)) (wH_new (fun n_47 => ?_)))))))))))))
    obtain ⟨o_52,hj_53,hc_14⟩:=bind_some hc_14
    obtain ⟨hn_45,hj_53⟩:=forL_some hj_53
    refine wH_loopF (σ:=(List ByteArray)×(List Int)×Int) (N:=Nm) (fun p=>(fun (s_46:(List ByteArray)×(List Int)×Int) (n_49:Nm)=>([(0,(.ref (extN 0) 0 0)),(5,(gV n_13 8 s_10.1)),(8,(.ref n_40 0 0)),(13,(vL eS y_3)),(14,(vI (y_3.length:Int))),(15,(vI (k_5:Int)))]:List (Nat×V))) p.1 p.2) (fun p=>(fun (s_46:(List ByteArray)×(List Int)×Int) (n_49:Nm)=>([((extN 0),some (.cells 2 [(vL eI s_46.2.1),(vI s_46.2.2)])),(n_13,gB 8 Campaign.enc s_10.1),(n_40,some (.cells 8 [(vS x_7),(vS r_22.1),(vI r_25.1),(vI r_28.1),(gV n_49 1 s_46.1),(vI r_31.1),(vI r_34.1),(vI r_37.1)])),(n_49,gB 1 eS s_46.1)]:Hp)) p.1 p.2) (fun (k_41:Nat)=>(fun p=>(fun (s_46:(List ByteArray)×(List Int)×Int) (n_49:Nm)=>([(0,(.ref (extN 0) 0 0)),(5,(gV n_13 8 s_10.1)),(8,(.ref n_40 0 0)),(13,(vL eS y_3)),(14,(vI (y_3.length:Int))),(15,(vI (k_5:Int))),(42,(vL eS ([(⟨#[99,105,116,121]⟩:ByteArray),(⟨#[109,97,108,108]⟩:ByteArray)]:List ByteArray))),(43,(vI (([(⟨#[99,105,116,121]⟩:ByteArray),(⟨#[109,97,108,108]⟩:ByteArray)]:List ByteArray).length:Int))),(44,(vI (k_41:Int)))]:List (Nat×V))) p.1 p.2)) (fun k x s=>mk_Stream_RightCampaigns_L1 k x s) o_52 ([(⟨#[99,105,116,121]⟩:ByteArray),(⟨#[109,97,108,108]⟩:ByteArray)]:List ByteArray) ((([]:List ByteArray),r_37.2.L,r_37.2.f_at),n_47) hj_53 rfl (pre_r rfl) ?_ ?_
    ·rintro ⟨k_41,l_42,s_46,n_49⟩ ⟨hL_51,hD_44⟩
     dsimp only at hL_51 hD_44
     cases l_42 with
     | nil =>
      obtain rfl:=some_inj hL_51
      refine wH_sr (h_opz (vB (decide ((k_41:Int) < (([(⟨#[99,105,116,121]⟩:ByteArray),(⟨#[109,97,108,108]⟩:ByteArray)]:List ByteArray).length:Int)))) (h_nil ?_))
      refine wH_seq (wH_iff rfl (drop_nil hD_44) (wH_exit ?_))
      exact cut_mk (s_46,n_49) rfl rfl (pre_r rfl)
     | cons x_43 l_42 =>
      obtain ⟨c_,hc_50,hL_51⟩:=bind_some hL_51
      refine wH_sr (h_opz (vB (decide ((k_41:Int) < (([(⟨#[99,105,116,121]⟩:ByteArray),(⟨#[109,97,108,108]⟩:ByteArray)]:List ByteArray).length:Int)))) (h_nil ?_))
      refine wH_seq (wH_ift rfl (drop_cons hD_44) (wH_skip ?_))
      unfold mk_Stream_RightCampaigns_L1 at hc_50
      refine wH_seq (wH_block (wH_sr (h_ia es35 rfl rfl (drop_idx hD_44) rfl wz (h_ldc sz9 ag9 rfl (vS x_43) rfl wz (h_opz (vS x_43) (h_nil (wH_sr (h_opz (.ref (extN 0) 0 0) ?_))))))))
      obtain ⟨r_54,hr_55,hc_50⟩:=bind_some hc_50
      refine h_callq 0 [0] il ft (mk_Stream_Flip_ok hr_55) rfl hb46 rfl (by kernel_rfl) (by kernel_rfl) (by kernel_rfl) (by kernel_rfl) (by kernel_rfl) (by kernel_rfl) (by kernel_rfl) (by decide) (by kernel_rfl) wz (vB r_54.1) (by kernel_rfl) ([((extN 0),some (.cells 2 [(vL eI r_54.2.L),(vI r_54.2.f_at)])),(n_13,gB 8 Campaign.enc s_10.1),(n_40,some (.cells 8 [(vS x_7),(vS r_22.1),(vI r_25.1),(vI r_28.1),(gV n_49 1 s_46.1),(vI r_31.1),(vI r_34.1),(vI r_37.1)])),(n_49,gB 1 eS s_46.1)]:Hp) (by kernel_rfl) (h_nil ?_)
      obtain ⟨v_57,h_58,hc_50⟩:=bind_some hc_50
      refine wH_join (β:=Nm) (fun (n_59:Nm)=>([(0,(.ref (extN 0) 0 0)),(5,(gV n_13 8 s_10.1)),(8,(.ref n_40 0 0)),(13,(vL eS y_3)),(14,(vI (y_3.length:Int))),(15,(vI (k_5:Int))),(42,(vL eS ([(⟨#[99,105,116,121]⟩:ByteArray),(⟨#[109,97,108,108]⟩:ByteArray)]:List ByteArray))),(43,(vI (([(⟨#[99,105,116,121]⟩:ByteArray),(⟨#[109,97,108,108]⟩:ByteArray)]:List ByteArray).length:Int))),(44,(vI (k_41:Int)))]:List (Nat×V))) (fun (n_59:Nm)=>([((extN 0),some (.cells 2 [(vL eI r_54.2.L),(vI r_54.2.f_at)])),(n_13,gB 8 Campaign.enc s_10.1),(n_40,some (.cells 8 [(vS x_7),(vS r_22.1),(vI r_25.1),(vI r_28.1),(gV n_59 1 v_57),(vI r_31.1),(vI r_34.1),(vI r_37.1)])),(n_59,gB 1 eS v_57)]:Hp)) (fun _=>True) ?_ ?_
      ·rcases cond_some h_58 with⟨hc_60,h_58⟩ | ⟨hc_60,h_58⟩
       ·refine wH_ift rfl hc_60 (wH_region (h_far pl37_3 rfl 4 rfl wz (h_ldr 0 2 il ft sz35 ag35 rfl rfl (gV n_49 1 s_46.1) rfl wz (h_opz (vS x_43) (h_lit (([x_43]:List ByteArray).map eS) es35 ez35 rfl rfl rfl rfl rfl wz ?_)))))
        obtain ⟨a_61,hz_62,h_58⟩:=bind_some h_58
        refine h_appg 0 il ft (i:=3) el35 el35 sz9 z9 rfl (by decide) by9 (by decide) (fun _=>rfl) rfl rfl rfl hz_62 wz (fun n_63=>h_far pl37_3 rfl 4 rfl wz (h_str 0 il ft 2 sz35 rfl rfl [(vS x_7),(vS r_22.1),(vI r_25.1),(vI r_28.1),(gV n_63 1 a_61),(vI r_31.1),(vI r_34.1),(vI r_37.1)] (stC_g rfl) wz (h_nil ?_)))
        obtain rfl:=some_inj h_58
        exact cut_mk n_63 trivial rfl (pre_r rfl)
       ·refine wH_iff rfl hc_60 (wH_skip ?_)
        obtain rfl:=some_inj h_58
        exact cut_mk n_49 trivial rfl (pre_r rfl)
      ·rintro n_59 _ sl_ H_ hp_ hq_
       refine wH_at _ hp_ hq_ (wH_region (h_opw (w64_next hD_44 hn_45) wz rfl (h_opz (vI ((k_41 + 1:Nat):Int)) (h_nil ?_))))
       obtain rfl:=some_inj hc_50
       exact loop_mk (k_41 + 1,l_42,(v_57,r_54.2.L,r_54.2.f_at),n_59) ⟨hL_51,drop_next hD_44⟩ (Nat.lt_succ_self _) rfl (pre_r rfl)
    ·rintro ⟨s_46,n_49⟩ ho_ sl_ H_ hp_ hq_
     subst ho_
     refine wH_at _ hp_ hq_ (wH_frozg 3 rfl (wH_coc 3 2 [(vS x_7),(vS r_22.1),(vI r_25.1),(vI r_28.1),(vL eS s_46.1),(vI r_31.1),(vI r_34.1),(vI r_37.1)] rfl rfl (fun S hS=>cons_eq (rfl) (cons_eq (rfl) (cons_eq (rfl) (cons_eq (rfl) (cons_eq (hS) (cons_eq (rfl) (cons_eq (rfl) (cons_eq (rfl) (rfl))))))))) (wH_region (h_opz (gV n_13 8 s_10.1) (h_ldr 0 2 il ft sz37 ag37 rfl rfl (.d (.agg (Campaign.enc (⟨x_7,r_22.1,(⟨r_25.1,r_28.1⟩:Window),s_46.1,r_31.1,r_34.1,r_37.1⟩:Campaign)))) rfl wz (h_lit (([(⟨x_7,r_22.1,(⟨r_25.1,r_28.1⟩:Window),s_46.1,r_31.1,r_34.1,r_37.1⟩:Campaign)]:List Campaign).map Campaign.enc) es27 ez27 rfl rfl rfl rfl rfl wz ?_))))))
     obtain ⟨a_64,hz_65,hc_14⟩:=bind_some hc_14
     refine h_appg 0 il ft (i:=1) el27 el27 sz37 z37 rfl (by decide) by37 (by decide) (fun _=>rfl) rfl rfl rfl hz_65 wz (fun n_66=>h_opz (gV n_66 8 a_64) (h_nil (wH_region (h_opw (w64_next hD_8 hn_9) wz rfl (h_opz (vI ((k_5 + 1:Nat):Int)) (h_nil ?_))))))
     obtain rfl:=some_inj hc_14
     exact loop_mk (k_5 + 1,l_6,(a_64,s_46.2.1,s_46.2.2),n_66) ⟨hL_15,drop_next hD_8⟩ (Nat.lt_succ_self _) rfl (pre_r rfl)
 ·rintro ⟨s_10,n_13⟩ ho_ sl_ H_ hp_ hq_
  subst ho_
  refine wH_at _ hp_ hq_ (wH_sr (h_opz (gV n_13 8 s_10.1) (h_opz (gV n_13 8 s_10.1) (h_nil ?_))))
  obtain rfl:=some_inj hF
  exact wH_ret (finG (outs:=([(.cells 2 [(vL eI s_10.2.1),(vI s_10.2.2)])]:List Box)) (.inr rfl) 1 rfl rfl rfl (by kernel_rfl) (by kernel_rfl))
theorem mk_Stream_Campaigns_ok {s_1:Stream} {most_2:Int} {r:(List Campaign)×Stream} (hF:mk_Stream_Campaigns s_1 most_2=some r) :
  FnM Try.prog 22 [(.ref (extN 0) 0 0),(vI most_2)] [(.cells 2 [(vL eI s_1.L),(vI s_1.f_at)])] (vL Campaign.enc r.1) [some (.cells 2 [(vL eI r.2.L),(vI r.2.f_at)])]:=by
 refine FnM.of_wH ⟨Try.prog,80,[],[]⟩ rfl Try.func22 rfl rfl (Nat.le_of_ble_eq_true rfl) (by kernel_rfl) ?_
 unfold mk_Stream_Campaigns at hF
 refine wH_sr (h_opz .nil (h_nil (wH_sr (h_opz (.ref (extN 0) 0 0) (h_opz (vI most_2) ?_)))))
 obtain ⟨r_3,hr_4,hF⟩:=bind_some hF
 refine h_callg [0] (mk_Stream_RightCampaigns_okb hr_4) rfl hb48 rfl (by kernel_rfl) (by kernel_rfl) (by kernel_rfl) (by kernel_rfl) (by kernel_rfl) rfl (by decide) (by kernel_rfl) wz ([((extN 0),some (.cells 2 [(vL eI r_3.2.L),(vI r_3.2.f_at)]))]:Hp) (fun _=>by kernel_rfl) (fun n_6=>h_opz (gV n_6 8 r_3.1) (h_nil (wH_seq (wH_seq ?_))))
 obtain ⟨v_7,h_8,hF⟩:=bind_some hF
 refine wH_joinU [(0,(.ref (extN 0) 0 0)),(5,(gV n_6 8 r_3.1)),(16,(vB v_7.1))] [((extN 0),some (.cells 2 [(vL eI v_7.2.1),(vI v_7.2.2)])),(n_6,gB 8 Campaign.enc r_3.1)] ?_ ?_
 ·refine wH_region (h_opz (gV n_6 8 r_3.1) (h_leng un27 rfl wz (h_opz (vB (decide ((r_3.1.length:Int) > 0))) ?_)))
  rcases cond_some h_8 with⟨hc_9,h_8⟩ | ⟨hc_9,h_8⟩
  ·refine h_movb rfl hc_9 wz (h_op (.ref (extN 0) 0 0) wa rfl ?_)
   obtain ⟨r_10,hr_11,h_8⟩:=bind_some h_8
   refine h_callq 0 [0] il ft (mk_Stream_Flip_ok hr_11) rfl hb46 rfl (by kernel_rfl) (by kernel_rfl) (by kernel_rfl) (by kernel_rfl) (by kernel_rfl) (by kernel_rfl) (by kernel_rfl) (by decide) (by kernel_rfl) wa (vB r_10.1) (by kernel_rfl) ([((extN 0),some (.cells 2 [(vL eI r_10.2.L),(vI r_10.2.f_at)])),(n_6,gB 8 Campaign.enc r_3.1)]:Hp) (by kernel_rfl) (h_opz (vB r_10.1) (h_nil ?_))
   obtain rfl:=some_inj h_8
   exact cu
  ·refine h_movb rfl hc_9 wz (h_skipz (h_skipz (h_opz (vB false) (h_nil ?_))))
   obtain rfl:=some_inj h_8
   exact cu
 ·rintro ⟨⟩ _ sl_ H_ hp_ hq_
  refine wH_at _ hp_ hq_ ?_
  obtain ⟨v_13,h_14,hF⟩:=bind_some hF
  refine wH_joinU [(5,(gV n_6 8 v_13.1))] [((extN 0),some (.cells 2 [(vL eI v_13.2.1),(vI v_13.2.2)])),(n_6,gB 8 Campaign.enc v_13.1)] ?_ ?_
  ·rcases cond_some h_14 with⟨hc_15,h_14⟩ | ⟨hc_15,h_14⟩
   ·refine wH_ift rfl hc_15 (wH_sr (h_opz (gV n_6 8 r_3.1) (h_opz (.ref (extN 0) 0 0) (h_opz (gV n_6 8 r_3.1) (h_leng un27 rfl wz ?_)))))
    obtain ⟨r_16,hr_17,h_14⟩:=bind_some h_14
    refine h_callq 0 [0] il ft (mk_Stream_Next_ok hr_17) rfl hb24 rfl (by kernel_rfl) (by kernel_rfl) (by kernel_rfl) (by kernel_rfl) (by kernel_rfl) (by kernel_rfl) (by kernel_rfl) (by decide) (by kernel_rfl) wz (vI r_16.1) (by kernel_rfl) ([((extN 0),some (.cells 2 [(vL eI r_16.2.L),(vI r_16.2.f_at)])),(n_6,gB 8 Campaign.enc r_3.1)]:Hp) (by kernel_rfl) ?_
    obtain ⟨_,hi_19,h_14⟩:=bind_some h_14
    refine h_iavg es27 rfl rfl (inR_0 hi_19) (inR_lt hi_19) wz (h_opz (.ref n_6 (0 + (r_16.1).toNat) 0) (h_nil (wH_sr (h_opz (.ref (extN 0) 0 0) ?_))))
    obtain ⟨r_20,hr_21,h_14⟩:=bind_some h_14
    refine h_callq 0 [0] il ft (mk_Stream_Next_ok hr_21) rfl hb24 rfl (by kernel_rfl) (by kernel_rfl) (by kernel_rfl) (by kernel_rfl) (by kernel_rfl) (by kernel_rfl) (by kernel_rfl) (by decide) (by kernel_rfl) wz (vI r_20.1) (by kernel_rfl) ([((extN 0),some (.cells 2 [(vL eI r_20.2.L),(vI r_20.2.f_at)])),(n_6,gB 8 Campaign.enc r_3.1)]:Hp) (by kernel_rfl) (h_nil (wH_block (wH_sr (h_opz (vB (r_20.1 == 0)) (h_opz (vB (r_20.1 == 0)) (h_nil ?_))))))
    rcases cond_some h_14 with⟨hc_23,h_14⟩ | ⟨hc_23,h_14⟩
    ·refine wH_ift rfl hc_23 (wH_region (h_opz (.ref n_6 (0 + (r_16.1).toNat) 0) (h_opz (.ref n_6 (0 + (r_16.1).toNat) 0) (h_opz (.ref (extN 0) 0 0) (h_opz (.ref n_6 (0 + (r_16.1).toNat) 0) (h_opz (.ref n_6 (0 + (r_16.1).toNat) 0) (h_far pl37_0 rfl 0 rfl wz ?_)))))))
     obtain ⟨e_24,hy_25,h_14⟩:=bind_some h_14
     refine h_ldvg 0 1 il ft sz9 ag9 rfl rfl hy_25 (vS e_24.Key) rfl wz (h_lit (([e_24.Key,(⟨#[]⟩:ByteArray),(⟨#[99,97]⟩:ByteArray)]:List ByteArray).map eS) es35 ez35 rfl rfl rfl rfl rfl wz ?_)
     obtain ⟨r_26,hr_27,h_14⟩:=bind_some h_14
     refine h_callq 0 [0] il ft (mk_Stream_Some_ok hr_27) rfl hb5 rfl (by kernel_rfl) (by kernel_rfl) (by kernel_rfl) (by kernel_rfl) (by kernel_rfl) (by kernel_rfl) (by kernel_rfl) (by decide) (by kernel_rfl) wz (vS r_26.1) (by kernel_rfl) ([((extN 0),some (.cells 2 [(vL eI r_26.2.L),(vI r_26.2.f_at)])),(n_6,gB 8 Campaign.enc r_3.1)]:Hp) (by kernel_rfl) (h_opz (.ref (extN 0) 0 0) (h_lit (([(⟨#[]⟩:ByteArray),(⟨#[65]⟩:ByteArray)]:List ByteArray).map eS) es35 ez35 rfl rfl rfl rfl rfl wz ?_))
     obtain ⟨r_29,hr_30,h_14⟩:=bind_some h_14
     refine h_callq 0 [0] il ft (mk_Stream_Some_ok hr_30) rfl hb5 rfl (by kernel_rfl) (by kernel_rfl) (by kernel_rfl) (by kernel_rfl) (by kernel_rfl) (by kernel_rfl) (by kernel_rfl) (by decide) (by kernel_rfl) wz (vS r_29.1) (by kernel_rfl) ([((extN 0),some (.cells 2 [(vL eI r_29.2.L),(vI r_29.2.f_at)])),(n_6,gB 8 Campaign.enc r_3.1)]:Hp) (by kernel_rfl) (h_opz (.ref n_6 (0 + (r_16.1).toNat) 0) (h_far pl37_0 rfl 0 rfl wz ?_))
     obtain ⟨e_32,hy_33,h_14⟩:=bind_some h_14
     refine h_stvg 0 il ft 1 sz9 rfl rfl hy_33 (⟨r_26.1,e_32.Class,e_32.Time,e_32.Tags,e_32.Goal,e_32.Most,e_32.Cents⟩:Campaign) rfl wz (h_re (v':=(gV n_6 8 (r_3.1.set (0 + (r_16.1).toNat) (⟨r_26.1,e_32.Class,e_32.Time,e_32.Tags,e_32.Goal,e_32.Most,e_32.Cents⟩:Campaign)))) 5 rfl (gV_len (by simp)) (h_re (v':=(gV n_6 8 (r_3.1.set (0 + (r_16.1).toNat) (⟨r_26.1,e_32.Class,e_32.Time,e_32.Tags,e_32.Goal,e_32.Most,e_32.Cents⟩:Campaign)))) 17 rfl (gV_len (by simp)) (h_re (v':=(gV n_6 8 (r_3.1.set (0 + (r_16.1).toNat) (⟨r_26.1,e_32.Class,e_32.Time,e_32.Tags,e_32.Goal,e_32.Most,e_32.Cents⟩:Campaign)))) 19 rfl (gV_len (by simp)) (h_opz (.ref n_6 (0 + (r_16.1).toNat) 0) (h_far pl37_1 rfl 1 rfl wz ?_)))))
     obtain ⟨e_34,hy_35,h_14⟩:=bind_some h_14
     refine h_stvg 0 il ft 1 sz9 rfl rfl hy_35 (⟨e_34.Key,r_29.1,e_34.Time,e_34.Tags,e_34.Goal,e_34.Most,e_34.Cents⟩:Campaign) rfl wz (h_re (v':=(gV n_6 8 ((r_3.1.set (0 + (r_16.1).toNat) (⟨r_26.1,e_32.Class,e_32.Time,e_32.Tags,e_32.Goal,e_32.Most,e_32.Cents⟩:Campaign)).set (0 + (r_16.1).toNat) (⟨e_34.Key,r_29.1,e_34.Time,e_34.Tags,e_34.Goal,e_34.Most,e_34.Cents⟩:Campaign)))) 5 rfl (gV_len (by simp)) (h_re (v':=(gV n_6 8 ((r_3.1.set (0 + (r_16.1).toNat) (⟨r_26.1,e_32.Class,e_32.Time,e_32.Tags,e_32.Goal,e_32.Most,e_32.Cents⟩:Campaign)).set (0 + (r_16.1).toNat) (⟨e_34.Key,r_29.1,e_34.Time,e_34.Tags,e_34.Goal,e_34.Most,e_34.Cents⟩:Campaign)))) 17 rfl (gV_len (by simp)) (h_re (v':=(gV n_6 8 ((r_3.1.set (0 + (r_16.1).toNat) (⟨r_26.1,e_32.Class,e_32.Time,e_32.Tags,e_32.Goal,e_32.Most,e_32.Cents⟩:Campaign)).set (0 + (r_16.1).toNat) (⟨e_34.Key,r_29.1,e_34.Time,e_34.Tags,e_34.Goal,e_34.Most,e_34.Cents⟩:Campaign)))) 19 rfl (gV_len (by simp)) (h_nil ?_))))
     obtain rfl:=some_inj h_14
     exact cu
    ·refine wH_iff rfl hc_23 (wH_sr (h_opz (vB (r_20.1 == 1)) (h_opz (vB (r_20.1 == 1)) (h_nil ?_))))
     rcases cond_some h_14 with⟨hc_36,h_14⟩ | ⟨hc_36,h_14⟩
     ·refine wH_ift rfl hc_36 (wH_region (h_opz (.ref n_6 (0 + (r_16.1).toNat) 0) (h_opz (.ref (extN 0) 0 0) ?_)))
      obtain ⟨r_37,hr_38,h_14⟩:=bind_some h_14
      refine h_callq 0 [0] il ft (mk_Stream_Odd_ok hr_38) rfl hb47 rfl (by kernel_rfl) (by kernel_rfl) (by kernel_rfl) (by kernel_rfl) (by kernel_rfl) (by kernel_rfl) (by kernel_rfl) (by decide) (by kernel_rfl) wz (vI r_37.1) (by kernel_rfl) ([((extN 0),some (.cells 2 [(vL eI r_37.2.L),(vI r_37.2.f_at)])),(n_6,gB 8 Campaign.enc r_3.1)]:Hp) (by kernel_rfl) (h_opz (.ref n_6 (0 + (r_16.1).toNat) 0) (h_far pl37_2 rfl 2 rfl wz (h_far pl34_1 rfl 3 rfl wz ?_)))
      obtain ⟨e_40,hy_41,h_14⟩:=bind_some h_14
      refine h_stvg 0 il ft 1 sz3 rfl rfl hy_41 (⟨e_40.Key,e_40.Class,(⟨e_40.Time.From,r_37.1⟩:Window),e_40.Tags,e_40.Goal,e_40.Most,e_40.Cents⟩:Campaign) rfl wz (h_re (v':=(gV n_6 8 (r_3.1.set (0 + (r_16.1).toNat) (⟨e_40.Key,e_40.Class,(⟨e_40.Time.From,r_37.1⟩:Window),e_40.Tags,e_40.Goal,e_40.Most,e_40.Cents⟩:Campaign)))) 5 rfl (gV_len (by simp)) (h_re (v':=(gV n_6 8 (r_3.1.set (0 + (r_16.1).toNat) (⟨e_40.Key,e_40.Class,(⟨e_40.Time.From,r_37.1⟩:Window),e_40.Tags,e_40.Goal,e_40.Most,e_40.Cents⟩:Campaign)))) 17 rfl (gV_len (by simp)) (h_re (v':=(gV n_6 8 (r_3.1.set (0 + (r_16.1).toNat) (⟨e_40.Key,e_40.Class,(⟨e_40.Time.From,r_37.1⟩:Window),e_40.Tags,e_40.Goal,e_40.Most,e_40.Cents⟩:Campaign)))) 19 rfl (gV_len (by simp)) (h_nil ?_))))
      obtain rfl:=some_inj h_14
      exact cu
     ·refine wH_iff rfl hc_36 (wH_sr (h_opz (vB (r_20.1 == 2)) (h_opz (vB (r_20.1 == 2)) (h_nil ?_))))
      rcases cond_some h_14 with⟨hc_42,h_14⟩ | ⟨hc_42,h_14⟩
      ·refine wH_ift rfl hc_42 (wH_region (h_opz (.ref n_6 (0 + (r_16.1).toNat) 0) (h_opz (.ref n_6 (0 + (r_16.1).toNat) 0) (h_opz (.ref n_6 (0 + (r_16.1).toNat) 0) (h_opz (.ref (extN 0) 0 0) ?_)))))
       obtain ⟨r_43,hr_44,h_14⟩:=bind_some h_14
       refine h_callq 0 [0] il ft (mk_Stream_Odd_ok hr_44) rfl hb47 rfl (by kernel_rfl) (by kernel_rfl) (by kernel_rfl) (by kernel_rfl) (by kernel_rfl) (by kernel_rfl) (by kernel_rfl) (by decide) (by kernel_rfl) wz (vI r_43.1) (by kernel_rfl) ([((extN 0),some (.cells 2 [(vL eI r_43.2.L),(vI r_43.2.f_at)])),(n_6,gB 8 Campaign.enc r_3.1)]:Hp) (by kernel_rfl) (h_opz (.ref (extN 0) 0 0) ?_)
       obtain ⟨r_46,hr_47,h_14⟩:=bind_some h_14
       refine h_callq 0 [0] il ft (mk_Stream_Odd_ok hr_47) rfl hb47 rfl (by kernel_rfl) (by kernel_rfl) (by kernel_rfl) (by kernel_rfl) (by kernel_rfl) (by kernel_rfl) (by kernel_rfl) (by decide) (by kernel_rfl) wz (vI r_46.1) (by kernel_rfl) ([((extN 0),some (.cells 2 [(vL eI r_46.2.L),(vI r_46.2.f_at)])),(n_6,gB 8 Campaign.enc r_3.1)]:Hp) (by kernel_rfl) (h_opz (.ref (extN 0) 0 0) ?_)
       obtain ⟨r_49,hr_50,h_14⟩:=bind_some h_14
       refine h_callq 0 [0] il ft (mk_Stream_Odd_ok hr_50) rfl hb47 rfl (by kernel_rfl) (by kernel_rfl) (by kernel_rfl) (by kernel_rfl) (by kernel_rfl) (by kernel_rfl) (by kernel_rfl) (by decide) (by kernel_rfl) wz (vI r_49.1) (by kernel_rfl) ([((extN 0),some (.cells 2 [(vL eI r_49.2.L),(vI r_49.2.f_at)])),(n_6,gB 8 Campaign.enc r_3.1)]:Hp) (by kernel_rfl) (h_opz (.ref n_6 (0 + (r_16.1).toNat) 0) (h_far pl37_4 rfl 5 rfl wz ?_))
       obtain ⟨e_52,hy_53,h_14⟩:=bind_some h_14
       refine h_stvg 0 il ft 1 sz3 rfl rfl hy_53 (⟨e_52.Key,e_52.Class,e_52.Time,e_52.Tags,r_43.1,e_52.Most,e_52.Cents⟩:Campaign) rfl wz (h_re (v':=(gV n_6 8 (r_3.1.set (0 + (r_16.1).toNat) (⟨e_52.Key,e_52.Class,e_52.Time,e_52.Tags,r_43.1,e_52.Most,e_52.Cents⟩:Campaign)))) 5 rfl (gV_len (by simp)) (h_re (v':=(gV n_6 8 (r_3.1.set (0 + (r_16.1).toNat) (⟨e_52.Key,e_52.Class,e_52.Time,e_52.Tags,r_43.1,e_52.Most,e_52.Cents⟩:Campaign)))) 17 rfl (gV_len (by simp)) (h_re (v':=(gV n_6 8 (r_3.1.set (0 + (r_16.1).toNat) (⟨e_52.Key,e_52.Class,e_52.Time,e_52.Tags,r_43.1,e_52.Most,e_52.Cents⟩:Campaign)))) 19 rfl (gV_len (by simp)) (h_opz (.ref n_6 (0 + (r_16.1).toNat) 0) (h_far pl37_5 rfl 6 rfl wz ?_)))))
       obtain ⟨e_54,hy_55,h_14⟩:=bind_some h_14
       refine h_stvg 0 il ft 1 sz3 rfl rfl hy_55 (⟨e_54.Key,e_54.Class,e_54.Time,e_54.Tags,e_54.Goal,r_46.1,e_54.Cents⟩:Campaign) rfl wz (h_re (v':=(gV n_6 8 ((r_3.1.set (0 + (r_16.1).toNat) (⟨e_52.Key,e_52.Class,e_52.Time,e_52.Tags,r_43.1,e_52.Most,e_52.Cents⟩:Campaign)).set (0 + (r_16.1).toNat) (⟨e_54.Key,e_54.Class,e_54.Time,e_54.Tags,e_54.Goal,r_46.1,e_54.Cents⟩:Campaign)))) 5 rfl (gV_len (by simp)) (h_re (v':=(gV n_6 8 ((r_3.1.set (0 + (r_16.1).toNat) (⟨e_52.Key,e_52.Class,e_52.Time,e_52.Tags,r_43.1,e_52.Most,e_52.Cents⟩:Campaign)).set (0 + (r_16.1).toNat) (⟨e_54.Key,e_54.Class,e_54.Time,e_54.Tags,e_54.Goal,r_46.1,e_54.Cents⟩:Campaign)))) 17 rfl (gV_len (by simp)) (h_re (v':=(gV n_6 8 ((r_3.1.set (0 + (r_16.1).toNat) (⟨e_52.Key,e_52.Class,e_52.Time,e_52.Tags,r_43.1,e_52.Most,e_52.Cents⟩:Campaign)).set (0 + (r_16.1).toNat) (⟨e_54.Key,e_54.Class,e_54.Time,e_54.Tags,e_54.Goal,r_46.1,e_54.Cents⟩:Campaign)))) 19 rfl (gV_len (by simp)) (h_opz (.ref n_6 (0 + (r_16.1).toNat) 0) (h_far pl37_6 rfl 7 rfl wz ?_)))))
       obtain ⟨e_56,hy_57,h_14⟩:=bind_some h_14
       refine h_stvg 0 il ft 1 sz3 rfl rfl hy_57 (⟨e_56.Key,e_56.Class,e_56.Time,e_56.Tags,e_56.Goal,e_56.Most,r_49.1⟩:Campaign) rfl wz (h_re (v':=(gV n_6 8 (((r_3.1.set (0 + (r_16.1).toNat) (⟨e_52.Key,e_52.Class,e_52.Time,e_52.Tags,r_43.1,e_52.Most,e_52.Cents⟩:Campaign)).set (0 + (r_16.1).toNat) (⟨e_54.Key,e_54.Class,e_54.Time,e_54.Tags,e_54.Goal,r_46.1,e_54.Cents⟩:Campaign)).set (0 + (r_16.1).toNat) (⟨e_56.Key,e_56.Class,e_56.Time,e_56.Tags,e_56.Goal,e_56.Most,r_49.1⟩:Campaign)))) 5 rfl (gV_len (by simp)) (h_re (v':=(gV n_6 8 (((r_3.1.set (0 + (r_16.1).toNat) (⟨e_52.Key,e_52.Class,e_52.Time,e_52.Tags,r_43.1,e_52.Most,e_52.Cents⟩:Campaign)).set (0 + (r_16.1).toNat) (⟨e_54.Key,e_54.Class,e_54.Time,e_54.Tags,e_54.Goal,r_46.1,e_54.Cents⟩:Campaign)).set (0 + (r_16.1).toNat) (⟨e_56.Key,e_56.Class,e_56.Time,e_56.Tags,e_56.Goal,e_56.Most,r_49.1⟩:Campaign)))) 17 rfl (gV_len (by simp)) (h_re (v':=(gV n_6 8 (((r_3.1.set (0 + (r_16.1).toNat) (⟨e_52.Key,e_52.Class,e_52.Time,e_52.Tags,r_43.1,e_52.Most,e_52.Cents⟩:Campaign)).set (0 + (r_16.1).toNat) (⟨e_54.Key,e_54.Class,e_54.Time,e_54.Tags,e_54.Goal,r_46.1,e_54.Cents⟩:Campaign)).set (0 + (r_16.1).toNat) (⟨e_56.Key,e_56.Class,e_56.Time,e_56.Tags,e_56.Goal,e_56.Most,r_49.1⟩:Campaign)))) 19 rfl (gV_len (by simp)) (h_nil ?_))))
       obtain rfl:=some_inj h_14
       exact cu
      ·refine wH_iff rfl hc_42 (wH_region (h_opz (.ref n_6 (0 + (r_16.1).toNat) 0) (h_lit (([(⟨#[98]⟩:ByteArray),(⟨#[97]⟩:ByteArray)]:List ByteArray).map eS) es35 ez35 rfl rfl rfl rfl rfl wz (h_lit (([(⟨#[65]⟩:ByteArray)]:List ByteArray).map eS) es35 ez35 rfl rfl rfl rfl rfl wz (h_lit (([(⟨#[97]⟩:ByteArray),(⟨#[97]⟩:ByteArray)]:List ByteArray).map eS) es35 ez35 rfl rfl rfl rfl rfl wz (h_lit (([([(⟨#[98]⟩:ByteArray),(⟨#[97]⟩:ByteArray)]:List ByteArray),([(⟨#[65]⟩:ByteArray)]:List ByteArray),([(⟨#[97]⟩:ByteArray),(⟨#[97]⟩:ByteArray)]:List ByteArray)]:List (List ByteArray)).map (eL eS)) es84 ez84 rfl rfl rfl rfl rfl wz (h_opz (.ref (extN 0) 0 0) ?_)))))))
       obtain ⟨r_58,hr_59,h_14⟩:=bind_some h_14
       refine h_callq 0 [0] il ft (mk_Stream_Next_ok hr_59) rfl hb24 rfl (by kernel_rfl) (by kernel_rfl) (by kernel_rfl) (by kernel_rfl) (by kernel_rfl) (by kernel_rfl) (by kernel_rfl) (by decide) (by kernel_rfl) wz (vI r_58.1) (by kernel_rfl) ([((extN 0),some (.cells 2 [(vL eI r_58.2.L),(vI r_58.2.f_at)])),(n_6,gB 8 Campaign.enc r_3.1)]:Hp) (by kernel_rfl) ?_
       obtain ⟨y_61,hy_62,h_14⟩:=bind_some h_14
       refine h_ia es84 rfl rfl hy_62 rfl wz (h_ldc sz35 ag35 rfl (vL eS y_61) rfl wz (h_opz (.ref n_6 (0 + (r_16.1).toNat) 0) (h_far pl37_3 rfl 4 rfl wz ?_)))
       obtain ⟨e_63,hy_64,h_14⟩:=bind_some h_14
       refine h_stvg 0 il ft 1 sz35 rfl rfl hy_64 (⟨e_63.Key,e_63.Class,e_63.Time,y_61,e_63.Goal,e_63.Most,e_63.Cents⟩:Campaign) rfl wz (h_re (v':=(gV n_6 8 (r_3.1.set (0 + (r_16.1).toNat) (⟨e_63.Key,e_63.Class,e_63.Time,y_61,e_63.Goal,e_63.Most,e_63.Cents⟩:Campaign)))) 5 rfl (gV_len (by simp)) (h_re (v':=(gV n_6 8 (r_3.1.set (0 + (r_16.1).toNat) (⟨e_63.Key,e_63.Class,e_63.Time,y_61,e_63.Goal,e_63.Most,e_63.Cents⟩:Campaign)))) 17 rfl (gV_len (by simp)) (h_re (v':=(gV n_6 8 (r_3.1.set (0 + (r_16.1).toNat) (⟨e_63.Key,e_63.Class,e_63.Time,y_61,e_63.Goal,e_63.Most,e_63.Cents⟩:Campaign)))) 19 rfl (gV_len (by simp)) (h_nil ?_))))
       obtain rfl:=some_inj h_14
       exact cu
   ·refine wH_iff rfl hc_15 (wH_skip ?_)
    obtain rfl:=some_inj h_14
    exact cu
  ·rintro ⟨⟩ _ sl_ H_ hp_ hq_
   refine wH_at _ hp_ hq_ (wH_sr (h_opz (gV n_6 8 v_13.1) (h_opz (gV n_6 8 v_13.1) (h_nil (wH_frozg 1 rfl (wH_cog 4 1 rfl rfl (wH_cog 5 1 rfl rfl (wH_cog 79 1 rfl rfl ?_))))))))
   obtain rfl:=some_inj hF
   exact wH_ret (finB (.inr rfl) [(vL Campaign.enc v_13.1)] _ [0] [extN 0] ⟨rfl,trivial⟩ (.cons (co_data rfl rfl) (.nil)) (by kernel_rfl) ⟨(by kernel_rfl),trivial⟩ (by decide) (by kernel_rfl))
theorem ref_in_ok {n_1:Int} {low_2:Int} {high_3:Int} {r:Bool} (hF:ref_in n_1 low_2 high_3=some r) :
  FnM Try.prog 36 [(vI n_1),(vI low_2),(vI high_3)] [] (vB r) []:=by
 refine FnM.of_wH ⟨Try.prog,15,[],[]⟩ rfl Try.func36 rfl rfl (Nat.le_of_ble_eq_true rfl) (by kernel_rfl) ?_
 unfold ref_in at hF
 refine wH_sr (h_opz (vB false) (h_nil (wH_seq ?_)))
 obtain ⟨v_4,h_5,hF⟩:=bind_some hF
 refine wH_joinU [(6,(vB v_4))] [] ?_ ?_
 ·refine wH_region (h_opz (vI low_2) (h_opz (vI n_1) (h_opz (vB (decide (low_2≤n_1))) ?_)))
  rcases cond_some h_5 with⟨hc_6,h_5⟩ | ⟨hc_6,h_5⟩
  ·refine h_movb rfl hc_6 wz (h_op (vI n_1) wa rfl (h_op (vI high_3) wa rfl (h_op (vB (decide (n_1≤high_3))) wa rfl (h_opz (vB (decide (n_1≤high_3))) (h_opz (vB (decide (n_1≤high_3))) (h_nil ?_))))))
   obtain rfl:=some_inj h_5
   exact cu
  ·refine h_movb rfl hc_6 wz (h_skipz (h_skipz (h_skipz (h_opz (vB false) (h_opz (vB false) (h_nil ?_))))))
   obtain rfl:=some_inj h_5
   exact cu
 ·rintro ⟨⟩ _ sl_ H_ hp_ hq_
  refine wH_at _ hp_ hq_ ?_
  obtain rfl:=some_inj hF
  exact wH_ret (fin0r [(vB v_4)] ⟨rfl,trivial⟩)
theorem internal_stringslite_IndexByte_ok {s_1:ByteArray} {c_2:Int} {r:Int} (hF:internal_stringslite_IndexByte s_1 c_2=some r) :
  FnM Try.prog 77 [(vS s_1),(.d (.int .u8 c_2))] [] (vI r) []:=by
 refine FnM.of_wH ⟨Try.prog,8,[],[]⟩ rfl Try.func77 rfl rfl (Nat.le_of_ble_eq_true rfl) (by kernel_rfl) ?_
 unfold internal_stringslite_IndexByte at hF
 refine wH_sr (h_opz (vI 0) (h_nil (wH_sr (h_opz (vS s_1) (h_opz (.d (.int .u8 c_2)) (h_ext (ext_ixB (f:=78) Try.func78 rfl rfl (by kernel_rfl) (by kernel_rfl) _ _) rfl nb78 rfl wz (h_opz (vI (ixB s_1 c_2)) (h_nil ?_))))))))
 obtain rfl:=some_inj hF
 exact wH_ret (fin0r [(vI (ixB s_1 c_2))] ⟨rfl,trivial⟩)
theorem strings_IndexByte_ok {s_1:ByteArray} {c_2:Int} {r:Int} (hF:strings_IndexByte s_1 c_2=some r) :
  FnM Try.prog 73 [(vS s_1),(.d (.int .u8 c_2))] [] (vI r) []:=by
 refine FnM.of_wH ⟨Try.prog,8,[],[]⟩ rfl Try.func73 rfl rfl (Nat.le_of_ble_eq_true rfl) (by kernel_rfl) ?_
 unfold strings_IndexByte at hF
 refine wH_sr (h_opz (vI 0) (h_nil (wH_sr (h_opz (vS s_1) (h_opz (.d (.int .u8 c_2)) ?_)))))
 obtain ⟨r_3,hr_4,hF⟩:=bind_some hF
 refine h_call0 (internal_stringslite_IndexByte_ok hr_4) rfl hb77 rfl rfl rfl rfl wz (h_opz (vI r_3) (h_nil ?_))
 obtain rfl:=some_inj hF
 exact wH_ret (fin0r [(vI r_3)] ⟨rfl,trivial⟩)
theorem ref_only_ok {s_1:ByteArray} {somev_2:ByteArray} {r:Bool} (hF:ref_only s_1 somev_2=some r) :
  FnM Try.prog 59 [(vS s_1),(vS somev_2)] [] (vB r) []:=by
 refine FnM.of_wH ⟨Try.prog,18,[],[]⟩ rfl Try.func59 rfl rfl (Nat.le_of_ble_eq_true rfl) (by kernel_rfl) ?_
 unfold ref_only at hF
 refine wH_sr (h_opz (vB false) (h_nil (wH_seq (wH_sr (h_opz (vS s_1) (h_lens un9 rfl wz (h_opz (vI 0) (h_nil ?_))))))))
 obtain ⟨o_11,hj_12,hF⟩:=bind_some hF
 obtain ⟨hn_7,hj_12⟩:=forL_some hj_12
 refine wH_loopF0 (fun (s_8:Unit) => []) (fun (s_8:Unit) => []) (fun (k_3:Nat)=>(fun (s_8:Unit) => [(0,(vS s_1)),(1,(vS somev_2)),(7,(vI (s_1.size:Int))),(8,(vI (k_3:Int)))])) (fun k x s=>ref_only_L1 s_1 somev_2 k x s) o_11 (List.range ((s_1.size:Int)).toNat) () hj_12 rfl (pre_r rfl) ?_ ?_
 ·rintro ⟨k_3,l_4,s_8⟩ ⟨hL_10,hD_6⟩
  dsimp only at hL_10 hD_6
  cases l_4 with
  | nil =>
   obtain rfl:=some_inj hL_10
   refine wH_sr (h_opz (vB (decide ((k_3:Int) < (s_1.size:Int)))) (h_nil ?_))
   refine wH_seq (wH_iff rfl (range_nil hD_6) (wH_exit ?_))
   exact cut_mk (s_8) rfl rfl (pre_r rfl)
  | cons x_5 l_4 =>
   obtain ⟨c_,hc_9,hL_10⟩:=bind_some hL_10
   refine wH_sr (h_opz (vB (decide ((k_3:Int) < (s_1.size:Int)))) (h_nil ?_))
   refine wH_seq (wH_ift rfl (range_cons hD_6) (wH_skip ?_))
   unfold ref_only_L1 at hc_9
   refine wH_seq (wH_block (wH_sr (h_opz (vI (k_3:Int)) (h_opz (vI (k_3:Int)) (h_nil (wH_sr (h_opz (vS somev_2) (h_opz (vS s_1) (h_opz (vI (k_3:Int)) ?_)))))))))
   obtain ⟨b_13,hy_14,hc_9⟩:=bind_some hc_9
   refine h_idxs un9 rfl rfl hy_14 wz ?_
   obtain ⟨r_15,hr_16,hc_9⟩:=bind_some hc_9
   refine h_call0 (strings_IndexByte_ok hr_16) rfl hb73 rfl rfl rfl rfl wz (h_opz (vB (decide (r_15 < 0))) (h_nil ?_))
   rcases cond_some hc_9 with⟨hc_17,hc_9⟩ | ⟨hc_17,hc_9⟩
   ·refine wH_ift rfl hc_17 (wH_sr (h_opz (vB false) (h_nil ?_)))
    obtain rfl:=some_inj hc_9
    obtain rfl:=some_inj hL_10
    obtain rfl:=some_inj hF
    exact wH_ret (fin0r [(vB false)] ⟨rfl,trivial⟩)
   ·refine wH_iff rfl hc_17 (wH_skip (wH_region (h_opw (w64_nextr hD_6 hn_7) wz rfl (h_opz (vI ((k_3 + 1:Nat):Int)) (h_nil ?_)))))
    obtain rfl:=some_inj hc_9
    exact loop_mk (k_3 + 1,l_4,()) ⟨hL_10,drop_next hD_6⟩ (Nat.lt_succ_self _) rfl (pre_r rfl)
 ·rintro s_8 ho_ sl_ H_ hp_ hq_
  subst ho_
  refine wH_at _ hp_ hq_ (wH_sr (h_opz (vB true) (h_nil ?_)))
  obtain rfl:=some_inj hF
  exact wH_ret (fin0r [(vB true)] ⟨rfl,trivial⟩)
theorem ref_Key_ok {s_1:ByteArray} {r:Bool} (hF:ref_Key s_1=some r) :
  FnM Try.prog 35 [(vS s_1)] [] (vB r) []:=by
 refine FnM.of_wH ⟨Try.prog,15,[],[]⟩ rfl Try.func35 rfl rfl (Nat.le_of_ble_eq_true rfl) (by kernel_rfl) ?_
 unfold ref_Key at hF
 refine wH_sr (h_opz (vB false) (h_nil (wH_seq ?_)))
 obtain ⟨v_2,h_3,hF⟩:=bind_some hF
 refine wH_joinU [(2,(vB v_2))] [] ?_ ?_
 ·refine wH_region (h_opz (vS s_1) (h_lens un9 rfl wz ?_))
  obtain ⟨r_4,hr_5,h_3⟩:=bind_some h_3
  refine h_call0 (ref_in_ok hr_5) rfl hb36 rfl rfl rfl rfl wz ?_
  rcases cond_some h_3 with⟨hc_6,h_3⟩ | ⟨hc_6,h_3⟩
  ·refine h_movb rfl hc_6 wz (h_op (vS s_1) wa rfl ?_)
   obtain ⟨y_7,hy_8,h_3⟩:=bind_some h_3
   refine h_subFalseTrue un9 rfl rfl hy_8 wa ?_
   obtain ⟨r_9,hr_10,h_3⟩:=bind_some h_3
   refine h_call0 (ref_only_ok hr_10) rfl hb59 rfl rfl rfl rfl wa (h_opz (vB r_9) ?_)
   rcases cond_some h_3 with⟨hc_11,h_3⟩ | ⟨hc_11,h_3⟩
   ·refine h_movb rfl hc_11 wz (h_op (vS s_1) wa rfl ?_)
    obtain ⟨r_12,hr_13,h_3⟩:=bind_some h_3
    refine h_call0 (ref_only_ok hr_13) rfl hb59 rfl rfl rfl rfl wa (h_opz (vB r_12) (h_opz (vB r_12) (h_nil ?_)))
    obtain rfl:=some_inj h_3
    exact cu
   ·refine h_movb rfl hc_11 wz (h_skipz (h_skipz (h_opz (vB false) (h_opz (vB false) (h_nil ?_)))))
    obtain rfl:=some_inj h_3
    exact cu
  ·refine h_movb rfl hc_6 wz (h_skipz (h_skipz (h_skipz (h_opz (vB false) (h_opz (vB false) (h_skipz (h_skipz (h_opz (vB false) (h_opz (vB false) (h_nil ?_))))))))))
   obtain rfl:=some_inj h_3
   exact cu
 ·rintro ⟨⟩ _ sl_ H_ hp_ hq_
  refine wH_at _ hp_ hq_ ?_
  obtain rfl:=some_inj hF
  exact wH_ret (fin0r [(vB v_2)] ⟨rfl,trivial⟩)
end Go.Proofs.Ytipjpkpmkijdoab.Law

