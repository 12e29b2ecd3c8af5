/-
 The machine computes these plain functions (written by a program of ours).
-/
import Derived.Test.YtjhcehhmdmbleaaGreatFacts
import Derived.Test.YtjhcehhmdmbleaaGreatDefs
open Go Go.Eng Go.Proofs
namespace Go.Proofs.YtjhcehhmdmbleaaGreat.Law
set_option maxRecDepth 100000
set_option linter.unusedVariables false
set_option maxHeartbeats 1000000
theorem mk_Below_ok {x_1:Int} {n_2:Int} {r:Int} (hF:mk_Below x_1 n_2=some r) :
  FnM Tryz.prog 42 [(vI x_1),(vI n_2)] [] (vI r) []:=by
 refine FnM.of_wH ⟨Tryz.prog,16,[],[]⟩ rfl Tryz.func42 rfl rfl (Nat.le_of_ble_eq_true rfl) (by kernel_rfl) ?_
 unfold mk_Below at hF
 refine wH_seq (wH_region (h_op (vI 0) wz rfl (h_nil (wH_seq (wH_seq (wH_region (h_op (vI n_2) wz rfl (h_op (vB (decide (n_2 < 1))) wz rfl (h_nil ?_)))))))))
 rcases cond_some hF with⟨hc_3,hF⟩ | ⟨hc_3,hF⟩
 ·refine wH_ift rfl hc_3 (wH_seq (wH_region (h_op (vI 0) wz rfl (h_nil ?_))))
  obtain rfl:=some_inj hF
  exact wH_ret (fin0 (.inr rfl) [(vI 0)] ⟨rfl,trivial⟩ rfl rfl rfl)
 ·refine wH_iff rfl hc_3 (wH_skip (wH_seq (wH_region (h_op (vI x_1) wz rfl (h_op (vI n_2) wz rfl ?_)))))
  obtain ⟨q_4,hz_5,hF⟩:=bind_some hF
  refine h_rem rfl rfl hz_5 wz (h_op (vI q_4) wz rfl (h_nil (wH_seq (wH_seq (wH_region (h_op (vI q_4) wz rfl (h_op (vB (decide (q_4 < 0))) wz rfl (h_nil ?_))))))))
  obtain ⟨v_6,h_7,hF⟩:=bind_some hF
  refine wH_join (β:=Unit) (fun _=>([(0,(vI v_6))]:List (Nat×V))) (fun _=>([]:Hp)) (fun _=>True) ?_ ?_
  ·rcases cond_some h_7 with⟨hc_8,h_7⟩ | ⟨hc_8,h_7⟩
   ·refine wH_ift rfl hc_8 (wH_region (h_op (vI q_4) wz rfl (h_op (vI n_2) wz rfl (h_op (vI (w64 (q_4 + n_2))) wz rfl (h_op (vI (w64 (q_4 + n_2))) wz rfl (h_nil ?_))))))
    obtain rfl:=some_inj h_7
    exact cu
   ·refine wH_iff rfl hc_8 (wH_skip ?_)
    obtain rfl:=some_inj h_7
    exact cu
  ·rintro ⟨⟩ _ sl_ H_ hp_ hq_
   refine wH_at _ hp_ hq_ (wH_seq (wH_region (h_op (vI v_6) wz rfl (h_op (vI v_6) wz rfl (h_nil ?_)))))
   obtain rfl:=some_inj hF
   exact wH_ret (fin0 (.inr rfl) [(vI v_6)] ⟨rfl,trivial⟩ rfl rfl rfl)
theorem mk_Stream_Next_ok {s_1:Stream} {n_2:Int} {r:Int×Stream} (hF:mk_Stream_Next s_1 n_2=some r) :
  FnM Tryz.prog 22 [(.ref (extN 0) 0 0),(vI n_2)] [(.cells 2 [(vL eI s_1.L),(vI s_1.f_at)])] (vI r.1) [some (.cells 2 [(vL eI r.2.L),(vI r.2.f_at)])]:=by
 refine FnM.of_wH ⟨Tryz.prog,64,[],[]⟩ rfl Tryz.func22 rfl rfl (Nat.le_of_ble_eq_true rfl) (by kernel_rfl) ?_
 unfold mk_Stream_Next at hF
 refine wH_seq (wH_region (h_op (vI 0) wz rfl (h_nil (wH_seq (wH_region (h_op (.ref (extN 0) 0 0) wz rfl (h_op (.ref (extN 0) 0 0) wz rfl (h_far pl25_1 rfl 1 rfl wz (h_ldr 0 0 il ft sz3 ag3 rfl rfl (vI s_1.f_at) rfl wz (h_op (vI (w64 (s_1.f_at + 1))) wz rfl (h_op (.ref (extN 0) 0 0) wz rfl (h_far pl25_1 rfl 1 rfl wz (h_str 0 il ft 0 sz3 rfl rfl [(vL eI s_1.L),(vI (w64 (s_1.f_at + 1)))] rfl wz (h_nil (wH_seq (wH_seq (wH_region (h_op (.ref (extN 0) 0 0) wz rfl (h_op (.ref (extN 0) 0 0) wz rfl (h_far pl25_0 rfl 0 rfl wz (h_ldr 0 0 il ft sz22 ag22 rfl rfl (vL eI s_1.L) rfl wz (h_len un22 rfl wz (h_op (vB ((s_1.L.length:Int) == 0)) wz rfl ?_)))))))))))))))))))))))
 refine h_nil ?_
 rcases cond_some hF with⟨hc_3,hF⟩ | ⟨hc_3,hF⟩
 ·refine wH_ift rfl hc_3 (wH_seq (wH_region (h_op (.ref (extN 0) 0 0) wz rfl (h_op (.ref (extN 0) 0 0) wz rfl (h_far pl25_1 rfl 1 rfl wz (h_ldr 0 0 il ft sz3 ag3 rfl rfl (vI (w64 (s_1.f_at + 1))) rfl wz (h_op (vI (w64 ((w64 (s_1.f_at + 1)) * 7919))) wz rfl (h_op (vI n_2) wz rfl ?_))))))))
  obtain ⟨r_4,hr_5,hF⟩:=bind_some hF
  refine h_call0 (mk_Below_ok hr_5) rfl hb42 rfl rfl rfl rfl wz (h_op (vI r_4) wz rfl (h_nil ?_))
  obtain rfl:=some_inj hF
  exact wH_ret (finB (.inr rfl) [(vI r_4)] _ [0] [extN 0] ⟨rfl,trivial⟩ (.cons (co_data rfl rfl) (.nil)) (by kernel_rfl) ⟨(by kernel_rfl),trivial⟩ (by decide) (by kernel_rfl))
 ·refine wH_iff rfl hc_3 (wH_skip (wH_seq (wH_draws (h_op (.ref (extN 0) 0 0) wz rfl (h_op (.ref (extN 0) 0 0) wz rfl (h_far pl25_1 rfl 1 rfl wz (h_ldr 3 0 (.inr (by kernel_rfl)) (fun _ _ ag=>trivial) sz3 ag3 rfl rfl (vI (w64 (s_1.f_at + 1))) rfl wz (h_op (vI (w64 ((w64 (s_1.f_at + 1)) - 1))) wz rfl (h_op (.ref (extN 0) 0 0) wz rfl (h_op (.ref (extN 0) 0 0) wz rfl (h_far pl25_0 rfl 0 rfl wz (h_ldr 8 0 (.inr (by kernel_rfl)) (fun _ _ ag=>⟨.inl ⟨rfl,rfl⟩,trivial⟩) sz22 ag22 rfl rfl (vL eI s_1.L) rfl wz (h_len un22 rfl wz ?_)))))))))))))
  obtain ⟨q_6,hz_7,hF⟩:=bind_some hF
  refine h_rem rfl rfl hz_7 wz (h_op (vI q_6) wz rfl (h_nil (wH_seq (wH_draws (h_op (.ref (extN 0) 0 0) wz rfl (h_op (.ref (extN 0) 0 0) wz rfl (h_far pl25_1 rfl 1 rfl wz (h_ldr 3 0 (.inr (by kernel_rfl)) (fun _ _ ag=>trivial) sz3 ag3 rfl rfl (vI (w64 (s_1.f_at + 1))) rfl wz (h_op (vI (w64 ((w64 (s_1.f_at + 1)) - 1))) wz rfl (h_op (.ref (extN 0) 0 0) wz rfl (h_op (.ref (extN 0) 0 0) wz rfl (h_far pl25_0 rfl 0 rfl wz (h_ldr 8 0 (.inr (by kernel_rfl)) (fun _ _ ag=>⟨.inl ⟨rfl,rfl⟩,trivial⟩) sz22 ag22 rfl rfl (vL eI s_1.L) rfl wz (h_len un22 rfl wz ?_))))))))))))))
  obtain ⟨q_8,hz_9,hF⟩:=bind_some hF
  refine h_quo rfl rfl hz_9 wz (h_op (vI q_8) wz rfl (h_nil (wH_at (H0:=([((extN 0),some (.cells 2 [(vL eI s_1.L),(vI (w64 (s_1.f_at + 1)))]))]:Hp)) ([(0,(.ref (extN 0) 0 0)),(1,(vI n_2)),(5,(vI q_6)),(6,(vI q_8))]:List (Nat×V)) (by kernel_rfl) (pre_mk (by kernel_rfl)) (wH_seq (wH_region (h_op (.ref (extN 0) 0 0) wz rfl (h_op (.ref (extN 0) 0 0) wz rfl (h_far pl25_0 rfl 0 rfl wz (h_ldr 0 0 il ft sz22 ag22 rfl rfl (vL eI s_1.L) rfl wz (h_op (vI q_6) wz rfl ?_))))))))))
  obtain ⟨y_10,hy_11,hF⟩:=bind_some hF
  refine h_ia es22 rfl rfl hy_11 rfl wz (h_ldc sz3 ag3 rfl (vI y_10) rfl wz ?_)
  obtain ⟨r_12,hr_13,hF⟩:=bind_some hF
  refine h_call0 (mk_Below_ok hr_13) rfl hb42 rfl rfl rfl rfl wz (h_op (vI q_8) wz rfl (h_op (vI q_6) wz rfl (h_op (vI (w64 (7919 + q_6))) wz rfl (h_op (vI (w64 (q_8 * (w64 (7919 + q_6))))) wz rfl (h_op (vI (w64 (r_12 + (w64 (q_8 * (w64 (7919 + q_6))))))) wz rfl (h_op (vI n_2) wz rfl ?_))))))
  obtain ⟨r_14,hr_15,hF⟩:=bind_some hF
  refine h_call0 (mk_Below_ok hr_15) rfl hb42 rfl rfl rfl rfl wz (h_op (vI r_14) wz rfl (h_nil ?_))
  obtain rfl:=some_inj hF
  exact wH_ret (finB (.inr rfl) [(vI r_14)] _ [0] [extN 0] ⟨rfl,trivial⟩ (.cons (co_data rfl rfl) (.nil)) (by kernel_rfl) ⟨(by kernel_rfl),trivial⟩ (by decide) (by kernel_rfl))
theorem mk_Stream_Flip_ok {s_1:Stream} {n_2:Int} {r:Bool×Stream} (hF:mk_Stream_Flip s_1 n_2=some r) :
  FnM Tryz.prog 7 [(.ref (extN 0) 0 0),(vI n_2)] [(.cells 2 [(vL eI s_1.L),(vI s_1.f_at)])] (vB r.1) [some (.cells 2 [(vL eI r.2.L),(vI r.2.f_at)])]:=by
 refine FnM.of_wH ⟨Tryz.prog,9,[],[]⟩ rfl Tryz.func7 rfl rfl (Nat.le_of_ble_eq_true rfl) (by kernel_rfl) ?_
 unfold mk_Stream_Flip at hF
 refine wH_seq (wH_region (h_op (vB false) wz rfl (h_nil (wH_seq (wH_region (h_op (.ref (extN 0) 0 0) wz rfl (h_op (vI n_2) wz rfl ?_)))))))
 obtain ⟨r_3,hr_4,hF⟩:=bind_some hF
 refine h_callq 0 [0] il ft (mk_Stream_Next_ok hr_4) rfl hb22 rfl (by kernel_rfl) (by kernel_rfl) (by kernel_rfl) (by kernel_rfl) (by kernel_rfl) (by kernel_rfl) (by kernel_rfl) (by decide) (by kernel_rfl) wz (vI r_3.1) (by kernel_rfl) ([((extN 0),some (.cells 2 [(vL eI r_3.2.L),(vI r_3.2.f_at)]))]:Hp) (by kernel_rfl) (h_op (vB (r_3.1 == 0)) wz rfl (h_op (vB (r_3.1 == 0)) wz rfl (h_nil ?_)))
 obtain rfl:=some_inj hF
 exact wH_ret (finB (.inr rfl) [(vB (r_3.1 == 0))] _ [0] [extN 0] ⟨rfl,trivial⟩ (.cons (co_data rfl rfl) (.nil)) (by kernel_rfl) ⟨(by kernel_rfl),trivial⟩ (by decide) (by kernel_rfl))
theorem mk_Stream_Some_ok {s_1:Stream} {l_2:(List ByteArray)} {r:ByteArray×Stream} (hF:mk_Stream_Some s_1 l_2=some r) :
  FnM Tryz.prog 23 [(.ref (extN 0) 0 0),(vL eS l_2)] [(.cells 2 [(vL eI s_1.L),(vI s_1.f_at)])] (vS r.1) [some (.cells 2 [(vL eI r.2.L),(vI r.2.f_at)])]:=by
 refine FnM.of_wH ⟨Tryz.prog,12,[],[]⟩ rfl Tryz.func23 rfl rfl (Nat.le_of_ble_eq_true rfl) (by kernel_rfl) ?_
 unfold mk_Stream_Some at hF
 refine wH_seq (wH_region (h_op (vS (⟨#[]⟩:ByteArray)) wz rfl (h_nil (wH_seq (wH_region (h_op (vL eS l_2) wz rfl (h_op (.ref (extN 0) 0 0) wz rfl (h_op (vL eS l_2) wz rfl (h_len un28 rfl wz ?_)))))))))
 obtain ⟨r_3,hr_4,hF⟩:=bind_some hF
 refine h_callq 0 [0] il ft (mk_Stream_Next_ok hr_4) rfl hb22 rfl (by kernel_rfl) (by kernel_rfl) (by kernel_rfl) (by kernel_rfl) (by kernel_rfl) (by kernel_rfl) (by kernel_rfl) (by decide) (by kernel_rfl) wz (vI r_3.1) (by kernel_rfl) ([((extN 0),some (.cells 2 [(vL eI r_3.2.L),(vI r_3.2.f_at)]))]:Hp) (by kernel_rfl) ?_
 obtain ⟨y_6,hy_7,hF⟩:=bind_some hF
 refine h_ia es28 rfl rfl hy_7 rfl wz (h_ldc sz9 ag9 rfl (vS y_6) rfl wz (h_op (vS y_6) wz rfl (h_nil ?_)))
 obtain rfl:=some_inj hF
 exact wH_ret (finB (.inr rfl) [(vS y_6)] _ [0] [extN 0] ⟨rfl,trivial⟩ (.cons (co_data rfl rfl) (.nil)) (by kernel_rfl) ⟨(by kernel_rfl),trivial⟩ (by decide) (by kernel_rfl))
theorem mk_Stream_Range_ok {s_1:Stream} {low_2:Int} {high_3:Int} {r:Int×Stream} (hF:mk_Stream_Range s_1 low_2 high_3=some r) :
  FnM Tryz.prog 41 [(.ref (extN 0) 0 0),(vI low_2),(vI high_3)] [(.cells 2 [(vL eI s_1.L),(vI s_1.f_at)])] (vI r.1) [some (.cells 2 [(vL eI r.2.L),(vI r.2.f_at)])]:=by
 refine FnM.of_wH ⟨Tryz.prog,19,[],[]⟩ rfl Tryz.func41 rfl rfl (Nat.le_of_ble_eq_true rfl) (by kernel_rfl) ?_
 unfold mk_Stream_Range at hF
 refine wH_seq (wH_region (h_op (vI 0) wz rfl (h_nil (wH_seq (wH_seq (wH_region (h_op (vI high_3) wz rfl (h_op (vI low_2) wz rfl (h_op (vB (decide (high_3 < low_2))) wz rfl (h_nil ?_))))))))))
 rcases cond_some hF with⟨hc_4,hF⟩ | ⟨hc_4,hF⟩
 ·refine wH_ift rfl hc_4 (wH_seq (wH_region (h_op (vI low_2) wz rfl (h_op (vI low_2) wz rfl (h_nil ?_)))))
  obtain rfl:=some_inj hF
  exact wH_ret (finB (.inr rfl) [(vI low_2)] _ [0] [extN 0] ⟨rfl,trivial⟩ (.cons (co_data rfl rfl) (.nil)) (by kernel_rfl) ⟨(by kernel_rfl),trivial⟩ (by decide) (by kernel_rfl))
 ·refine wH_iff rfl hc_4 (wH_skip (wH_seq (wH_region (h_op (vI low_2) wz rfl (h_op (.ref (extN 0) 0 0) wz rfl (h_op (vI high_3) wz rfl (h_op (vI low_2) wz rfl (h_op (vI (w64 (high_3 - low_2))) wz rfl (h_op (vI (w64 ((w64 (high_3 - low_2)) + 1))) wz rfl ?_)))))))))
  obtain ⟨r_5,hr_6,hF⟩:=bind_some hF
  refine h_callq 0 [0] il ft (mk_Stream_Next_ok hr_6) rfl hb22 rfl (by kernel_rfl) (by kernel_rfl) (by kernel_rfl) (by kernel_rfl) (by kernel_rfl) (by kernel_rfl) (by kernel_rfl) (by decide) (by kernel_rfl) wz (vI r_5.1) (by kernel_rfl) ([((extN 0),some (.cells 2 [(vL eI r_5.2.L),(vI r_5.2.f_at)]))]:Hp) (by kernel_rfl) (h_op (vI (w64 (low_2 + r_5.1))) wz rfl (h_op (vI (w64 (low_2 + r_5.1))) wz rfl (h_nil ?_)))
  obtain rfl:=some_inj hF
  exact wH_ret (finB (.inr rfl) [(vI (w64 (low_2 + r_5.1)))] _ [0] [extN 0] ⟨rfl,trivial⟩ (.cons (co_data rfl rfl) (.nil)) (by kernel_rfl) ⟨(by kernel_rfl),trivial⟩ (by decide) (by kernel_rfl))
theorem mk_Stream_Pick_ok {s_1:Stream} {l_2:(List Int)} {r:Int×Stream} (hF:mk_Stream_Pick s_1 l_2=some r) :
  FnM Tryz.prog 8 [(.ref (extN 0) 0 0),(vL eI l_2)] [(.cells 2 [(vL eI s_1.L),(vI s_1.f_at)])] (vI r.1) [some (.cells 2 [(vL eI r.2.L),(vI r.2.f_at)])]:=by
 refine FnM.of_wH ⟨Tryz.prog,12,[],[]⟩ rfl Tryz.func8 rfl rfl (Nat.le_of_ble_eq_true rfl) (by kernel_rfl) ?_
 unfold mk_Stream_Pick at hF
 refine wH_seq (wH_region (h_op (vI 0) wz rfl (h_nil (wH_seq (wH_region (h_op (vL eI l_2) wz rfl (h_op (.ref (extN 0) 0 0) wz rfl (h_op (vL eI l_2) wz rfl (h_len un22 rfl wz ?_)))))))))
 obtain ⟨r_3,hr_4,hF⟩:=bind_some hF
 refine h_callq 0 [0] il ft (mk_Stream_Next_ok hr_4) rfl hb22 rfl (by kernel_rfl) (by kernel_rfl) (by kernel_rfl) (by kernel_rfl) (by kernel_rfl) (by kernel_rfl) (by kernel_rfl) (by decide) (by kernel_rfl) wz (vI r_3.1) (by kernel_rfl) ([((extN 0),some (.cells 2 [(vL eI r_3.2.L),(vI r_3.2.f_at)]))]:Hp) (by kernel_rfl) ?_
 obtain ⟨y_6,hy_7,hF⟩:=bind_some hF
 refine h_ia es22 rfl rfl hy_7 rfl wz (h_ldc sz3 ag3 rfl (vI y_6) rfl wz (h_op (vI y_6) wz rfl (h_nil ?_)))
 obtain rfl:=some_inj hF
 exact wH_ret (finB (.inr rfl) [(vI y_6)] _ [0] [extN 0] ⟨rfl,trivial⟩ (.cons (co_data rfl rfl) (.nil)) (by kernel_rfl) ⟨(by kernel_rfl),trivial⟩ (by decide) (by kernel_rfl))
theorem mk_Stream_RightEntries_okb {s_1:Stream} {r:(List Entry)×Stream} (hF:mk_Stream_RightEntries s_1=some r) :
  FnM Tryz.prog 21 [(.ref (extN 0) 0 0)] [(.cells 2 [(vL eI s_1.L),(vI s_1.f_at)])] (gV (extN 1) 13 r.1) (([(.cells 2 [(vL eI r.2.L),(vI r.2.f_at)])]:List Box).map some++gO 13 Entry.enc r.1):=by
 refine FnM.of_wH ⟨Tryz.prog,89,[],[]⟩ rfl Tryz.func21 rfl rfl (Nat.le_of_ble_eq_true rfl) (by kernel_rfl) ?_
 unfold mk_Stream_RightEntries at hF
 refine wH_seq (wH_region (h_op .nil wz rfl (h_nil (wH_seq (wH_region (h_op .nil wz rfl (h_nil (wH_seq (wH_seq (wH_region (h_lit (([(⟨#[101,97]⟩:ByteArray),(⟨#[101,98]⟩:ByteArray),(⟨#[101,99]⟩:ByteArray),(⟨#[101,100]⟩:ByteArray)]:List ByteArray).map eS) es28 ez28 rfl rfl rfl rfl rfl wz (h_len un28 rfl wz (h_op (vI 0) wz rfl (h_nil (wH_new (fun n_8 => ?_))))))))))))))))
 obtain ⟨o_13,hj_14,hF⟩:=bind_some hF
 obtain ⟨hn_6,hj_14⟩:=forL_some hj_14
 refine wH_join (β:=((List Entry)×(List Int)×Int)×Nm) (fun p=>(fun (s_7:(List Entry)×(List Int)×Int) (n_10:Nm)=>([(3,(gV n_10 13 s_7.1))]:List (Nat×V))) p.1 p.2) (fun p=>(fun (s_7:(List Entry)×(List Int)×Int) (n_10:Nm)=>([((extN 0),some (.cells 2 [(vL eI s_7.2.1),(vI s_7.2.2)])),(n_10,gB 13 Entry.enc s_7.1)]:Hp)) p.1 p.2) (fun p=>o_13 = .go p.1) ?_ ?_
 ·refine wH_block (wH_loop (β:=Nat×(List ByteArray)×((List Entry)×(List Int)×Int)×Nm) (fun p=>(fun (k_2:Nat) (l_3:List ByteArray) (s_7:(List Entry)×(List Int)×Int) (n_10:Nm)=>([(0,(.ref (extN 0) 0 0)),(3,(gV n_10 13 s_7.1)),(11,(vL eS ([(⟨#[101,97]⟩:ByteArray),(⟨#[101,98]⟩:ByteArray),(⟨#[101,99]⟩:ByteArray),(⟨#[101,100]⟩:ByteArray)]:List ByteArray))),(12,(vI (([(⟨#[101,97]⟩:ByteArray),(⟨#[101,98]⟩:ByteArray),(⟨#[101,99]⟩:ByteArray),(⟨#[101,100]⟩:ByteArray)]:List ByteArray).length:Int))),(13,(vI (k_2:Int)))]:List (Nat×V))) p.1 p.2.1 p.2.2.1 p.2.2.2) (fun p=>(fun (k_2:Nat) (l_3:List ByteArray) (s_7:(List Entry)×(List Int)×Int) (n_10:Nm)=>([((extN 0),some (.cells 2 [(vL eI s_7.2.1),(vI s_7.2.2)])),(n_10,gB 13 Entry.enc s_7.1)]:Hp)) p.1 p.2.1 p.2.2.1 p.2.2.2) (fun p=>forR (fun k x s=>mk_Stream_RightEntries_L3 k x s) p.2.1 p.1 p.2.2.1=some o_13∧(([(⟨#[101,97]⟩:ByteArray),(⟨#[101,98]⟩:ByteArray),(⟨#[101,99]⟩:ByteArray),(⟨#[101,100]⟩:ByteArray)]:List ByteArray)).drop p.1=p.2.1) (fun p=>p.2.1.length) (0,([(⟨#[101,97]⟩:ByteArray),(⟨#[101,98]⟩:ByteArray),(⟨#[101,99]⟩:ByteArray),(⟨#[101,100]⟩:ByteArray)]:List ByteArray),(([]:List Entry),s_1.L,s_1.f_at),n_8) ⟨hj_14,rfl⟩ rfl (pre_r rfl) ?_)
  rintro ⟨k_2,l_3,s_7,n_10⟩ ⟨hL_12,hD_5⟩
  dsimp only at hL_12 hD_5
  cases l_3 with
  | nil =>
   obtain rfl:=some_inj hL_12
   refine wH_seq (wH_region (h_op (vB (decide ((k_2:Int) < (([(⟨#[101,97]⟩:ByteArray),(⟨#[101,98]⟩:ByteArray),(⟨#[101,99]⟩:ByteArray),(⟨#[101,100]⟩:ByteArray)]:List ByteArray).length:Int)))) wz rfl (h_nil ?_)))
   refine wH_seq (wH_iff rfl (drop_nil hD_5) (wH_exit ?_))
   exact cut_mk (s_7,n_10) rfl rfl (pre_r rfl)
  | cons x_4 l_3 =>
   obtain ⟨c_,hc_11,hL_12⟩:=bind_some hL_12
   refine wH_seq (wH_region (h_op (vB (decide ((k_2:Int) < (([(⟨#[101,97]⟩:ByteArray),(⟨#[101,98]⟩:ByteArray),(⟨#[101,99]⟩:ByteArray),(⟨#[101,100]⟩:ByteArray)]:List ByteArray).length:Int)))) wz rfl (h_nil ?_)))
   refine wH_seq (wH_ift rfl (drop_cons hD_5) (wH_skip ?_))
   unfold mk_Stream_RightEntries_L3 at hc_11
   refine wH_seq (wH_block (wH_seq (wH_region (h_ia es28 rfl rfl (drop_idx hD_5) rfl wz (h_ldc sz9 ag9 rfl (vS x_4) rfl wz (h_op (vS x_4) wz rfl (h_nil (wH_seq (wH_seq (wH_region (h_op (.ref (extN 0) 0 0) wz rfl ?_)))))))))))
   obtain ⟨r_15,hr_16,hc_11⟩:=bind_some hc_11
   refine h_callq 0 [0] il ft (mk_Stream_Flip_ok hr_16) rfl hb7 rfl (by kernel_rfl) (by kernel_rfl) (by kernel_rfl) (by kernel_rfl) (by kernel_rfl) (by kernel_rfl) (by kernel_rfl) (by decide) (by kernel_rfl) wz (vB r_15.1) (by kernel_rfl) ([((extN 0),some (.cells 2 [(vL eI r_15.2.L),(vI r_15.2.f_at)])),(n_10,gB 13 Entry.enc s_7.1)]:Hp) (by kernel_rfl) (h_nil ?_)
   rcases cond_some hc_11 with⟨hc_18,hc_11⟩ | ⟨hc_18,hc_11⟩
   ·refine wH_ift rfl hc_18 (wH_exit (wH_region (h_opw (w64_next hD_5 hn_6) wz rfl (h_op (vI ((k_2 + 1:Nat):Int)) wz rfl (h_nil ?_)))))
    obtain rfl:=some_inj hc_11
    exact loop_mk (k_2 + 1,l_3,(s_7.1,r_15.2.L,r_15.2.f_at),n_10) ⟨hL_12,drop_next hD_5⟩ (Nat.lt_succ_self _) rfl (pre_r rfl)
   ·refine wH_iff rfl hc_18 (wH_skip (wH_seq (wH_region (h_op (vS x_4) wz rfl (h_op (.ref (extN 0) 0 0) wz rfl (h_lit (([(⟨#[105,97]⟩:ByteArray),(⟨#[105,98]⟩:ByteArray),(⟨#[105,99]⟩:ByteArray)]:List ByteArray).map eS) es28 ez28 rfl rfl rfl rfl rfl wz ?_))))))
    obtain ⟨r_19,hr_20,hc_11⟩:=bind_some hc_11
    refine h_callq 0 [0] il ft (mk_Stream_Some_ok hr_20) rfl hb23 rfl (by kernel_rfl) (by kernel_rfl) (by kernel_rfl) (by kernel_rfl) (by kernel_rfl) (by kernel_rfl) (by kernel_rfl) (by decide) (by kernel_rfl) wz (vS r_19.1) (by kernel_rfl) ([((extN 0),some (.cells 2 [(vL eI r_19.2.L),(vI r_19.2.f_at)])),(n_10,gB 13 Entry.enc s_7.1)]:Hp) (by kernel_rfl) (h_op (.ref (extN 0) 0 0) wz rfl ?_)
    obtain ⟨r_22,hr_23,hc_11⟩:=bind_some hc_11
    refine h_callq 0 [0] il ft (mk_Stream_Range_ok hr_23) rfl hb41 rfl (by kernel_rfl) (by kernel_rfl) (by kernel_rfl) (by kernel_rfl) (by kernel_rfl) (by kernel_rfl) (by kernel_rfl) (by decide) (by kernel_rfl) wz (vI r_22.1) (by kernel_rfl) ([((extN 0),some (.cells 2 [(vL eI r_22.2.L),(vI r_22.2.f_at)])),(n_10,gB 13 Entry.enc s_7.1)]:Hp) (by kernel_rfl) (h_op (.ref (extN 0) 0 0) wz rfl (h_lit (([0,0,1,3]:List Int).map eI) es22 ez22 rfl rfl rfl rfl rfl wz ?_))
    obtain ⟨r_25,hr_26,hc_11⟩:=bind_some hc_11
    refine h_callq 0 [0] il ft (mk_Stream_Pick_ok hr_26) rfl hb8 rfl (by kernel_rfl) (by kernel_rfl) (by kernel_rfl) (by kernel_rfl) (by kernel_rfl) (by kernel_rfl) (by kernel_rfl) (by decide) (by kernel_rfl) wz (vI r_25.1) (by kernel_rfl) ([((extN 0),some (.cells 2 [(vL eI r_25.2.L),(vI r_25.2.f_at)])),(n_10,gB 13 Entry.enc s_7.1)]:Hp) (by kernel_rfl) (h_op (.ref (extN 0) 0 0) wz rfl (h_lit (([1,1,2,3,7]:List Int).map eI) es22 ez22 rfl rfl rfl rfl rfl wz ?_))
    obtain ⟨r_28,hr_29,hc_11⟩:=bind_some hc_11
    refine h_callq 0 [0] il ft (mk_Stream_Pick_ok hr_29) rfl hb8 rfl (by kernel_rfl) (by kernel_rfl) (by kernel_rfl) (by kernel_rfl) (by kernel_rfl) (by kernel_rfl) (by kernel_rfl) (by decide) (by kernel_rfl) wz (vI r_28.1) (by kernel_rfl) ([((extN 0),some (.cells 2 [(vL eI r_28.2.L),(vI r_28.2.f_at)])),(n_10,gB 13 Entry.enc s_7.1)]:Hp) (by kernel_rfl) (h_op (.ref (extN 0) 0 0) wz rfl (h_lit (([127,127,31,96,1,2]:List Int).map eI) es22 ez22 rfl rfl rfl rfl rfl wz ?_))
    obtain ⟨r_31,hr_32,hc_11⟩:=bind_some hc_11
    refine h_callq 0 [0] il ft (mk_Stream_Pick_ok hr_32) rfl hb8 rfl (by kernel_rfl) (by kernel_rfl) (by kernel_rfl) (by kernel_rfl) (by kernel_rfl) (by kernel_rfl) (by kernel_rfl) (by decide) (by kernel_rfl) wz (vI r_31.1) (by kernel_rfl) ([((extN 0),some (.cells 2 [(vL eI r_31.2.L),(vI r_31.2.f_at)])),(n_10,gB 13 Entry.enc s_7.1)]:Hp) (by kernel_rfl) (h_op (.ref (extN 0) 0 0) wz rfl (h_lit (([0,0,60,600,1380]:List Int).map eI) es22 ez22 rfl rfl rfl rfl rfl wz ?_))
    obtain ⟨r_34,hr_35,hc_11⟩:=bind_some hc_11
    refine h_callq 0 [0] il ft (mk_Stream_Pick_ok hr_35) rfl hb8 rfl (by kernel_rfl) (by kernel_rfl) (by kernel_rfl) (by kernel_rfl) (by kernel_rfl) (by kernel_rfl) (by kernel_rfl) (by decide) (by kernel_rfl) wz (vI r_34.1) (by kernel_rfl) ([((extN 0),some (.cells 2 [(vL eI r_34.2.L),(vI r_34.2.f_at)])),(n_10,gB 13 Entry.enc s_7.1)]:Hp) (by kernel_rfl) (h_op (.ref (extN 0) 0 0) wz rfl (h_lit (([0,60,120,600,720,1439]:List Int).map eI) es22 ez22 rfl rfl rfl rfl rfl wz ?_))
    obtain ⟨r_37,hr_38,hc_11⟩:=bind_some hc_11
    refine h_callq 0 [0] il ft (mk_Stream_Pick_ok hr_38) rfl hb8 rfl (by kernel_rfl) (by kernel_rfl) (by kernel_rfl) (by kernel_rfl) (by kernel_rfl) (by kernel_rfl) (by kernel_rfl) (by decide) (by kernel_rfl) wz (vI r_37.1) (by kernel_rfl) ([((extN 0),some (.cells 2 [(vL eI r_37.2.L),(vI r_37.2.f_at)])),(n_10,gB 13 Entry.enc s_7.1)]:Hp) (by kernel_rfl) (h_op (.ref (extN 0) 0 0) wz rfl (h_lit (([0,0,1,5]:List Int).map eI) es22 ez22 rfl rfl rfl rfl rfl wz ?_))
    obtain ⟨r_40,hr_41,hc_11⟩:=bind_some hc_11
    refine h_callq 0 [0] il ft (mk_Stream_Pick_ok hr_41) rfl hb8 rfl (by kernel_rfl) (by kernel_rfl) (by kernel_rfl) (by kernel_rfl) (by kernel_rfl) (by kernel_rfl) (by kernel_rfl) (by decide) (by kernel_rfl) wz (vI r_40.1) (by kernel_rfl) ([((extN 0),some (.cells 2 [(vL eI r_40.2.L),(vI r_40.2.f_at)])),(n_10,gB 13 Entry.enc s_7.1)]:Hp) (by kernel_rfl) (h_op (.ref (extN 0) 0 0) wz rfl ?_)
    obtain ⟨r_43,hr_44,hc_11⟩:=bind_some hc_11
    refine h_callq 0 [0] il ft (mk_Stream_Flip_ok hr_44) rfl hb7 rfl (by kernel_rfl) (by kernel_rfl) (by kernel_rfl) (by kernel_rfl) (by kernel_rfl) (by kernel_rfl) (by kernel_rfl) (by decide) (by kernel_rfl) wz (vB r_43.1) (by kernel_rfl) ([((extN 0),some (.cells 2 [(vL eI r_43.2.L),(vI r_43.2.f_at)])),(n_10,gB 13 Entry.enc s_7.1)]:Hp) (by kernel_rfl) (h_op (.agg [(vS x_4),(vS r_19.1),(vI r_22.1),(vI r_25.1),(vI 0),(vI r_28.1),(vI r_31.1),.nil,(vI r_34.1),(vI r_37.1),(vI r_40.1),.nil,(vB r_43.1)]) wz (by kernel_rfl) (h_alloc 0 (.inl rfl) z55 rfl wz (fun n_46=>h_str 0 il ft 2 sz55 rfl rfl [(vS x_4),(vS r_19.1),(vI r_22.1),(vI r_25.1),(vI 0),(vI r_28.1),(vI r_31.1),.nil,(vI r_34.1),(vI r_37.1),(vI r_40.1),.nil,(vB r_43.1)] rfl wz (h_nil (wH_at (H0:=([((extN 0),some (.cells 2 [(vL eI r_43.2.L),(vI r_43.2.f_at)])),(n_10,gB 13 Entry.enc s_7.1),(n_46,some (.cells 13 [(vS x_4),(vS r_19.1),(vI r_22.1),(vI r_25.1),(vI 0),(vI r_28.1),(vI r_31.1),.nil,(vI r_34.1),(vI r_37.1),(vI r_40.1),.nil,(vB r_43.1)]))]:Hp)) ([(0,(.ref (extN 0) 0 0)),(3,(gV n_10 13 s_7.1)),(6,(.ref n_46 0 0)),(11,(vL eS ([(⟨#[101,97]⟩:ByteArray),(⟨#[101,98]⟩:ByteArray),(⟨#[101,99]⟩:ByteArray),(⟨#[101,100]⟩:ByteArray)]:List ByteArray))),(12,(vI (([(⟨#[101,97]⟩:ByteArray),(⟨#[101,98]⟩:ByteArray),(⟨#[101,99]⟩:ByteArray),(⟨#[101,100]⟩:ByteArray)]:List ByteArray).length:Int))),(13,(vI (k_2:Int)))]:List (Nat×V)) (by kernel_rfl) (pre_mk (by kernel_rfl)) (wH_seq (wH_draws (h_far pl55_3 rfl 3 rfl wz (h_ldr 1 2 (.inr (by kernel_rfl)) (fun _ _ ag=>trivial) sz3 ag3 rfl rfl (vI r_25.1) rfl wz (h_op (.ref (extN 0) 0 0) wz rfl (h_lit (([0,1,5,10,30]:List Int).map eI) es22 ez22 rfl rfl rfl rfl rfl wz ?_)))))))))))
    obtain ⟨r_47,hr_48,hc_11⟩:=bind_some hc_11
    refine h_callq 4 [0] (.inr (by kernel_rfl)) (fun _ _ ag=>by exact⟨.inr (.inl (dis1 (ag_ne ag (i:=0) (j:=2) rfl rfl (by decide)))),trivial⟩) (mk_Stream_Pick_ok hr_48) rfl hb8 rfl (by kernel_rfl) (by kernel_rfl) (by kernel_rfl) (by kernel_rfl) (by kernel_rfl) (by kernel_rfl) (by kernel_rfl) (by decide) (by kernel_rfl) wz (vI r_47.1) (by kernel_rfl) ([((extN 0),some (.cells 2 [(vL eI r_47.2.L),(vI r_47.2.f_at)])),(n_10,gB 13 Entry.enc s_7.1),(n_46,some (.cells 13 [(vS x_4),(vS r_19.1),(vI r_22.1),(vI r_25.1),(vI 0),(vI r_28.1),(vI r_31.1),.nil,(vI r_34.1),(vI r_37.1),(vI r_40.1),.nil,(vB r_43.1)]))]:Hp) (by kernel_rfl) (h_op (vI (w64 (r_25.1 + r_47.1))) wz rfl (h_far pl55_4 rfl 4 rfl wz (h_str 7 (.inr (by kernel_rfl)) (fun _ _ ag=>⟨.inr (.inr (by kernel_rfl)),⟨.inr (.inr (by kernel_rfl)),trivial⟩⟩) 2 sz3 rfl rfl [(vS x_4),(vS r_19.1),(vI r_22.1),(vI r_25.1),(vI (w64 (r_25.1 + r_47.1))),(vI r_28.1),(vI r_31.1),.nil,(vI r_34.1),(vI r_37.1),(vI r_40.1),.nil,(vB r_43.1)] rfl wz (h_nil (wH_seq (wH_seq (wH_region (h_lit (([1,2,8]:List Int).map eI) es22 ez22 rfl rfl rfl rfl rfl wz (h_len un22 rfl wz (h_op (vI 0) wz rfl (h_nil (wH_new (fun n_56 => ?_)))))))))))))
    obtain ⟨o_61,hj_62,hc_11⟩:=bind_some hc_11
    obtain ⟨hn_54,hj_62⟩:=forL_some hj_62
    refine wH_join (β:=((List Int)×(List Int)×Int)×Nm) (fun p=>(fun (s_55:(List Int)×(List Int)×Int) (n_58:Nm)=>([(0,(.ref (extN 0) 0 0)),(3,(gV n_10 13 s_7.1)),(6,(.ref n_46 0 0)),(11,(vL eS ([(⟨#[101,97]⟩:ByteArray),(⟨#[101,98]⟩:ByteArray),(⟨#[101,99]⟩:ByteArray),(⟨#[101,100]⟩:ByteArray)]:List ByteArray))),(12,(vI (([(⟨#[101,97]⟩:ByteArray),(⟨#[101,98]⟩:ByteArray),(⟨#[101,99]⟩:ByteArray),(⟨#[101,100]⟩:ByteArray)]:List ByteArray).length:Int))),(13,(vI (k_2:Int)))]:List (Nat×V))) p.1 p.2) (fun p=>(fun (s_55:(List Int)×(List Int)×Int) (n_58:Nm)=>([((extN 0),some (.cells 2 [(vL eI s_55.2.1),(vI s_55.2.2)])),(n_10,gB 13 Entry.enc s_7.1),(n_46,some (.cells 13 [(vS x_4),(vS r_19.1),(vI r_22.1),(vI r_25.1),(vI (w64 (r_25.1 + r_47.1))),(vI r_28.1),(vI r_31.1),(gV n_58 1 s_55.1),(vI r_34.1),(vI r_37.1),(vI r_40.1),.nil,(vB r_43.1)])),(n_58,gB 1 eI s_55.1)]:Hp)) p.1 p.2) (fun p=>o_61 = .go p.1) ?_ ?_
    ·refine wH_block (wH_loop (β:=Nat×(List Int)×((List Int)×(List Int)×Int)×Nm) (fun p=>(fun (k_50:Nat) (l_51:List Int) (s_55:(List Int)×(List Int)×Int) (n_58:Nm)=>([(0,(.ref (extN 0) 0 0)),(3,(gV n_10 13 s_7.1)),(6,(.ref n_46 0 0)),(11,(vL eS ([(⟨#[101,97]⟩:ByteArray),(⟨#[101,98]⟩:ByteArray),(⟨#[101,99]⟩:ByteArray),(⟨#[101,100]⟩:ByteArray)]:List ByteArray))),(12,(vI (([(⟨#[101,97]⟩:ByteArray),(⟨#[101,98]⟩:ByteArray),(⟨#[101,99]⟩:ByteArray),(⟨#[101,100]⟩:ByteArray)]:List ByteArray).length:Int))),(13,(vI (k_2:Int))),(53,(vL eI ([1,2,8]:List Int))),(54,(vI (([1,2,8]:List Int).length:Int))),(55,(vI (k_50:Int)))]:List (Nat×V))) p.1 p.2.1 p.2.2.1 p.2.2.2) (fun p=>(fun (k_50:Nat) (l_51:List Int) (s_55:(List Int)×(List Int)×Int) (n_58:Nm)=>([((extN 0),some (.cells 2 [(vL eI s_55.2.1),(vI s_55.2.2)])),(n_10,gB 13 Entry.enc s_7.1),(n_46,some (.cells 13 [(vS x_4),(vS r_19.1),(vI r_22.1),(vI r_25.1),(vI (w64 (r_25.1 + r_47.1))),(vI r_28.1),(vI r_31.1),(gV n_58 1 s_55.1),(vI r_34.1),(vI r_37.1),(vI r_40.1),.nil,(vB r_43.1)])),(n_58,gB 1 eI s_55.1)]:Hp)) p.1 p.2.1 p.2.2.1 p.2.2.2) (fun p=>forR (fun k x s=>mk_Stream_RightEntries_L1 k x s) p.2.1 p.1 p.2.2.1=some o_61∧(([1,2,8]:List Int)).drop p.1=p.2.1) (fun p=>p.2.1.length) (0,([1,2,8]:List Int),(([]:List Int),r_47.2.L,r_47.2.f_at),n_56) ⟨hj_62,rfl⟩ rfl (pre_r rfl) ?_)
     rintro ⟨k_50,l_51,s_55,n_58⟩ ⟨hL_60,hD_53⟩
     dsimp only at hL_60 hD_53
     cases l_51 with
     | nil =>
      obtain rfl:=some_inj hL_60
      refine wH_seq (wH_region (h_op (vB (decide ((k_50:Int) < (([1,2,8]:List Int).length:Int)))) wz rfl (h_nil ?_)))
      refine wH_seq (wH_iff rfl (drop_nil hD_53) (wH_exit ?_))
      exact cut_mk (s_55,n_58) rfl rfl (pre_r rfl)
     | cons x_52 l_51 =>
      obtain ⟨c_,hc_59,hL_60⟩:=bind_some hL_60
      refine wH_seq (wH_region (h_op (vB (decide ((k_50:Int) < (([1,2,8]:List Int).length:Int)))) wz rfl (h_nil ?_)))
      refine wH_seq (wH_ift rfl (drop_cons hD_53) (wH_skip ?_))
      unfold mk_Stream_RightEntries_L1 at hc_59
      refine wH_seq (wH_block (wH_seq (wH_region (h_ia es22 rfl rfl (drop_idx hD_53) rfl wz (h_ldc sz3 ag3 rfl (vI x_52) rfl wz (h_op (vI x_52) wz rfl (h_nil (wH_seq (wH_region (h_op (.ref (extN 0) 0 0) wz rfl ?_))))))))))
      obtain ⟨r_63,hr_64,hc_59⟩:=bind_some hc_59
      refine h_callq 0 [0] il ft (mk_Stream_Flip_ok hr_64) rfl hb7 rfl (by kernel_rfl) (by kernel_rfl) (by kernel_rfl) (by kernel_rfl) (by kernel_rfl) (by kernel_rfl) (by kernel_rfl) (by decide) (by kernel_rfl) wz (vB r_63.1) (by kernel_rfl) ([((extN 0),some (.cells 2 [(vL eI r_63.2.L),(vI r_63.2.f_at)])),(n_10,gB 13 Entry.enc s_7.1),(n_46,some (.cells 13 [(vS x_4),(vS r_19.1),(vI r_22.1),(vI r_25.1),(vI (w64 (r_25.1 + r_47.1))),(vI r_28.1),(vI r_31.1),(gV n_58 1 s_55.1),(vI r_34.1),(vI r_37.1),(vI r_40.1),.nil,(vB r_43.1)])),(n_58,gB 1 eI s_55.1)]:Hp) (by kernel_rfl) (h_nil ?_)
      obtain ⟨v_66,h_67,hc_59⟩:=bind_some hc_59
      refine wH_join (β:=Nm) (fun (n_68:Nm)=>([(0,(.ref (extN 0) 0 0)),(3,(gV n_10 13 s_7.1)),(6,(.ref n_46 0 0)),(11,(vL eS ([(⟨#[101,97]⟩:ByteArray),(⟨#[101,98]⟩:ByteArray),(⟨#[101,99]⟩:ByteArray),(⟨#[101,100]⟩:ByteArray)]:List ByteArray))),(12,(vI (([(⟨#[101,97]⟩:ByteArray),(⟨#[101,98]⟩:ByteArray),(⟨#[101,99]⟩:ByteArray),(⟨#[101,100]⟩:ByteArray)]:List ByteArray).length:Int))),(13,(vI (k_2:Int))),(53,(vL eI ([1,2,8]:List Int))),(54,(vI (([1,2,8]:List Int).length:Int))),(55,(vI (k_50:Int)))]:List (Nat×V))) (fun (n_68:Nm)=>([((extN 0),some (.cells 2 [(vL eI r_63.2.L),(vI r_63.2.f_at)])),(n_10,gB 13 Entry.enc s_7.1),(n_46,some (.cells 13 [(vS x_4),(vS r_19.1),(vI r_22.1),(vI r_25.1),(vI (w64 (r_25.1 + r_47.1))),(vI r_28.1),(vI r_31.1),(gV n_68 1 v_66),(vI r_34.1),(vI r_37.1),(vI r_40.1),.nil,(vB r_43.1)])),(n_68,gB 1 eI v_66)]:Hp)) (fun _=>True) ?_ ?_
      ·rcases cond_some h_67 with⟨hc_69,h_67⟩ | ⟨hc_69,h_67⟩
       ·refine wH_ift rfl hc_69 (wH_region (h_far pl55_7 rfl 7 rfl wz (h_ldr 0 2 il ft sz22 ag22 rfl rfl (gV n_58 1 s_55.1) rfl wz (h_op (vI x_52) wz rfl (h_lit (([x_52]:List Int).map eI) es22 ez22 rfl rfl rfl rfl rfl wz ?_)))))
        obtain ⟨a_70,hz_71,h_67⟩:=bind_some h_67
        refine h_appg 0 il ft (i:=3) el22 el22 sz3 z3 rfl (by decide) by3 (by decide) (fun _=>rfl) rfl rfl rfl hz_71 wz (fun n_72=>h_far pl55_7 rfl 7 rfl wz (h_str 0 il ft 2 sz22 rfl rfl [(vS x_4),(vS r_19.1),(vI r_22.1),(vI r_25.1),(vI (w64 (r_25.1 + r_47.1))),(vI r_28.1),(vI r_31.1),(gV n_72 1 a_70),(vI r_34.1),(vI r_37.1),(vI r_40.1),.nil,(vB r_43.1)] (stC_g rfl) wz (h_nil ?_)))
        obtain rfl:=some_inj h_67
        exact cut_mk n_72 trivial rfl (pre_r rfl)
       ·refine wH_iff rfl hc_69 (wH_skip ?_)
        obtain rfl:=some_inj h_67
        exact cut_mk n_58 trivial rfl (pre_r rfl)
      ·rintro n_68 _ sl_ H_ hp_ hq_
       refine wH_at _ hp_ hq_ (wH_region (h_opw (w64_next hD_53 hn_54) wz rfl (h_op (vI ((k_50 + 1:Nat):Int)) wz rfl (h_nil ?_))))
       obtain rfl:=some_inj hc_59
       exact loop_mk (k_50 + 1,l_51,(v_66,r_63.2.L,r_63.2.f_at),n_68) ⟨hL_60,drop_next hD_53⟩ (Nat.lt_succ_self _) rfl (pre_r rfl)
    ·rintro ⟨s_55,n_58⟩ ho_ sl_ H_ hp_ hq_
     subst ho_
     refine wH_at _ hp_ hq_ (wH_seq (wH_seq (wH_region (h_lit (([(⟨#[99,105,116,121]⟩:ByteArray),(⟨#[109,97,108,108]⟩:ByteArray)]:List ByteArray).map eS) es28 ez28 rfl rfl rfl rfl rfl wz (h_len un28 rfl wz (h_op (vI 0) wz rfl (h_nil (wH_new (fun n_79 => ?_)))))))))
     obtain ⟨o_84,hj_85,hc_11⟩:=bind_some hc_11
     obtain ⟨hn_77,hj_85⟩:=forL_some hj_85
     refine wH_join (β:=((List ByteArray)×(List Int)×Int)×Nm) (fun p=>(fun (s_78:(List ByteArray)×(List Int)×Int) (n_81:Nm)=>([(0,(.ref (extN 0) 0 0)),(3,(gV n_10 13 s_7.1)),(6,(.ref n_46 0 0)),(11,(vL eS ([(⟨#[101,97]⟩:ByteArray),(⟨#[101,98]⟩:ByteArray),(⟨#[101,99]⟩:ByteArray),(⟨#[101,100]⟩:ByteArray)]:List ByteArray))),(12,(vI (([(⟨#[101,97]⟩:ByteArray),(⟨#[101,98]⟩:ByteArray),(⟨#[101,99]⟩:ByteArray),(⟨#[101,100]⟩:ByteArray)]:List ByteArray).length:Int))),(13,(vI (k_2:Int)))]:List (Nat×V))) p.1 p.2) (fun p=>(fun (s_78:(List ByteArray)×(List Int)×Int) (n_81:Nm)=>([((extN 0),some (.cells 2 [(vL eI s_78.2.1),(vI s_78.2.2)])),(n_10,gB 13 Entry.enc s_7.1),(n_46,some (.cells 13 [(vS x_4),(vS r_19.1),(vI r_22.1),(vI r_25.1),(vI (w64 (r_25.1 + r_47.1))),(vI r_28.1),(vI r_31.1),(gV n_58 1 s_55.1),(vI r_34.1),(vI r_37.1),(vI r_40.1),(gV n_81 1 s_78.1),(vB r_43.1)])),(n_58,gB 1 eI s_55.1),(n_81,gB 1 eS s_78.1)]:Hp)) p.1 p.2) (fun p=>o_84 = .go p.1) ?_ ?_
     ·refine wH_block (wH_loop (β:=Nat×(List ByteArray)×((List ByteArray)×(List Int)×Int)×Nm) (fun p=>(fun (k_73:Nat) (l_74:List ByteArray) (s_78:(List ByteArray)×(List Int)×Int) (n_81:Nm)=>([(0,(.ref (extN 0) 0 0)),(3,(gV n_10 13 s_7.1)),(6,(.ref n_46 0 0)),(11,(vL eS ([(⟨#[101,97]⟩:ByteArray),(⟨#[101,98]⟩:ByteArray),(⟨#[101,99]⟩:ByteArray),(⟨#[101,100]⟩:ByteArray)]:List ByteArray))),(12,(vI (([(⟨#[101,97]⟩:ByteArray),(⟨#[101,98]⟩:ByteArray),(⟨#[101,99]⟩:ByteArray),(⟨#[101,100]⟩:ByteArray)]:List ByteArray).length:Int))),(13,(vI (k_2:Int))),(68,(vL eS ([(⟨#[99,105,116,121]⟩:ByteArray),(⟨#[109,97,108,108]⟩:ByteArray)]:List ByteArray))),(69,(vI (([(⟨#[99,105,116,121]⟩:ByteArray),(⟨#[109,97,108,108]⟩:ByteArray)]:List ByteArray).length:Int))),(70,(vI (k_73:Int)))]:List (Nat×V))) p.1 p.2.1 p.2.2.1 p.2.2.2) (fun p=>(fun (k_73:Nat) (l_74:List ByteArray) (s_78:(List ByteArray)×(List Int)×Int) (n_81:Nm)=>([((extN 0),some (.cells 2 [(vL eI s_78.2.1),(vI s_78.2.2)])),(n_10,gB 13 Entry.enc s_7.1),(n_46,some (.cells 13 [(vS x_4),(vS r_19.1),(vI r_22.1),(vI r_25.1),(vI (w64 (r_25.1 + r_47.1))),(vI r_28.1),(vI r_31.1),(gV n_58 1 s_55.1),(vI r_34.1),(vI r_37.1),(vI r_40.1),(gV n_81 1 s_78.1),(vB r_43.1)])),(n_58,gB 1 eI s_55.1),(n_81,gB 1 eS s_78.1)]:Hp)) p.1 p.2.1 p.2.2.1 p.2.2.2) (fun p=>forR (fun k x s=>mk_Stream_RightEntries_L2 k x s) p.2.1 p.1 p.2.2.1=some o_84∧(([(⟨#[99,105,116,121]⟩:ByteArray),(⟨#[109,97,108,108]⟩:ByteArray)]:List ByteArray)).drop p.1=p.2.1) (fun p=>p.2.1.length) (0,([(⟨#[99,105,116,121]⟩:ByteArray),(⟨#[109,97,108,108]⟩:ByteArray)]:List ByteArray),(([]:List ByteArray),s_55.2.1,s_55.2.2),n_79) ⟨hj_85,rfl⟩ rfl (pre_r rfl) ?_)
      rintro ⟨k_73,l_74,s_78,n_81⟩ ⟨hL_83,hD_76⟩
      dsimp only at hL_83 hD_76
      cases l_74 with
      | nil =>
       obtain rfl:=some_inj hL_83
       refine wH_seq (wH_region (h_op (vB (decide ((k_73:Int) < (([(⟨#[99,105,116,121]⟩:ByteArray),(⟨#[109,97,108,108]⟩:ByteArray)]:List ByteArray).length:Int)))) wz rfl (h_nil ?_)))
       refine wH_seq (wH_iff rfl (drop_nil hD_76) (wH_exit ?_))
       exact cut_mk (s_78,n_81) rfl rfl (pre_r rfl)
      | cons x_75 l_74 =>
       obtain ⟨c_,hc_82,hL_83⟩:=bind_some hL_83
       refine wH_seq (wH_region (h_op (vB (decide ((k_73:Int) < (([(⟨#[99,105,116,121]⟩:ByteArray),(⟨#[109,97,108,108]⟩:ByteArray)]:List ByteArray).length:Int)))) wz rfl (h_nil ?_)))
       refine wH_seq (wH_ift rfl (drop_cons hD_76) (wH_skip ?_))
       unfold mk_Stream_RightEntries_L2 at hc_82
       refine wH_seq (wH_block (wH_seq (wH_region (h_ia es28 rfl rfl (drop_idx hD_76) rfl wz (h_ldc sz9 ag9 rfl (vS x_75) rfl wz (h_op (vS x_75) wz rfl (h_nil (wH_seq (wH_region (h_op (.ref (extN 0) 0 0) wz rfl ?_))))))))))
       obtain ⟨r_86,hr_87,hc_82⟩:=bind_some hc_82
       refine h_callq 0 [0] il ft (mk_Stream_Flip_ok hr_87) rfl hb7 rfl (by kernel_rfl) (by kernel_rfl) (by kernel_rfl) (by kernel_rfl) (by kernel_rfl) (by kernel_rfl) (by kernel_rfl) (by decide) (by kernel_rfl) wz (vB r_86.1) (by kernel_rfl) ([((extN 0),some (.cells 2 [(vL eI r_86.2.L),(vI r_86.2.f_at)])),(n_10,gB 13 Entry.enc s_7.1),(n_46,some (.cells 13 [(vS x_4),(vS r_19.1),(vI r_22.1),(vI r_25.1),(vI (w64 (r_25.1 + r_47.1))),(vI r_28.1),(vI r_31.1),(gV n_58 1 s_55.1),(vI r_34.1),(vI r_37.1),(vI r_40.1),(gV n_81 1 s_78.1),(vB r_43.1)])),(n_58,gB 1 eI s_55.1),(n_81,gB 1 eS s_78.1)]:Hp) (by kernel_rfl) (h_nil ?_)
       obtain ⟨v_89,h_90,hc_82⟩:=bind_some hc_82
       refine wH_join (β:=Nm) (fun (n_91:Nm)=>([(0,(.ref (extN 0) 0 0)),(3,(gV n_10 13 s_7.1)),(6,(.ref n_46 0 0)),(11,(vL eS ([(⟨#[101,97]⟩:ByteArray),(⟨#[101,98]⟩:ByteArray),(⟨#[101,99]⟩:ByteArray),(⟨#[101,100]⟩:ByteArray)]:List ByteArray))),(12,(vI (([(⟨#[101,97]⟩:ByteArray),(⟨#[101,98]⟩:ByteArray),(⟨#[101,99]⟩:ByteArray),(⟨#[101,100]⟩:ByteArray)]:List ByteArray).length:Int))),(13,(vI (k_2:Int))),(68,(vL eS ([(⟨#[99,105,116,121]⟩:ByteArray),(⟨#[109,97,108,108]⟩:ByteArray)]:List ByteArray))),(69,(vI (([(⟨#[99,105,116,121]⟩:ByteArray),(⟨#[109,97,108,108]⟩:ByteArray)]:List ByteArray).length:Int))),(70,(vI (k_73:Int)))]:List (Nat×V))) (fun (n_91:Nm)=>([((extN 0),some (.cells 2 [(vL eI r_86.2.L),(vI r_86.2.f_at)])),(n_10,gB 13 Entry.enc s_7.1),(n_46,some (.cells 13 [(vS x_4),(vS r_19.1),(vI r_22.1),(vI r_25.1),(vI (w64 (r_25.1 + r_47.1))),(vI r_28.1),(vI r_31.1),(gV n_58 1 s_55.1),(vI r_34.1),(vI r_37.1),(vI r_40.1),(gV n_91 1 v_89),(vB r_43.1)])),(n_58,gB 1 eI s_55.1),(n_91,gB 1 eS v_89)]:Hp)) (fun _=>True) ?_ ?_
       ·rcases cond_some h_90 with⟨hc_92,h_90⟩ | ⟨hc_92,h_90⟩
        ·refine wH_ift rfl hc_92 (wH_region (h_far pl55_11 rfl 11 rfl wz (h_ldr 0 2 il ft sz28 ag28 rfl rfl (gV n_81 1 s_78.1) rfl wz (h_op (vS x_75) wz rfl (h_lit (([x_75]:List ByteArray).map eS) es28 ez28 rfl rfl rfl rfl rfl wz ?_)))))
         obtain ⟨a_93,hz_94,h_90⟩:=bind_some h_90
         refine h_appg 0 il ft (i:=4) el28 el28 sz9 z9 rfl (by decide) by9 (by decide) (fun _=>rfl) rfl rfl rfl hz_94 wz (fun n_95=>h_far pl55_11 rfl 11 rfl wz (h_str 0 il ft 2 sz28 rfl rfl [(vS x_4),(vS r_19.1),(vI r_22.1),(vI r_25.1),(vI (w64 (r_25.1 + r_47.1))),(vI r_28.1),(vI r_31.1),(gV n_58 1 s_55.1),(vI r_34.1),(vI r_37.1),(vI r_40.1),(gV n_95 1 a_93),(vB r_43.1)] (stC_g rfl) wz (h_nil ?_)))
         obtain rfl:=some_inj h_90
         exact cut_mk n_95 trivial rfl (pre_r rfl)
        ·refine wH_iff rfl hc_92 (wH_skip ?_)
         obtain rfl:=some_inj h_90
         exact cut_mk n_81 trivial rfl (pre_r rfl)
       ·rintro n_91 _ sl_ H_ hp_ hq_
        refine wH_at _ hp_ hq_ (wH_region (h_opw (w64_next hD_76 hn_77) wz rfl (h_op (vI ((k_73 + 1:Nat):Int)) wz rfl (h_nil ?_))))
        obtain rfl:=some_inj hc_82
        exact loop_mk (k_73 + 1,l_74,(v_89,r_86.2.L,r_86.2.f_at),n_91) ⟨hL_83,drop_next hD_76⟩ (Nat.lt_succ_self _) rfl (pre_r rfl)
     ·rintro ⟨s_78,n_81⟩ ho_ sl_ H_ hp_ hq_
      subst ho_
      refine wH_at _ hp_ hq_ (wH_frozg 3 rfl (wH_frozg 4 rfl (wH_coc2 3 4 2 [(vS x_4),(vS r_19.1),(vI r_22.1),(vI r_25.1),(vI (w64 (r_25.1 + r_47.1))),(vI r_28.1),(vI r_31.1),(vL eI s_55.1),(vI r_34.1),(vI r_37.1),(vI r_40.1),(vL eS s_78.1),(vB r_43.1)] rfl rfl rfl (fun S hS hS2=>cons_eq (rfl) (cons_eq (rfl) (cons_eq (rfl) (cons_eq (rfl) (cons_eq (rfl) (cons_eq (rfl) (cons_eq (rfl) (cons_eq (hS) (cons_eq (rfl) (cons_eq (rfl) (cons_eq (rfl) (cons_eq (hS2) (cons_eq (rfl) (rfl)))))))))))))) (wH_region (h_op (gV n_10 13 s_7.1) wz rfl (h_ldr 0 2 il ft sz55 ag55 rfl rfl (.d (.agg (Entry.enc (⟨x_4,r_19.1,r_22.1,r_25.1,(w64 (r_25.1 + r_47.1)),r_28.1,r_31.1,s_55.1,r_34.1,r_37.1,r_40.1,s_78.1,r_43.1⟩:Entry)))) rfl wz (h_lit (([(⟨x_4,r_19.1,r_22.1,r_25.1,(w64 (r_25.1 + r_47.1)),r_28.1,r_31.1,s_55.1,r_34.1,r_37.1,r_40.1,s_78.1,r_43.1⟩:Entry)]:List Entry).map Entry.enc) es26 ez26 rfl rfl rfl rfl rfl wz ?_)))))))
      obtain ⟨a_96,hz_97,hc_11⟩:=bind_some hc_11
      refine h_appg 0 il ft (i:=1) el26 el26 sz55 z55 rfl (by decide) by55 (by decide) (fun _=>rfl) rfl rfl rfl hz_97 wz (fun n_98=>h_op (gV n_98 13 a_96) wz rfl (h_nil (wH_region (h_opw (w64_next hD_5 hn_6) wz rfl (h_op (vI ((k_2 + 1:Nat):Int)) wz rfl (h_nil ?_))))))
      obtain rfl:=some_inj hc_11
      exact loop_mk (k_2 + 1,l_3,(a_96,s_78.2.1,s_78.2.2),n_98) ⟨hL_12,drop_next hD_5⟩ (Nat.lt_succ_self _) rfl (pre_r rfl)
 ·rintro ⟨s_7,n_10⟩ ho_ sl_ H_ hp_ hq_
  subst ho_
  refine wH_at _ hp_ hq_ (wH_seq (wH_region (h_op (gV n_10 13 s_7.1) wz rfl (h_op (gV n_10 13 s_7.1) wz rfl (h_nil ?_)))))
  obtain rfl:=some_inj hF
  exact wH_ret (finG (outs:=([(.cells 2 [(vL eI s_7.2.1),(vI s_7.2.2)])]:List Box)) (.inr rfl) 1 rfl rfl rfl (by kernel_rfl) (by kernel_rfl))
theorem mk_Stream_Odd_ok {s_1:Stream} {low_2:Int} {high_3:Int} {r:Int×Stream} (hF:mk_Stream_Odd s_1 low_2 high_3=some r) :
  FnM Tryz.prog 24 [(.ref (extN 0) 0 0),(vI low_2),(vI high_3)] [(.cells 2 [(vL eI s_1.L),(vI s_1.f_at)])] (vI r.1) [some (.cells 2 [(vL eI r.2.L),(vI r.2.f_at)])]:=by
 refine FnM.of_wH ⟨Tryz.prog,22,[],[]⟩ rfl Tryz.func24 rfl rfl (Nat.le_of_ble_eq_true rfl) (by kernel_rfl) ?_
 unfold mk_Stream_Odd at hF
 refine wH_seq (wH_region (h_op (vI 0) wz rfl (h_nil (wH_seq (wH_seq (wH_region (h_op (.ref (extN 0) 0 0) wz rfl ?_)))))))
 obtain ⟨r_4,hr_5,hF⟩:=bind_some hF
 refine h_callq 0 [0] il ft (mk_Stream_Flip_ok hr_5) rfl hb7 rfl (by kernel_rfl) (by kernel_rfl) (by kernel_rfl) (by kernel_rfl) (by kernel_rfl) (by kernel_rfl) (by kernel_rfl) (by decide) (by kernel_rfl) wz (vB r_4.1) (by kernel_rfl) ([((extN 0),some (.cells 2 [(vL eI r_4.2.L),(vI r_4.2.f_at)]))]:Hp) (by kernel_rfl) (h_nil ?_)
 rcases cond_some hF with⟨hc_7,hF⟩ | ⟨hc_7,hF⟩
 ·refine wH_ift rfl hc_7 (wH_seq (wH_region (h_op (.ref (extN 0) 0 0) wz rfl (h_op (vI low_2) wz rfl (h_op (vI (w64 (low_2 - 1))) wz rfl (h_op (vI high_3) wz rfl (h_op (vI (w64 (high_3 + 1))) wz rfl (h_op (vI low_2) wz rfl (h_op (vI high_3) wz rfl (h_lit (([(w64 (low_2 - 1)),(w64 (high_3 + 1)),low_2,high_3,(-1099511627776),1099511627776]:List Int).map eI) es22 ez22 rfl rfl rfl rfl rfl wz ?_))))))))))
  obtain ⟨r_8,hr_9,hF⟩:=bind_some hF
  refine h_callq 0 [0] il ft (mk_Stream_Pick_ok hr_9) rfl hb8 rfl (by kernel_rfl) (by kernel_rfl) (by kernel_rfl) (by kernel_rfl) (by kernel_rfl) (by kernel_rfl) (by kernel_rfl) (by decide) (by kernel_rfl) wz (vI r_8.1) (by kernel_rfl) ([((extN 0),some (.cells 2 [(vL eI r_8.2.L),(vI r_8.2.f_at)]))]:Hp) (by kernel_rfl) (h_op (vI r_8.1) wz rfl (h_nil ?_))
  obtain rfl:=some_inj hF
  exact wH_ret (finB (.inr rfl) [(vI r_8.1)] _ [0] [extN 0] ⟨rfl,trivial⟩ (.cons (co_data rfl rfl) (.nil)) (by kernel_rfl) ⟨(by kernel_rfl),trivial⟩ (by decide) (by kernel_rfl))
 ·refine wH_iff rfl hc_7 (wH_skip (wH_seq (wH_region (h_op (.ref (extN 0) 0 0) wz rfl (h_op (vI low_2) wz rfl (h_op (vI high_3) wz rfl ?_))))))
  obtain ⟨r_11,hr_12,hF⟩:=bind_some hF
  refine h_callq 0 [0] il ft (mk_Stream_Range_ok hr_12) rfl hb41 rfl (by kernel_rfl) (by kernel_rfl) (by kernel_rfl) (by kernel_rfl) (by kernel_rfl) (by kernel_rfl) (by kernel_rfl) (by decide) (by kernel_rfl) wz (vI r_11.1) (by kernel_rfl) ([((extN 0),some (.cells 2 [(vL eI r_11.2.L),(vI r_11.2.f_at)]))]:Hp) (by kernel_rfl) (h_op (vI r_11.1) wz rfl (h_nil ?_))
  obtain rfl:=some_inj hF
  exact wH_ret (finB (.inr rfl) [(vI r_11.1)] _ [0] [extN 0] ⟨rfl,trivial⟩ (.cons (co_data rfl rfl) (.nil)) (by kernel_rfl) ⟨(by kernel_rfl),trivial⟩ (by decide) (by kernel_rfl))
theorem slices_Clone_int_int_okb {s_1:(List Int)} {r:(List Int)} (hF:slices_Clone_int_int s_1=some r) :
  FnM Tryz.prog 25 [(vL eI s_1)] [] (gV (extN 0) 1 r) (([]:List Box).map some++gO 1 eI r):=by
 refine FnM.of_wH ⟨Tryz.prog,8,[],[]⟩ rfl Tryz.func25 rfl rfl (Nat.le_of_ble_eq_true rfl) (by kernel_rfl) ?_
 unfold slices_Clone_int_int at hF
 refine wH_seq (wH_region (h_op .nil wz rfl (h_nil (wH_seq (wH_seq (wH_region (h_op (vL eI s_1) wz rfl (h_nileq un22 rfl wz (fun b_2 hb_3=>h_nil ?_)))))))))
 cases b_2 with
 | true =>
  refine wH_ift rfl rfl ?_
  obtain rfl:=hb_3 rfl
  replace hF:=clone_nil hF
  refine wH_seq (wH_region (h_op .nil wz rfl (h_nil (wH_new (fun n_4 => ?_)))))
  obtain rfl:=some_inj hF
  exact wH_ret (finG (outs:=([]:List Box)) (.inr rfl) 0 rfl rfl rfl (by kernel_rfl) (by kernel_rfl))
 | false =>
  refine wH_iff rfl rfl (wH_skip (wH_seq (wH_region (h_lit0 es22 ez22 rfl wz (h_op (vL eI s_1) wz rfl ?_)))))
  obtain ⟨a_5,hz_6,hF⟩:=bind_some hF
  refine h_appn 0 (.inl rfl) el22 el22 sz3 z3 rfl (by decide) by3 (by decide) (fun _=>rfl) rfl rfl hz_6 wz (fun n_7=>h_op (gV n_7 1 a_5) wz rfl (h_nil ?_))
  obtain rfl:=some_inj hF
  exact wH_ret (finG (outs:=([]:List Box)) (.inr rfl) 0 rfl rfl rfl (by kernel_rfl) (by kernel_rfl))
theorem mk_Stream_Entries_ok {s_1:Stream} {r:(List Entry)×Stream} (hF:mk_Stream_Entries s_1=some r) :
  FnM Tryz.prog 4 [(.ref (extN 0) 0 0)] [(.cells 2 [(vL eI s_1.L),(vI s_1.f_at)])] (vL Entry.enc r.1) [some (.cells 2 [(vL eI r.2.L),(vI r.2.f_at)])]:=by
 refine FnM.of_wH ⟨Tryz.prog,107,[],[]⟩ rfl Tryz.func4 rfl rfl (Nat.le_of_ble_eq_true rfl) (by kernel_rfl) ?_
 unfold mk_Stream_Entries at hF
 refine wH_seq (wH_region (h_op .nil wz rfl (h_nil (wH_seq (wH_region (h_op (.ref (extN 0) 0 0) wz rfl ?_))))))
 obtain ⟨r_2,hr_3,hF⟩:=bind_some hF
 refine h_callg [0] (mk_Stream_RightEntries_okb hr_3) rfl hb21 rfl (by kernel_rfl) (by kernel_rfl) (by kernel_rfl) (by kernel_rfl) (by kernel_rfl) rfl (by decide) (by kernel_rfl) wz ([((extN 0),some (.cells 2 [(vL eI r_2.2.L),(vI r_2.2.f_at)]))]:Hp) (fun _=>by kernel_rfl) (fun n_5=>h_op (gV n_5 13 r_2.1) wz rfl (h_nil (wH_seq (wH_seq ?_))))
 obtain ⟨v_6,h_7,hF⟩:=bind_some hF
 refine wH_join (β:=Unit) (fun _=>([(0,(.ref (extN 0) 0 0)),(3,(gV n_5 13 r_2.1)),(13,(vB v_6.1))]:List (Nat×V))) (fun _=>([((extN 0),some (.cells 2 [(vL eI v_6.2.1),(vI v_6.2.2)])),(n_5,gB 13 Entry.enc r_2.1)]:Hp)) (fun _=>True) ?_ ?_
 ·refine wH_region (h_op (gV n_5 13 r_2.1) wz rfl (h_leng un26 rfl wz (h_op (vB (decide ((r_2.1.length:Int) > 0))) wz rfl ?_)))
  rcases cond_some h_7 with⟨hc_8,h_7⟩ | ⟨hc_8,h_7⟩
  ·refine h_movb rfl hc_8 wz (h_op (.ref (extN 0) 0 0) wa rfl ?_)
   obtain ⟨r_9,hr_10,h_7⟩:=bind_some h_7
   refine h_callq 0 [0] il ft (mk_Stream_Flip_ok hr_10) rfl hb7 rfl (by kernel_rfl) (by kernel_rfl) (by kernel_rfl) (by kernel_rfl) (by kernel_rfl) (by kernel_rfl) (by kernel_rfl) (by decide) (by kernel_rfl) wa (vB r_9.1) (by kernel_rfl) ([((extN 0),some (.cells 2 [(vL eI r_9.2.L),(vI r_9.2.f_at)])),(n_5,gB 13 Entry.enc r_2.1)]:Hp) (by kernel_rfl) (h_op (vB r_9.1) wz rfl (h_nil ?_))
   obtain rfl:=some_inj h_7
   exact cu
  ·refine h_movb rfl hc_8 wz (h_skip wa (h_skip wa (h_op (vB false) wz rfl (h_nil ?_))))
   obtain rfl:=some_inj h_7
   exact cu
 ·rintro ⟨⟩ _ sl_ H_ hp_ hq_
  refine wH_at _ hp_ hq_ ?_
  obtain ⟨v_12,h_13,hF⟩:=bind_some hF
  refine wH_join (β:=Unit) (fun _=>([(3,(gV n_5 13 v_12.1))]:List (Nat×V))) (fun _=>([((extN 0),some (.cells 2 [(vL eI v_12.2.1),(vI v_12.2.2)])),(n_5,gB 13 Entry.enc v_12.1)]:Hp)) (fun _=>True) ?_ ?_
  ·rcases cond_some h_13 with⟨hc_14,h_13⟩ | ⟨hc_14,h_13⟩
   ·refine wH_ift rfl hc_14 (wH_seq (wH_region (h_op (gV n_5 13 r_2.1) wz rfl (h_op (.ref (extN 0) 0 0) wz rfl (h_op (gV n_5 13 r_2.1) wz rfl (h_leng un26 rfl wz ?_))))))
    obtain ⟨r_15,hr_16,h_13⟩:=bind_some h_13
    refine h_callq 0 [0] il ft (mk_Stream_Next_ok hr_16) rfl hb22 rfl (by kernel_rfl) (by kernel_rfl) (by kernel_rfl) (by kernel_rfl) (by kernel_rfl) (by kernel_rfl) (by kernel_rfl) (by decide) (by kernel_rfl) wz (vI r_15.1) (by kernel_rfl) ([((extN 0),some (.cells 2 [(vL eI r_15.2.L),(vI r_15.2.f_at)])),(n_5,gB 13 Entry.enc r_2.1)]:Hp) (by kernel_rfl) ?_
    obtain ⟨_,hi_18,h_13⟩:=bind_some h_13
    refine h_iavg es26 rfl rfl (inR_0 hi_18) (inR_lt hi_18) wz (h_op (.ref n_5 (0 + (r_15.1).toNat) 0) wz rfl (h_nil (wH_seq (wH_region (h_op (.ref (extN 0) 0 0) wz rfl ?_)))))
    obtain ⟨r_19,hr_20,h_13⟩:=bind_some h_13
    refine h_callq 0 [0] il ft (mk_Stream_Next_ok hr_20) rfl hb22 rfl (by kernel_rfl) (by kernel_rfl) (by kernel_rfl) (by kernel_rfl) (by kernel_rfl) (by kernel_rfl) (by kernel_rfl) (by decide) (by kernel_rfl) wz (vI r_19.1) (by kernel_rfl) ([((extN 0),some (.cells 2 [(vL eI r_19.2.L),(vI r_19.2.f_at)])),(n_5,gB 13 Entry.enc r_2.1)]:Hp) (by kernel_rfl) (h_nil (wH_block (wH_seq (wH_region (h_op (vB (r_19.1 == 0)) wz rfl (h_op (vB (r_19.1 == 0)) wz rfl (h_nil ?_)))))))
    rcases cond_some h_13 with⟨hc_22,h_13⟩ | ⟨hc_22,h_13⟩
    ·refine wH_ift rfl hc_22 (wH_region (h_op (.ref n_5 (0 + (r_15.1).toNat) 0) wz rfl (h_op (.ref n_5 (0 + (r_15.1).toNat) 0) wz rfl (h_op (.ref (extN 0) 0 0) wz rfl (h_op (.ref n_5 (0 + (r_15.1).toNat) 0) wz rfl (h_op (.ref n_5 (0 + (r_15.1).toNat) 0) wz rfl (h_far pl55_0 rfl 0 rfl wz ?_)))))))
     obtain ⟨e_23,hy_24,h_13⟩:=bind_some h_13
     refine h_ldvg 0 1 il ft sz9 ag9 rfl rfl hy_24 (vS e_23.Key) rfl wz (h_lit (([e_23.Key,(⟨#[]⟩:ByteArray),(⟨#[65]⟩:ByteArray),(⟨#[101,97]⟩:ByteArray)]:List ByteArray).map eS) es28 ez28 rfl rfl rfl rfl rfl wz ?_)
     obtain ⟨r_25,hr_26,h_13⟩:=bind_some h_13
     refine h_callq 0 [0] il ft (mk_Stream_Some_ok hr_26) rfl hb23 rfl (by kernel_rfl) (by kernel_rfl) (by kernel_rfl) (by kernel_rfl) (by kernel_rfl) (by kernel_rfl) (by kernel_rfl) (by decide) (by kernel_rfl) wz (vS r_25.1) (by kernel_rfl) ([((extN 0),some (.cells 2 [(vL eI r_25.2.L),(vI r_25.2.f_at)])),(n_5,gB 13 Entry.enc r_2.1)]:Hp) (by kernel_rfl) (h_op (.ref (extN 0) 0 0) wz rfl (h_lit (([(⟨#[105,97]⟩:ByteArray),(⟨#[]⟩:ByteArray),(⟨#[66]⟩:ByteArray)]:List ByteArray).map eS) es28 ez28 rfl rfl rfl rfl rfl wz ?_))
     obtain ⟨r_28,hr_29,h_13⟩:=bind_some h_13
     refine h_callq 0 [0] il ft (mk_Stream_Some_ok hr_29) rfl hb23 rfl (by kernel_rfl) (by kernel_rfl) (by kernel_rfl) (by kernel_rfl) (by kernel_rfl) (by kernel_rfl) (by kernel_rfl) (by decide) (by kernel_rfl) wz (vS r_28.1) (by kernel_rfl) ([((extN 0),some (.cells 2 [(vL eI r_28.2.L),(vI r_28.2.f_at)])),(n_5,gB 13 Entry.enc r_2.1)]:Hp) (by kernel_rfl) (h_op (.ref n_5 (0 + (r_15.1).toNat) 0) wz rfl (h_far pl55_0 rfl 0 rfl wz ?_))
     obtain ⟨e_31,hy_32,h_13⟩:=bind_some h_13
     refine h_stvg 0 il ft 1 sz9 rfl rfl hy_32 (⟨r_25.1,e_31.Item,e_31.Version,e_31.First,e_31.Last,e_31.Every,e_31.Days,e_31.Except,e_31.From,e_31.To,e_31.Prio,e_31.Tags,e_31.Gone⟩:Entry) rfl wz (h_re (v':=(gV n_5 13 (r_2.1.set (0 + (r_15.1).toNat) (⟨r_25.1,e_31.Item,e_31.Version,e_31.First,e_31.Last,e_31.Every,e_31.Days,e_31.Except,e_31.From,e_31.To,e_31.Prio,e_31.Tags,e_31.Gone⟩:Entry)))) 3 rfl (gV_len (by simp)) (h_re (v':=(gV n_5 13 (r_2.1.set (0 + (r_15.1).toNat) (⟨r_25.1,e_31.Item,e_31.Version,e_31.First,e_31.Last,e_31.Every,e_31.Days,e_31.Except,e_31.From,e_31.To,e_31.Prio,e_31.Tags,e_31.Gone⟩:Entry)))) 14 rfl (gV_len (by simp)) (h_re (v':=(gV n_5 13 (r_2.1.set (0 + (r_15.1).toNat) (⟨r_25.1,e_31.Item,e_31.Version,e_31.First,e_31.Last,e_31.Every,e_31.Days,e_31.Except,e_31.From,e_31.To,e_31.Prio,e_31.Tags,e_31.Gone⟩:Entry)))) 16 rfl (gV_len (by simp)) (h_op (.ref n_5 (0 + (r_15.1).toNat) 0) wz rfl (h_far pl55_1 rfl 1 rfl wz ?_)))))
     obtain ⟨e_33,hy_34,h_13⟩:=bind_some h_13
     refine h_stvg 0 il ft 1 sz9 rfl rfl hy_34 (⟨e_33.Key,r_28.1,e_33.Version,e_33.First,e_33.Last,e_33.Every,e_33.Days,e_33.Except,e_33.From,e_33.To,e_33.Prio,e_33.Tags,e_33.Gone⟩:Entry) rfl wz (h_re (v':=(gV n_5 13 ((r_2.1.set (0 + (r_15.1).toNat) (⟨r_25.1,e_31.Item,e_31.Version,e_31.First,e_31.Last,e_31.Every,e_31.Days,e_31.Except,e_31.From,e_31.To,e_31.Prio,e_31.Tags,e_31.Gone⟩:Entry)).set (0 + (r_15.1).toNat) (⟨e_33.Key,r_28.1,e_33.Version,e_33.First,e_33.Last,e_33.Every,e_33.Days,e_33.Except,e_33.From,e_33.To,e_33.Prio,e_33.Tags,e_33.Gone⟩:Entry)))) 3 rfl (gV_len (by simp)) (h_re (v':=(gV n_5 13 ((r_2.1.set (0 + (r_15.1).toNat) (⟨r_25.1,e_31.Item,e_31.Version,e_31.First,e_31.Last,e_31.Every,e_31.Days,e_31.Except,e_31.From,e_31.To,e_31.Prio,e_31.Tags,e_31.Gone⟩:Entry)).set (0 + (r_15.1).toNat) (⟨e_33.Key,r_28.1,e_33.Version,e_33.First,e_33.Last,e_33.Every,e_33.Days,e_33.Except,e_33.From,e_33.To,e_33.Prio,e_33.Tags,e_33.Gone⟩:Entry)))) 14 rfl (gV_len (by simp)) (h_re (v':=(gV n_5 13 ((r_2.1.set (0 + (r_15.1).toNat) (⟨r_25.1,e_31.Item,e_31.Version,e_31.First,e_31.Last,e_31.Every,e_31.Days,e_31.Except,e_31.From,e_31.To,e_31.Prio,e_31.Tags,e_31.Gone⟩:Entry)).set (0 + (r_15.1).toNat) (⟨e_33.Key,r_28.1,e_33.Version,e_33.First,e_33.Last,e_33.Every,e_33.Days,e_33.Except,e_33.From,e_33.To,e_33.Prio,e_33.Tags,e_33.Gone⟩:Entry)))) 16 rfl (gV_len (by simp)) (h_nil ?_))))
     obtain rfl:=some_inj h_13
     exact cu
    ·refine wH_iff rfl hc_22 (wH_seq (wH_region (h_op (vB (r_19.1 == 1)) wz rfl (h_op (vB (r_19.1 == 1)) wz rfl (h_nil ?_)))))
     rcases cond_some h_13 with⟨hc_35,h_13⟩ | ⟨hc_35,h_13⟩
     ·refine wH_ift rfl hc_35 (wH_region (h_op (.ref n_5 (0 + (r_15.1).toNat) 0) wz rfl (h_op (.ref n_5 (0 + (r_15.1).toNat) 0) wz rfl (h_op (.ref (extN 0) 0 0) wz rfl ?_))))
      obtain ⟨r_36,hr_37,h_13⟩:=bind_some h_13
      refine h_callq 0 [0] il ft (mk_Stream_Odd_ok hr_37) rfl hb24 rfl (by kernel_rfl) (by kernel_rfl) (by kernel_rfl) (by kernel_rfl) (by kernel_rfl) (by kernel_rfl) (by kernel_rfl) (by decide) (by kernel_rfl) wz (vI r_36.1) (by kernel_rfl) ([((extN 0),some (.cells 2 [(vL eI r_36.2.L),(vI r_36.2.f_at)])),(n_5,gB 13 Entry.enc r_2.1)]:Hp) (by kernel_rfl) (h_op (.ref (extN 0) 0 0) wz rfl ?_)
      obtain ⟨r_39,hr_40,h_13⟩:=bind_some h_13
      refine h_callq 0 [0] il ft (mk_Stream_Odd_ok hr_40) rfl hb24 rfl (by kernel_rfl) (by kernel_rfl) (by kernel_rfl) (by kernel_rfl) (by kernel_rfl) (by kernel_rfl) (by kernel_rfl) (by decide) (by kernel_rfl) wz (vI r_39.1) (by kernel_rfl) ([((extN 0),some (.cells 2 [(vL eI r_39.2.L),(vI r_39.2.f_at)])),(n_5,gB 13 Entry.enc r_2.1)]:Hp) (by kernel_rfl) (h_op (.ref n_5 (0 + (r_15.1).toNat) 0) wz rfl (h_far pl55_3 rfl 3 rfl wz ?_))
      obtain ⟨e_42,hy_43,h_13⟩:=bind_some h_13
      refine h_stvg 0 il ft 1 sz3 rfl rfl hy_43 (⟨e_42.Key,e_42.Item,e_42.Version,r_36.1,e_42.Last,e_42.Every,e_42.Days,e_42.Except,e_42.From,e_42.To,e_42.Prio,e_42.Tags,e_42.Gone⟩:Entry) rfl wz (h_re (v':=(gV n_5 13 (r_2.1.set (0 + (r_15.1).toNat) (⟨e_42.Key,e_42.Item,e_42.Version,r_36.1,e_42.Last,e_42.Every,e_42.Days,e_42.Except,e_42.From,e_42.To,e_42.Prio,e_42.Tags,e_42.Gone⟩:Entry)))) 3 rfl (gV_len (by simp)) (h_re (v':=(gV n_5 13 (r_2.1.set (0 + (r_15.1).toNat) (⟨e_42.Key,e_42.Item,e_42.Version,r_36.1,e_42.Last,e_42.Every,e_42.Days,e_42.Except,e_42.From,e_42.To,e_42.Prio,e_42.Tags,e_42.Gone⟩:Entry)))) 14 rfl (gV_len (by simp)) (h_re (v':=(gV n_5 13 (r_2.1.set (0 + (r_15.1).toNat) (⟨e_42.Key,e_42.Item,e_42.Version,r_36.1,e_42.Last,e_42.Every,e_42.Days,e_42.Except,e_42.From,e_42.To,e_42.Prio,e_42.Tags,e_42.Gone⟩:Entry)))) 16 rfl (gV_len (by simp)) (h_op (.ref n_5 (0 + (r_15.1).toNat) 0) wz rfl (h_far pl55_4 rfl 4 rfl wz ?_)))))
      obtain ⟨e_44,hy_45,h_13⟩:=bind_some h_13
      refine h_stvg 0 il ft 1 sz3 rfl rfl hy_45 (⟨e_44.Key,e_44.Item,e_44.Version,e_44.First,r_39.1,e_44.Every,e_44.Days,e_44.Except,e_44.From,e_44.To,e_44.Prio,e_44.Tags,e_44.Gone⟩:Entry) rfl wz (h_re (v':=(gV n_5 13 ((r_2.1.set (0 + (r_15.1).toNat) (⟨e_42.Key,e_42.Item,e_42.Version,r_36.1,e_42.Last,e_42.Every,e_42.Days,e_42.Except,e_42.From,e_42.To,e_42.Prio,e_42.Tags,e_42.Gone⟩:Entry)).set (0 + (r_15.1).toNat) (⟨e_44.Key,e_44.Item,e_44.Version,e_44.First,r_39.1,e_44.Every,e_44.Days,e_44.Except,e_44.From,e_44.To,e_44.Prio,e_44.Tags,e_44.Gone⟩:Entry)))) 3 rfl (gV_len (by simp)) (h_re (v':=(gV n_5 13 ((r_2.1.set (0 + (r_15.1).toNat) (⟨e_42.Key,e_42.Item,e_42.Version,r_36.1,e_42.Last,e_42.Every,e_42.Days,e_42.Except,e_42.From,e_42.To,e_42.Prio,e_42.Tags,e_42.Gone⟩:Entry)).set (0 + (r_15.1).toNat) (⟨e_44.Key,e_44.Item,e_44.Version,e_44.First,r_39.1,e_44.Every,e_44.Days,e_44.Except,e_44.From,e_44.To,e_44.Prio,e_44.Tags,e_44.Gone⟩:Entry)))) 14 rfl (gV_len (by simp)) (h_re (v':=(gV n_5 13 ((r_2.1.set (0 + (r_15.1).toNat) (⟨e_42.Key,e_42.Item,e_42.Version,r_36.1,e_42.Last,e_42.Every,e_42.Days,e_42.Except,e_42.From,e_42.To,e_42.Prio,e_42.Tags,e_42.Gone⟩:Entry)).set (0 + (r_15.1).toNat) (⟨e_44.Key,e_44.Item,e_44.Version,e_44.First,r_39.1,e_44.Every,e_44.Days,e_44.Except,e_44.From,e_44.To,e_44.Prio,e_44.Tags,e_44.Gone⟩:Entry)))) 16 rfl (gV_len (by simp)) (h_nil ?_))))
      obtain rfl:=some_inj h_13
      exact cu
     ·refine wH_iff rfl hc_35 (wH_seq (wH_region (h_op (vB (r_19.1 == 2)) wz rfl (h_op (vB (r_19.1 == 2)) wz rfl (h_nil ?_)))))
      rcases cond_some h_13 with⟨hc_46,h_13⟩ | ⟨hc_46,h_13⟩
      ·refine wH_ift rfl hc_46 (wH_region (h_op (.ref n_5 (0 + (r_15.1).toNat) 0) wz rfl (h_op (.ref n_5 (0 + (r_15.1).toNat) 0) wz rfl (h_op (.ref (extN 0) 0 0) wz rfl ?_))))
       obtain ⟨r_47,hr_48,h_13⟩:=bind_some h_13
       refine h_callq 0 [0] il ft (mk_Stream_Odd_ok hr_48) rfl hb24 rfl (by kernel_rfl) (by kernel_rfl) (by kernel_rfl) (by kernel_rfl) (by kernel_rfl) (by kernel_rfl) (by kernel_rfl) (by decide) (by kernel_rfl) wz (vI r_47.1) (by kernel_rfl) ([((extN 0),some (.cells 2 [(vL eI r_47.2.L),(vI r_47.2.f_at)])),(n_5,gB 13 Entry.enc r_2.1)]:Hp) (by kernel_rfl) (h_op (.ref (extN 0) 0 0) wz rfl ?_)
       obtain ⟨r_50,hr_51,h_13⟩:=bind_some h_13
       refine h_callq 0 [0] il ft (mk_Stream_Odd_ok hr_51) rfl hb24 rfl (by kernel_rfl) (by kernel_rfl) (by kernel_rfl) (by kernel_rfl) (by kernel_rfl) (by kernel_rfl) (by kernel_rfl) (by decide) (by kernel_rfl) wz (vI r_50.1) (by kernel_rfl) ([((extN 0),some (.cells 2 [(vL eI r_50.2.L),(vI r_50.2.f_at)])),(n_5,gB 13 Entry.enc r_2.1)]:Hp) (by kernel_rfl) (h_op (.ref n_5 (0 + (r_15.1).toNat) 0) wz rfl (h_far pl55_5 rfl 5 rfl wz ?_))
       obtain ⟨e_53,hy_54,h_13⟩:=bind_some h_13
       refine h_stvg 0 il ft 1 sz3 rfl rfl hy_54 (⟨e_53.Key,e_53.Item,e_53.Version,e_53.First,e_53.Last,r_47.1,e_53.Days,e_53.Except,e_53.From,e_53.To,e_53.Prio,e_53.Tags,e_53.Gone⟩:Entry) rfl wz (h_re (v':=(gV n_5 13 (r_2.1.set (0 + (r_15.1).toNat) (⟨e_53.Key,e_53.Item,e_53.Version,e_53.First,e_53.Last,r_47.1,e_53.Days,e_53.Except,e_53.From,e_53.To,e_53.Prio,e_53.Tags,e_53.Gone⟩:Entry)))) 3 rfl (gV_len (by simp)) (h_re (v':=(gV n_5 13 (r_2.1.set (0 + (r_15.1).toNat) (⟨e_53.Key,e_53.Item,e_53.Version,e_53.First,e_53.Last,r_47.1,e_53.Days,e_53.Except,e_53.From,e_53.To,e_53.Prio,e_53.Tags,e_53.Gone⟩:Entry)))) 14 rfl (gV_len (by simp)) (h_re (v':=(gV n_5 13 (r_2.1.set (0 + (r_15.1).toNat) (⟨e_53.Key,e_53.Item,e_53.Version,e_53.First,e_53.Last,r_47.1,e_53.Days,e_53.Except,e_53.From,e_53.To,e_53.Prio,e_53.Tags,e_53.Gone⟩:Entry)))) 16 rfl (gV_len (by simp)) (h_op (.ref n_5 (0 + (r_15.1).toNat) 0) wz rfl (h_far pl55_6 rfl 6 rfl wz ?_)))))
       obtain ⟨e_55,hy_56,h_13⟩:=bind_some h_13
       refine h_stvg 0 il ft 1 sz3 rfl rfl hy_56 (⟨e_55.Key,e_55.Item,e_55.Version,e_55.First,e_55.Last,e_55.Every,r_50.1,e_55.Except,e_55.From,e_55.To,e_55.Prio,e_55.Tags,e_55.Gone⟩:Entry) rfl wz (h_re (v':=(gV n_5 13 ((r_2.1.set (0 + (r_15.1).toNat) (⟨e_53.Key,e_53.Item,e_53.Version,e_53.First,e_53.Last,r_47.1,e_53.Days,e_53.Except,e_53.From,e_53.To,e_53.Prio,e_53.Tags,e_53.Gone⟩:Entry)).set (0 + (r_15.1).toNat) (⟨e_55.Key,e_55.Item,e_55.Version,e_55.First,e_55.Last,e_55.Every,r_50.1,e_55.Except,e_55.From,e_55.To,e_55.Prio,e_55.Tags,e_55.Gone⟩:Entry)))) 3 rfl (gV_len (by simp)) (h_re (v':=(gV n_5 13 ((r_2.1.set (0 + (r_15.1).toNat) (⟨e_53.Key,e_53.Item,e_53.Version,e_53.First,e_53.Last,r_47.1,e_53.Days,e_53.Except,e_53.From,e_53.To,e_53.Prio,e_53.Tags,e_53.Gone⟩:Entry)).set (0 + (r_15.1).toNat) (⟨e_55.Key,e_55.Item,e_55.Version,e_55.First,e_55.Last,e_55.Every,r_50.1,e_55.Except,e_55.From,e_55.To,e_55.Prio,e_55.Tags,e_55.Gone⟩:Entry)))) 14 rfl (gV_len (by simp)) (h_re (v':=(gV n_5 13 ((r_2.1.set (0 + (r_15.1).toNat) (⟨e_53.Key,e_53.Item,e_53.Version,e_53.First,e_53.Last,r_47.1,e_53.Days,e_53.Except,e_53.From,e_53.To,e_53.Prio,e_53.Tags,e_53.Gone⟩:Entry)).set (0 + (r_15.1).toNat) (⟨e_55.Key,e_55.Item,e_55.Version,e_55.First,e_55.Last,e_55.Every,r_50.1,e_55.Except,e_55.From,e_55.To,e_55.Prio,e_55.Tags,e_55.Gone⟩:Entry)))) 16 rfl (gV_len (by simp)) (h_nil ?_))))
       obtain rfl:=some_inj h_13
       exact cu
      ·refine wH_iff rfl hc_46 (wH_seq (wH_region (h_op (vB (r_19.1 == 3)) wz rfl (h_op (vB (r_19.1 == 3)) wz rfl (h_nil ?_)))))
       rcases cond_some h_13 with⟨hc_57,h_13⟩ | ⟨hc_57,h_13⟩
       ·refine wH_ift rfl hc_57 (wH_region (h_op (.ref n_5 (0 + (r_15.1).toNat) 0) wz rfl (h_op (.ref n_5 (0 + (r_15.1).toNat) 0) wz rfl (h_op (.ref n_5 (0 + (r_15.1).toNat) 0) wz rfl (h_far pl55_7 rfl 7 rfl wz ?_)))))
        obtain ⟨e_58,hy_59,h_13⟩:=bind_some h_13
        refine h_ldvg 0 1 il ft sz22 ag22 rfl rfl hy_59 (vL eI e_58.Except) rfl wz ?_
        obtain ⟨r_60,hr_61,h_13⟩:=bind_some h_13
        refine h_callg [] (slices_Clone_int_int_okb hr_61) rfl hb25 rfl (by kernel_rfl) (by kernel_rfl) (by kernel_rfl) (by kernel_rfl) (by kernel_rfl) rfl (by decide) (by kernel_rfl) wz ([((extN 0),some (.cells 2 [(vL eI r_19.2.L),(vI r_19.2.f_at)])),(n_5,gB 13 Entry.enc r_2.1)]:Hp) (fun _=>by kernel_rfl) (fun n_63=>h_op (.ref (extN 0) 0 0) wz rfl ?_)
        obtain ⟨r_64,hr_65,h_13⟩:=bind_some h_13
        refine h_callq 0 [0] il ft (mk_Stream_Odd_ok hr_65) rfl hb24 rfl (by kernel_rfl) (by kernel_rfl) (by kernel_rfl) (by kernel_rfl) (by kernel_rfl) (by kernel_rfl) (by kernel_rfl) (by decide) (by kernel_rfl) wz (vI r_64.1) (by kernel_rfl) ([((extN 0),some (.cells 2 [(vL eI r_64.2.L),(vI r_64.2.f_at)])),(n_5,gB 13 Entry.enc r_2.1),(n_63,gB 1 eI r_60)]:Hp) (by kernel_rfl) (h_lit (([r_64.1]:List Int).map eI) es22 ez22 rfl rfl rfl rfl rfl wz ?_)
        obtain ⟨a_67,hz_68,h_13⟩:=bind_some h_13
        refine h_appg 0 il ft (i:=2) el22 el22 sz3 z3 rfl (by decide) by3 (by decide) (fun _=>rfl) rfl rfl rfl hz_68 wz (fun n_69=>h_op (.ref n_5 (0 + (r_15.1).toNat) 0) wz rfl (h_far pl55_7 rfl 7 rfl wz (h_ghost (fun hw=>wH_frozg 2 rfl hw) (by kernel_rfl) (h_ghost (fun hw=>wH_cog 91 2 rfl rfl hw) (by kernel_rfl) ?_))))
        obtain ⟨e_70,hy_71,h_13⟩:=bind_some h_13
        refine h_stvg 0 il ft 1 sz22 rfl rfl hy_71 (⟨e_70.Key,e_70.Item,e_70.Version,e_70.First,e_70.Last,e_70.Every,e_70.Days,a_67,e_70.From,e_70.To,e_70.Prio,e_70.Tags,e_70.Gone⟩:Entry) rfl wz (h_re (v':=(gV n_5 13 (r_2.1.set (0 + (r_15.1).toNat) (⟨e_70.Key,e_70.Item,e_70.Version,e_70.First,e_70.Last,e_70.Every,e_70.Days,a_67,e_70.From,e_70.To,e_70.Prio,e_70.Tags,e_70.Gone⟩:Entry)))) 3 rfl (gV_len (by simp)) (h_re (v':=(gV n_5 13 (r_2.1.set (0 + (r_15.1).toNat) (⟨e_70.Key,e_70.Item,e_70.Version,e_70.First,e_70.Last,e_70.Every,e_70.Days,a_67,e_70.From,e_70.To,e_70.Prio,e_70.Tags,e_70.Gone⟩:Entry)))) 14 rfl (gV_len (by simp)) (h_re (v':=(gV n_5 13 (r_2.1.set (0 + (r_15.1).toNat) (⟨e_70.Key,e_70.Item,e_70.Version,e_70.First,e_70.Last,e_70.Every,e_70.Days,a_67,e_70.From,e_70.To,e_70.Prio,e_70.Tags,e_70.Gone⟩:Entry)))) 16 rfl (gV_len (by simp)) (h_nil ?_))))
        obtain rfl:=some_inj h_13
        exact cu
       ·refine wH_iff rfl hc_57 (wH_seq (wH_region (h_op (vB (r_19.1 == 4)) wz rfl (h_op (vB (r_19.1 == 4)) wz rfl (h_nil ?_)))))
        rcases cond_some h_13 with⟨hc_72,h_13⟩ | ⟨hc_72,h_13⟩
        ·refine wH_ift rfl hc_72 (wH_region (h_op (.ref n_5 (0 + (r_15.1).toNat) 0) wz rfl (h_op (.ref n_5 (0 + (r_15.1).toNat) 0) wz rfl (h_op (.ref (extN 0) 0 0) wz rfl ?_))))
         obtain ⟨r_73,hr_74,h_13⟩:=bind_some h_13
         refine h_callq 0 [0] il ft (mk_Stream_Odd_ok hr_74) rfl hb24 rfl (by kernel_rfl) (by kernel_rfl) (by kernel_rfl) (by kernel_rfl) (by kernel_rfl) (by kernel_rfl) (by kernel_rfl) (by decide) (by kernel_rfl) wz (vI r_73.1) (by kernel_rfl) ([((extN 0),some (.cells 2 [(vL eI r_73.2.L),(vI r_73.2.f_at)])),(n_5,gB 13 Entry.enc r_2.1)]:Hp) (by kernel_rfl) (h_op (.ref (extN 0) 0 0) wz rfl ?_)
         obtain ⟨r_76,hr_77,h_13⟩:=bind_some h_13
         refine h_callq 0 [0] il ft (mk_Stream_Odd_ok hr_77) rfl hb24 rfl (by kernel_rfl) (by kernel_rfl) (by kernel_rfl) (by kernel_rfl) (by kernel_rfl) (by kernel_rfl) (by kernel_rfl) (by decide) (by kernel_rfl) wz (vI r_76.1) (by kernel_rfl) ([((extN 0),some (.cells 2 [(vL eI r_76.2.L),(vI r_76.2.f_at)])),(n_5,gB 13 Entry.enc r_2.1)]:Hp) (by kernel_rfl) (h_op (.ref n_5 (0 + (r_15.1).toNat) 0) wz rfl (h_far pl55_8 rfl 8 rfl wz ?_))
         obtain ⟨e_79,hy_80,h_13⟩:=bind_some h_13
         refine h_stvg 0 il ft 1 sz3 rfl rfl hy_80 (⟨e_79.Key,e_79.Item,e_79.Version,e_79.First,e_79.Last,e_79.Every,e_79.Days,e_79.Except,r_73.1,e_79.To,e_79.Prio,e_79.Tags,e_79.Gone⟩:Entry) rfl wz (h_re (v':=(gV n_5 13 (r_2.1.set (0 + (r_15.1).toNat) (⟨e_79.Key,e_79.Item,e_79.Version,e_79.First,e_79.Last,e_79.Every,e_79.Days,e_79.Except,r_73.1,e_79.To,e_79.Prio,e_79.Tags,e_79.Gone⟩:Entry)))) 3 rfl (gV_len (by simp)) (h_re (v':=(gV n_5 13 (r_2.1.set (0 + (r_15.1).toNat) (⟨e_79.Key,e_79.Item,e_79.Version,e_79.First,e_79.Last,e_79.Every,e_79.Days,e_79.Except,r_73.1,e_79.To,e_79.Prio,e_79.Tags,e_79.Gone⟩:Entry)))) 14 rfl (gV_len (by simp)) (h_re (v':=(gV n_5 13 (r_2.1.set (0 + (r_15.1).toNat) (⟨e_79.Key,e_79.Item,e_79.Version,e_79.First,e_79.Last,e_79.Every,e_79.Days,e_79.Except,r_73.1,e_79.To,e_79.Prio,e_79.Tags,e_79.Gone⟩:Entry)))) 16 rfl (gV_len (by simp)) (h_op (.ref n_5 (0 + (r_15.1).toNat) 0) wz rfl (h_far pl55_9 rfl 9 rfl wz ?_)))))
         obtain ⟨e_81,hy_82,h_13⟩:=bind_some h_13
         refine h_stvg 0 il ft 1 sz3 rfl rfl hy_82 (⟨e_81.Key,e_81.Item,e_81.Version,e_81.First,e_81.Last,e_81.Every,e_81.Days,e_81.Except,e_81.From,r_76.1,e_81.Prio,e_81.Tags,e_81.Gone⟩:Entry) rfl wz (h_re (v':=(gV n_5 13 ((r_2.1.set (0 + (r_15.1).toNat) (⟨e_79.Key,e_79.Item,e_79.Version,e_79.First,e_79.Last,e_79.Every,e_79.Days,e_79.Except,r_73.1,e_79.To,e_79.Prio,e_79.Tags,e_79.Gone⟩:Entry)).set (0 + (r_15.1).toNat) (⟨e_81.Key,e_81.Item,e_81.Version,e_81.First,e_81.Last,e_81.Every,e_81.Days,e_81.Except,e_81.From,r_76.1,e_81.Prio,e_81.Tags,e_81.Gone⟩:Entry)))) 3 rfl (gV_len (by simp)) (h_re (v':=(gV n_5 13 ((r_2.1.set (0 + (r_15.1).toNat) (⟨e_79.Key,e_79.Item,e_79.Version,e_79.First,e_79.Last,e_79.Every,e_79.Days,e_79.Except,r_73.1,e_79.To,e_79.Prio,e_79.Tags,e_79.Gone⟩:Entry)).set (0 + (r_15.1).toNat) (⟨e_81.Key,e_81.Item,e_81.Version,e_81.First,e_81.Last,e_81.Every,e_81.Days,e_81.Except,e_81.From,r_76.1,e_81.Prio,e_81.Tags,e_81.Gone⟩:Entry)))) 14 rfl (gV_len (by simp)) (h_re (v':=(gV n_5 13 ((r_2.1.set (0 + (r_15.1).toNat) (⟨e_79.Key,e_79.Item,e_79.Version,e_79.First,e_79.Last,e_79.Every,e_79.Days,e_79.Except,r_73.1,e_79.To,e_79.Prio,e_79.Tags,e_79.Gone⟩:Entry)).set (0 + (r_15.1).toNat) (⟨e_81.Key,e_81.Item,e_81.Version,e_81.First,e_81.Last,e_81.Every,e_81.Days,e_81.Except,e_81.From,r_76.1,e_81.Prio,e_81.Tags,e_81.Gone⟩:Entry)))) 16 rfl (gV_len (by simp)) (h_nil ?_))))
         obtain rfl:=some_inj h_13
         exact cu
        ·refine wH_iff rfl hc_72 (wH_draws (h_op (.ref n_5 (0 + (r_15.1).toNat) 0) wz rfl (h_op (.ref n_5 (0 + (r_15.1).toNat) 0) wz rfl (h_lit (([(⟨#[109,97,108,108]⟩:ByteArray),(⟨#[99,105,116,121]⟩:ByteArray)]:List ByteArray).map eS) es28 ez28 rfl rfl rfl rfl rfl wz (h_lit (([(⟨#[]⟩:ByteArray)]:List ByteArray).map eS) es28 ez28 rfl rfl rfl rfl rfl wz (h_lit (([(⟨#[97]⟩:ByteArray),(⟨#[97]⟩:ByteArray)]:List ByteArray).map eS) es28 ez28 rfl rfl rfl rfl rfl wz (h_lit (([([(⟨#[109,97,108,108]⟩:ByteArray),(⟨#[99,105,116,121]⟩:ByteArray)]:List ByteArray),([(⟨#[]⟩:ByteArray)]:List ByteArray),([(⟨#[97]⟩:ByteArray),(⟨#[97]⟩:ByteArray)]:List ByteArray)]:List (List ByteArray)).map (eL eS)) es60 ez60 rfl rfl rfl rfl rfl wz (h_op (.ref (extN 0) 0 0) wz rfl ?_))))))))
         obtain ⟨r_83,hr_84,h_13⟩:=bind_some h_13
         refine h_callq 7 [0] (.inr (by kernel_rfl)) (fun _ _ ag=>by exact trivial) (mk_Stream_Next_ok hr_84) rfl hb22 rfl (by kernel_rfl) (by kernel_rfl) (by kernel_rfl) (by kernel_rfl) (by kernel_rfl) (by kernel_rfl) (by kernel_rfl) (by decide) (by kernel_rfl) wz (vI r_83.1) (by kernel_rfl) ([((extN 0),some (.cells 2 [(vL eI r_83.2.L),(vI r_83.2.f_at)])),(n_5,gB 13 Entry.enc r_2.1)]:Hp) (by kernel_rfl) ?_
         obtain ⟨y_86,hy_87,h_13⟩:=bind_some h_13
         refine h_ia es60 rfl rfl hy_87 rfl wz (h_ldc sz28 ag28 rfl (vL eS y_86) rfl wz (h_op (.ref (extN 0) 0 0) wz rfl ?_))
         obtain ⟨r_88,hr_89,h_13⟩:=bind_some h_13
         refine h_callq 11 [0] (.inr (by kernel_rfl)) (fun _ _ ag=>by exact⟨.inr (.inr (by kernel_rfl)),trivial⟩) (mk_Stream_Odd_ok hr_89) rfl hb24 rfl (by kernel_rfl) (by kernel_rfl) (by kernel_rfl) (by kernel_rfl) (by kernel_rfl) (by kernel_rfl) (by kernel_rfl) (by decide) (by kernel_rfl) wz (vI r_88.1) (by kernel_rfl) ([((extN 0),some (.cells 2 [(vL eI r_88.2.L),(vI r_88.2.f_at)])),(n_5,gB 13 Entry.enc r_2.1)]:Hp) (by kernel_rfl) (h_op (.ref n_5 (0 + (r_15.1).toNat) 0) wz rfl (h_far pl55_11 rfl 11 rfl wz ?_))
         obtain ⟨e_91,hy_92,h_13⟩:=bind_some h_13
         refine h_stvg 14 (.inr (by kernel_rfl)) (fun _ _ ag=>⟨.inr (.inr (by kernel_rfl)),⟨.inr (.inr (by kernel_rfl)),trivial⟩⟩) 1 sz28 rfl rfl hy_92 (⟨e_91.Key,e_91.Item,e_91.Version,e_91.First,e_91.Last,e_91.Every,e_91.Days,e_91.Except,e_91.From,e_91.To,e_91.Prio,y_86,e_91.Gone⟩:Entry) rfl wz (h_re (v':=(gV n_5 13 (r_2.1.set (0 + (r_15.1).toNat) (⟨e_91.Key,e_91.Item,e_91.Version,e_91.First,e_91.Last,e_91.Every,e_91.Days,e_91.Except,e_91.From,e_91.To,e_91.Prio,y_86,e_91.Gone⟩:Entry)))) 3 rfl (gV_len (by simp)) (h_re (v':=(gV n_5 13 (r_2.1.set (0 + (r_15.1).toNat) (⟨e_91.Key,e_91.Item,e_91.Version,e_91.First,e_91.Last,e_91.Every,e_91.Days,e_91.Except,e_91.From,e_91.To,e_91.Prio,y_86,e_91.Gone⟩:Entry)))) 14 rfl (gV_len (by simp)) (h_re (v':=(gV n_5 13 (r_2.1.set (0 + (r_15.1).toNat) (⟨e_91.Key,e_91.Item,e_91.Version,e_91.First,e_91.Last,e_91.Every,e_91.Days,e_91.Except,e_91.From,e_91.To,e_91.Prio,y_86,e_91.Gone⟩:Entry)))) 16 rfl (gV_len (by simp)) (h_op (.ref n_5 (0 + (r_15.1).toNat) 0) wz rfl (h_far pl55_10 rfl 10 rfl wz ?_)))))
         obtain ⟨e_93,hy_94,h_13⟩:=bind_some h_13
         refine h_stvg 17 (.inr (by kernel_rfl)) (fun _ _ ag=>⟨.inr (.inr (by kernel_rfl)),⟨.inr (.inr (by kernel_rfl)),⟨.inr (.inr (by kernel_rfl)),trivial⟩⟩⟩) 1 sz3 rfl rfl hy_94 (⟨e_93.Key,e_93.Item,e_93.Version,e_93.First,e_93.Last,e_93.Every,e_93.Days,e_93.Except,e_93.From,e_93.To,r_88.1,e_93.Tags,e_93.Gone⟩:Entry) rfl wz (h_re (v':=(gV n_5 13 ((r_2.1.set (0 + (r_15.1).toNat) (⟨e_91.Key,e_91.Item,e_91.Version,e_91.First,e_91.Last,e_91.Every,e_91.Days,e_91.Except,e_91.From,e_91.To,e_91.Prio,y_86,e_91.Gone⟩:Entry)).set (0 + (r_15.1).toNat) (⟨e_93.Key,e_93.Item,e_93.Version,e_93.First,e_93.Last,e_93.Every,e_93.Days,e_93.Except,e_93.From,e_93.To,r_88.1,e_93.Tags,e_93.Gone⟩:Entry)))) 3 rfl (gV_len (by simp)) (h_re (v':=(gV n_5 13 ((r_2.1.set (0 + (r_15.1).toNat) (⟨e_91.Key,e_91.Item,e_91.Version,e_91.First,e_91.Last,e_91.Every,e_91.Days,e_91.Except,e_91.From,e_91.To,e_91.Prio,y_86,e_91.Gone⟩:Entry)).set (0 + (r_15.1).toNat) (⟨e_93.Key,e_93.Item,e_93.Version,e_93.First,e_93.Last,e_93.Every,e_93.Days,e_93.Except,e_93.From,e_93.To,r_88.1,e_93.Tags,e_93.Gone⟩:Entry)))) 14 rfl (gV_len (by simp)) (h_re (v':=(gV n_5 13 ((r_2.1.set (0 + (r_15.1).toNat) (⟨e_91.Key,e_91.Item,e_91.Version,e_91.First,e_91.Last,e_91.Every,e_91.Days,e_91.Except,e_91.From,e_91.To,e_91.Prio,y_86,e_91.Gone⟩:Entry)).set (0 + (r_15.1).toNat) (⟨e_93.Key,e_93.Item,e_93.Version,e_93.First,e_93.Last,e_93.Every,e_93.Days,e_93.Except,e_93.From,e_93.To,r_88.1,e_93.Tags,e_93.Gone⟩:Entry)))) 16 rfl (gV_len (by simp)) (h_nil ?_))))
         obtain rfl:=some_inj h_13
         exact cu
   ·refine wH_iff rfl hc_14 (wH_skip ?_)
    obtain rfl:=some_inj h_13
    exact cu
  ·rintro ⟨⟩ _ sl_ H_ hp_ hq_
   refine wH_at _ hp_ hq_ (wH_seq (wH_region (h_op (gV n_5 13 v_12.1) wz rfl (h_op (gV n_5 13 v_12.1) wz rfl (h_nil (wH_frozg 1 rfl (wH_cog 2 1 rfl rfl (wH_cog 3 1 rfl rfl (wH_cog 106 1 rfl rfl ?_)))))))))
   obtain rfl:=some_inj hF
   exact wH_ret (finB (.inr rfl) [(vL Entry.enc v_12.1)] _ [0] [extN 0] ⟨rfl,trivial⟩ (.cons (co_data rfl rfl) (.nil)) (by kernel_rfl) ⟨(by kernel_rfl),trivial⟩ (by decide) (by kernel_rfl))
theorem mk_Stream_RightPlayer_ok {s_1:Stream} {r:Player×Stream} (hF:mk_Stream_RightPlayer s_1=some r) :
  FnM Tryz.prog 26 [(.ref (extN 0) 0 0)] [(.cells 2 [(vL eI s_1.L),(vI s_1.f_at)])] (.d (.agg (Player.enc r.1))) [some (.cells 2 [(vL eI r.2.L),(vI r.2.f_at)])]:=by
 refine FnM.of_wH ⟨Tryz.prog,14,[],[]⟩ rfl Tryz.func26 rfl rfl (Nat.le_of_ble_eq_true rfl) (by kernel_rfl) ?_
 unfold mk_Stream_RightPlayer at hF
 refine wH_seq (wH_region (h_alloc 0 (.inl rfl) z30 rfl wz (fun n_2=>h_nil (wH_seq (wH_region (h_op (.ref (extN 0) 0 0) wz rfl (h_lit (([0,0,60,(-90),1440]:List Int).map eI) es22 ez22 rfl rfl rfl rfl rfl wz ?_)))))))
 obtain ⟨r_3,hr_4,hF⟩:=bind_some hF
 refine h_callq 0 [0] il ft (mk_Stream_Pick_ok hr_4) rfl hb8 rfl (by kernel_rfl) (by kernel_rfl) (by kernel_rfl) (by kernel_rfl) (by kernel_rfl) (by kernel_rfl) (by kernel_rfl) (by decide) (by kernel_rfl) wz (vI r_3.1) (by kernel_rfl) ([((extN 0),some (.cells 2 [(vL eI r_3.2.L),(vI r_3.2.f_at)])),(n_2,some (.cells 4 [(vS (⟨#[]⟩:ByteArray)),(vS (⟨#[]⟩:ByteArray)),(vI 0),.nil]))]:Hp) (by kernel_rfl) (h_lit (([(⟨#[99,105,116,121]⟩:ByteArray)]:List ByteArray).map eS) es28 ez28 rfl rfl rfl rfl rfl wz (h_lit (([(⟨#[99,105,116,121]⟩:ByteArray),(⟨#[109,97,108,108]⟩:ByteArray)]:List ByteArray).map eS) es28 ez28 rfl rfl rfl rfl rfl wz (h_lit (([([]:List ByteArray),([(⟨#[99,105,116,121]⟩:ByteArray)]:List ByteArray),([(⟨#[99,105,116,121]⟩:ByteArray),(⟨#[109,97,108,108]⟩:ByteArray)]:List ByteArray)]:List (List ByteArray)).map (eL eS)) es60 ez60 rfl rfl rfl rfl rfl wz (h_op (.ref (extN 0) 0 0) wz rfl ?_))))
 obtain ⟨r_6,hr_7,hF⟩:=bind_some hF
 refine h_callq 0 [0] il ft (mk_Stream_Next_ok hr_7) rfl hb22 rfl (by kernel_rfl) (by kernel_rfl) (by kernel_rfl) (by kernel_rfl) (by kernel_rfl) (by kernel_rfl) (by kernel_rfl) (by decide) (by kernel_rfl) wz (vI r_6.1) (by kernel_rfl) ([((extN 0),some (.cells 2 [(vL eI r_6.2.L),(vI r_6.2.f_at)])),(n_2,some (.cells 4 [(vS (⟨#[]⟩:ByteArray)),(vS (⟨#[]⟩:ByteArray)),(vI 0),.nil]))]:Hp) (by kernel_rfl) ?_
 obtain ⟨y_9,hy_10,hF⟩:=bind_some hF
 refine h_ia es60 rfl rfl hy_10 rfl wz (h_ldc sz28 ag28 rfl (vL eS y_9) rfl wz (h_op (.d (.agg (Player.enc (⟨(⟨#[112]⟩:ByteArray),(⟨#[115,97]⟩:ByteArray),r_3.1,y_9⟩:Player)))) wz (by kernel_rfl) (h_str 0 il ft 1 sz30 rfl rfl [(vS (⟨#[112]⟩:ByteArray)),(vS (⟨#[115,97]⟩:ByteArray)),(vI r_3.1),(vL eS y_9)] rfl wz (h_nil ?_))))
 obtain rfl:=some_inj hF
 exact wH_ret (finB (.inr rfl) [(.d (.agg (Player.enc (⟨(⟨#[112]⟩:ByteArray),(⟨#[115,97]⟩:ByteArray),r_3.1,y_9⟩:Player))))] _ [0] [extN 0] ⟨⟨1,_,_,_,_,_,_,_,rfl,rfl,sz30,ag30,rfl⟩,trivial⟩ (.cons (co_data rfl rfl) (.nil)) (by kernel_rfl) ⟨(by kernel_rfl),trivial⟩ (by decide) (by kernel_rfl))
end Go.Proofs.YtjhcehhmdmbleaaGreat.Law

