/-
 The machine computes these plain functions (written by a program of ours).
-/
import Derived.Test.YtjhcehhmdmbleaaGreatDoorFacts
import Derived.Test.YtjhcehhmdmbleaaGreatDoorDefs
open Go Go.Eng Go.Proofs
namespace Go.Proofs.YtjhcehhmdmbleaaGreatDoor.Law
set_option maxRecDepth 100000
set_option linter.unusedVariables false
set_option maxHeartbeats 1000000
theorem wL {x_1:Int} {n_2:Int} {r:Int} (hF:rD x_1 n_2=some r) :
  FnM Tryz.prog 159 [(vI x_1),(vI n_2)] [] (vI r) []:=by
 refine FnM.of_wH ⟨Tryz.prog,16,[],[]⟩ rfl Tryz.func159 rfl rfl (Nat.le_of_ble_eq_true rfl) (by kernel_rfl) ?_
 unfold rD at hF
 refine af (aa (ae (vI 0) wz rfl (aj (af (af (aa (ae (vI n_2) wz rfl (ae (vB (decide (n_2 < 1))) wz rfl (aj ?_)))))))))
 rcases au hF with⟨hc_3,hF⟩ | ⟨hc_3,hF⟩
 ·refine aA rfl hc_3 (af (aa (ae (vI 0) wz rfl (aj ?_))))
  obtain rfl:=ah hF
  exact aB (aO (.inr rfl) [(vI 0)] ⟨rfl,trivial⟩ rfl rfl rfl)
 ·refine ay rfl hc_3 (av (af (aa (ae (vI x_1) wz rfl (ae (vI n_2) wz rfl ?_)))))
  obtain ⟨q_4,hz_5,hF⟩:=bind_some hF
  refine K8 rfl rfl hz_5 wz (ae (vI q_4) wz rfl (aj (af (af (aa (ae (vI q_4) wz rfl (ae (vB (decide (q_4 < 0))) wz rfl (aj ?_))))))))
  obtain ⟨v_6,h_7,hF⟩:=bind_some hF
  refine aH (β:=Unit) (fun _=>([(0,(vI v_6))]:List (Nat×V))) (fun _=>([]:Hp)) (fun _=>True) ?_ ?_
  ·rcases au h_7 with⟨hc_8,h_7⟩ | ⟨hc_8,h_7⟩
   ·refine aA rfl hc_8 (aa (ae (vI q_4) wz rfl (ae (vI n_2) wz rfl (ae (vI (w64 (q_4 + n_2))) wz rfl (ae (vI (w64 (q_4 + n_2))) wz rfl (aj ?_))))))
    obtain rfl:=ah h_7
    exact cu
   ·refine ay rfl hc_8 (av ?_)
    obtain rfl:=ah h_7
    exact cu
  ·rintro ⟨⟩ _ sl_ H_ hp_ hq_
   refine aL _ hp_ hq_ (af (aa (ae (vI v_6) wz rfl (ae (vI v_6) wz rfl (aj ?_)))))
   obtain rfl:=ah hF
   exact aB (aO (.inr rfl) [(vI v_6)] ⟨rfl,trivial⟩ rfl rfl rfl)
theorem jq {s_1:Stream} {n_2:Int} {r:Int×Stream} (hF:gH s_1 n_2=some r) :
  FnM Tryz.prog 81 [(.ref (ax 0) 0 0),(vI n_2)] [(.cells 2 [(vL eI s_1.L),(vI s_1.f_at)])] (vI r.1) [some (.cells 2 [(vL eI r.2.L),(vI r.2.f_at)])]:=by
 refine FnM.of_wH ⟨Tryz.prog,64,[],[]⟩ rfl Tryz.func81 rfl rfl (Nat.le_of_ble_eq_true rfl) (by kernel_rfl) ?_
 unfold gH at hF
 refine af (aa (ae (vI 0) wz rfl (aj (af (aa (ae (.ref (ax 0) 0 0) wz rfl (ae (.ref (ax 0) 0 0) wz rfl (aI Dw rfl 1 rfl wz (aD 0 0 il ft sz3 ag3 rfl rfl (vI s_1.f_at) rfl wz (ae (vI (w64 (s_1.f_at + 1))) wz rfl (ae (.ref (ax 0) 0 0) wz rfl (aI Dw rfl 1 rfl wz (fH 0 il ft 0 sz3 rfl rfl [(vL eI s_1.L),(vI (w64 (s_1.f_at + 1)))] rfl wz (aj (af (af (aa (ae (.ref (ax 0) 0 0) wz rfl (ae (.ref (ax 0) 0 0) wz rfl (aI Gw rfl 0 rfl wz (aD 0 0 il ft yI Ac rfl rfl (vL eI s_1.L) rfl wz (cO vW rfl wz (ae (vB ((s_1.L.length:Int) == 0)) wz rfl ?_)))))))))))))))))))))))
 refine aj ?_
 rcases au hF with⟨hc_3,hF⟩ | ⟨hc_3,hF⟩
 ·refine aA rfl hc_3 (af (aa (ae (.ref (ax 0) 0 0) wz rfl (ae (.ref (ax 0) 0 0) wz rfl (aI Dw rfl 1 rfl wz (aD 0 0 il ft sz3 ag3 rfl rfl (vI (w64 (s_1.f_at + 1))) rfl wz (ae (vI (w64 ((w64 (s_1.f_at + 1)) * 7919))) wz rfl (ae (vI n_2) wz rfl ?_))))))))
  obtain ⟨r_4,hr_5,hF⟩:=bind_some hF
  refine aG (wL hr_5) rfl MW rfl rfl rfl rfl wz (ae (vI r_4) wz rfl (aj ?_))
  obtain rfl:=ah hF
  exact aB (xK (.inr rfl) [(vI r_4)] _ [0] [ax 0] ⟨rfl,trivial⟩ (.cons (jK rfl rfl) (.nil)) (by kernel_rfl) ⟨(by kernel_rfl),trivial⟩ (by decide) (by kernel_rfl))
 ·refine ay rfl hc_3 (av (af (bC (ae (.ref (ax 0) 0 0) wz rfl (ae (.ref (ax 0) 0 0) wz rfl (aI Dw rfl 1 rfl wz (aD 3 0 (.inr (by kernel_rfl)) (fun _ _ ag=>trivial) sz3 ag3 rfl rfl (vI (w64 (s_1.f_at + 1))) rfl wz (ae (vI (w64 ((w64 (s_1.f_at + 1)) - 1))) wz rfl (ae (.ref (ax 0) 0 0) wz rfl (ae (.ref (ax 0) 0 0) wz rfl (aI Gw rfl 0 rfl wz (aD 8 0 (.inr (by kernel_rfl)) (fun _ _ ag=>⟨.inl ⟨rfl,rfl⟩,trivial⟩) yI Ac rfl rfl (vL eI s_1.L) rfl wz (cO vW rfl wz ?_)))))))))))))
  obtain ⟨q_6,hz_7,hF⟩:=bind_some hF
  refine K8 rfl rfl hz_7 wz (ae (vI q_6) wz rfl (aj (af (bC (ae (.ref (ax 0) 0 0) wz rfl (ae (.ref (ax 0) 0 0) wz rfl (aI Dw rfl 1 rfl wz (aD 3 0 (.inr (by kernel_rfl)) (fun _ _ ag=>trivial) sz3 ag3 rfl rfl (vI (w64 (s_1.f_at + 1))) rfl wz (ae (vI (w64 ((w64 (s_1.f_at + 1)) - 1))) wz rfl (ae (.ref (ax 0) 0 0) wz rfl (ae (.ref (ax 0) 0 0) wz rfl (aI Gw rfl 0 rfl wz (aD 8 0 (.inr (by kernel_rfl)) (fun _ _ ag=>⟨.inl ⟨rfl,rfl⟩,trivial⟩) yI Ac rfl rfl (vL eI s_1.L) rfl wz (cO vW rfl wz ?_))))))))))))))
  obtain ⟨q_8,hz_9,hF⟩:=bind_some hF
  refine Mx rfl rfl hz_9 wz (ae (vI q_8) wz rfl (aj (aL (H0:=([((ax 0),some (.cells 2 [(vL eI s_1.L),(vI (w64 (s_1.f_at + 1)))]))]:Hp)) ([(0,(.ref (ax 0) 0 0)),(1,(vI n_2)),(5,(vI q_6)),(6,(vI q_8))]:List (Nat×V)) (by kernel_rfl) (sF (by kernel_rfl)) (af (aa (ae (.ref (ax 0) 0 0) wz rfl (ae (.ref (ax 0) 0 0) wz rfl (aI Gw rfl 0 rfl wz (aD 0 0 il ft yI Ac rfl rfl (vL eI s_1.L) rfl wz (ae (vI q_6) wz rfl ?_))))))))))
  obtain ⟨y_10,hy_11,hF⟩:=bind_some hF
  refine dU kw rfl rfl hy_11 rfl wz (bN sz3 ag3 rfl (vI y_10) rfl wz ?_)
  obtain ⟨r_12,hr_13,hF⟩:=bind_some hF
  refine aG (wL hr_13) rfl MW rfl rfl rfl rfl wz (ae (vI q_8) wz rfl (ae (vI q_6) wz rfl (ae (vI (w64 (7919 + q_6))) wz rfl (ae (vI (w64 (q_8 * (w64 (7919 + q_6))))) wz rfl (ae (vI (w64 (r_12 + (w64 (q_8 * (w64 (7919 + q_6))))))) wz rfl (ae (vI n_2) wz rfl ?_))))))
  obtain ⟨r_14,hr_15,hF⟩:=bind_some hF
  refine aG (wL hr_15) rfl MW rfl rfl rfl rfl wz (ae (vI r_14) wz rfl (aj ?_))
  obtain rfl:=ah hF
  exact aB (xK (.inr rfl) [(vI r_14)] _ [0] [ax 0] ⟨rfl,trivial⟩ (.cons (jK rfl rfl) (.nil)) (by kernel_rfl) ⟨(by kernel_rfl),trivial⟩ (by decide) (by kernel_rfl))
theorem kW {s_1:Stream} {n_2:Int} {r:Bool×Stream} (hF:gy s_1 n_2=some r) :
  FnM Tryz.prog 20 [(.ref (ax 0) 0 0),(vI n_2)] [(.cells 2 [(vL eI s_1.L),(vI s_1.f_at)])] (vB r.1) [some (.cells 2 [(vL eI r.2.L),(vI r.2.f_at)])]:=by
 refine FnM.of_wH ⟨Tryz.prog,9,[],[]⟩ rfl Tryz.func20 rfl rfl (Nat.le_of_ble_eq_true rfl) (by kernel_rfl) ?_
 unfold gy at hF
 refine af (aa (ae (vB false) wz rfl (aj (af (aa (ae (.ref (ax 0) 0 0) wz rfl (ae (vI n_2) wz rfl ?_)))))))
 obtain ⟨r_3,hr_4,hF⟩:=bind_some hF
 refine eD 0 [0] il ft (jq hr_4) rfl MB rfl (by kernel_rfl) (by kernel_rfl) (by kernel_rfl) (by kernel_rfl) (by kernel_rfl) (by kernel_rfl) (by kernel_rfl) (by decide) (by kernel_rfl) wz (vI r_3.1) (by kernel_rfl) ([((ax 0),some (.cells 2 [(vL eI r_3.2.L),(vI r_3.2.f_at)]))]:Hp) (by kernel_rfl) (ae (vB (r_3.1 == 0)) wz rfl (ae (vB (r_3.1 == 0)) wz rfl (aj ?_)))
 obtain rfl:=ah hF
 exact aB (xK (.inr rfl) [(vB (r_3.1 == 0))] _ [0] [ax 0] ⟨rfl,trivial⟩ (.cons (jK rfl rfl) (.nil)) (by kernel_rfl) ⟨(by kernel_rfl),trivial⟩ (by decide) (by kernel_rfl))
theorem zW {s_1:Stream} {l_2:(List ByteArray)} {r:ByteArray×Stream} (hF:lL s_1 l_2=some r) :
  FnM Tryz.prog 47 [(.ref (ax 0) 0 0),(vL eS l_2)] [(.cells 2 [(vL eI s_1.L),(vI s_1.f_at)])] (vS r.1) [some (.cells 2 [(vL eI r.2.L),(vI r.2.f_at)])]:=by
 refine FnM.of_wH ⟨Tryz.prog,12,[],[]⟩ rfl Tryz.func47 rfl rfl (Nat.le_of_ble_eq_true rfl) (by kernel_rfl) ?_
 unfold lL at hF
 refine af (aa (ae (vS (⟨#[]⟩:ByteArray)) wz rfl (aj (af (aa (ae (vL eS l_2) wz rfl (ae (.ref (ax 0) 0 0) wz rfl (ae (vL eS l_2) wz rfl (cO Ck rfl wz ?_)))))))))
 obtain ⟨r_3,hr_4,hF⟩:=bind_some hF
 refine eD 0 [0] il ft (jq hr_4) rfl MB rfl (by kernel_rfl) (by kernel_rfl) (by kernel_rfl) (by kernel_rfl) (by kernel_rfl) (by kernel_rfl) (by kernel_rfl) (by decide) (by kernel_rfl) wz (vI r_3.1) (by kernel_rfl) ([((ax 0),some (.cells 2 [(vL eI r_3.2.L),(vI r_3.2.f_at)]))]:Hp) (by kernel_rfl) ?_
 obtain ⟨y_6,hy_7,hF⟩:=bind_some hF
 refine dU wP rfl rfl hy_7 rfl wz (bN sz9 ag9 rfl (vS y_6) rfl wz (ae (vS y_6) wz rfl (aj ?_)))
 obtain rfl:=ah hF
 exact aB (xK (.inr rfl) [(vS y_6)] _ [0] [ax 0] ⟨rfl,trivial⟩ (.cons (jK rfl rfl) (.nil)) (by kernel_rfl) ⟨(by kernel_rfl),trivial⟩ (by decide) (by kernel_rfl))
theorem ku {s_1:Stream} {low_2:Int} {high_3:Int} {r:Int×Stream} (hF:gM s_1 low_2 high_3=some r) :
  FnM Tryz.prog 34 [(.ref (ax 0) 0 0),(vI low_2),(vI high_3)] [(.cells 2 [(vL eI s_1.L),(vI s_1.f_at)])] (vI r.1) [some (.cells 2 [(vL eI r.2.L),(vI r.2.f_at)])]:=by
 refine FnM.of_wH ⟨Tryz.prog,19,[],[]⟩ rfl Tryz.func34 rfl rfl (Nat.le_of_ble_eq_true rfl) (by kernel_rfl) ?_
 unfold gM at hF
 refine af (aa (ae (vI 0) wz rfl (aj (af (af (aa (ae (vI high_3) wz rfl (ae (vI low_2) wz rfl (ae (vB (decide (high_3 < low_2))) wz rfl (aj ?_))))))))))
 rcases au hF with⟨hc_4,hF⟩ | ⟨hc_4,hF⟩
 ·refine aA rfl hc_4 (af (aa (ae (vI low_2) wz rfl (ae (vI low_2) wz rfl (aj ?_)))))
  obtain rfl:=ah hF
  exact aB (xK (.inr rfl) [(vI low_2)] _ [0] [ax 0] ⟨rfl,trivial⟩ (.cons (jK rfl rfl) (.nil)) (by kernel_rfl) ⟨(by kernel_rfl),trivial⟩ (by decide) (by kernel_rfl))
 ·refine ay rfl hc_4 (av (af (aa (ae (vI low_2) wz rfl (ae (.ref (ax 0) 0 0) wz rfl (ae (vI high_3) wz rfl (ae (vI low_2) wz rfl (ae (vI (w64 (high_3 - low_2))) wz rfl (ae (vI (w64 ((w64 (high_3 - low_2)) + 1))) wz rfl ?_)))))))))
  obtain ⟨r_5,hr_6,hF⟩:=bind_some hF
  refine eD 0 [0] il ft (jq hr_6) rfl MB rfl (by kernel_rfl) (by kernel_rfl) (by kernel_rfl) (by kernel_rfl) (by kernel_rfl) (by kernel_rfl) (by kernel_rfl) (by decide) (by kernel_rfl) wz (vI r_5.1) (by kernel_rfl) ([((ax 0),some (.cells 2 [(vL eI r_5.2.L),(vI r_5.2.f_at)]))]:Hp) (by kernel_rfl) (ae (vI (w64 (low_2 + r_5.1))) wz rfl (ae (vI (w64 (low_2 + r_5.1))) wz rfl (aj ?_)))
  obtain rfl:=ah hF
  exact aB (xK (.inr rfl) [(vI (w64 (low_2 + r_5.1)))] _ [0] [ax 0] ⟨rfl,trivial⟩ (.cons (jK rfl rfl) (.nil)) (by kernel_rfl) ⟨(by kernel_rfl),trivial⟩ (by decide) (by kernel_rfl))
theorem eB {s_1:Stream} {l_2:(List Int)} {r:Int×Stream} (hF:dL s_1 l_2=some r) :
  FnM Tryz.prog 19 [(.ref (ax 0) 0 0),(vL eI l_2)] [(.cells 2 [(vL eI s_1.L),(vI s_1.f_at)])] (vI r.1) [some (.cells 2 [(vL eI r.2.L),(vI r.2.f_at)])]:=by
 refine FnM.of_wH ⟨Tryz.prog,12,[],[]⟩ rfl Tryz.func19 rfl rfl (Nat.le_of_ble_eq_true rfl) (by kernel_rfl) ?_
 unfold dL at hF
 refine af (aa (ae (vI 0) wz rfl (aj (af (aa (ae (vL eI l_2) wz rfl (ae (.ref (ax 0) 0 0) wz rfl (ae (vL eI l_2) wz rfl (cO vW rfl wz ?_)))))))))
 obtain ⟨r_3,hr_4,hF⟩:=bind_some hF
 refine eD 0 [0] il ft (jq hr_4) rfl MB rfl (by kernel_rfl) (by kernel_rfl) (by kernel_rfl) (by kernel_rfl) (by kernel_rfl) (by kernel_rfl) (by kernel_rfl) (by decide) (by kernel_rfl) wz (vI r_3.1) (by kernel_rfl) ([((ax 0),some (.cells 2 [(vL eI r_3.2.L),(vI r_3.2.f_at)]))]:Hp) (by kernel_rfl) ?_
 obtain ⟨y_6,hy_7,hF⟩:=bind_some hF
 refine dU kw rfl rfl hy_7 rfl wz (bN sz3 ag3 rfl (vI y_6) rfl wz (ae (vI y_6) wz rfl (aj ?_)))
 obtain rfl:=ah hF
 exact aB (xK (.inr rfl) [(vI y_6)] _ [0] [ax 0] ⟨rfl,trivial⟩ (.cons (jK rfl rfl) (.nil)) (by kernel_rfl) ⟨(by kernel_rfl),trivial⟩ (by decide) (by kernel_rfl))
theorem rJ {s_1:Stream} {r:(List Entry)×Stream} (hF:gz s_1=some r) :
  FnM Tryz.prog 31 [(.ref (ax 0) 0 0)] [(.cells 2 [(vL eI s_1.L),(vI s_1.f_at)])] (vL Entry.enc r.1) [some (.cells 2 [(vL eI r.2.L),(vI r.2.f_at)])]:=by
 refine FnM.of_wH ⟨Tryz.prog,89,[],[]⟩ rfl Tryz.func31 rfl rfl (Nat.le_of_ble_eq_true rfl) (by kernel_rfl) ?_
 unfold gz at hF
 refine af (aa (ae .nil wz rfl (aj (af (aa (ae .nil wz rfl (aj (af (af (aa (eU (([(⟨#[101,97]⟩:ByteArray),(⟨#[101,98]⟩:ByteArray),(⟨#[101,99]⟩:ByteArray),(⟨#[101,100]⟩:ByteArray)]:List ByteArray).map eS) wP Ki rfl rfl rfl rfl rfl wz (cO Ck rfl wz (ae (vI 0) wz rfl (aj (mo (fun n_8 => ?_))))))))))))))))
 obtain ⟨o_13,hj_14,hF⟩:=bind_some hF
 obtain ⟨hn_6,hj_14⟩:=bv hj_14
 refine aH (β:=((List Entry)×(List Int)×Int)×Nm) (fun p=>(fun (s_7:(List Entry)×(List Int)×Int) (n_10:Nm)=>([(3,(gV n_10 13 s_7.1))]:List (Nat×V))) p.1 p.2) (fun p=>(fun (s_7:(List Entry)×(List Int)×Int) (n_10:Nm)=>([((ax 0),some (.cells 2 [(vL eI s_7.2.1),(vI s_7.2.2)])),(n_10,gB 13 Entry.enc s_7.1)]:Hp)) p.1 p.2) (fun p=>o_13 = .go p.1) ?_ ?_
 ·refine aC (aV (β:=Nat×(List ByteArray)×((List Entry)×(List Int)×Int)×Nm) (fun p=>(fun (k_2:Nat) (l_3:List ByteArray) (s_7:(List Entry)×(List Int)×Int) (n_10:Nm)=>([(0,(.ref (ax 0) 0 0)),(3,(gV n_10 13 s_7.1)),(11,(vL eS ([(⟨#[101,97]⟩:ByteArray),(⟨#[101,98]⟩:ByteArray),(⟨#[101,99]⟩:ByteArray),(⟨#[101,100]⟩:ByteArray)]:List ByteArray))),(12,(vI (([(⟨#[101,97]⟩:ByteArray),(⟨#[101,98]⟩:ByteArray),(⟨#[101,99]⟩:ByteArray),(⟨#[101,100]⟩:ByteArray)]:List ByteArray).length:Int))),(13,(vI (k_2:Int)))]:List (Nat×V))) p.1 p.2.1 p.2.2.1 p.2.2.2) (fun p=>(fun (k_2:Nat) (l_3:List ByteArray) (s_7:(List Entry)×(List Int)×Int) (n_10:Nm)=>([((ax 0),some (.cells 2 [(vL eI s_7.2.1),(vI s_7.2.2)])),(n_10,gB 13 Entry.enc s_7.1)]:Hp)) p.1 p.2.1 p.2.2.1 p.2.2.2) (fun p=>forR (fun k x s=>dR k x s) p.2.1 p.1 p.2.2.1=some o_13∧(([(⟨#[101,97]⟩:ByteArray),(⟨#[101,98]⟩:ByteArray),(⟨#[101,99]⟩:ByteArray),(⟨#[101,100]⟩:ByteArray)]:List ByteArray)).drop p.1=p.2.1) (fun p=>p.2.1.length) (0,([(⟨#[101,97]⟩:ByteArray),(⟨#[101,98]⟩:ByteArray),(⟨#[101,99]⟩:ByteArray),(⟨#[101,100]⟩:ByteArray)]:List ByteArray),(([]:List Entry),s_1.L,s_1.f_at),n_8) ⟨hj_14,rfl⟩ rfl (aJ rfl) ?_)
  rintro ⟨k_2,l_3,s_7,n_10⟩ ⟨hL_12,hD_5⟩
  dsimp only at hL_12 hD_5
  cases l_3 with
  | nil =>
   obtain rfl:=ah hL_12
   refine af (aa (ae (vB (decide ((k_2:Int) < (([(⟨#[101,97]⟩:ByteArray),(⟨#[101,98]⟩:ByteArray),(⟨#[101,99]⟩:ByteArray),(⟨#[101,100]⟩:ByteArray)]:List ByteArray).length:Int)))) wz rfl (aj ?_)))
   refine af (ay rfl (drop_nil hD_5) (aQ ?_))
   exact aR (s_7,n_10) rfl rfl (aJ rfl)
  | cons x_4 l_3 =>
   obtain ⟨c_,hc_11,hL_12⟩:=bind_some hL_12
   refine af (aa (ae (vB (decide ((k_2:Int) < (([(⟨#[101,97]⟩:ByteArray),(⟨#[101,98]⟩:ByteArray),(⟨#[101,99]⟩:ByteArray),(⟨#[101,100]⟩:ByteArray)]:List ByteArray).length:Int)))) wz rfl (aj ?_)))
   refine af (aA rfl (bL hD_5) (av ?_))
   unfold dR at hc_11
   refine af (aC (af (aa (dU wP rfl rfl (bT hD_5) rfl wz (bN sz9 ag9 rfl (vS x_4) rfl wz (ae (vS x_4) wz rfl (aj (af (af (aa (ae (.ref (ax 0) 0 0) wz rfl ?_)))))))))))
   obtain ⟨r_15,hr_16,hc_11⟩:=bind_some hc_11
   refine eD 0 [0] il ft (kW hr_16) rfl hb20 rfl (by kernel_rfl) (by kernel_rfl) (by kernel_rfl) (by kernel_rfl) (by kernel_rfl) (by kernel_rfl) (by kernel_rfl) (by decide) (by kernel_rfl) wz (vB r_15.1) (by kernel_rfl) ([((ax 0),some (.cells 2 [(vL eI r_15.2.L),(vI r_15.2.f_at)])),(n_10,gB 13 Entry.enc s_7.1)]:Hp) (by kernel_rfl) (aj ?_)
   rcases au hc_11 with⟨hc_18,hc_11⟩ | ⟨hc_18,hc_11⟩
   ·refine aA rfl hc_18 (aQ (aa (fJ (bO hD_5 hn_6) wz rfl (ae (vI ((k_2 + 1:Nat):Int)) wz rfl (aj ?_)))))
    obtain rfl:=ah hc_11
    exact aP (k_2 + 1,l_3,(s_7.1,r_15.2.L,r_15.2.f_at),n_10) ⟨hL_12,aW hD_5⟩ (Nat.lt_succ_self _) rfl (aJ rfl)
   ·refine ay rfl hc_18 (av (af (aa (ae (vS x_4) wz rfl (ae (.ref (ax 0) 0 0) wz rfl (eU (([(⟨#[105,97]⟩:ByteArray),(⟨#[105,98]⟩:ByteArray),(⟨#[105,99]⟩:ByteArray)]:List ByteArray).map eS) wP Ki rfl rfl rfl rfl rfl wz ?_))))))
    obtain ⟨r_19,hr_20,hc_11⟩:=bind_some hc_11
    refine eD 0 [0] il ft (zW hr_20) rfl hb47 rfl (by kernel_rfl) (by kernel_rfl) (by kernel_rfl) (by kernel_rfl) (by kernel_rfl) (by kernel_rfl) (by kernel_rfl) (by decide) (by kernel_rfl) wz (vS r_19.1) (by kernel_rfl) ([((ax 0),some (.cells 2 [(vL eI r_19.2.L),(vI r_19.2.f_at)])),(n_10,gB 13 Entry.enc s_7.1)]:Hp) (by kernel_rfl) (ae (.ref (ax 0) 0 0) wz rfl ?_)
    obtain ⟨r_22,hr_23,hc_11⟩:=bind_some hc_11
    refine eD 0 [0] il ft (ku hr_23) rfl hb34 rfl (by kernel_rfl) (by kernel_rfl) (by kernel_rfl) (by kernel_rfl) (by kernel_rfl) (by kernel_rfl) (by kernel_rfl) (by decide) (by kernel_rfl) wz (vI r_22.1) (by kernel_rfl) ([((ax 0),some (.cells 2 [(vL eI r_22.2.L),(vI r_22.2.f_at)])),(n_10,gB 13 Entry.enc s_7.1)]:Hp) (by kernel_rfl) (ae (.ref (ax 0) 0 0) wz rfl (eU (([0,0,1,3]:List Int).map eI) kw wQ rfl rfl rfl rfl rfl wz ?_))
    obtain ⟨r_25,hr_26,hc_11⟩:=bind_some hc_11
    refine eD 0 [0] il ft (eB hr_26) rfl Fx rfl (by kernel_rfl) (by kernel_rfl) (by kernel_rfl) (by kernel_rfl) (by kernel_rfl) (by kernel_rfl) (by kernel_rfl) (by decide) (by kernel_rfl) wz (vI r_25.1) (by kernel_rfl) ([((ax 0),some (.cells 2 [(vL eI r_25.2.L),(vI r_25.2.f_at)])),(n_10,gB 13 Entry.enc s_7.1)]:Hp) (by kernel_rfl) (ae (.ref (ax 0) 0 0) wz rfl (eU (([1,1,2,3,7]:List Int).map eI) kw wQ rfl rfl rfl rfl rfl wz ?_))
    obtain ⟨r_28,hr_29,hc_11⟩:=bind_some hc_11
    refine eD 0 [0] il ft (eB hr_29) rfl Fx rfl (by kernel_rfl) (by kernel_rfl) (by kernel_rfl) (by kernel_rfl) (by kernel_rfl) (by kernel_rfl) (by kernel_rfl) (by decide) (by kernel_rfl) wz (vI r_28.1) (by kernel_rfl) ([((ax 0),some (.cells 2 [(vL eI r_28.2.L),(vI r_28.2.f_at)])),(n_10,gB 13 Entry.enc s_7.1)]:Hp) (by kernel_rfl) (ae (.ref (ax 0) 0 0) wz rfl (eU (([127,127,31,96,1,2]:List Int).map eI) kw wQ rfl rfl rfl rfl rfl wz ?_))
    obtain ⟨r_31,hr_32,hc_11⟩:=bind_some hc_11
    refine eD 0 [0] il ft (eB hr_32) rfl Fx rfl (by kernel_rfl) (by kernel_rfl) (by kernel_rfl) (by kernel_rfl) (by kernel_rfl) (by kernel_rfl) (by kernel_rfl) (by decide) (by kernel_rfl) wz (vI r_31.1) (by kernel_rfl) ([((ax 0),some (.cells 2 [(vL eI r_31.2.L),(vI r_31.2.f_at)])),(n_10,gB 13 Entry.enc s_7.1)]:Hp) (by kernel_rfl) (ae (.ref (ax 0) 0 0) wz rfl (eU (([0,0,60,600,1380]:List Int).map eI) kw wQ rfl rfl rfl rfl rfl wz ?_))
    obtain ⟨r_34,hr_35,hc_11⟩:=bind_some hc_11
    refine eD 0 [0] il ft (eB hr_35) rfl Fx rfl (by kernel_rfl) (by kernel_rfl) (by kernel_rfl) (by kernel_rfl) (by kernel_rfl) (by kernel_rfl) (by kernel_rfl) (by decide) (by kernel_rfl) wz (vI r_34.1) (by kernel_rfl) ([((ax 0),some (.cells 2 [(vL eI r_34.2.L),(vI r_34.2.f_at)])),(n_10,gB 13 Entry.enc s_7.1)]:Hp) (by kernel_rfl) (ae (.ref (ax 0) 0 0) wz rfl (eU (([0,60,120,600,720,1439]:List Int).map eI) kw wQ rfl rfl rfl rfl rfl wz ?_))
    obtain ⟨r_37,hr_38,hc_11⟩:=bind_some hc_11
    refine eD 0 [0] il ft (eB hr_38) rfl Fx rfl (by kernel_rfl) (by kernel_rfl) (by kernel_rfl) (by kernel_rfl) (by kernel_rfl) (by kernel_rfl) (by kernel_rfl) (by decide) (by kernel_rfl) wz (vI r_37.1) (by kernel_rfl) ([((ax 0),some (.cells 2 [(vL eI r_37.2.L),(vI r_37.2.f_at)])),(n_10,gB 13 Entry.enc s_7.1)]:Hp) (by kernel_rfl) (ae (.ref (ax 0) 0 0) wz rfl (eU (([0,0,1,5]:List Int).map eI) kw wQ rfl rfl rfl rfl rfl wz ?_))
    obtain ⟨r_40,hr_41,hc_11⟩:=bind_some hc_11
    refine eD 0 [0] il ft (eB hr_41) rfl Fx rfl (by kernel_rfl) (by kernel_rfl) (by kernel_rfl) (by kernel_rfl) (by kernel_rfl) (by kernel_rfl) (by kernel_rfl) (by decide) (by kernel_rfl) wz (vI r_40.1) (by kernel_rfl) ([((ax 0),some (.cells 2 [(vL eI r_40.2.L),(vI r_40.2.f_at)])),(n_10,gB 13 Entry.enc s_7.1)]:Hp) (by kernel_rfl) (ae (.ref (ax 0) 0 0) wz rfl ?_)
    obtain ⟨r_43,hr_44,hc_11⟩:=bind_some hc_11
    refine eD 0 [0] il ft (kW hr_44) rfl hb20 rfl (by kernel_rfl) (by kernel_rfl) (by kernel_rfl) (by kernel_rfl) (by kernel_rfl) (by kernel_rfl) (by kernel_rfl) (by decide) (by kernel_rfl) wz (vB r_43.1) (by kernel_rfl) ([((ax 0),some (.cells 2 [(vL eI r_43.2.L),(vI r_43.2.f_at)])),(n_10,gB 13 Entry.enc s_7.1)]:Hp) (by kernel_rfl) (ae (.agg [(vS x_4),(vS r_19.1),(vI r_22.1),(vI r_25.1),(vI 0),(vI r_28.1),(vI r_31.1),.nil,(vI r_34.1),(vI r_37.1),(vI r_40.1),.nil,(vB r_43.1)]) wz (by kernel_rfl) (dB 0 (.inl rfl) z151 rfl wz (fun n_46=>fH 0 il ft 2 qo rfl rfl [(vS x_4),(vS r_19.1),(vI r_22.1),(vI r_25.1),(vI 0),(vI r_28.1),(vI r_31.1),.nil,(vI r_34.1),(vI r_37.1),(vI r_40.1),.nil,(vB r_43.1)] rfl wz (aj (aL (H0:=([((ax 0),some (.cells 2 [(vL eI r_43.2.L),(vI r_43.2.f_at)])),(n_10,gB 13 Entry.enc s_7.1),(n_46,some (.cells 13 [(vS x_4),(vS r_19.1),(vI r_22.1),(vI r_25.1),(vI 0),(vI r_28.1),(vI r_31.1),.nil,(vI r_34.1),(vI r_37.1),(vI r_40.1),.nil,(vB r_43.1)]))]:Hp)) ([(0,(.ref (ax 0) 0 0)),(3,(gV n_10 13 s_7.1)),(6,(.ref n_46 0 0)),(11,(vL eS ([(⟨#[101,97]⟩:ByteArray),(⟨#[101,98]⟩:ByteArray),(⟨#[101,99]⟩:ByteArray),(⟨#[101,100]⟩:ByteArray)]:List ByteArray))),(12,(vI (([(⟨#[101,97]⟩:ByteArray),(⟨#[101,98]⟩:ByteArray),(⟨#[101,99]⟩:ByteArray),(⟨#[101,100]⟩:ByteArray)]:List ByteArray).length:Int))),(13,(vI (k_2:Int)))]:List (Nat×V)) (by kernel_rfl) (sF (by kernel_rfl)) (af (bC (aI xC rfl 3 rfl wz (aD 1 2 (.inr (by kernel_rfl)) (fun _ _ ag=>trivial) sz3 ag3 rfl rfl (vI r_25.1) rfl wz (ae (.ref (ax 0) 0 0) wz rfl (eU (([0,1,5,10,30]:List Int).map eI) kw wQ rfl rfl rfl rfl rfl wz ?_)))))))))))
    obtain ⟨r_47,hr_48,hc_11⟩:=bind_some hc_11
    refine eD 4 [0] (.inr (by kernel_rfl)) (fun _ _ ag=>by exact⟨.inr (.inl (M6 (Ib ag (i:=0) (j:=2) rfl rfl (by decide)))),trivial⟩) (eB hr_48) rfl Fx rfl (by kernel_rfl) (by kernel_rfl) (by kernel_rfl) (by kernel_rfl) (by kernel_rfl) (by kernel_rfl) (by kernel_rfl) (by decide) (by kernel_rfl) wz (vI r_47.1) (by kernel_rfl) ([((ax 0),some (.cells 2 [(vL eI r_47.2.L),(vI r_47.2.f_at)])),(n_10,gB 13 Entry.enc s_7.1),(n_46,some (.cells 13 [(vS x_4),(vS r_19.1),(vI r_22.1),(vI r_25.1),(vI 0),(vI r_28.1),(vI r_31.1),.nil,(vI r_34.1),(vI r_37.1),(vI r_40.1),.nil,(vB r_43.1)]))]:Hp) (by kernel_rfl) (ae (vI (w64 (r_25.1 + r_47.1))) wz rfl (aI xx rfl 4 rfl wz (fH 7 (.inr (by kernel_rfl)) (fun _ _ ag=>⟨.inr (.inr (by kernel_rfl)),⟨.inr (.inr (by kernel_rfl)),trivial⟩⟩) 2 sz3 rfl rfl [(vS x_4),(vS r_19.1),(vI r_22.1),(vI r_25.1),(vI (w64 (r_25.1 + r_47.1))),(vI r_28.1),(vI r_31.1),.nil,(vI r_34.1),(vI r_37.1),(vI r_40.1),.nil,(vB r_43.1)] rfl wz (aj (af (af (aa (eU (([1,2,8]:List Int).map eI) kw wQ rfl rfl rfl rfl rfl wz (cO vW rfl wz (ae (vI 0) wz rfl (aj (mo (fun n_56 => ?_)))))))))))))
    obtain ⟨o_61,hj_62,hc_11⟩:=bind_some hc_11
    obtain ⟨hn_54,hj_62⟩:=bv hj_62
    refine aH (β:=((List Int)×(List Int)×Int)×Nm) (fun p=>(fun (s_55:(List Int)×(List Int)×Int) (n_58:Nm)=>([(0,(.ref (ax 0) 0 0)),(3,(gV n_10 13 s_7.1)),(6,(.ref n_46 0 0)),(11,(vL eS ([(⟨#[101,97]⟩:ByteArray),(⟨#[101,98]⟩:ByteArray),(⟨#[101,99]⟩:ByteArray),(⟨#[101,100]⟩:ByteArray)]:List ByteArray))),(12,(vI (([(⟨#[101,97]⟩:ByteArray),(⟨#[101,98]⟩:ByteArray),(⟨#[101,99]⟩:ByteArray),(⟨#[101,100]⟩:ByteArray)]:List ByteArray).length:Int))),(13,(vI (k_2:Int)))]:List (Nat×V))) p.1 p.2) (fun p=>(fun (s_55:(List Int)×(List Int)×Int) (n_58:Nm)=>([((ax 0),some (.cells 2 [(vL eI s_55.2.1),(vI s_55.2.2)])),(n_10,gB 13 Entry.enc s_7.1),(n_46,some (.cells 13 [(vS x_4),(vS r_19.1),(vI r_22.1),(vI r_25.1),(vI (w64 (r_25.1 + r_47.1))),(vI r_28.1),(vI r_31.1),(gV n_58 1 s_55.1),(vI r_34.1),(vI r_37.1),(vI r_40.1),.nil,(vB r_43.1)])),(n_58,gB 1 eI s_55.1)]:Hp)) p.1 p.2) (fun p=>o_61 = .go p.1) ?_ ?_
    ·refine aC (aV (β:=Nat×(List Int)×((List Int)×(List Int)×Int)×Nm) (fun p=>(fun (k_50:Nat) (l_51:List Int) (s_55:(List Int)×(List Int)×Int) (n_58:Nm)=>([(0,(.ref (ax 0) 0 0)),(3,(gV n_10 13 s_7.1)),(6,(.ref n_46 0 0)),(11,(vL eS ([(⟨#[101,97]⟩:ByteArray),(⟨#[101,98]⟩:ByteArray),(⟨#[101,99]⟩:ByteArray),(⟨#[101,100]⟩:ByteArray)]:List ByteArray))),(12,(vI (([(⟨#[101,97]⟩:ByteArray),(⟨#[101,98]⟩:ByteArray),(⟨#[101,99]⟩:ByteArray),(⟨#[101,100]⟩:ByteArray)]:List ByteArray).length:Int))),(13,(vI (k_2:Int))),(53,(vL eI ([1,2,8]:List Int))),(54,(vI (([1,2,8]:List Int).length:Int))),(55,(vI (k_50:Int)))]:List (Nat×V))) p.1 p.2.1 p.2.2.1 p.2.2.2) (fun p=>(fun (k_50:Nat) (l_51:List Int) (s_55:(List Int)×(List Int)×Int) (n_58:Nm)=>([((ax 0),some (.cells 2 [(vL eI s_55.2.1),(vI s_55.2.2)])),(n_10,gB 13 Entry.enc s_7.1),(n_46,some (.cells 13 [(vS x_4),(vS r_19.1),(vI r_22.1),(vI r_25.1),(vI (w64 (r_25.1 + r_47.1))),(vI r_28.1),(vI r_31.1),(gV n_58 1 s_55.1),(vI r_34.1),(vI r_37.1),(vI r_40.1),.nil,(vB r_43.1)])),(n_58,gB 1 eI s_55.1)]:Hp)) p.1 p.2.1 p.2.2.1 p.2.2.2) (fun p=>forR (fun k x s=>gQ k x s) p.2.1 p.1 p.2.2.1=some o_61∧(([1,2,8]:List Int)).drop p.1=p.2.1) (fun p=>p.2.1.length) (0,([1,2,8]:List Int),(([]:List Int),r_47.2.L,r_47.2.f_at),n_56) ⟨hj_62,rfl⟩ rfl (aJ rfl) ?_)
     rintro ⟨k_50,l_51,s_55,n_58⟩ ⟨hL_60,hD_53⟩
     dsimp only at hL_60 hD_53
     cases l_51 with
     | nil =>
      obtain rfl:=ah hL_60
      refine af (aa (ae (vB (decide ((k_50:Int) < (([1,2,8]:List Int).length:Int)))) wz rfl (aj ?_)))
      refine af (ay rfl (drop_nil hD_53) (aQ ?_))
      exact aR (s_55,n_58) rfl rfl (aJ rfl)
     | cons x_52 l_51 =>
      obtain ⟨c_,hc_59,hL_60⟩:=bind_some hL_60
      refine af (aa (ae (vB (decide ((k_50:Int) < (([1,2,8]:List Int).length:Int)))) wz rfl (aj ?_)))
      refine af (aA rfl (bL hD_53) (av ?_))
      unfold gQ at hc_59
      refine af (aC (af (aa (dU kw rfl rfl (bT hD_53) rfl wz (bN sz3 ag3 rfl (vI x_52) rfl wz (ae (vI x_52) wz rfl (aj (af (aa (ae (.ref (ax 0) 0 0) wz rfl ?_))))))))))
      obtain ⟨r_63,hr_64,hc_59⟩:=bind_some hc_59
      refine eD 0 [0] il ft (kW hr_64) rfl hb20 rfl (by kernel_rfl) (by kernel_rfl) (by kernel_rfl) (by kernel_rfl) (by kernel_rfl) (by kernel_rfl) (by kernel_rfl) (by decide) (by kernel_rfl) wz (vB r_63.1) (by kernel_rfl) ([((ax 0),some (.cells 2 [(vL eI r_63.2.L),(vI r_63.2.f_at)])),(n_10,gB 13 Entry.enc s_7.1),(n_46,some (.cells 13 [(vS x_4),(vS r_19.1),(vI r_22.1),(vI r_25.1),(vI (w64 (r_25.1 + r_47.1))),(vI r_28.1),(vI r_31.1),(gV n_58 1 s_55.1),(vI r_34.1),(vI r_37.1),(vI r_40.1),.nil,(vB r_43.1)])),(n_58,gB 1 eI s_55.1)]:Hp) (by kernel_rfl) (aj ?_)
      obtain ⟨v_66,h_67,hc_59⟩:=bind_some hc_59
      refine aH (β:=Nm) (fun (n_68:Nm)=>([(0,(.ref (ax 0) 0 0)),(3,(gV n_10 13 s_7.1)),(6,(.ref n_46 0 0)),(11,(vL eS ([(⟨#[101,97]⟩:ByteArray),(⟨#[101,98]⟩:ByteArray),(⟨#[101,99]⟩:ByteArray),(⟨#[101,100]⟩:ByteArray)]:List ByteArray))),(12,(vI (([(⟨#[101,97]⟩:ByteArray),(⟨#[101,98]⟩:ByteArray),(⟨#[101,99]⟩:ByteArray),(⟨#[101,100]⟩:ByteArray)]:List ByteArray).length:Int))),(13,(vI (k_2:Int))),(53,(vL eI ([1,2,8]:List Int))),(54,(vI (([1,2,8]:List Int).length:Int))),(55,(vI (k_50:Int)))]:List (Nat×V))) (fun (n_68:Nm)=>([((ax 0),some (.cells 2 [(vL eI r_63.2.L),(vI r_63.2.f_at)])),(n_10,gB 13 Entry.enc s_7.1),(n_46,some (.cells 13 [(vS x_4),(vS r_19.1),(vI r_22.1),(vI r_25.1),(vI (w64 (r_25.1 + r_47.1))),(vI r_28.1),(vI r_31.1),(gV n_68 1 v_66),(vI r_34.1),(vI r_37.1),(vI r_40.1),.nil,(vB r_43.1)])),(n_68,gB 1 eI v_66)]:Hp)) (fun _=>True) ?_ ?_
      ·rcases au h_67 with⟨hc_69,h_67⟩ | ⟨hc_69,h_67⟩
       ·refine aA rfl hc_69 (aa (aI BP rfl 7 rfl wz (aD 0 2 il ft yI Ac rfl rfl (gV n_58 1 s_55.1) rfl wz (ae (vI x_52) wz rfl (eU (([x_52]:List Int).map eI) kw wQ rfl rfl rfl rfl rfl wz ?_)))))
        obtain ⟨a_70,hz_71,h_67⟩:=bind_some h_67
        refine lJ 0 il ft (i:=3) Jb Jb sz3 z3 rfl (by decide) by3 (by decide) (fun _=>rfl) rfl rfl rfl hz_71 wz (fun n_72=>aI BP rfl 7 rfl wz (fH 0 il ft 2 yI rfl rfl [(vS x_4),(vS r_19.1),(vI r_22.1),(vI r_25.1),(vI (w64 (r_25.1 + r_47.1))),(vI r_28.1),(vI r_31.1),(gV n_72 1 a_70),(vI r_34.1),(vI r_37.1),(vI r_40.1),.nil,(vB r_43.1)] (stC_g rfl) wz (aj ?_)))
        obtain rfl:=ah h_67
        exact aR n_72 trivial rfl (aJ rfl)
       ·refine ay rfl hc_69 (av ?_)
        obtain rfl:=ah h_67
        exact aR n_58 trivial rfl (aJ rfl)
      ·rintro n_68 _ sl_ H_ hp_ hq_
       refine aL _ hp_ hq_ (aa (fJ (bO hD_53 hn_54) wz rfl (ae (vI ((k_50 + 1:Nat):Int)) wz rfl (aj ?_))))
       obtain rfl:=ah hc_59
       exact aP (k_50 + 1,l_51,(v_66,r_63.2.L,r_63.2.f_at),n_68) ⟨hL_60,aW hD_53⟩ (Nat.lt_succ_self _) rfl (aJ rfl)
    ·rintro ⟨s_55,n_58⟩ ho_ sl_ H_ hp_ hq_
     subst ho_
     refine aL _ hp_ hq_ (af (af (aa (eU (([(⟨#[99,105,116,121]⟩:ByteArray),(⟨#[109,97,108,108]⟩:ByteArray)]:List ByteArray).map eS) wP Ki rfl rfl rfl rfl rfl wz (cO Ck rfl wz (ae (vI 0) wz rfl (aj (mo (fun n_79 => ?_)))))))))
     obtain ⟨o_84,hj_85,hc_11⟩:=bind_some hc_11
     obtain ⟨hn_77,hj_85⟩:=bv hj_85
     refine aH (β:=((List ByteArray)×(List Int)×Int)×Nm) (fun p=>(fun (s_78:(List ByteArray)×(List Int)×Int) (n_81:Nm)=>([(0,(.ref (ax 0) 0 0)),(3,(gV n_10 13 s_7.1)),(6,(.ref n_46 0 0)),(11,(vL eS ([(⟨#[101,97]⟩:ByteArray),(⟨#[101,98]⟩:ByteArray),(⟨#[101,99]⟩:ByteArray),(⟨#[101,100]⟩:ByteArray)]:List ByteArray))),(12,(vI (([(⟨#[101,97]⟩:ByteArray),(⟨#[101,98]⟩:ByteArray),(⟨#[101,99]⟩:ByteArray),(⟨#[101,100]⟩:ByteArray)]:List ByteArray).length:Int))),(13,(vI (k_2:Int)))]:List (Nat×V))) p.1 p.2) (fun p=>(fun (s_78:(List ByteArray)×(List Int)×Int) (n_81:Nm)=>([((ax 0),some (.cells 2 [(vL eI s_78.2.1),(vI s_78.2.2)])),(n_10,gB 13 Entry.enc s_7.1),(n_46,some (.cells 13 [(vS x_4),(vS r_19.1),(vI r_22.1),(vI r_25.1),(vI (w64 (r_25.1 + r_47.1))),(vI r_28.1),(vI r_31.1),(gV n_58 1 s_55.1),(vI r_34.1),(vI r_37.1),(vI r_40.1),(gV n_81 1 s_78.1),(vB r_43.1)])),(n_58,gB 1 eI s_55.1),(n_81,gB 1 eS s_78.1)]:Hp)) p.1 p.2) (fun p=>o_84 = .go p.1) ?_ ?_
     ·refine aC (aV (β:=Nat×(List ByteArray)×((List ByteArray)×(List Int)×Int)×Nm) (fun p=>(fun (k_73:Nat) (l_74:List ByteArray) (s_78:(List ByteArray)×(List Int)×Int) (n_81:Nm)=>([(0,(.ref (ax 0) 0 0)),(3,(gV n_10 13 s_7.1)),(6,(.ref n_46 0 0)),(11,(vL eS ([(⟨#[101,97]⟩:ByteArray),(⟨#[101,98]⟩:ByteArray),(⟨#[101,99]⟩:ByteArray),(⟨#[101,100]⟩:ByteArray)]:List ByteArray))),(12,(vI (([(⟨#[101,97]⟩:ByteArray),(⟨#[101,98]⟩:ByteArray),(⟨#[101,99]⟩:ByteArray),(⟨#[101,100]⟩:ByteArray)]:List ByteArray).length:Int))),(13,(vI (k_2:Int))),(68,(vL eS ([(⟨#[99,105,116,121]⟩:ByteArray),(⟨#[109,97,108,108]⟩:ByteArray)]:List ByteArray))),(69,(vI (([(⟨#[99,105,116,121]⟩:ByteArray),(⟨#[109,97,108,108]⟩:ByteArray)]:List ByteArray).length:Int))),(70,(vI (k_73:Int)))]:List (Nat×V))) p.1 p.2.1 p.2.2.1 p.2.2.2) (fun p=>(fun (k_73:Nat) (l_74:List ByteArray) (s_78:(List ByteArray)×(List Int)×Int) (n_81:Nm)=>([((ax 0),some (.cells 2 [(vL eI s_78.2.1),(vI s_78.2.2)])),(n_10,gB 13 Entry.enc s_7.1),(n_46,some (.cells 13 [(vS x_4),(vS r_19.1),(vI r_22.1),(vI r_25.1),(vI (w64 (r_25.1 + r_47.1))),(vI r_28.1),(vI r_31.1),(gV n_58 1 s_55.1),(vI r_34.1),(vI r_37.1),(vI r_40.1),(gV n_81 1 s_78.1),(vB r_43.1)])),(n_58,gB 1 eI s_55.1),(n_81,gB 1 eS s_78.1)]:Hp)) p.1 p.2.1 p.2.2.1 p.2.2.2) (fun p=>forR (fun k x s=>gU k x s) p.2.1 p.1 p.2.2.1=some o_84∧(([(⟨#[99,105,116,121]⟩:ByteArray),(⟨#[109,97,108,108]⟩:ByteArray)]:List ByteArray)).drop p.1=p.2.1) (fun p=>p.2.1.length) (0,([(⟨#[99,105,116,121]⟩:ByteArray),(⟨#[109,97,108,108]⟩:ByteArray)]:List ByteArray),(([]:List ByteArray),s_55.2.1,s_55.2.2),n_79) ⟨hj_85,rfl⟩ rfl (aJ rfl) ?_)
      rintro ⟨k_73,l_74,s_78,n_81⟩ ⟨hL_83,hD_76⟩
      dsimp only at hL_83 hD_76
      cases l_74 with
      | nil =>
       obtain rfl:=ah hL_83
       refine af (aa (ae (vB (decide ((k_73:Int) < (([(⟨#[99,105,116,121]⟩:ByteArray),(⟨#[109,97,108,108]⟩:ByteArray)]:List ByteArray).length:Int)))) wz rfl (aj ?_)))
       refine af (ay rfl (drop_nil hD_76) (aQ ?_))
       exact aR (s_78,n_81) rfl rfl (aJ rfl)
      | cons x_75 l_74 =>
       obtain ⟨c_,hc_82,hL_83⟩:=bind_some hL_83
       refine af (aa (ae (vB (decide ((k_73:Int) < (([(⟨#[99,105,116,121]⟩:ByteArray),(⟨#[109,97,108,108]⟩:ByteArray)]:List ByteArray).length:Int)))) wz rfl (aj ?_)))
       refine af (aA rfl (bL hD_76) (av ?_))
       unfold gU at hc_82
       refine af (aC (af (aa (dU wP rfl rfl (bT hD_76) rfl wz (bN sz9 ag9 rfl (vS x_75) rfl wz (ae (vS x_75) wz rfl (aj (af (aa (ae (.ref (ax 0) 0 0) wz rfl ?_))))))))))
       obtain ⟨r_86,hr_87,hc_82⟩:=bind_some hc_82
       refine eD 0 [0] il ft (kW hr_87) rfl hb20 rfl (by kernel_rfl) (by kernel_rfl) (by kernel_rfl) (by kernel_rfl) (by kernel_rfl) (by kernel_rfl) (by kernel_rfl) (by decide) (by kernel_rfl) wz (vB r_86.1) (by kernel_rfl) ([((ax 0),some (.cells 2 [(vL eI r_86.2.L),(vI r_86.2.f_at)])),(n_10,gB 13 Entry.enc s_7.1),(n_46,some (.cells 13 [(vS x_4),(vS r_19.1),(vI r_22.1),(vI r_25.1),(vI (w64 (r_25.1 + r_47.1))),(vI r_28.1),(vI r_31.1),(gV n_58 1 s_55.1),(vI r_34.1),(vI r_37.1),(vI r_40.1),(gV n_81 1 s_78.1),(vB r_43.1)])),(n_58,gB 1 eI s_55.1),(n_81,gB 1 eS s_78.1)]:Hp) (by kernel_rfl) (aj ?_)
       obtain ⟨v_89,h_90,hc_82⟩:=bind_some hc_82
       refine aH (β:=Nm) (fun (n_91:Nm)=>([(0,(.ref (ax 0) 0 0)),(3,(gV n_10 13 s_7.1)),(6,(.ref n_46 0 0)),(11,(vL eS ([(⟨#[101,97]⟩:ByteArray),(⟨#[101,98]⟩:ByteArray),(⟨#[101,99]⟩:ByteArray),(⟨#[101,100]⟩:ByteArray)]:List ByteArray))),(12,(vI (([(⟨#[101,97]⟩:ByteArray),(⟨#[101,98]⟩:ByteArray),(⟨#[101,99]⟩:ByteArray),(⟨#[101,100]⟩:ByteArray)]:List ByteArray).length:Int))),(13,(vI (k_2:Int))),(68,(vL eS ([(⟨#[99,105,116,121]⟩:ByteArray),(⟨#[109,97,108,108]⟩:ByteArray)]:List ByteArray))),(69,(vI (([(⟨#[99,105,116,121]⟩:ByteArray),(⟨#[109,97,108,108]⟩:ByteArray)]:List ByteArray).length:Int))),(70,(vI (k_73:Int)))]:List (Nat×V))) (fun (n_91:Nm)=>([((ax 0),some (.cells 2 [(vL eI r_86.2.L),(vI r_86.2.f_at)])),(n_10,gB 13 Entry.enc s_7.1),(n_46,some (.cells 13 [(vS x_4),(vS r_19.1),(vI r_22.1),(vI r_25.1),(vI (w64 (r_25.1 + r_47.1))),(vI r_28.1),(vI r_31.1),(gV n_58 1 s_55.1),(vI r_34.1),(vI r_37.1),(vI r_40.1),(gV n_91 1 v_89),(vB r_43.1)])),(n_58,gB 1 eI s_55.1),(n_91,gB 1 eS v_89)]:Hp)) (fun _=>True) ?_ ?_
       ·rcases au h_90 with⟨hc_92,h_90⟩ | ⟨hc_92,h_90⟩
        ·refine aA rfl hc_92 (aa (aI zn rfl 11 rfl wz (aD 0 2 il ft BI Db rfl rfl (gV n_81 1 s_78.1) rfl wz (ae (vS x_75) wz rfl (eU (([x_75]:List ByteArray).map eS) wP Ki rfl rfl rfl rfl rfl wz ?_)))))
         obtain ⟨a_93,hz_94,h_90⟩:=bind_some h_90
         refine lJ 0 il ft (i:=4) el79 el79 sz9 z9 rfl (by decide) by9 (by decide) (fun _=>rfl) rfl rfl rfl hz_94 wz (fun n_95=>aI zn rfl 11 rfl wz (fH 0 il ft 2 BI rfl rfl [(vS x_4),(vS r_19.1),(vI r_22.1),(vI r_25.1),(vI (w64 (r_25.1 + r_47.1))),(vI r_28.1),(vI r_31.1),(gV n_58 1 s_55.1),(vI r_34.1),(vI r_37.1),(vI r_40.1),(gV n_95 1 a_93),(vB r_43.1)] (stC_g rfl) wz (aj ?_)))
         obtain rfl:=ah h_90
         exact aR n_95 trivial rfl (aJ rfl)
        ·refine ay rfl hc_92 (av ?_)
         obtain rfl:=ah h_90
         exact aR n_81 trivial rfl (aJ rfl)
       ·rintro n_91 _ sl_ H_ hp_ hq_
        refine aL _ hp_ hq_ (aa (fJ (bO hD_76 hn_77) wz rfl (ae (vI ((k_73 + 1:Nat):Int)) wz rfl (aj ?_))))
        obtain rfl:=ah hc_82
        exact aP (k_73 + 1,l_74,(v_89,r_86.2.L,r_86.2.f_at),n_91) ⟨hL_83,aW hD_76⟩ (Nat.lt_succ_self _) rfl (aJ rfl)
     ·rintro ⟨s_78,n_81⟩ ho_ sl_ H_ hp_ hq_
      subst ho_
      refine aL _ hp_ hq_ (iK 3 rfl (iK 4 rfl (wH_coc2 3 4 2 [(vS x_4),(vS r_19.1),(vI r_22.1),(vI r_25.1),(vI (w64 (r_25.1 + r_47.1))),(vI r_28.1),(vI r_31.1),(vL eI s_55.1),(vI r_34.1),(vI r_37.1),(vI r_40.1),(vL eS s_78.1),(vB r_43.1)] rfl rfl rfl (fun S hS hS2=>lS (rfl) (lS (rfl) (lS (rfl) (lS (rfl) (lS (rfl) (lS (rfl) (lS (rfl) (lS (hS) (lS (rfl) (lS (rfl) (lS (rfl) (lS (hS2) (lS (rfl) (rfl)))))))))))))) (aa (ae (gV n_10 13 s_7.1) wz rfl (aD 0 2 il ft qo tK rfl rfl (.d (.agg (Entry.enc (⟨x_4,r_19.1,r_22.1,r_25.1,(w64 (r_25.1 + r_47.1)),r_28.1,r_31.1,s_55.1,r_34.1,r_37.1,r_40.1,s_78.1,r_43.1⟩:Entry)))) rfl wz (eU (([(⟨x_4,r_19.1,r_22.1,r_25.1,(w64 (r_25.1 + r_47.1)),r_28.1,r_31.1,s_55.1,r_34.1,r_37.1,r_40.1,s_78.1,r_43.1⟩:Entry)]:List Entry).map Entry.enc) Ed ez77 rfl rfl rfl rfl rfl wz ?_)))))))
      obtain ⟨a_96,hz_97,hc_11⟩:=bind_some hc_11
      refine lJ 0 il ft (i:=1) el77 el77 qo z151 rfl (by decide) by151 (by decide) (fun _=>rfl) rfl rfl rfl hz_97 wz (fun n_98=>ae (gV n_98 13 a_96) wz rfl (aj (aa (fJ (bO hD_5 hn_6) wz rfl (ae (vI ((k_2 + 1:Nat):Int)) wz rfl (aj ?_))))))
      obtain rfl:=ah hc_11
      exact aP (k_2 + 1,l_3,(a_96,s_78.2.1,s_78.2.2),n_98) ⟨hL_12,aW hD_5⟩ (Nat.lt_succ_self _) rfl (aJ rfl)
 ·rintro ⟨s_7,n_10⟩ ho_ sl_ H_ hp_ hq_
  subst ho_
  refine aL _ hp_ hq_ (af (aa (ae (gV n_10 13 s_7.1) wz rfl (ae (gV n_10 13 s_7.1) wz rfl (aj (iK 1 rfl (eH 2 1 rfl rfl (eH 3 1 rfl rfl (eH 88 1 rfl rfl ?_)))))))))
  obtain rfl:=ah hF
  exact aB (xK (.inr rfl) [(vL Entry.enc s_7.1)] _ [0] [ax 0] ⟨rfl,trivial⟩ (.cons (jK rfl rfl) (.nil)) (by kernel_rfl) ⟨(by kernel_rfl),trivial⟩ (by decide) (by kernel_rfl))
theorem sN {s_1:Stream} {r:Player×Stream} (hF:gW s_1=some r) :
  FnM Tryz.prog 32 [(.ref (ax 0) 0 0)] [(.cells 2 [(vL eI s_1.L),(vI s_1.f_at)])] (.d (.agg (Player.enc r.1))) [some (.cells 2 [(vL eI r.2.L),(vI r.2.f_at)])]:=by
 refine FnM.of_wH ⟨Tryz.prog,14,[],[]⟩ rfl Tryz.func32 rfl rfl (Nat.le_of_ble_eq_true rfl) (by kernel_rfl) ?_
 unfold gW at hF
 refine af (aa (dB 0 (.inl rfl) z81 rfl wz (fun n_2=>aj (af (aa (ae (.ref (ax 0) 0 0) wz rfl (eU (([0,0,60,(-90),1440]:List Int).map eI) kw wQ rfl rfl rfl rfl rfl wz ?_)))))))
 obtain ⟨r_3,hr_4,hF⟩:=bind_some hF
 refine eD 0 [0] il ft (eB hr_4) rfl Fx rfl (by kernel_rfl) (by kernel_rfl) (by kernel_rfl) (by kernel_rfl) (by kernel_rfl) (by kernel_rfl) (by kernel_rfl) (by decide) (by kernel_rfl) wz (vI r_3.1) (by kernel_rfl) ([((ax 0),some (.cells 2 [(vL eI r_3.2.L),(vI r_3.2.f_at)])),(n_2,some (.cells 4 [(vS (⟨#[]⟩:ByteArray)),(vS (⟨#[]⟩:ByteArray)),(vI 0),.nil]))]:Hp) (by kernel_rfl) (eU (([(⟨#[99,105,116,121]⟩:ByteArray)]:List ByteArray).map eS) wP Ki rfl rfl rfl rfl rfl wz (eU (([(⟨#[99,105,116,121]⟩:ByteArray),(⟨#[109,97,108,108]⟩:ByteArray)]:List ByteArray).map eS) wP Ki rfl rfl rfl rfl rfl wz (eU (([([]:List ByteArray),([(⟨#[99,105,116,121]⟩:ByteArray)]:List ByteArray),([(⟨#[99,105,116,121]⟩:ByteArray),(⟨#[109,97,108,108]⟩:ByteArray)]:List ByteArray)]:List (List ByteArray)).map (eL eS)) es161 ez161 rfl rfl rfl rfl rfl wz (ae (.ref (ax 0) 0 0) wz rfl ?_))))
 obtain ⟨r_6,hr_7,hF⟩:=bind_some hF
 refine eD 0 [0] il ft (jq hr_7) rfl MB rfl (by kernel_rfl) (by kernel_rfl) (by kernel_rfl) (by kernel_rfl) (by kernel_rfl) (by kernel_rfl) (by kernel_rfl) (by decide) (by kernel_rfl) wz (vI r_6.1) (by kernel_rfl) ([((ax 0),some (.cells 2 [(vL eI r_6.2.L),(vI r_6.2.f_at)])),(n_2,some (.cells 4 [(vS (⟨#[]⟩:ByteArray)),(vS (⟨#[]⟩:ByteArray)),(vI 0),.nil]))]:Hp) (by kernel_rfl) ?_
 obtain ⟨y_9,hy_10,hF⟩:=bind_some hF
 refine dU es161 rfl rfl hy_10 rfl wz (bN BI Db rfl (vL eS y_9) rfl wz (ae (.d (.agg (Player.enc (⟨(⟨#[112]⟩:ByteArray),(⟨#[115,97]⟩:ByteArray),r_3.1,y_9⟩:Player)))) wz (by kernel_rfl) (fH 0 il ft 1 uJ rfl rfl [(vS (⟨#[112]⟩:ByteArray)),(vS (⟨#[115,97]⟩:ByteArray)),(vI r_3.1),(vL eS y_9)] rfl wz (aj ?_))))
 obtain rfl:=ah hF
 exact aB (xK (.inr rfl) [(.d (.agg (Player.enc (⟨(⟨#[112]⟩:ByteArray),(⟨#[115,97]⟩:ByteArray),r_3.1,y_9⟩:Player))))] _ [0] [ax 0] ⟨⟨1,_,_,_,_,_,_,_,rfl,rfl,uJ,wO,rfl⟩,trivial⟩ (.cons (jK rfl rfl) (.nil)) (by kernel_rfl) ⟨(by kernel_rfl),trivial⟩ (by decide) (by kernel_rfl))
theorem eY {s_1:ByteArray} {r:Bool} (hF:fq s_1=some r) :
  FnM Tryz.prog 125 [(vS s_1)] [] (vB r) []:=by
 refine FnM.of_wH ⟨Tryz.prog,48,[],[]⟩ rfl Tryz.func125 rfl rfl (Nat.le_of_ble_eq_true rfl) (by kernel_rfl) ?_
 unfold fq at hF
 refine af (aa (ae (vB false) wz rfl (aj (af (af (aa (ae (vI 0) wz rfl (aj ?_))))))))
 obtain ⟨o_10,hj_11,hF⟩:=bind_some hF
 obtain ⟨nq_33,hj_11⟩:=cz hj_11
 refine aH (β:=(Int)) (fun (s_7:Int)=>([(0,(vS s_1))]:List (Nat×V))) (fun (s_7:Int)=>([]:Hp)) (fun p=>o_10 = .go p) ?_ ?_
 ·refine aC (aV (β:=Nat×(Int)) (fun p=>(fun (k_2:Nat) (s_7:Int)=>([(0,(vS s_1)),(3,(vI s_7))]:List (Nat×V))) p.1 p.2) (fun p=>(fun (k_2:Nat) (s_7:Int)=>([]:Hp)) p.1 p.2) (fun p=>iterN (fun s=>jr s_1 s) p.1 p.2=some o_10) (fun p=>p.1) (nq_33,0) hj_11 rfl (aJ rfl) ?_)
  rintro ⟨k_2,s_7⟩ hL_9
  dsimp only at hL_9
  cases k_2 with
  | zero=>cases hL_9
  | succ k_2 =>
   obtain ⟨c_,hc_8,hL_9⟩:=bind_some hL_9
   unfold jr at hc_8
   refine af (af (aa (ae (vI s_7) wz rfl (ae (vS s_1) wz rfl (oM un9 rfl wz (ae (vB (decide (s_7 < (s_1.size:Int)))) wz rfl (aj ?_)))))))
   rcases au hc_8 with⟨hc_12,hc_8⟩ | ⟨hc_12,hc_8⟩
   ·refine aA rfl hc_12 (av (af (aC (af (aa (ae (vS s_1) wz rfl (ae (vI s_7) wz rfl ?_)))))))
    obtain ⟨b_13,hy_14,hc_8⟩:=bind_some hc_8
    refine kP un9 rfl rfl hy_14 wz (ae (.d (.int .u8 (b_13.toNat:Int))) wz rfl (aj (af ?_)))
    obtain ⟨v_15,h_16,hc_8⟩:=bind_some hc_8
    refine aH (β:=Unit) (fun _=>([(0,(vS s_1)),(3,(vI s_7)),(40,(vB v_15))]:List (Nat×V))) (fun _=>([]:Hp)) (fun _=>True) ?_ ?_
    ·refine aa (ae (.d (.int .u8 (b_13.toNat:Int))) wz rfl (ae (vB (decide ((b_13.toNat:Int)≥97))) wz rfl ?_))
     rcases au h_16 with⟨hc_17,h_16⟩ | ⟨hc_17,h_16⟩
     ·refine aF rfl hc_17 wz (ae (.d (.int .u8 (b_13.toNat:Int))) wa rfl (ae (vB (decide ((b_13.toNat:Int)≤122))) wa rfl (ae (vB (decide ((b_13.toNat:Int)≤122))) wz rfl ?_)))
      rcases au h_16 with⟨hc_18,h_16⟩ | ⟨hc_18,h_16⟩
      ·refine aF rfl hc_18 wz (ak wa (ak wa (ak wa (ak (wn rfl rfl) (ak (wn rfl rfl) (ak (wn rfl rfl) (ak (wn rfl rfl) (ak (wn rfl rfl) (ak (wn rfl rfl) (ak (wn rfl rfl) (ak (wn rfl rfl) (ak (wn rfl rfl) (ak (wn rfl rfl) (ak (wn rfl rfl) (ak (wn rfl rfl) (ak (wn rfl rfl) (ak (wn rfl rfl) (ak wa (ae (vB true) wz rfl (ae (vB false) wz rfl (aj ?_)))))))))))))))))))))
       obtain rfl:=ah h_16
       exact cu
      ·refine aF rfl hc_18 wz (ae (vI s_7) wa rfl (ae (vB (decide (s_7 > 0))) wa rfl ?_))
       rcases au h_16 with⟨hc_19,h_16⟩ | ⟨hc_19,h_16⟩
       ·refine aF rfl hc_19 wa (ae (.d (.int .u8 (b_13.toNat:Int))) wa rfl (ae (vB (decide ((b_13.toNat:Int)≥48))) wa rfl ?_))
        rcases au h_16 with⟨hc_20,h_16⟩ | ⟨hc_20,h_16⟩
        ·refine aF rfl hc_20 wa (ae (.d (.int .u8 (b_13.toNat:Int))) wa rfl (ae (vB (decide ((b_13.toNat:Int)≤57))) wa rfl (ae (vB (decide ((b_13.toNat:Int)≤57))) wa rfl ?_)))
         rcases au h_16 with⟨hc_21,h_16⟩ | ⟨hc_21,h_16⟩
         ·refine aF rfl hc_21 wa (ak wa (ak wa (ae (vB true) wa rfl (ae (vB true) wa rfl (ak wa (ak wa (ae (vB true) wa rfl (ae (vB true) wa rfl (ae (vB true) wz rfl (ae (vB false) wz rfl (aj ?_)))))))))))
          obtain rfl:=ah h_16
          exact cu
         ·refine aF rfl hc_21 wa (ae (.d (.int .u8 (b_13.toNat:Int))) wa rfl (ae (vB ((b_13.toNat:Int) == 45)) wa rfl (ae (vB ((b_13.toNat:Int) == 45)) wa rfl ?_)))
          rcases au h_16 with⟨hc_22,h_16⟩ | ⟨hc_22,h_16⟩
          ·refine aF rfl hc_22 wa (ak wa (ak wa (ae (vB true) wa rfl (ae (vB true) wa rfl (ae (vB true) wz rfl (ae (vB false) wz rfl (aj ?_)))))))
           obtain rfl:=ah h_16
           exact cu
          ·refine aF rfl hc_22 wa (ae (.d (.int .u8 (b_13.toNat:Int))) wa rfl (ae (vB ((b_13.toNat:Int) == 95)) wa rfl (ae (vB ((b_13.toNat:Int) == 95)) wa rfl (ae (vB ((b_13.toNat:Int) == 95)) wa rfl (ae (vB ((b_13.toNat:Int) == 95)) wz rfl (ae (vB (!((b_13.toNat:Int) == 95))) wz rfl (aj ?_)))))))
           obtain rfl:=ah h_16
           exact cu
        ·refine aF rfl hc_20 wa (ak wa (ak wa (ae (vB false) wa rfl (ae (vB false) wa rfl (ae (.d (.int .u8 (b_13.toNat:Int))) wa rfl (ae (vB ((b_13.toNat:Int) == 45)) wa rfl (ae (vB ((b_13.toNat:Int) == 45)) wa rfl ?_)))))))
         rcases au h_16 with⟨hc_23,h_16⟩ | ⟨hc_23,h_16⟩
         ·refine aF rfl hc_23 wa (ak wa (ak wa (ae (vB true) wa rfl (ae (vB true) wa rfl (ae (vB true) wz rfl (ae (vB false) wz rfl (aj ?_)))))))
          obtain rfl:=ah h_16
          exact cu
         ·refine aF rfl hc_23 wa (ae (.d (.int .u8 (b_13.toNat:Int))) wa rfl (ae (vB ((b_13.toNat:Int) == 95)) wa rfl (ae (vB ((b_13.toNat:Int) == 95)) wa rfl (ae (vB ((b_13.toNat:Int) == 95)) wa rfl (ae (vB ((b_13.toNat:Int) == 95)) wz rfl (ae (vB (!((b_13.toNat:Int) == 95))) wz rfl (aj ?_)))))))
          obtain rfl:=ah h_16
          exact cu
       ·refine aF rfl hc_19 wa (ak wa (ak wa (ak wa (ak (wn rfl rfl) (ak (wn rfl rfl) (ak wa (ak wa (ak (wn rfl rfl) (ak (wn rfl rfl) (ak wa (ak wa (ak (wn rfl rfl) (ak (wn rfl rfl) (ak wa (ae (vB false) wa rfl (ae (vB false) wz rfl (ae (vB true) wz rfl (aj ?_))))))))))))))))))
        obtain rfl:=ah h_16
        exact cu
     ·refine aF rfl hc_17 wz (ak wa (ak wa (ae (vB false) wz rfl (ae (vB false) wz rfl (ae (vI s_7) wa rfl (ae (vB (decide (s_7 > 0))) wa rfl ?_))))))
      rcases au h_16 with⟨hc_24,h_16⟩ | ⟨hc_24,h_16⟩
      ·refine aF rfl hc_24 wa (ae (.d (.int .u8 (b_13.toNat:Int))) wa rfl (ae (vB (decide ((b_13.toNat:Int)≥48))) wa rfl ?_))
       rcases au h_16 with⟨hc_25,h_16⟩ | ⟨hc_25,h_16⟩
       ·refine aF rfl hc_25 wa (ae (.d (.int .u8 (b_13.toNat:Int))) wa rfl (ae (vB (decide ((b_13.toNat:Int)≤57))) wa rfl (ae (vB (decide ((b_13.toNat:Int)≤57))) wa rfl ?_)))
        rcases au h_16 with⟨hc_26,h_16⟩ | ⟨hc_26,h_16⟩
        ·refine aF rfl hc_26 wa (ak wa (ak wa (ae (vB true) wa rfl (ae (vB true) wa rfl (ak wa (ak wa (ae (vB true) wa rfl (ae (vB true) wa rfl (ae (vB true) wz rfl (ae (vB false) wz rfl (aj ?_)))))))))))
         obtain rfl:=ah h_16
         exact cu
        ·refine aF rfl hc_26 wa (ae (.d (.int .u8 (b_13.toNat:Int))) wa rfl (ae (vB ((b_13.toNat:Int) == 45)) wa rfl (ae (vB ((b_13.toNat:Int) == 45)) wa rfl ?_)))
         rcases au h_16 with⟨hc_27,h_16⟩ | ⟨hc_27,h_16⟩
         ·refine aF rfl hc_27 wa (ak wa (ak wa (ae (vB true) wa rfl (ae (vB true) wa rfl (ae (vB true) wz rfl (ae (vB false) wz rfl (aj ?_)))))))
          obtain rfl:=ah h_16
          exact cu
         ·refine aF rfl hc_27 wa (ae (.d (.int .u8 (b_13.toNat:Int))) wa rfl (ae (vB ((b_13.toNat:Int) == 95)) wa rfl (ae (vB ((b_13.toNat:Int) == 95)) wa rfl (ae (vB ((b_13.toNat:Int) == 95)) wa rfl (ae (vB ((b_13.toNat:Int) == 95)) wz rfl (ae (vB (!((b_13.toNat:Int) == 95))) wz rfl (aj ?_)))))))
          obtain rfl:=ah h_16
          exact cu
       ·refine aF rfl hc_25 wa (ak wa (ak wa (ae (vB false) wa rfl (ae (vB false) wa rfl (ae (.d (.int .u8 (b_13.toNat:Int))) wa rfl (ae (vB ((b_13.toNat:Int) == 45)) wa rfl (ae (vB ((b_13.toNat:Int) == 45)) wa rfl ?_)))))))
        rcases au h_16 with⟨hc_28,h_16⟩ | ⟨hc_28,h_16⟩
        ·refine aF rfl hc_28 wa (ak wa (ak wa (ae (vB true) wa rfl (ae (vB true) wa rfl (ae (vB true) wz rfl (ae (vB false) wz rfl (aj ?_)))))))
         obtain rfl:=ah h_16
         exact cu
        ·refine aF rfl hc_28 wa (ae (.d (.int .u8 (b_13.toNat:Int))) wa rfl (ae (vB ((b_13.toNat:Int) == 95)) wa rfl (ae (vB ((b_13.toNat:Int) == 95)) wa rfl (ae (vB ((b_13.toNat:Int) == 95)) wa rfl (ae (vB ((b_13.toNat:Int) == 95)) wz rfl (ae (vB (!((b_13.toNat:Int) == 95))) wz rfl (aj ?_)))))))
         obtain rfl:=ah h_16
         exact cu
      ·refine aF rfl hc_24 wa (ak wa (ak wa (ak wa (ak (wn rfl rfl) (ak (wn rfl rfl) (ak wa (ak wa (ak (wn rfl rfl) (ak (wn rfl rfl) (ak wa (ak wa (ak (wn rfl rfl) (ak (wn rfl rfl) (ak wa (ae (vB false) wa rfl (ae (vB false) wz rfl (ae (vB true) wz rfl (aj ?_))))))))))))))))))
       obtain rfl:=ah h_16
       exact cu
    ·rintro ⟨⟩ _ sl_ H_ hp_ hq_
     refine aL _ hp_ hq_ ?_
     rcases au hc_8 with⟨hc_29,hc_8⟩ | ⟨hc_29,hc_8⟩
     ·refine aA rfl hc_29 (af (aa (ae (vB false) wz rfl (aj ?_))))
      obtain rfl:=ah hc_8
      obtain rfl:=ah hL_9
      obtain rfl:=ah hF
      exact aB (aO (.inr rfl) [(vB false)] ⟨rfl,trivial⟩ rfl rfl rfl)
     ·refine ay rfl hc_29 (av (aa (ae (vI s_7) wz rfl (ae (vI (w64 (s_7 + 1))) wz rfl (ae (vI (w64 (s_7 + 1))) wz rfl (aj ?_))))))
      obtain rfl:=ah hc_8
      exact aP (k_2,(w64 (s_7 + 1))) hL_9 (Nat.lt_succ_self _) rfl (aJ rfl)
   ·refine ay rfl hc_12 (aQ ?_)
    obtain rfl:=ah hc_8
    obtain rfl:=ah hL_9
    exact aR (s_7) rfl rfl (aJ rfl)
 ·rintro s_7 ho_ sl_ H_ hp_ hq_
  subst ho_
  refine aL _ hp_ hq_ (af ?_)
  obtain ⟨v_30,h_31,hF⟩:=bind_some hF
  refine aH (β:=Unit) (fun _=>([(2,(vB v_30))]:List (Nat×V))) (fun _=>([]:Hp)) (fun _=>True) ?_ ?_
  ·refine aa (ae (vS s_1) wz rfl (ae (vB (sNe s_1 (⟨#[]⟩:ByteArray))) wz rfl ?_))
   rcases au h_31 with⟨hc_32,h_31⟩ | ⟨hc_32,h_31⟩
   ·refine aF rfl hc_32 wz (ae (vS s_1) wa rfl (oM un9 rfl wa (ae (vB (decide ((s_1.size:Int)≤40))) wa rfl (ae (vB (decide ((s_1.size:Int)≤40))) wz rfl (ae (vB (decide ((s_1.size:Int)≤40))) wz rfl (aj ?_))))))
    obtain rfl:=ah h_31
    exact cu
   ·refine aF rfl hc_32 wz (ak wa (ak wa (ak wa (ae (vB false) wz rfl (ae (vB false) wz rfl (aj ?_))))))
    obtain rfl:=ah h_31
    exact cu
  ·rintro ⟨⟩ _ sl_ H_ hp_ hq_
   refine aL _ hp_ hq_ ?_
   obtain rfl:=ah hF
   exact aB (aO (.inr rfl) [(vB v_30)] ⟨rfl,trivial⟩ rfl rfl rfl)
theorem bg {n_1:Int} {low_2:Int} {high_3:Int} {r:Bool} (hF:aN n_1 low_2 high_3=some r) :
  FnM Tryz.prog 84 [(vI n_1),(vI low_2),(vI high_3)] [] (vB r) []:=by
 refine FnM.of_wH ⟨Tryz.prog,15,[],[]⟩ rfl Tryz.func84 rfl rfl (Nat.le_of_ble_eq_true rfl) (by kernel_rfl) ?_
 unfold aN at hF
 refine af (aa (ae (vB false) wz rfl (aj (af ?_))))
 obtain ⟨v_4,h_5,hF⟩:=bind_some hF
 refine aH (β:=Unit) (fun _=>([(6,(vB v_4))]:List (Nat×V))) (fun _=>([]:Hp)) (fun _=>True) ?_ ?_
 ·refine aa (ae (vI n_1) wz rfl (ae (vI low_2) wz rfl (ae (vB (decide (n_1 < low_2))) wz rfl ?_)))
  rcases au h_5 with⟨hc_6,h_5⟩ | ⟨hc_6,h_5⟩
  ·refine aF rfl hc_6 wz (ak wa (ak wa (ak wa (ae (vB true) wz rfl (ae (vB true) wz rfl (aj ?_))))))
   obtain rfl:=ah h_5
   exact cu
  ·refine aF rfl hc_6 wz (ae (vI n_1) wa rfl (ae (vI high_3) wa rfl (ae (vB (decide (n_1 > high_3))) wa rfl (ae (vB (decide (n_1 > high_3))) wz rfl (ae (vB (decide (n_1 > high_3))) wz rfl (aj ?_))))))
   obtain rfl:=ah h_5
   exact cu
 ·rintro ⟨⟩ _ sl_ H_ hp_ hq_
  refine aL _ hp_ hq_ ?_
  obtain rfl:=ah hF
  exact aB (aO (.inr rfl) [(vB v_4)] ⟨rfl,trivial⟩ rfl rfl rfl)
theorem FL {n_1:Int} {r:Bool} (hF:tO n_1=some r) :
  FnM Tryz.prog 312 [(vI n_1)] [] (vB r) []:=by
 refine FnM.of_wH ⟨Tryz.prog,9,[],[]⟩ rfl Tryz.func312 rfl rfl (Nat.le_of_ble_eq_true rfl) (by kernel_rfl) ?_
 unfold tO at hF
 refine af (aa (ae (vB false) wz rfl (aj (af ?_))))
 obtain ⟨v_2,h_3,hF⟩:=bind_some hF
 refine aH (β:=Unit) (fun _=>([(2,(vB v_2))]:List (Nat×V))) (fun _=>([]:Hp)) (fun _=>True) ?_ ?_
 ·refine aa (ae (vI n_1) wz rfl (ae (vB (decide (n_1≥0))) wz rfl ?_))
  rcases au h_3 with⟨hc_4,h_3⟩ | ⟨hc_4,h_3⟩
  ·refine aF rfl hc_4 wz (ae (vI n_1) wa rfl (ae (vB (decide (n_1≤4000))) wa rfl (ae (vB (decide (n_1≤4000))) wz rfl (ae (vB (decide (n_1≤4000))) wz rfl (aj ?_)))))
   obtain rfl:=ah h_3
   exact cu
  ·refine aF rfl hc_4 wz (ak wa (ak wa (ae (vB false) wz rfl (ae (vB false) wz rfl (aj ?_)))))
   obtain rfl:=ah h_3
   exact cu
 ·rintro ⟨⟩ _ sl_ H_ hp_ hq_
  refine aL _ hp_ hq_ ?_
  obtain rfl:=ah hF
  exact aB (aO (.inr rfl) [(vB v_2)] ⟨rfl,trivial⟩ rfl rfl rfl)
theorem uo {l_1:(List Int)} {r:Int} (hF:fP l_1=some r) :
  FnM Tryz.prog 264 [(vL eI l_1)] [] (vI r) []:=by
 refine FnM.of_wH ⟨Tryz.prog,30,[],[]⟩ rfl Tryz.func264 rfl rfl (Nat.le_of_ble_eq_true rfl) (by kernel_rfl) ?_
 unfold fP at hF
 refine af (aa (ae (vI 0) wz rfl (aj (af (af (aa (ae (vL eI l_1) wz rfl (cO vW rfl wz (ae (vB (decide ((l_1.length:Int) > 100))) wz rfl (aj ?_))))))))))
 rcases au hF with⟨hc_2,hF⟩ | ⟨hc_2,hF⟩
 ·refine aA rfl hc_2 (af (aa (ae (vI 2) wz rfl (aj ?_))))
  obtain rfl:=ah hF
  exact aB (aO (.inr rfl) [(vI 2)] ⟨rfl,trivial⟩ rfl rfl rfl)
 ·refine ay rfl hc_2 (av (af (af (aa (ae (vL eI l_1) wz rfl (cO vW rfl wz (ae (vI 0) wz rfl (aj ?_))))))))
  obtain ⟨o_11,hj_12,hF⟩:=bind_some hF
  obtain ⟨hn_7,hj_12⟩:=bv hj_12
  refine aH (β:=(Unit)) (fun (s_8:Unit)=>([]:List (Nat×V))) (fun (s_8:Unit)=>([]:Hp)) (fun p=>o_11 = .go p) ?_ ?_
  ·refine aC (aV (β:=Nat×(List Int)×(Unit)) (fun p=>(fun (k_3:Nat) (l_4:List Int) (s_8:Unit)=>([(0,(vL eI l_1)),(8,(vL eI l_1)),(9,(vI (l_1.length:Int))),(10,(vI (k_3:Int)))]:List (Nat×V))) p.1 p.2.1 p.2.2) (fun p=>(fun (k_3:Nat) (l_4:List Int) (s_8:Unit)=>([]:Hp)) p.1 p.2.1 p.2.2) (fun p=>forR (fun k x s=>iA l_1 k x s) p.2.1 p.1 p.2.2=some o_11∧(l_1).drop p.1=p.2.1) (fun p=>p.2.1.length) (0,l_1,()) ⟨hj_12,rfl⟩ rfl (aJ rfl) ?_)
   rintro ⟨k_3,l_4,s_8⟩ ⟨hL_10,hD_6⟩
   dsimp only at hL_10 hD_6
   cases l_4 with
   | nil =>
    obtain rfl:=ah hL_10
    refine af (aa (ae (vB (decide ((k_3:Int) < (l_1.length:Int)))) wz rfl (aj ?_)))
    refine af (ay rfl (drop_nil hD_6) (aQ ?_))
    exact aR (s_8) rfl rfl (aJ rfl)
   | cons x_5 l_4 =>
    obtain ⟨c_,hc_9,hL_10⟩:=bind_some hL_10
    refine af (aa (ae (vB (decide ((k_3:Int) < (l_1.length:Int)))) wz rfl (aj ?_)))
    refine af (aA rfl (bL hD_6) (av ?_))
    unfold iA at hc_9
    refine af (aC (af (aa (ae (vI (k_3:Int)) wz rfl (dU kw rfl rfl (bT hD_6) rfl wz (bN sz3 ag3 rfl (vI x_5) rfl wz (ae (vI (k_3:Int)) wz rfl (ae (vI x_5) wz rfl (aj (af (af (aa (ae (vI x_5) wz rfl ?_)))))))))))))
    obtain ⟨r_13,hr_14,hc_9⟩:=bind_some hc_9
    refine aG (FL hr_14) rfl hb312 rfl rfl rfl rfl wz (ae (vB (!r_13)) wz rfl (aj ?_))
    rcases au hc_9 with⟨hc_15,hc_9⟩ | ⟨hc_15,hc_9⟩
    ·refine aA rfl hc_15 (af (aa (ae (vI 1) wz rfl (aj ?_))))
     obtain rfl:=ah hc_9
     obtain rfl:=ah hL_10
     obtain rfl:=ah hF
     exact aB (aO (.inr rfl) [(vI 1)] ⟨rfl,trivial⟩ rfl rfl rfl)
    ·refine ay rfl hc_15 (av (af ?_))
     obtain ⟨v_16,h_17,hc_9⟩:=bind_some hc_9
     refine aH (β:=Unit) (fun _=>([(0,(vL eI l_1)),(8,(vL eI l_1)),(9,(vI (l_1.length:Int))),(10,(vI (k_3:Int))),(28,(vB v_16))]:List (Nat×V))) (fun _=>([]:Hp)) (fun _=>True) ?_ ?_
     ·refine aa (ae (vI (k_3:Int)) wz rfl (ae (vB (decide ((k_3:Int) > 0))) wz rfl ?_))
      rcases au h_17 with⟨hc_18,h_17⟩ | ⟨hc_18,h_17⟩
      ·refine aF rfl hc_18 wz (ae (vI x_5) wa rfl (ae (vL eI l_1) wa rfl (ae (vI (k_3:Int)) wa rfl (ae (vI (w64 ((k_3:Int) - 1))) wa rfl ?_))))
       obtain ⟨y_19,hy_20,h_17⟩:=bind_some h_17
       refine dU kw rfl rfl hy_20 rfl wa (bN sz3 ag3 rfl (vI y_19) rfl wa (ae (vB (decide (x_5≤y_19))) wa rfl (ae (vB (decide (x_5≤y_19))) wz rfl (aj ?_))))
       obtain rfl:=ah h_17
       exact cu
      ·refine aF rfl hc_18 wz (ak wa (ak wa (ak wa (ak wa (ak wa (ak wa (ak wa (ae (vB false) wz rfl (aj ?_)))))))))
       obtain rfl:=ah h_17
       exact cu
     ·rintro ⟨⟩ _ sl_ H_ hp_ hq_
      refine aL _ hp_ hq_ ?_
      rcases au hc_9 with⟨hc_21,hc_9⟩ | ⟨hc_21,hc_9⟩
      ·refine aA rfl hc_21 (af (aa (ae (vI 7) wz rfl (aj ?_))))
       obtain rfl:=ah hc_9
       obtain rfl:=ah hL_10
       obtain rfl:=ah hF
       exact aB (aO (.inr rfl) [(vI 7)] ⟨rfl,trivial⟩ rfl rfl rfl)
      ·refine ay rfl hc_21 (av (aa (fJ (bO hD_6 hn_7) wz rfl (ae (vI ((k_3 + 1:Nat):Int)) wz rfl (aj ?_)))))
       obtain rfl:=ah hc_9
       exact aP (k_3 + 1,l_4,()) ⟨hL_10,aW hD_6⟩ (Nat.lt_succ_self _) rfl (aJ rfl)
  ·rintro s_8 ho_ sl_ H_ hp_ hq_
   subst ho_
   refine aL _ hp_ hq_ (af (aa (ae (vI 0) wz rfl (aj ?_))))
   obtain rfl:=ah hF
   exact aB (aO (.inr rfl) [(vI 0)] ⟨rfl,trivial⟩ rfl rfl rfl)
theorem qO {l_1:(List ByteArray)} {r:Int} (hF:iG l_1=some r) :
  FnM Tryz.prog 266 [(vL eS l_1)] [] (vI r) []:=by
 refine FnM.of_wH ⟨Tryz.prog,27,[],[]⟩ rfl Tryz.func266 rfl rfl (Nat.le_of_ble_eq_true rfl) (by kernel_rfl) ?_
 unfold iG at hF
 refine af (aa (ae (vI 0) wz rfl (aj (af (af (aa (ae (vL eS l_1) wz rfl (cO Ck rfl wz (ae (vI 0) wz rfl (aj ?_))))))))))
 obtain ⟨o_10,hj_11,hF⟩:=bind_some hF
 obtain ⟨hn_6,hj_11⟩:=bv hj_11
 refine aH (β:=(Unit)) (fun (s_7:Unit)=>([]:List (Nat×V))) (fun (s_7:Unit)=>([]:Hp)) (fun p=>o_10 = .go p) ?_ ?_
 ·refine aC (aV (β:=Nat×(List ByteArray)×(Unit)) (fun p=>(fun (k_2:Nat) (l_3:List ByteArray) (s_7:Unit)=>([(0,(vL eS l_1)),(5,(vL eS l_1)),(6,(vI (l_1.length:Int))),(7,(vI (k_2:Int)))]:List (Nat×V))) p.1 p.2.1 p.2.2) (fun p=>(fun (k_2:Nat) (l_3:List ByteArray) (s_7:Unit)=>([]:Hp)) p.1 p.2.1 p.2.2) (fun p=>forR (fun k x s=>gZ l_1 k x s) p.2.1 p.1 p.2.2=some o_10∧(l_1).drop p.1=p.2.1) (fun p=>p.2.1.length) (0,l_1,()) ⟨hj_11,rfl⟩ rfl (aJ rfl) ?_)
  rintro ⟨k_2,l_3,s_7⟩ ⟨hL_9,hD_5⟩
  dsimp only at hL_9 hD_5
  cases l_3 with
  | nil =>
   obtain rfl:=ah hL_9
   refine af (aa (ae (vB (decide ((k_2:Int) < (l_1.length:Int)))) wz rfl (aj ?_)))
   refine af (ay rfl (drop_nil hD_5) (aQ ?_))
   exact aR (s_7) rfl rfl (aJ rfl)
  | cons x_4 l_3 =>
   obtain ⟨c_,hc_8,hL_9⟩:=bind_some hL_9
   refine af (aa (ae (vB (decide ((k_2:Int) < (l_1.length:Int)))) wz rfl (aj ?_)))
   refine af (aA rfl (bL hD_5) (av ?_))
   unfold gZ at hc_8
   refine af (aC (af (aa (ae (vI (k_2:Int)) wz rfl (dU wP rfl rfl (bT hD_5) rfl wz (bN sz9 ag9 rfl (vS x_4) rfl wz (ae (vI (k_2:Int)) wz rfl (ae (vS x_4) wz rfl (aj (af (af (aa (ae (vS x_4) wz rfl ?_)))))))))))))
   obtain ⟨r_12,hr_13,hc_8⟩:=bind_some hc_8
   refine aG (eY hr_13) rfl sU rfl rfl rfl rfl wz (ae (vB (!r_12)) wz rfl (aj ?_))
   rcases au hc_8 with⟨hc_14,hc_8⟩ | ⟨hc_14,hc_8⟩
   ·refine aA rfl hc_14 (af (aa (ae (vI 5) wz rfl (aj ?_))))
    obtain rfl:=ah hc_8
    obtain rfl:=ah hL_9
    obtain rfl:=ah hF
    exact aB (aO (.inr rfl) [(vI 5)] ⟨rfl,trivial⟩ rfl rfl rfl)
   ·refine ay rfl hc_14 (av (af ?_))
    obtain ⟨v_15,h_16,hc_8⟩:=bind_some hc_8
    refine aH (β:=Unit) (fun _=>([(0,(vL eS l_1)),(5,(vL eS l_1)),(6,(vI (l_1.length:Int))),(7,(vI (k_2:Int))),(25,(vB v_15))]:List (Nat×V))) (fun _=>([]:Hp)) (fun _=>True) ?_ ?_
    ·refine aa (ae (vI (k_2:Int)) wz rfl (ae (vB (decide ((k_2:Int) > 0))) wz rfl ?_))
     rcases au h_16 with⟨hc_17,h_16⟩ | ⟨hc_17,h_16⟩
     ·refine aF rfl hc_17 wz (ae (vS x_4) wa rfl (ae (vL eS l_1) wa rfl (ae (vI (k_2:Int)) wa rfl (ae (vI (w64 ((k_2:Int) - 1))) wa rfl ?_))))
      obtain ⟨y_18,hy_19,h_16⟩:=bind_some h_16
      refine dU wP rfl rfl hy_19 rfl wa (bN sz9 ag9 rfl (vS y_18) rfl wa (ae (vB (sLe x_4 y_18)) wa rfl (ae (vB (sLe x_4 y_18)) wz rfl (aj ?_))))
      obtain rfl:=ah h_16
      exact cu
     ·refine aF rfl hc_17 wz (ak wa (ak wa (ak wa (ak wa (ak wa (ak wa (ak wa (ae (vB false) wz rfl (aj ?_)))))))))
      obtain rfl:=ah h_16
      exact cu
    ·rintro ⟨⟩ _ sl_ H_ hp_ hq_
     refine aL _ hp_ hq_ ?_
     rcases au hc_8 with⟨hc_20,hc_8⟩ | ⟨hc_20,hc_8⟩
     ·refine aA rfl hc_20 (af (aa (ae (vI 7) wz rfl (aj ?_))))
      obtain rfl:=ah hc_8
      obtain rfl:=ah hL_9
      obtain rfl:=ah hF
      exact aB (aO (.inr rfl) [(vI 7)] ⟨rfl,trivial⟩ rfl rfl rfl)
     ·refine ay rfl hc_20 (av (aa (fJ (bO hD_5 hn_6) wz rfl (ae (vI ((k_2 + 1:Nat):Int)) wz rfl (aj ?_)))))
      obtain rfl:=ah hc_8
      exact aP (k_2 + 1,l_3,()) ⟨hL_9,aW hD_5⟩ (Nat.lt_succ_self _) rfl (aJ rfl)
 ·rintro s_7 ho_ sl_ H_ hp_ hq_
  subst ho_
  refine aL _ hp_ hq_ (af (aa (ae (vI 0) wz rfl (aj ?_))))
  obtain rfl:=ah hF
  exact aB (aO (.inr rfl) [(vI 0)] ⟨rfl,trivial⟩ rfl rfl rfl)
theorem oz {l_1:(List ByteArray)} {r:Int} (hF:eQ l_1=some r) :
  FnM Tryz.prog 227 [(vL eS l_1)] [] (vI r) []:=by
 refine FnM.of_wH ⟨Tryz.prog,8,[],[]⟩ rfl Tryz.func227 rfl rfl (Nat.le_of_ble_eq_true rfl) (by kernel_rfl) ?_
 unfold eQ at hF
 refine af (aa (ae (vI 0) wz rfl (aj (af (af (aa (ae (vL eS l_1) wz rfl (cO Ck rfl wz (ae (vB (decide ((l_1.length:Int) > 20))) wz rfl (aj ?_))))))))))
 rcases au hF with⟨hc_2,hF⟩ | ⟨hc_2,hF⟩
 ·refine aA rfl hc_2 (af (aa (ae (vI 2) wz rfl (aj ?_))))
  obtain rfl:=ah hF
  exact aB (aO (.inr rfl) [(vI 2)] ⟨rfl,trivial⟩ rfl rfl rfl)
 ·refine ay rfl hc_2 (av (af (aa (ae (vL eS l_1) wz rfl ?_))))
  obtain ⟨r_3,hr_4,hF⟩:=bind_some hF
  refine aG (qO hr_4) rfl hb266 rfl rfl rfl rfl wz (ae (vI r_3) wz rfl (aj ?_))
  obtain rfl:=ah hF
  exact aB (aO (.inr rfl) [(vI r_3)] ⟨rfl,trivial⟩ rfl rfl rfl)
theorem uN {e_1:Entry} {r:Int} (hF:fw e_1=some r) :
  FnM Tryz.prog 197 [(.d (.agg (Entry.enc e_1)))] [] (vI r) []:=by
 refine FnM.of_wH ⟨Tryz.prog,61,[],[]⟩ rfl Tryz.func197 rfl rfl (Nat.le_of_ble_eq_true rfl) (by kernel_rfl) ?_
 unfold fw at hF
 refine af (aa (ek 0 (.inl rfl) [(vS e_1.Key),(vS e_1.Item),(vI e_1.Version),(vI e_1.First),(vI e_1.Last),(vI e_1.Every),(vI e_1.Days),(vL eI e_1.Except),(vI e_1.From),(vI e_1.To),(vI e_1.Prio),(vL eS e_1.Tags),(vB e_1.Gone)] rfl rfl wz (fun n_2=>ae (vI 0) wz rfl (aj (af (af ?_))))))
 obtain ⟨v_3,h_4,hF⟩:=bind_some hF
 refine aH (β:=Unit) (fun _=>([(1,(.ref n_2 0 0)),(13,(vB v_3))]:List (Nat×V))) (fun _=>([(n_2,some (.cells 13 [(vS e_1.Key),(vS e_1.Item),(vI e_1.Version),(vI e_1.First),(vI e_1.Last),(vI e_1.Every),(vI e_1.Days),(vL eI e_1.Except),(vI e_1.From),(vI e_1.To),(vI e_1.Prio),(vL eS e_1.Tags),(vB e_1.Gone)]))]:Hp)) (fun _=>True) ?_ ?_
 ·refine aa (aI uK rfl 0 rfl wz (aD 0 0 il ft sz9 ag9 rfl rfl (vS e_1.Key) rfl wz ?_))
  obtain ⟨r_5,hr_6,h_4⟩:=bind_some h_4
  refine aG (eY hr_6) rfl sU rfl rfl rfl rfl wz (ae (vB (!r_5)) wz rfl ?_)
  rcases au h_4 with⟨hc_7,h_4⟩ | ⟨hc_7,h_4⟩
  ·refine aF rfl hc_7 wz (ak wa (ak wa (ak wa (ak wa (ae (vB true) wz rfl (aj ?_))))))
   obtain rfl:=ah h_4
   exact cu
  ·refine aF rfl hc_7 wz (aI pl151_1 rfl 1 rfl wa (aD 0 0 il ft sz9 ag9 rfl rfl (vS e_1.Item) rfl wa ?_))
   obtain ⟨r_8,hr_9,h_4⟩:=bind_some h_4
   refine aG (eY hr_9) rfl sU rfl rfl rfl rfl wa (ae (vB (!r_8)) wa rfl (ae (vB (!r_8)) wz rfl (aj ?_)))
   obtain rfl:=ah h_4
   exact cu
 ·rintro ⟨⟩ _ sl_ H_ hp_ hq_
  refine aL _ hp_ hq_ ?_
  rcases au hF with⟨hc_10,hF⟩ | ⟨hc_10,hF⟩
  ·refine aA rfl hc_10 (af (aa (ae (vI 5) wz rfl (aj ?_))))
   obtain rfl:=ah hF
   exact aB (aO (.inr rfl) [(vI 5)] ⟨rfl,trivial⟩ rfl rfl rfl)
  ·refine ay rfl hc_10 (av (af (af ?_)))
   obtain ⟨v_11,h_12,hF⟩:=bind_some hF
   refine aH (β:=Unit) (fun _=>([(1,(.ref n_2 0 0)),(38,(vB v_11))]:List (Nat×V))) (fun _=>([(n_2,some (.cells 13 [(vS e_1.Key),(vS e_1.Item),(vI e_1.Version),(vI e_1.First),(vI e_1.Last),(vI e_1.Every),(vI e_1.Days),(vL eI e_1.Except),(vI e_1.From),(vI e_1.To),(vI e_1.Prio),(vL eS e_1.Tags),(vB e_1.Gone)]))]:Hp)) (fun _=>True) ?_ ?_
   ·refine aa (aI pl151_2 rfl 2 rfl wz (aD 0 0 il ft sz3 ag3 rfl rfl (vI e_1.Version) rfl wz ?_))
    obtain ⟨r_13,hr_14,h_12⟩:=bind_some h_12
    refine aG (bg hr_14) rfl qE rfl rfl rfl rfl wz ?_
    rcases au h_12 with⟨hc_15,h_12⟩ | ⟨hc_15,h_12⟩
    ·refine aF rfl hc_15 wz (ak wa (ak wa (ak wa (ak wa (ak wa (ae (vB true) wz rfl (ae (vB true) wz rfl (ak wa (ak wa (ak wa (ae (vB true) wz rfl (ae (vB true) wz rfl (ak wa (ak wa (ak wa (ae (vB true) wz rfl (ae (vB true) wz rfl (ak wa (ak wa (ak wa (ae (vB true) wz rfl (aj ?_))))))))))))))))))))))
     obtain rfl:=ah h_12
     exact cu
    ·refine aF rfl hc_15 wz (aI xC rfl 3 rfl wa (aD 0 0 il ft sz3 ag3 rfl rfl (vI e_1.First) rfl wa (aI xx rfl 4 rfl wa (aD 0 0 il ft sz3 ag3 rfl rfl (vI e_1.Last) rfl wa ?_))))
     obtain ⟨r_16,hr_17,h_12⟩:=bind_some h_12
     refine aG (bg hr_17) rfl qE rfl rfl rfl rfl wa (ae (vB r_16) wz rfl ?_)
     rcases au h_12 with⟨hc_18,h_12⟩ | ⟨hc_18,h_12⟩
     ·refine aF rfl hc_18 wz (ak wa (ak wa (ak wa (ae (vB true) wz rfl (ae (vB true) wz rfl (ak wa (ak wa (ak wa (ae (vB true) wz rfl (ae (vB true) wz rfl (ak wa (ak wa (ak wa (ae (vB true) wz rfl (aj ?_)))))))))))))))
      obtain rfl:=ah h_12
      exact cu
     ·refine aF rfl hc_18 wz (aI xx rfl 4 rfl wa (aD 0 0 il ft sz3 ag3 rfl rfl (vI e_1.Last) rfl wa (ae (vB (decide (e_1.Last > 4000))) wa rfl (ae (vB (decide (e_1.Last > 4000))) wz rfl ?_))))
      rcases au h_12 with⟨hc_19,h_12⟩ | ⟨hc_19,h_12⟩
      ·refine aF rfl hc_19 wz (ak wa (ak wa (ak wa (ae (vB true) wz rfl (ae (vB true) wz rfl (ak wa (ak wa (ak wa (ae (vB true) wz rfl (aj ?_))))))))))
       obtain rfl:=ah h_12
       exact cu
      ·refine aF rfl hc_19 wz (aI JM rfl 5 rfl wa (aD 0 0 il ft sz3 ag3 rfl rfl (vI e_1.Every) rfl wa ?_))
       obtain ⟨r_20,hr_21,h_12⟩:=bind_some h_12
       refine aG (bg hr_21) rfl qE rfl rfl rfl rfl wa (ae (vB r_20) wz rfl ?_)
       rcases au h_12 with⟨hc_22,h_12⟩ | ⟨hc_22,h_12⟩
       ·refine aF rfl hc_22 wz (ak wa (ak wa (ak wa (ae (vB true) wz rfl (aj ?_)))))
        obtain rfl:=ah h_12
        exact cu
       ·refine aF rfl hc_22 wz (aI Jz rfl 6 rfl wa (aD 0 0 il ft sz3 ag3 rfl rfl (vI e_1.Days) rfl wa ?_))
        obtain ⟨r_23,hr_24,h_12⟩:=bind_some h_12
        refine aG (bg hr_24) rfl qE rfl rfl rfl rfl wa (ae (vB r_23) wz rfl (aj ?_))
        obtain rfl:=ah h_12
        exact cu
   ·rintro ⟨⟩ _ sl_ H_ hp_ hq_
    refine aL _ hp_ hq_ ?_
    rcases au hF with⟨hc_25,hF⟩ | ⟨hc_25,hF⟩
    ·refine aA rfl hc_25 (af (aa (ae (vI 1) wz rfl (aj ?_))))
     obtain rfl:=ah hF
     exact aB (aO (.inr rfl) [(vI 1)] ⟨rfl,trivial⟩ rfl rfl rfl)
    ·refine ay rfl hc_25 (av (af (af (aa (aI BP rfl 7 rfl wz (aD 0 0 il ft yI Ac rfl rfl (vL eI e_1.Except) rfl wz ?_))))))
     obtain ⟨r_26,hr_27,hF⟩:=bind_some hF
     refine aG (uo hr_27) rfl hb264 rfl rfl rfl rfl wz (ae (vI r_26) wz rfl (aj (af (aa (ae (vI r_26) wz rfl (ae (vB (r_26 != 0)) wz rfl (aj ?_)))))))
     rcases au hF with⟨hc_28,hF⟩ | ⟨hc_28,hF⟩
     ·refine aA rfl hc_28 (af (aa (ae (vI r_26) wz rfl (ae (vI r_26) wz rfl (aj ?_)))))
      obtain rfl:=ah hF
      exact aB (aO (.inr rfl) [(vI r_26)] ⟨rfl,trivial⟩ rfl rfl rfl)
     ·refine ay rfl hc_28 (av (af (af ?_)))
      obtain ⟨v_29,h_30,hF⟩:=bind_some hF
      refine aH (β:=Unit) (fun _=>([(1,(.ref n_2 0 0)),(57,(vB v_29))]:List (Nat×V))) (fun _=>([(n_2,some (.cells 13 [(vS e_1.Key),(vS e_1.Item),(vI e_1.Version),(vI e_1.First),(vI e_1.Last),(vI e_1.Every),(vI e_1.Days),(vL eI e_1.Except),(vI e_1.From),(vI e_1.To),(vI e_1.Prio),(vL eS e_1.Tags),(vB e_1.Gone)]))]:Hp)) (fun _=>True) ?_ ?_
      ·refine aa (aI FM rfl 8 rfl wz (aD 0 0 il ft sz3 ag3 rfl rfl (vI e_1.From) rfl wz ?_))
       obtain ⟨r_31,hr_32,h_30⟩:=bind_some h_30
       refine aG (bg hr_32) rfl qE rfl rfl rfl rfl wz ?_
       rcases au h_30 with⟨hc_33,h_30⟩ | ⟨hc_33,h_30⟩
       ·refine aF rfl hc_33 wz (ak wa (ak wa (ak wa (ae (vB true) wz rfl (ae (vB true) wz rfl (ak wa (ak wa (ak wa (ae (vB true) wz rfl (aj ?_))))))))))
        obtain rfl:=ah h_30
        exact cu
       ·refine aF rfl hc_33 wz (aI J9 rfl 9 rfl wa (aD 0 0 il ft sz3 ag3 rfl rfl (vI e_1.To) rfl wa ?_))
        obtain ⟨r_34,hr_35,h_30⟩:=bind_some h_30
        refine aG (bg hr_35) rfl qE rfl rfl rfl rfl wa (ae (vB r_34) wz rfl ?_)
        rcases au h_30 with⟨hc_36,h_30⟩ | ⟨hc_36,h_30⟩
        ·refine aF rfl hc_36 wz (ak wa (ak wa (ak wa (ae (vB true) wz rfl (aj ?_)))))
         obtain rfl:=ah h_30
         exact cu
        ·refine aF rfl hc_36 wz (aI Dk rfl 10 rfl wa (aD 0 0 il ft sz3 ag3 rfl rfl (vI e_1.Prio) rfl wa ?_))
         obtain ⟨r_37,hr_38,h_30⟩:=bind_some h_30
         refine aG (bg hr_38) rfl qE rfl rfl rfl rfl wa (ae (vB r_37) wz rfl (aj ?_))
         obtain rfl:=ah h_30
         exact cu
      ·rintro ⟨⟩ _ sl_ H_ hp_ hq_
       refine aL _ hp_ hq_ ?_
       rcases au hF with⟨hc_39,hF⟩ | ⟨hc_39,hF⟩
       ·refine aA rfl hc_39 (af (aa (ae (vI 1) wz rfl (aj ?_))))
        obtain rfl:=ah hF
        exact aB (aO (.inr rfl) [(vI 1)] ⟨rfl,trivial⟩ rfl rfl rfl)
       ·refine ay rfl hc_39 (av (af (aa (aI zn rfl 11 rfl wz (aD 0 0 il ft BI Db rfl rfl (vL eS e_1.Tags) rfl wz ?_)))))
        obtain ⟨r_40,hr_41,hF⟩:=bind_some hF
        refine aG (oz hr_41) rfl hb227 rfl rfl rfl rfl wz (ae (vI r_40) wz rfl (aj ?_))
        obtain rfl:=ah hF
        exact aB (aO (.inr rfl) [(vI r_40)] ⟨rfl,trivial⟩ rfl rfl rfl)
theorem mH {l_1:(List Entry)} {r:Int} (hF:dJ l_1=some r) :
  FnM Tryz.prog 152 [(vL Entry.enc l_1)] [] (vI r) []:=by
 refine FnM.of_wH ⟨Tryz.prog,35,[],[]⟩ rfl Tryz.func152 rfl rfl (Nat.le_of_ble_eq_true rfl) (by kernel_rfl) ?_
 unfold dJ at hF
 refine af (aa (ae (vI 0) wz rfl (aj (af (af (aa (ae (vL Entry.enc l_1) wz rfl (cO un77 rfl wz (ae (vB (decide ((l_1.length:Int) > 200))) wz rfl (aj ?_))))))))))
 rcases au hF with⟨hc_2,hF⟩ | ⟨hc_2,hF⟩
 ·refine aA rfl hc_2 (af (aa (ae (vI 2) wz rfl (aj ?_))))
  obtain rfl:=ah hF
  exact aB (aO (.inr rfl) [(vI 2)] ⟨rfl,trivial⟩ rfl rfl rfl)
 ·refine ay rfl hc_2 (av (af (af (aa (ae (vL Entry.enc l_1) wz rfl (cO un77 rfl wz (ae (vI 0) wz rfl (aj ?_))))))))
  obtain ⟨o_11,hj_12,hF⟩:=bind_some hF
  obtain ⟨hn_7,hj_12⟩:=bv hj_12
  refine aH (β:=(Unit)) (fun (s_8:Unit)=>([]:List (Nat×V))) (fun (s_8:Unit)=>([]:Hp)) (fun p=>o_11 = .go p) ?_ ?_
  ·refine aC (aV (β:=Nat×(List Entry)×(Unit)) (fun p=>(fun (k_3:Nat) (l_4:List Entry) (s_8:Unit)=>([(0,(vL Entry.enc l_1)),(9,(vL Entry.enc l_1)),(10,(vI (l_1.length:Int))),(11,(vI (k_3:Int)))]:List (Nat×V))) p.1 p.2.1 p.2.2) (fun p=>(fun (k_3:Nat) (l_4:List Entry) (s_8:Unit)=>([]:Hp)) p.1 p.2.1 p.2.2) (fun p=>forR (fun k x s=>d9 l_1 k x s) p.2.1 p.1 p.2.2=some o_11∧(l_1).drop p.1=p.2.1) (fun p=>p.2.1.length) (0,l_1,()) ⟨hj_12,rfl⟩ rfl (aJ rfl) ?_)
   rintro ⟨k_3,l_4,s_8⟩ ⟨hL_10,hD_6⟩
   dsimp only at hL_10 hD_6
   cases l_4 with
   | nil =>
    obtain rfl:=ah hL_10
    refine af (aa (ae (vB (decide ((k_3:Int) < (l_1.length:Int)))) wz rfl (aj ?_)))
    refine af (ay rfl (drop_nil hD_6) (aQ ?_))
    exact aR (s_8) rfl rfl (aJ rfl)
   | cons x_5 l_4 =>
    obtain ⟨c_,hc_9,hL_10⟩:=bind_some hL_10
    refine af (aa (ae (vB (decide ((k_3:Int) < (l_1.length:Int)))) wz rfl (aj ?_)))
    refine af (aA rfl (bL hD_6) (av ?_))
    unfold d9 at hc_9
    refine af (aC (af (aa (ae (vI (k_3:Int)) wz rfl (dU Ed rfl rfl (bT hD_6) rfl wz (bN qo tK rfl (.d (.agg (Entry.enc x_5))) rfl wz (dB 0 (.inl rfl) z151 rfl wz (fun n_13=>ae (vI (k_3:Int)) wz rfl (fH 0 il ft 0 qo rfl rfl [(vS x_5.Key),(vS x_5.Item),(vI x_5.Version),(vI x_5.First),(vI x_5.Last),(vI x_5.Every),(vI x_5.Days),(vL eI x_5.Except),(vI x_5.From),(vI x_5.To),(vI x_5.Prio),(vL eS x_5.Tags),(vB x_5.Gone)] rfl wz (aj (af (af (aa (aD 0 0 il ft qo tK rfl rfl (.d (.agg (Entry.enc x_5))) rfl wz ?_))))))))))))))
    obtain ⟨r_14,hr_15,hc_9⟩:=bind_some hc_9
    refine aG (uN hr_15) rfl hb197 rfl rfl rfl rfl wz (ae (vI r_14) wz rfl (aj (af (aa (ae (vI r_14) wz rfl (ae (vB (r_14 != 0)) wz rfl (aj ?_)))))))
    rcases au hc_9 with⟨hc_16,hc_9⟩ | ⟨hc_16,hc_9⟩
    ·refine aA rfl hc_16 (af (aa (ae (vI r_14) wz rfl (ae (vI r_14) wz rfl (aj ?_)))))
     obtain rfl:=ah hc_9
     obtain rfl:=ah hL_10
     obtain rfl:=ah hF
     exact aB (aO (.inr rfl) [(vI r_14)] ⟨rfl,trivial⟩ rfl rfl rfl)
    ·refine ay rfl hc_16 (av (af ?_))
     obtain ⟨v_17,h_18,hc_9⟩:=bind_some hc_9
     refine aH (β:=Unit) (fun _=>([(0,(vL Entry.enc l_1)),(9,(vL Entry.enc l_1)),(10,(vI (l_1.length:Int))),(11,(vI (k_3:Int))),(33,(vB v_17))]:List (Nat×V))) (fun _=>([(n_13,some (.cells 13 [(vS x_5.Key),(vS x_5.Item),(vI x_5.Version),(vI x_5.First),(vI x_5.Last),(vI x_5.Every),(vI x_5.Days),(vL eI x_5.Except),(vI x_5.From),(vI x_5.To),(vI x_5.Prio),(vL eS x_5.Tags),(vB x_5.Gone)]))]:Hp)) (fun _=>True) ?_ ?_
     ·refine bC (ae (vI (k_3:Int)) wz rfl (ae (vB (decide ((k_3:Int) > 0))) wz rfl ?_))
      rcases au h_18 with⟨hc_19,h_18⟩ | ⟨hc_19,h_18⟩
      ·refine aF rfl hc_19 wz (aI uK rfl 0 rfl wa (aD 4 0 (.inr (by kernel_rfl)) (fun _ _ ag=>trivial) sz9 ag9 rfl rfl (vS x_5.Key) rfl wa (ae (vL Entry.enc l_1) wa rfl (ae (vI (k_3:Int)) wa rfl (ae (vI (w64 ((k_3:Int) - 1))) wa rfl ?_)))))
       obtain ⟨y_20,hy_21,h_18⟩:=bind_some h_18
       refine dU Ed rfl rfl hy_21 rfl wa (kY uK rfl [.str y_20.Key,.str y_20.Item,.int .i64 y_20.Version,.int .i64 y_20.First,.int .i64 y_20.Last,.int .i64 y_20.Every,.int .i64 y_20.Days,dl eI y_20.Except,.int .i64 y_20.From,.int .i64 y_20.To,.int .i64 y_20.Prio,dl eS y_20.Tags,.bool y_20.Gone] rfl rfl wa (bN sz9 ag9 rfl (vS y_20.Key) rfl wa (ae (vB (sLe x_5.Key y_20.Key)) wa rfl (ae (vB (sLe x_5.Key y_20.Key)) wz rfl (aj ?_)))))
       obtain rfl:=ah h_18
       exact cu
      ·refine aF rfl hc_19 wz (ak wa (ak wa (ak wa (ak wa (ak wa (ak wa (ak wa (ak wa (ak wa (ae (vB false) wz rfl (aj ?_)))))))))))
       obtain rfl:=ah h_18
       exact cu
     ·rintro ⟨⟩ _ sl_ H_ hp_ hq_
      refine aL _ hp_ hq_ ?_
      rcases au hc_9 with⟨hc_22,hc_9⟩ | ⟨hc_22,hc_9⟩
      ·refine aA rfl hc_22 (af (aa (ae (vI 7) wz rfl (aj ?_))))
       obtain rfl:=ah hc_9
       obtain rfl:=ah hL_10
       obtain rfl:=ah hF
       exact aB (aO (.inr rfl) [(vI 7)] ⟨rfl,trivial⟩ rfl rfl rfl)
      ·refine ay rfl hc_22 (av (aa (fJ (bO hD_6 hn_7) wz rfl (ae (vI ((k_3 + 1:Nat):Int)) wz rfl (aj ?_)))))
       obtain rfl:=ah hc_9
       exact aP (k_3 + 1,l_4,()) ⟨hL_10,aW hD_6⟩ (Nat.lt_succ_self _) rfl (aJ rfl)
  ·rintro s_8 ho_ sl_ H_ hp_ hq_
   subst ho_
   refine aL _ hp_ hq_ (af (aa (ae (vI 0) wz rfl (aj ?_))))
   obtain rfl:=ah hF
   exact aB (aO (.inr rfl) [(vI 0)] ⟨rfl,trivial⟩ rfl rfl rfl)
theorem tY {p_1:Player} {r:Int} (hF:iy p_1=some r) :
  FnM Tryz.prog 169 [(.d (.agg (Player.enc p_1)))] [] (vI r) []:=by
 refine FnM.of_wH ⟨Tryz.prog,19,[],[]⟩ rfl Tryz.func169 rfl rfl (Nat.le_of_ble_eq_true rfl) (by kernel_rfl) ?_
 unfold iy at hF
 refine af (aa (ek 0 (.inl rfl) [(vS p_1.Key),(vS p_1.Screen),(vI p_1.Zone),(vL eS p_1.Tags)] rfl rfl wz (fun n_2=>ae (vI 0) wz rfl (aj (af (af ?_))))))
 obtain ⟨v_3,h_4,hF⟩:=bind_some hF
 refine aH (β:=Unit) (fun _=>([(1,(.ref n_2 0 0)),(12,(vB v_3))]:List (Nat×V))) (fun _=>([(n_2,some (.cells 4 [(vS p_1.Key),(vS p_1.Screen),(vI p_1.Zone),(vL eS p_1.Tags)]))]:Hp)) (fun _=>True) ?_ ?_
 ·refine aa (aI pl81_0 rfl 0 rfl wz (aD 0 0 il ft sz9 ag9 rfl rfl (vS p_1.Key) rfl wz ?_))
  obtain ⟨r_5,hr_6,h_4⟩:=bind_some h_4
  refine aG (eY hr_6) rfl sU rfl rfl rfl rfl wz (ae (vB (!r_5)) wz rfl ?_)
  rcases au h_4 with⟨hc_7,h_4⟩ | ⟨hc_7,h_4⟩
  ·refine aF rfl hc_7 wz (ak wa (ak wa (ak wa (ak wa (ae (vB true) wz rfl (aj ?_))))))
   obtain rfl:=ah h_4
   exact cu
  ·refine aF rfl hc_7 wz (aI pl81_1 rfl 1 rfl wa (aD 0 0 il ft sz9 ag9 rfl rfl (vS p_1.Screen) rfl wa ?_))
   obtain ⟨r_8,hr_9,h_4⟩:=bind_some h_4
   refine aG (eY hr_9) rfl sU rfl rfl rfl rfl wa (ae (vB (!r_8)) wa rfl (ae (vB (!r_8)) wz rfl (aj ?_)))
   obtain rfl:=ah h_4
   exact cu
 ·rintro ⟨⟩ _ sl_ H_ hp_ hq_
  refine aL _ hp_ hq_ ?_
  rcases au hF with⟨hc_10,hF⟩ | ⟨hc_10,hF⟩
  ·refine aA rfl hc_10 (af (aa (ae (vI 5) wz rfl (aj ?_))))
   obtain rfl:=ah hF
   exact aB (aO (.inr rfl) [(vI 5)] ⟨rfl,trivial⟩ rfl rfl rfl)
  ·refine ay rfl hc_10 (av (af (af (aa (aI Jl rfl 2 rfl wz (aD 0 0 il ft sz3 ag3 rfl rfl (vI p_1.Zone) rfl wz ?_))))))
   obtain ⟨r_11,hr_12,hF⟩:=bind_some hF
   refine aG (bg hr_12) rfl qE rfl rfl rfl rfl wz (aj ?_)
   rcases au hF with⟨hc_13,hF⟩ | ⟨hc_13,hF⟩
   ·refine aA rfl hc_13 (af (aa (ae (vI 1) wz rfl (aj ?_))))
    obtain rfl:=ah hF
    exact aB (aO (.inr rfl) [(vI 1)] ⟨rfl,trivial⟩ rfl rfl rfl)
   ·refine ay rfl hc_13 (av (af (aa (aI LD rfl 3 rfl wz (aD 0 0 il ft BI Db rfl rfl (vL eS p_1.Tags) rfl wz ?_)))))
    obtain ⟨r_14,hr_15,hF⟩:=bind_some hF
    refine aG (oz hr_15) rfl hb227 rfl rfl rfl rfl wz (ae (vI r_14) wz rfl (aj ?_))
    obtain rfl:=ah hF
    exact aB (aO (.inr rfl) [(vI r_14)] ⟨rfl,trivial⟩ rfl rfl rfl)
theorem tL {wv_1:Window} {r:Int} (hF:jo wv_1=some r) :
  FnM Tryz.prog 153 [(.d (.agg (Window.enc wv_1)))] [] (vI r) []:=by
 refine FnM.of_wH ⟨Tryz.prog,19,[],[]⟩ rfl Tryz.func153 rfl rfl (Nat.le_of_ble_eq_true rfl) (by kernel_rfl) ?_
 unfold jo at hF
 refine af (aa (ek 0 (.inl rfl) [(vI wv_1.From),(vI wv_1.To)] rfl rfl wz (fun n_2=>ae (vI 0) wz rfl (aj (af (af ?_))))))
 obtain ⟨v_3,h_4,hF⟩:=bind_some hF
 refine aH (β:=Unit) (fun _=>([(1,(.ref n_2 0 0)),(12,(vB v_3))]:List (Nat×V))) (fun _=>([(n_2,some (.cells 2 [(vI wv_1.From),(vI wv_1.To)]))]:Hp)) (fun _=>True) ?_ ?_
 ·refine aa (aI iH rfl 0 rfl wz (aD 0 0 il ft sz3 ag3 rfl rfl (vI wv_1.From) rfl wz (aI jF rfl 1 rfl wz (aD 0 0 il ft sz3 ag3 rfl rfl (vI wv_1.To) rfl wz ?_))))
  obtain ⟨r_5,hr_6,h_4⟩:=bind_some h_4
  refine aG (bg hr_6) rfl qE rfl rfl rfl rfl wz ?_
  rcases au h_4 with⟨hc_7,h_4⟩ | ⟨hc_7,h_4⟩
  ·refine aF rfl hc_7 wz (ak wa (ak wa (ak wa (ae (vB true) wz rfl (aj ?_)))))
   obtain rfl:=ah h_4
   exact cu
  ·refine aF rfl hc_7 wz (aI jF rfl 1 rfl wa (aD 0 0 il ft sz3 ag3 rfl rfl (vI wv_1.To) rfl wa (ae (vB (decide (wv_1.To > 345686400000))) wa rfl (ae (vB (decide (wv_1.To > 345686400000))) wz rfl (aj ?_)))))
   obtain rfl:=ah h_4
   exact cu
 ·rintro ⟨⟩ _ sl_ H_ hp_ hq_
  refine aL _ hp_ hq_ ?_
  rcases au hF with⟨hc_8,hF⟩ | ⟨hc_8,hF⟩
  ·refine aA rfl hc_8 (af (aa (ae (vI 1) wz rfl (aj ?_))))
   obtain rfl:=ah hF
   exact aB (aO (.inr rfl) [(vI 1)] ⟨rfl,trivial⟩ rfl rfl rfl)
  ·refine ay rfl hc_8 (av (af (af (aa (aI jF rfl 1 rfl wz (aD 0 0 il ft sz3 ag3 rfl rfl (vI wv_1.To) rfl wz (aI iH rfl 0 rfl wz (aD 0 0 il ft sz3 ag3 rfl rfl (vI wv_1.From) rfl wz (ae (vI (w64 (wv_1.To - wv_1.From))) wz rfl (ae (vB (decide ((w64 (wv_1.To - wv_1.From)) > 34560000000))) wz rfl (aj ?_)))))))))))
   rcases au hF with⟨hc_9,hF⟩ | ⟨hc_9,hF⟩
   ·refine aA rfl hc_9 (af (aa (ae (vI 2) wz rfl (aj ?_))))
    obtain rfl:=ah hF
    exact aB (aO (.inr rfl) [(vI 2)] ⟨rfl,trivial⟩ rfl rfl rfl)
   ·refine ay rfl hc_9 (av (af (aa (ae (vI 0) wz rfl (aj ?_)))))
    obtain rfl:=ah hF
    exact aB (aO (.inr rfl) [(vI 0)] ⟨rfl,trivial⟩ rfl rfl rfl)
theorem qw {x_1:ByteArray} {r:Bool} (hF:cmp_isNaN_string x_1=some r) :
  FnM Tryz.prog 258 [(vS x_1)] [] (vB r) []:=by
 refine FnM.of_wH ⟨Tryz.prog,6,[],[]⟩ rfl Tryz.func258 rfl rfl (Nat.le_of_ble_eq_true rfl) (by kernel_rfl) ?_
 unfold cmp_isNaN_string at hF
 refine af (aa (ae (vB false) wz rfl (aj (af (aa (ae (vS x_1) wz rfl (ae (vS x_1) wz rfl (ae (vB (sNe x_1 x_1)) wz rfl (ae (vB (sNe x_1 x_1)) wz rfl (aj ?_))))))))))
 obtain rfl:=ah hF
 exact aB (aO (.inr rfl) [(vB (sNe x_1 x_1))] ⟨rfl,trivial⟩ rfl rfl rfl)
theorem yD {x_1:ByteArray} {y_2:ByteArray} {r:Bool} (hF:cmp_Less_string x_1 y_2=some r) :
  FnM Tryz.prog 322 [(vS x_1),(vS y_2)] [] (vB r) []:=by
 refine FnM.of_wH ⟨Tryz.prog,17,[],[]⟩ rfl Tryz.func322 rfl rfl (Nat.le_of_ble_eq_true rfl) (by kernel_rfl) ?_
 unfold cmp_Less_string at hF
 refine af (aa (ae (vB false) wz rfl (aj (af ?_))))
 obtain ⟨v_3,h_4,hF⟩:=bind_some hF
 refine aH (β:=Unit) (fun _=>([(4,(vB v_3))]:List (Nat×V))) (fun _=>([]:Hp)) (fun _=>True) ?_ ?_
 ·refine aa (ae (vS x_1) wz rfl ?_)
  obtain ⟨r_5,hr_6,h_4⟩:=bind_some h_4
  refine aG (qw hr_6) rfl hb258 rfl rfl rfl rfl wz ?_
  rcases au h_4 with⟨hc_7,h_4⟩ | ⟨hc_7,h_4⟩
  ·refine aF rfl hc_7 wz (ae (vS y_2) wa rfl ?_)
   obtain ⟨r_8,hr_9,h_4⟩:=bind_some h_4
   refine aG (qw hr_9) rfl hb258 rfl rfl rfl rfl wa (ae (vB (!r_8)) wa rfl (ae (vB (!r_8)) wz rfl ?_))
   rcases au h_4 with⟨hc_10,h_4⟩ | ⟨hc_10,h_4⟩
   ·refine aF rfl hc_10 wz (ak wa (ak wa (ak wa (ae (vB true) wz rfl (ae (vB true) wz rfl (aj ?_))))))
    obtain rfl:=ah h_4
    exact cu
   ·refine aF rfl hc_10 wz (ae (vS x_1) wa rfl (ae (vS y_2) wa rfl (ae (vB (sLt x_1 y_2)) wa rfl (ae (vB (sLt x_1 y_2)) wz rfl (ae (vB (sLt x_1 y_2)) wz rfl (aj ?_))))))
    obtain rfl:=ah h_4
    exact cu
  ·refine aF rfl hc_7 wz (ak wa (ak wa (ak wa (ae (vB false) wz rfl (ae (vB false) wz rfl (ae (vS x_1) wa rfl (ae (vS y_2) wa rfl (ae (vB (sLt x_1 y_2)) wa rfl (ae (vB (sLt x_1 y_2)) wz rfl (ae (vB (sLt x_1 y_2)) wz rfl (aj ?_)))))))))))
   obtain rfl:=ah h_4
   exact cu
 ·rintro ⟨⟩ _ sl_ H_ hp_ hq_
  refine aL _ hp_ hq_ ?_
  obtain rfl:=ah hF
  exact aB (aO (.inr rfl) [(vB v_3)] ⟨rfl,trivial⟩ rfl rfl rfl)
theorem nN {x_1:ByteArray} {r:Bool} (hF:slices_isNaN_string x_1=some r) :
  FnM Tryz.prog 323 [(vS x_1)] [] (vB r) []:=by
 refine FnM.of_wH ⟨Tryz.prog,6,[],[]⟩ rfl Tryz.func323 rfl rfl (Nat.le_of_ble_eq_true rfl) (by kernel_rfl) ?_
 unfold slices_isNaN_string at hF
 refine af (aa (ae (vB false) wz rfl (aj (af (aa (ae (vS x_1) wz rfl (ae (vS x_1) wz rfl (ae (vB (sNe x_1 x_1)) wz rfl (ae (vB (sNe x_1 x_1)) wz rfl (aj ?_))))))))))
 obtain rfl:=ah hF
 exact aB (aO (.inr rfl) [(vB (sNe x_1 x_1))] ⟨rfl,trivial⟩ rfl rfl rfl)
end Go.Proofs.YtjhcehhmdmbleaaGreatDoor.Law

