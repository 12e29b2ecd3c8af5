/-
 The machine computes these plain functions (written by a program of ours).
-/
import Derived.Test.YtnjnggakgeommaaGreatFacts
import Derived.Test.YtnjnggakgeommaaGreatDefs
open Go Go.Eng Go.Proofs
namespace Go.Proofs.YtnjnggakgeommaaGreat.Law
set_option maxRecDepth 100000
set_option linter.unusedVariables false
set_option maxHeartbeats 1000000
theorem vv {x_1:Int} {n_2:Int} {r:Int} (hF:qm x_1 n_2=some r) :
  FnM Tryz.prog 28 [(vI x_1),(vI n_2)] [] (vI r) []:=by
 refine FnM.of_wH ⟨Tryz.prog,16,[],[]⟩ rfl Tryz.func28 rfl rfl (lb_ rfl) (by kernel_rfl) ?_
 unfold qm at hF
 refine af (aa (ae (vI 0) wz rfl (aj (af (af (aa (ae (vI n_2) wz rfl (ae (vB (decide (n_2<1))) wz rfl (aj ?_)))))))))
 rcases au hF with⟨hc_3,hF⟩|⟨hc_3,hF⟩
 ·refine aB rfl hc_3 (af (aa (ae (vI 0) wz rfl (aj ?_))))
  obtain rfl:=ah hF
  exact aC (bv (.inr rfl) [(vI 0)] ⟨rfl,trivial⟩ rfl rfl rfl)
 ·refine aA rfl hc_3 (ax (af (aa (ae (vI x_1) wz rfl (ae (vI n_2) wz rfl ?_)))))
  obtain ⟨q_4,hz_5,hF⟩:=bind_some hF
  refine Ga rfl rfl hz_5 wz (ae (vI q_4) wz rfl (aj (af (af (aa (ae (vI q_4) wz rfl (ae (vB (decide (q_4<0))) wz rfl (aj ?_))))))))
  obtain ⟨v_6,h_7,hF⟩:=bind_some hF
  refine aG (β:=Unit) (λ_=>([(0,(vI v_6))]:SL_)) (λ_=>([]:Hp)) (λ_=>True) ?_ ?_
  ·rcases au h_7 with⟨hc_8,h_7⟩|⟨hc_8,h_7⟩
   ·refine aB rfl hc_8 (aa (ae (vI q_4) wz rfl (ae (vI n_2) wz rfl (ae (vI (w64 (q_4+n_2))) wz rfl (ae (vI (w64 (q_4+n_2))) wz rfl (aj ?_))))))
    obtain rfl:=ah h_7
    exact cu
   ·refine aA rfl hc_8 (ax ?_)
    obtain rfl:=ah h_7
    exact cu
  ·rintro ⟨⟩ _ sl_ H_ hp_ hq_
   refine aN _ hp_ hq_ (af (aa (ae (vI v_6) wz rfl (ae (vI v_6) wz rfl (aj ?_)))))
   obtain rfl:=ah hF
   exact aC (bv (.inr rfl) [(vI v_6)] ⟨rfl,trivial⟩ rfl rfl rfl)
theorem dU {s_1:Stream} {n_2:Int} {r:Int×Stream} (hF:bW s_1 n_2=some r) :
  FnM Tryz.prog 10 [(.ref (av 0) 0 0),(vI n_2)] [(.cells 2 [(vL eI s_1.L),(vI s_1.f_at)])] (vI r.1) [some (.cells 2 [(vL eI r.2.L),(vI r.2.f_at)])]:=by
 refine FnM.of_wH ⟨Tryz.prog,64,[],[]⟩ rfl Tryz.func10 rfl rfl (lb_ rfl) (by kernel_rfl) ?_
 unfold bW at hF
 refine af (aa (ae (vI 0) wz rfl (aj (af (aa (ae (.ref (av 0) 0 0) wz rfl (ae (.ref (av 0) 0 0) wz rfl (aJ CZ rfl 1 rfl wz (ay 0 0 il ft sz3 ag3 rfl rfl (vI s_1.f_at) rfl wz (ae (vI (w64 (s_1.f_at+1))) wz rfl (ae (.ref (av 0) 0 0) wz rfl (aJ CZ rfl 1 rfl wz (eu 0 il ft 0 sz3 rfl rfl [(vL eI s_1.L),(vI (w64 (s_1.f_at+1)))] rfl wz (aj (af (af (aa (ae (.ref (av 0) 0 0) wz rfl (ae (.ref (av 0) 0 0) wz rfl (aJ FQ rfl 0 rfl wz (ay 0 0 il ft qw sH rfl rfl (vL eI s_1.L) rfl wz (bX nL rfl wz (ae (vB ((s_1.L.length:Int)==0)) wz rfl ?_)))))))))))))))))))))))
 refine aj ?_
 rcases au hF with⟨hc_3,hF⟩|⟨hc_3,hF⟩
 ·refine aB rfl hc_3 (af (aa (ae (.ref (av 0) 0 0) wz rfl (ae (.ref (av 0) 0 0) wz rfl (aJ CZ rfl 1 rfl wz (ay 0 0 il ft sz3 ag3 rfl rfl (vI (w64 (s_1.f_at+1))) rfl wz (ae (vI (w64 ((w64 (s_1.f_at+1))*7919))) wz rfl (ae (vI n_2) wz rfl ?_))))))))
  obtain ⟨r_4,hr_5,hF⟩:=bind_some hF
  refine aF (vv hr_5) rfl hb28 rfl rfl rfl rfl wz (ae (vI r_4) wz rfl (aj ?_))
  obtain rfl:=ah hF
  exact aC (qK (.inr rfl) [(vI r_4)] _ [0] [av 0] ⟨rfl,trivial⟩ (.cons (iy rfl rfl) (.nil)) (by kernel_rfl) ⟨(by kernel_rfl),trivial⟩ (by decide) (by kernel_rfl))
 ·refine aA rfl hc_3 (ax (af (bN (ae (.ref (av 0) 0 0) wz rfl (ae (.ref (av 0) 0 0) wz rfl (aJ CZ rfl 1 rfl wz (ay 3 0 (.inr (by kernel_rfl)) (λ_ _ ag=>trivial) sz3 ag3 rfl rfl (vI (w64 (s_1.f_at+1))) rfl wz (ae (vI (w64 ((w64 (s_1.f_at+1))-1))) wz rfl (ae (.ref (av 0) 0 0) wz rfl (ae (.ref (av 0) 0 0) wz rfl (aJ FQ rfl 0 rfl wz (ay 8 0 (.inr (by kernel_rfl)) (λ_ _ ag=>⟨.inl ⟨rfl,rfl⟩,trivial⟩) qw sH rfl rfl (vL eI s_1.L) rfl wz (bX nL rfl wz ?_)))))))))))))
  obtain ⟨q_6,hz_7,hF⟩:=bind_some hF
  refine Ga rfl rfl hz_7 wz (ae (vI q_6) wz rfl (aj (af (bN (ae (.ref (av 0) 0 0) wz rfl (ae (.ref (av 0) 0 0) wz rfl (aJ CZ rfl 1 rfl wz (ay 3 0 (.inr (by kernel_rfl)) (λ_ _ ag=>trivial) sz3 ag3 rfl rfl (vI (w64 (s_1.f_at+1))) rfl wz (ae (vI (w64 ((w64 (s_1.f_at+1))-1))) wz rfl (ae (.ref (av 0) 0 0) wz rfl (ae (.ref (av 0) 0 0) wz rfl (aJ FQ rfl 0 rfl wz (ay 8 0 (.inr (by kernel_rfl)) (λ_ _ ag=>⟨.inl ⟨rfl,rfl⟩,trivial⟩) qw sH rfl rfl (vL eI s_1.L) rfl wz (bX nL rfl wz ?_))))))))))))))
  obtain ⟨q_8,hz_9,hF⟩:=bind_some hF
  refine MP rfl rfl hz_9 wz (ae (vI q_8) wz rfl (aj (aN (H0:=([((av 0),some (.cells 2 [(vL eI s_1.L),(vI (w64 (s_1.f_at+1)))]))]:Hp)) ([(0,(.ref (av 0) 0 0)),(1,(vI n_2)),(5,(vI q_6)),(6,(vI q_8))]:SL_) (by kernel_rfl) (xw (by kernel_rfl)) (af (aa (ae (.ref (av 0) 0 0) wz rfl (ae (.ref (av 0) 0 0) wz rfl (aJ FQ rfl 0 rfl wz (ay 0 0 il ft qw sH rfl rfl (vL eI s_1.L) rfl wz (ae (vI q_6) wz rfl ?_))))))))))
  obtain ⟨y_10,hy_11,hF⟩:=bind_some hF
  refine dL iE rfl rfl hy_11 rfl wz (bz sz3 ag3 rfl (vI y_10) rfl wz ?_)
  obtain ⟨r_12,hr_13,hF⟩:=bind_some hF
  refine aF (vv hr_13) rfl hb28 rfl rfl rfl rfl wz (ae (vI q_8) wz rfl (ae (vI q_6) wz rfl (ae (vI (w64 (7919+q_6))) wz rfl (ae (vI (w64 (q_8*(w64 (7919+q_6))))) wz rfl (ae (vI (w64 (r_12+(w64 (q_8*(w64 (7919+q_6))))))) wz rfl (ae (vI n_2) wz rfl ?_))))))
  obtain ⟨r_14,hr_15,hF⟩:=bind_some hF
  refine aF (vv hr_15) rfl hb28 rfl rfl rfl rfl wz (ae (vI r_14) wz rfl (aj ?_))
  obtain rfl:=ah hF
  exact aC (qK (.inr rfl) [(vI r_14)] _ [0] [av 0] ⟨rfl,trivial⟩ (.cons (iy rfl rfl) (.nil)) (by kernel_rfl) ⟨(by kernel_rfl),trivial⟩ (by decide) (by kernel_rfl))
theorem eB {s_1:Stream} {n_2:Int} {r:Bool×Stream} (hF:bU s_1 n_2=some r) :
  FnM Tryz.prog 7 [(.ref (av 0) 0 0),(vI n_2)] [(.cells 2 [(vL eI s_1.L),(vI s_1.f_at)])] (vB r.1) [some (.cells 2 [(vL eI r.2.L),(vI r.2.f_at)])]:=by
 refine FnM.of_wH ⟨Tryz.prog,9,[],[]⟩ rfl Tryz.func7 rfl rfl (lb_ rfl) (by kernel_rfl) ?_
 unfold bU at hF
 refine af (aa (ae (vB false) wz rfl (aj (af (aa (ae (.ref (av 0) 0 0) wz rfl (ae (vI n_2) wz rfl ?_)))))))
 obtain ⟨r_3,hr_4,hF⟩:=bind_some hF
 refine aW 0 [0] il ft (dU hr_4) rfl C9 rfl (by kernel_rfl) (by kernel_rfl) (by kernel_rfl) (by kernel_rfl) (by kernel_rfl) (by kernel_rfl) (by kernel_rfl) (by decide) (by kernel_rfl) wz (vI r_3.1) (by kernel_rfl) ([((av 0),some (.cells 2 [(vL eI r_3.2.L),(vI r_3.2.f_at)]))]:Hp) (by kernel_rfl) (ae (vB (r_3.1==0)) wz rfl (ae (vB (r_3.1==0)) wz rfl (aj ?_)))
 obtain rfl:=ah hF
 exact aC (qK (.inr rfl) [(vB (r_3.1==0))] _ [0] [av 0] ⟨rfl,trivial⟩ (.cons (iy rfl rfl) (.nil)) (by kernel_rfl) ⟨(by kernel_rfl),trivial⟩ (by decide) (by kernel_rfl))
theorem jg {s_1:Stream} {l_2:(List ByteArray)} {r:ByteArray×Stream} (hF:fD s_1 l_2=some r) :
  FnM Tryz.prog 11 [(.ref (av 0) 0 0),(vL eS l_2)] [(.cells 2 [(vL eI s_1.L),(vI s_1.f_at)])] (vS r.1) [some (.cells 2 [(vL eI r.2.L),(vI r.2.f_at)])]:=by
 refine FnM.of_wH ⟨Tryz.prog,12,[],[]⟩ rfl Tryz.func11 rfl rfl (lb_ rfl) (by kernel_rfl) ?_
 unfold fD at hF
 refine af (aa (ae (vS (⟨#[]⟩:ByteArray)) wz rfl (aj (af (aa (ae (vL eS l_2) wz rfl (ae (.ref (av 0) 0 0) wz rfl (ae (vL eS l_2) wz rfl (bX Br rfl wz ?_)))))))))
 obtain ⟨r_3,hr_4,hF⟩:=bind_some hF
 refine aW 0 [0] il ft (dU hr_4) rfl C9 rfl (by kernel_rfl) (by kernel_rfl) (by kernel_rfl) (by kernel_rfl) (by kernel_rfl) (by kernel_rfl) (by kernel_rfl) (by decide) (by kernel_rfl) wz (vI r_3.1) (by kernel_rfl) ([((av 0),some (.cells 2 [(vL eI r_3.2.L),(vI r_3.2.f_at)]))]:Hp) (by kernel_rfl) ?_
 obtain ⟨y_6,hy_7,hF⟩:=bind_some hF
 refine dL nZ rfl rfl hy_7 rfl wz (bz sz9 ag9 rfl (vS y_6) rfl wz (ae (vS y_6) wz rfl (aj ?_)))
 obtain rfl:=ah hF
 exact aC (qK (.inr rfl) [(vS y_6)] _ [0] [av 0] ⟨rfl,trivial⟩ (.cons (iy rfl rfl) (.nil)) (by kernel_rfl) ⟨(by kernel_rfl),trivial⟩ (by decide) (by kernel_rfl))
theorem mY {s_1:Stream} {low_2:Int} {high_3:Int} {r:Int×Stream} (hF:ik s_1 low_2 high_3=some r) :
  FnM Tryz.prog 9 [(.ref (av 0) 0 0),(vI low_2),(vI high_3)] [(.cells 2 [(vL eI s_1.L),(vI s_1.f_at)])] (vI r.1) [some (.cells 2 [(vL eI r.2.L),(vI r.2.f_at)])]:=by
 refine FnM.of_wH ⟨Tryz.prog,19,[],[]⟩ rfl Tryz.func9 rfl rfl (lb_ rfl) (by kernel_rfl) ?_
 unfold ik at hF
 refine af (aa (ae (vI 0) wz rfl (aj (af (af (aa (ae (vI high_3) wz rfl (ae (vI low_2) wz rfl (ae (vB (decide (high_3<low_2))) wz rfl (aj ?_))))))))))
 rcases au hF with⟨hc_4,hF⟩|⟨hc_4,hF⟩
 ·refine aB rfl hc_4 (af (aa (ae (vI low_2) wz rfl (ae (vI low_2) wz rfl (aj ?_)))))
  obtain rfl:=ah hF
  exact aC (qK (.inr rfl) [(vI low_2)] _ [0] [av 0] ⟨rfl,trivial⟩ (.cons (iy rfl rfl) (.nil)) (by kernel_rfl) ⟨(by kernel_rfl),trivial⟩ (by decide) (by kernel_rfl))
 ·refine aA rfl hc_4 (ax (af (aa (ae (vI low_2) wz rfl (ae (.ref (av 0) 0 0) wz rfl (ae (vI high_3) wz rfl (ae (vI low_2) wz rfl (ae (vI (w64 (high_3-low_2))) wz rfl (ae (vI (w64 ((w64 (high_3-low_2))+1))) wz rfl ?_)))))))))
  obtain ⟨r_5,hr_6,hF⟩:=bind_some hF
  refine aW 0 [0] il ft (dU hr_6) rfl C9 rfl (by kernel_rfl) (by kernel_rfl) (by kernel_rfl) (by kernel_rfl) (by kernel_rfl) (by kernel_rfl) (by kernel_rfl) (by decide) (by kernel_rfl) wz (vI r_5.1) (by kernel_rfl) ([((av 0),some (.cells 2 [(vL eI r_5.2.L),(vI r_5.2.f_at)]))]:Hp) (by kernel_rfl) (ae (vI (w64 (low_2+r_5.1))) wz rfl (ae (vI (w64 (low_2+r_5.1))) wz rfl (aj ?_)))
  obtain rfl:=ah hF
  exact aC (qK (.inr rfl) [(vI (w64 (low_2+r_5.1)))] _ [0] [av 0] ⟨rfl,trivial⟩ (.cons (iy rfl rfl) (.nil)) (by kernel_rfl) ⟨(by kernel_rfl),trivial⟩ (by decide) (by kernel_rfl))
theorem dz {s_1:Stream} {l_2:(List Int)} {r:Int×Stream} (hF:cK s_1 l_2=some r) :
  FnM Tryz.prog 27 [(.ref (av 0) 0 0),(vL eI l_2)] [(.cells 2 [(vL eI s_1.L),(vI s_1.f_at)])] (vI r.1) [some (.cells 2 [(vL eI r.2.L),(vI r.2.f_at)])]:=by
 refine FnM.of_wH ⟨Tryz.prog,12,[],[]⟩ rfl Tryz.func27 rfl rfl (lb_ rfl) (by kernel_rfl) ?_
 unfold cK at hF
 refine af (aa (ae (vI 0) wz rfl (aj (af (aa (ae (vL eI l_2) wz rfl (ae (.ref (av 0) 0 0) wz rfl (ae (vL eI l_2) wz rfl (bX nL rfl wz ?_)))))))))
 obtain ⟨r_3,hr_4,hF⟩:=bind_some hF
 refine aW 0 [0] il ft (dU hr_4) rfl C9 rfl (by kernel_rfl) (by kernel_rfl) (by kernel_rfl) (by kernel_rfl) (by kernel_rfl) (by kernel_rfl) (by kernel_rfl) (by decide) (by kernel_rfl) wz (vI r_3.1) (by kernel_rfl) ([((av 0),some (.cells 2 [(vL eI r_3.2.L),(vI r_3.2.f_at)]))]:Hp) (by kernel_rfl) ?_
 obtain ⟨y_6,hy_7,hF⟩:=bind_some hF
 refine dL iE rfl rfl hy_7 rfl wz (bz sz3 ag3 rfl (vI y_6) rfl wz (ae (vI y_6) wz rfl (aj ?_)))
 obtain rfl:=ah hF
 exact aC (qK (.inr rfl) [(vI y_6)] _ [0] [av 0] ⟨rfl,trivial⟩ (.cons (iy rfl rfl) (.nil)) (by kernel_rfl) ⟨(by kernel_rfl),trivial⟩ (by decide) (by kernel_rfl))
theorem qY {s_1:Stream} {r:(List Entry)×Stream} (hF:ib s_1=some r) :
  FnM Tryz.prog 23 [(.ref (av 0) 0 0)] [(.cells 2 [(vL eI s_1.L),(vI s_1.f_at)])] (gV (av 1) 13 r.1) (([(.cells 2 [(vL eI r.2.L),(vI r.2.f_at)])]:List Box).map some++gO 13 Entry.enc r.1):=by
 refine FnM.of_wH ⟨Tryz.prog,89,[],[]⟩ rfl Tryz.func23 rfl rfl (lb_ rfl) (by kernel_rfl) ?_
 unfold ib at hF
 refine af (aa (ae .nil wz rfl (aj (af (aa (ae .nil wz rfl (aj (af (af (aa (dW (([(⟨#[101,97]⟩:ByteArray),(⟨#[101,98]⟩:ByteArray),(⟨#[101,99]⟩:ByteArray),(⟨#[101,100]⟩:ByteArray)]:List ByteArray).map eS) nZ wQ rfl rfl rfl rfl rfl wz (bX Br rfl wz (ae (vI 0) wz rfl (aj (lq (λn_8 => ?_))))))))))))))))
 obtain ⟨o_13,hj_14,hF⟩:=bind_some hF
 obtain ⟨hn_6,hj_14⟩:=bn hj_14
 refine aG (β:=((List Entry)×(List Int)×Int)×Nm) (λp=>(λ(s_7:(List Entry)×(List Int)×Int) (n_10:Nm)=>([(3,(gV n_10 13 s_7.1))]:SL_)) p.1 p.2) (λp=>(λ(s_7:(List Entry)×(List Int)×Int) (n_10:Nm)=>([((av 0),some (.cells 2 [(vL eI s_7.2.1),(vI s_7.2.2)])),(n_10,gB 13 Entry.enc s_7.1)]:Hp)) p.1 p.2) (λp=>o_13 = .go p.1) ?_ ?_
 ·refine aD (aX (β:=Nat×(List ByteArray)×((List Entry)×(List Int)×Int)×Nm) (λp=>(λ(k_2:Nat) (l_3:List ByteArray) (s_7:(List Entry)×(List Int)×Int) (n_10:Nm)=>([(0,(.ref (av 0) 0 0)),(3,(gV n_10 13 s_7.1)),(11,(vL eS ([(⟨#[101,97]⟩:ByteArray),(⟨#[101,98]⟩:ByteArray),(⟨#[101,99]⟩:ByteArray),(⟨#[101,100]⟩:ByteArray)]:List ByteArray))),(12,(vI (([(⟨#[101,97]⟩:ByteArray),(⟨#[101,98]⟩:ByteArray),(⟨#[101,99]⟩:ByteArray),(⟨#[101,100]⟩:ByteArray)]:List ByteArray).length:Int))),(13,(vI (k_2:Int)))]:SL_)) p.1 p.2.1 p.2.2.1 p.2.2.2) (λp=>(λ(k_2:Nat) (l_3:List ByteArray) (s_7:(List Entry)×(List Int)×Int) (n_10:Nm)=>([((av 0),some (.cells 2 [(vL eI s_7.2.1),(vI s_7.2.2)])),(n_10,gB 13 Entry.enc s_7.1)]:Hp)) p.1 p.2.1 p.2.2.1 p.2.2.2) (λp=>dG (λk x s=>fT k x s) p.2.1 p.1 p.2.2.1=some o_13/\(([(⟨#[101,97]⟩:ByteArray),(⟨#[101,98]⟩:ByteArray),(⟨#[101,99]⟩:ByteArray),(⟨#[101,100]⟩:ByteArray)]:List ByteArray)).drop p.1=p.2.1) (λp=>p.2.1.length) (0,([(⟨#[101,97]⟩:ByteArray),(⟨#[101,98]⟩:ByteArray),(⟨#[101,99]⟩:ByteArray),(⟨#[101,100]⟩:ByteArray)]:List ByteArray),(([]:List Entry),s_1.L,s_1.f_at),n_8) ⟨hj_14,rfl⟩ rfl (aK rfl) ?_)
  rintro ⟨k_2,l_3,s_7,n_10⟩ ⟨hL_12,hD_5⟩
  dsimp only at hL_12 hD_5
  cases l_3 with
  | nil =>
   obtain rfl:=ah hL_12
   refine af (aa (ae (vB (decide ((k_2:Int)<(([(⟨#[101,97]⟩:ByteArray),(⟨#[101,98]⟩:ByteArray),(⟨#[101,99]⟩:ByteArray),(⟨#[101,100]⟩:ByteArray)]:List ByteArray).length:Int)))) wz rfl (aj ?_)))
   refine af (aA rfl (drop_nil hD_5) (aS ?_))
   exact aU (s_7,n_10) rfl rfl (aK rfl)
  | cons x_4 l_3 =>
   obtain ⟨c_,hc_11,hL_12⟩:=bind_some hL_12
   refine af (aa (ae (vB (decide ((k_2:Int)<(([(⟨#[101,97]⟩:ByteArray),(⟨#[101,98]⟩:ByteArray),(⟨#[101,99]⟩:ByteArray),(⟨#[101,100]⟩:ByteArray)]:List ByteArray).length:Int)))) wz rfl (aj ?_)))
   refine af (aB rfl (bE hD_5) (ax ?_))
   unfold fT at hc_11
   refine af (aD (af (aa (dL nZ rfl rfl (bL hD_5) rfl wz (bz sz9 ag9 rfl (vS x_4) rfl wz (ae (vS x_4) wz rfl (aj (af (af (aa (ae (.ref (av 0) 0 0) wz rfl ?_)))))))))))
   obtain ⟨r_15,hr_16,hc_11⟩:=bind_some hc_11
   refine aW 0 [0] il ft (eB hr_16) rfl hb7 rfl (by kernel_rfl) (by kernel_rfl) (by kernel_rfl) (by kernel_rfl) (by kernel_rfl) (by kernel_rfl) (by kernel_rfl) (by decide) (by kernel_rfl) wz (vB r_15.1) (by kernel_rfl) ([((av 0),some (.cells 2 [(vL eI r_15.2.L),(vI r_15.2.f_at)])),(n_10,gB 13 Entry.enc s_7.1)]:Hp) (by kernel_rfl) (aj ?_)
   rcases au hc_11 with⟨hc_18,hc_11⟩|⟨hc_18,hc_11⟩
   ·refine aB rfl hc_18 (aS (aa (gm (bH hD_5 hn_6) wz rfl (ae (vI ((k_2+1:Nat):Int)) wz rfl (aj ?_)))))
    obtain rfl:=ah hc_11
    exact aO (k_2+1,l_3,(s_7.1,r_15.2.L,r_15.2.f_at),n_10) ⟨hL_12,aP hD_5⟩ (ls_ _) rfl (aK rfl)
   ·refine aA rfl hc_18 (ax (af (aa (ae (vS x_4) wz rfl (ae (.ref (av 0) 0 0) wz rfl (dW (([(⟨#[105,97]⟩:ByteArray),(⟨#[105,98]⟩:ByteArray),(⟨#[105,99]⟩:ByteArray)]:List ByteArray).map eS) nZ wQ rfl rfl rfl rfl rfl wz ?_))))))
    obtain ⟨r_19,hr_20,hc_11⟩:=bind_some hc_11
    refine aW 0 [0] il ft (jg hr_20) rfl KE rfl (by kernel_rfl) (by kernel_rfl) (by kernel_rfl) (by kernel_rfl) (by kernel_rfl) (by kernel_rfl) (by kernel_rfl) (by decide) (by kernel_rfl) wz (vS r_19.1) (by kernel_rfl) ([((av 0),some (.cells 2 [(vL eI r_19.2.L),(vI r_19.2.f_at)])),(n_10,gB 13 Entry.enc s_7.1)]:Hp) (by kernel_rfl) (ae (.ref (av 0) 0 0) wz rfl ?_)
    obtain ⟨r_22,hr_23,hc_11⟩:=bind_some hc_11
    refine aW 0 [0] il ft (mY hr_23) rfl hb9 rfl (by kernel_rfl) (by kernel_rfl) (by kernel_rfl) (by kernel_rfl) (by kernel_rfl) (by kernel_rfl) (by kernel_rfl) (by decide) (by kernel_rfl) wz (vI r_22.1) (by kernel_rfl) ([((av 0),some (.cells 2 [(vL eI r_22.2.L),(vI r_22.2.f_at)])),(n_10,gB 13 Entry.enc s_7.1)]:Hp) (by kernel_rfl) (ae (.ref (av 0) 0 0) wz rfl (dW (([0,0,1,3]:List Int).map eI) iE pW rfl rfl rfl rfl rfl wz ?_))
    obtain ⟨r_25,hr_26,hc_11⟩:=bind_some hc_11
    refine aW 0 [0] il ft (dz hr_26) rfl AU rfl (by kernel_rfl) (by kernel_rfl) (by kernel_rfl) (by kernel_rfl) (by kernel_rfl) (by kernel_rfl) (by kernel_rfl) (by decide) (by kernel_rfl) wz (vI r_25.1) (by kernel_rfl) ([((av 0),some (.cells 2 [(vL eI r_25.2.L),(vI r_25.2.f_at)])),(n_10,gB 13 Entry.enc s_7.1)]:Hp) (by kernel_rfl) (ae (.ref (av 0) 0 0) wz rfl (dW (([1,1,2,3,7]:List Int).map eI) iE pW rfl rfl rfl rfl rfl wz ?_))
    obtain ⟨r_28,hr_29,hc_11⟩:=bind_some hc_11
    refine aW 0 [0] il ft (dz hr_29) rfl AU rfl (by kernel_rfl) (by kernel_rfl) (by kernel_rfl) (by kernel_rfl) (by kernel_rfl) (by kernel_rfl) (by kernel_rfl) (by decide) (by kernel_rfl) wz (vI r_28.1) (by kernel_rfl) ([((av 0),some (.cells 2 [(vL eI r_28.2.L),(vI r_28.2.f_at)])),(n_10,gB 13 Entry.enc s_7.1)]:Hp) (by kernel_rfl) (ae (.ref (av 0) 0 0) wz rfl (dW (([127,127,31,96,1,2]:List Int).map eI) iE pW rfl rfl rfl rfl rfl wz ?_))
    obtain ⟨r_31,hr_32,hc_11⟩:=bind_some hc_11
    refine aW 0 [0] il ft (dz hr_32) rfl AU rfl (by kernel_rfl) (by kernel_rfl) (by kernel_rfl) (by kernel_rfl) (by kernel_rfl) (by kernel_rfl) (by kernel_rfl) (by decide) (by kernel_rfl) wz (vI r_31.1) (by kernel_rfl) ([((av 0),some (.cells 2 [(vL eI r_31.2.L),(vI r_31.2.f_at)])),(n_10,gB 13 Entry.enc s_7.1)]:Hp) (by kernel_rfl) (ae (.ref (av 0) 0 0) wz rfl (dW (([0,0,60,600,1380]:List Int).map eI) iE pW rfl rfl rfl rfl rfl wz ?_))
    obtain ⟨r_34,hr_35,hc_11⟩:=bind_some hc_11
    refine aW 0 [0] il ft (dz hr_35) rfl AU rfl (by kernel_rfl) (by kernel_rfl) (by kernel_rfl) (by kernel_rfl) (by kernel_rfl) (by kernel_rfl) (by kernel_rfl) (by decide) (by kernel_rfl) wz (vI r_34.1) (by kernel_rfl) ([((av 0),some (.cells 2 [(vL eI r_34.2.L),(vI r_34.2.f_at)])),(n_10,gB 13 Entry.enc s_7.1)]:Hp) (by kernel_rfl) (ae (.ref (av 0) 0 0) wz rfl (dW (([0,60,120,600,720,1439]:List Int).map eI) iE pW rfl rfl rfl rfl rfl wz ?_))
    obtain ⟨r_37,hr_38,hc_11⟩:=bind_some hc_11
    refine aW 0 [0] il ft (dz hr_38) rfl AU rfl (by kernel_rfl) (by kernel_rfl) (by kernel_rfl) (by kernel_rfl) (by kernel_rfl) (by kernel_rfl) (by kernel_rfl) (by decide) (by kernel_rfl) wz (vI r_37.1) (by kernel_rfl) ([((av 0),some (.cells 2 [(vL eI r_37.2.L),(vI r_37.2.f_at)])),(n_10,gB 13 Entry.enc s_7.1)]:Hp) (by kernel_rfl) (ae (.ref (av 0) 0 0) wz rfl (dW (([0,0,1,5]:List Int).map eI) iE pW rfl rfl rfl rfl rfl wz ?_))
    obtain ⟨r_40,hr_41,hc_11⟩:=bind_some hc_11
    refine aW 0 [0] il ft (dz hr_41) rfl AU rfl (by kernel_rfl) (by kernel_rfl) (by kernel_rfl) (by kernel_rfl) (by kernel_rfl) (by kernel_rfl) (by kernel_rfl) (by decide) (by kernel_rfl) wz (vI r_40.1) (by kernel_rfl) ([((av 0),some (.cells 2 [(vL eI r_40.2.L),(vI r_40.2.f_at)])),(n_10,gB 13 Entry.enc s_7.1)]:Hp) (by kernel_rfl) (ae (.ref (av 0) 0 0) wz rfl ?_)
    obtain ⟨r_43,hr_44,hc_11⟩:=bind_some hc_11
    refine aW 0 [0] il ft (eB hr_44) rfl hb7 rfl (by kernel_rfl) (by kernel_rfl) (by kernel_rfl) (by kernel_rfl) (by kernel_rfl) (by kernel_rfl) (by kernel_rfl) (by decide) (by kernel_rfl) wz (vB r_43.1) (by kernel_rfl) ([((av 0),some (.cells 2 [(vL eI r_43.2.L),(vI r_43.2.f_at)])),(n_10,gB 13 Entry.enc s_7.1)]:Hp) (by kernel_rfl) (ae (.agg [(vS x_4),(vS r_19.1),(vI r_22.1),(vI r_25.1),(vI 0),(vI r_28.1),(vI r_31.1),.nil,(vI r_34.1),(vI r_37.1),(vI r_40.1),.nil,(vB r_43.1)]) wz (by kernel_rfl) (bR 0 (.inl rfl) z38 rfl wz (λn_46=>eu 0 il ft 2 gK rfl rfl [(vS x_4),(vS r_19.1),(vI r_22.1),(vI r_25.1),(vI 0),(vI r_28.1),(vI r_31.1),.nil,(vI r_34.1),(vI r_37.1),(vI r_40.1),.nil,(vB r_43.1)] rfl wz (aj (aN (H0:=([((av 0),some (.cells 2 [(vL eI r_43.2.L),(vI r_43.2.f_at)])),(n_10,gB 13 Entry.enc s_7.1),(n_46,some (.cells 13 [(vS x_4),(vS r_19.1),(vI r_22.1),(vI r_25.1),(vI 0),(vI r_28.1),(vI r_31.1),.nil,(vI r_34.1),(vI r_37.1),(vI r_40.1),.nil,(vB r_43.1)]))]:Hp)) ([(0,(.ref (av 0) 0 0)),(3,(gV n_10 13 s_7.1)),(6,(.ref n_46 0 0)),(11,(vL eS ([(⟨#[101,97]⟩:ByteArray),(⟨#[101,98]⟩:ByteArray),(⟨#[101,99]⟩:ByteArray),(⟨#[101,100]⟩:ByteArray)]:List ByteArray))),(12,(vI (([(⟨#[101,97]⟩:ByteArray),(⟨#[101,98]⟩:ByteArray),(⟨#[101,99]⟩:ByteArray),(⟨#[101,100]⟩:ByteArray)]:List ByteArray).length:Int))),(13,(vI (k_2:Int)))]:SL_) (by kernel_rfl) (xw (by kernel_rfl)) (af (bN (aJ rf rfl 3 rfl wz (ay 1 2 (.inr (by kernel_rfl)) (λ_ _ ag=>trivial) sz3 ag3 rfl rfl (vI r_25.1) rfl wz (ae (.ref (av 0) 0 0) wz rfl (dW (([0,1,5,10,30]:List Int).map eI) iE pW rfl rfl rfl rfl rfl wz ?_)))))))))))
    obtain ⟨r_47,hr_48,hc_11⟩:=bind_some hc_11
    refine aW 4 [0] (.inr (by kernel_rfl)) (λ_ _ ag=>by exact⟨.inr (.inl (KH (Ez ag (i:=0) (j:=2) rfl rfl (by decide)))),trivial⟩) (dz hr_48) rfl AU rfl (by kernel_rfl) (by kernel_rfl) (by kernel_rfl) (by kernel_rfl) (by kernel_rfl) (by kernel_rfl) (by kernel_rfl) (by decide) (by kernel_rfl) wz (vI r_47.1) (by kernel_rfl) ([((av 0),some (.cells 2 [(vL eI r_47.2.L),(vI r_47.2.f_at)])),(n_10,gB 13 Entry.enc s_7.1),(n_46,some (.cells 13 [(vS x_4),(vS r_19.1),(vI r_22.1),(vI r_25.1),(vI 0),(vI r_28.1),(vI r_31.1),.nil,(vI r_34.1),(vI r_37.1),(vI r_40.1),.nil,(vB r_43.1)]))]:Hp) (by kernel_rfl) (ae (vI (w64 (r_25.1+r_47.1))) wz rfl (aJ qV rfl 4 rfl wz (eu 7 (.inr (by kernel_rfl)) (λ_ _ ag=>⟨.inr (.inr (by kernel_rfl)),⟨.inr (.inr (by kernel_rfl)),trivial⟩⟩) 2 sz3 rfl rfl [(vS x_4),(vS r_19.1),(vI r_22.1),(vI r_25.1),(vI (w64 (r_25.1+r_47.1))),(vI r_28.1),(vI r_31.1),.nil,(vI r_34.1),(vI r_37.1),(vI r_40.1),.nil,(vB r_43.1)] rfl wz (aj (af (af (aa (dW (([1,2,8]:List Int).map eI) iE pW rfl rfl rfl rfl rfl wz (bX nL rfl wz (ae (vI 0) wz rfl (aj (lq (λn_56 => ?_)))))))))))))
    obtain ⟨o_61,hj_62,hc_11⟩:=bind_some hc_11
    obtain ⟨hn_54,hj_62⟩:=bn hj_62
    refine aG (β:=((List Int)×(List Int)×Int)×Nm) (λp=>(λ(s_55:(List Int)×(List Int)×Int) (n_58:Nm)=>([(0,(.ref (av 0) 0 0)),(3,(gV n_10 13 s_7.1)),(6,(.ref n_46 0 0)),(11,(vL eS ([(⟨#[101,97]⟩:ByteArray),(⟨#[101,98]⟩:ByteArray),(⟨#[101,99]⟩:ByteArray),(⟨#[101,100]⟩:ByteArray)]:List ByteArray))),(12,(vI (([(⟨#[101,97]⟩:ByteArray),(⟨#[101,98]⟩:ByteArray),(⟨#[101,99]⟩:ByteArray),(⟨#[101,100]⟩:ByteArray)]:List ByteArray).length:Int))),(13,(vI (k_2:Int)))]:SL_)) p.1 p.2) (λp=>(λ(s_55:(List Int)×(List Int)×Int) (n_58:Nm)=>([((av 0),some (.cells 2 [(vL eI s_55.2.1),(vI s_55.2.2)])),(n_10,gB 13 Entry.enc s_7.1),(n_46,some (.cells 13 [(vS x_4),(vS r_19.1),(vI r_22.1),(vI r_25.1),(vI (w64 (r_25.1+r_47.1))),(vI r_28.1),(vI r_31.1),(gV n_58 1 s_55.1),(vI r_34.1),(vI r_37.1),(vI r_40.1),.nil,(vB r_43.1)])),(n_58,gB 1 eI s_55.1)]:Hp)) p.1 p.2) (λp=>o_61 = .go p.1) ?_ ?_
    ·refine aD (aX (β:=Nat×(List Int)×((List Int)×(List Int)×Int)×Nm) (λp=>(λ(k_50:Nat) (l_51:List Int) (s_55:(List Int)×(List Int)×Int) (n_58:Nm)=>([(0,(.ref (av 0) 0 0)),(3,(gV n_10 13 s_7.1)),(6,(.ref n_46 0 0)),(11,(vL eS ([(⟨#[101,97]⟩:ByteArray),(⟨#[101,98]⟩:ByteArray),(⟨#[101,99]⟩:ByteArray),(⟨#[101,100]⟩:ByteArray)]:List ByteArray))),(12,(vI (([(⟨#[101,97]⟩:ByteArray),(⟨#[101,98]⟩:ByteArray),(⟨#[101,99]⟩:ByteArray),(⟨#[101,100]⟩:ByteArray)]:List ByteArray).length:Int))),(13,(vI (k_2:Int))),(53,(vL eI ([1,2,8]:List Int))),(54,(vI (([1,2,8]:List Int).length:Int))),(55,(vI (k_50:Int)))]:SL_)) p.1 p.2.1 p.2.2.1 p.2.2.2) (λp=>(λ(k_50:Nat) (l_51:List Int) (s_55:(List Int)×(List Int)×Int) (n_58:Nm)=>([((av 0),some (.cells 2 [(vL eI s_55.2.1),(vI s_55.2.2)])),(n_10,gB 13 Entry.enc s_7.1),(n_46,some (.cells 13 [(vS x_4),(vS r_19.1),(vI r_22.1),(vI r_25.1),(vI (w64 (r_25.1+r_47.1))),(vI r_28.1),(vI r_31.1),(gV n_58 1 s_55.1),(vI r_34.1),(vI r_37.1),(vI r_40.1),.nil,(vB r_43.1)])),(n_58,gB 1 eI s_55.1)]:Hp)) p.1 p.2.1 p.2.2.1 p.2.2.2) (λp=>dG (λk x s=>iA k x s) p.2.1 p.1 p.2.2.1=some o_61/\(([1,2,8]:List Int)).drop p.1=p.2.1) (λp=>p.2.1.length) (0,([1,2,8]:List Int),(([]:List Int),r_47.2.L,r_47.2.f_at),n_56) ⟨hj_62,rfl⟩ rfl (aK rfl) ?_)
     rintro ⟨k_50,l_51,s_55,n_58⟩ ⟨hL_60,hD_53⟩
     dsimp only at hL_60 hD_53
     cases l_51 with
     | nil =>
      obtain rfl:=ah hL_60
      refine af (aa (ae (vB (decide ((k_50:Int)<(([1,2,8]:List Int).length:Int)))) wz rfl (aj ?_)))
      refine af (aA rfl (drop_nil hD_53) (aS ?_))
      exact aU (s_55,n_58) rfl rfl (aK rfl)
     | cons x_52 l_51 =>
      obtain ⟨c_,hc_59,hL_60⟩:=bind_some hL_60
      refine af (aa (ae (vB (decide ((k_50:Int)<(([1,2,8]:List Int).length:Int)))) wz rfl (aj ?_)))
      refine af (aB rfl (bE hD_53) (ax ?_))
      unfold iA at hc_59
      refine af (aD (af (aa (dL iE rfl rfl (bL hD_53) rfl wz (bz sz3 ag3 rfl (vI x_52) rfl wz (ae (vI x_52) wz rfl (aj (af (aa (ae (.ref (av 0) 0 0) wz rfl ?_))))))))))
      obtain ⟨r_63,hr_64,hc_59⟩:=bind_some hc_59
      refine aW 0 [0] il ft (eB hr_64) rfl hb7 rfl (by kernel_rfl) (by kernel_rfl) (by kernel_rfl) (by kernel_rfl) (by kernel_rfl) (by kernel_rfl) (by kernel_rfl) (by decide) (by kernel_rfl) wz (vB r_63.1) (by kernel_rfl) ([((av 0),some (.cells 2 [(vL eI r_63.2.L),(vI r_63.2.f_at)])),(n_10,gB 13 Entry.enc s_7.1),(n_46,some (.cells 13 [(vS x_4),(vS r_19.1),(vI r_22.1),(vI r_25.1),(vI (w64 (r_25.1+r_47.1))),(vI r_28.1),(vI r_31.1),(gV n_58 1 s_55.1),(vI r_34.1),(vI r_37.1),(vI r_40.1),.nil,(vB r_43.1)])),(n_58,gB 1 eI s_55.1)]:Hp) (by kernel_rfl) (aj ?_)
      obtain ⟨v_66,h_67,hc_59⟩:=bind_some hc_59
      refine aG (β:=Nm) (λ(n_68:Nm)=>([(0,(.ref (av 0) 0 0)),(3,(gV n_10 13 s_7.1)),(6,(.ref n_46 0 0)),(11,(vL eS ([(⟨#[101,97]⟩:ByteArray),(⟨#[101,98]⟩:ByteArray),(⟨#[101,99]⟩:ByteArray),(⟨#[101,100]⟩:ByteArray)]:List ByteArray))),(12,(vI (([(⟨#[101,97]⟩:ByteArray),(⟨#[101,98]⟩:ByteArray),(⟨#[101,99]⟩:ByteArray),(⟨#[101,100]⟩:ByteArray)]:List ByteArray).length:Int))),(13,(vI (k_2:Int))),(53,(vL eI ([1,2,8]:List Int))),(54,(vI (([1,2,8]:List Int).length:Int))),(55,(vI (k_50:Int)))]:SL_)) (λ(n_68:Nm)=>([((av 0),some (.cells 2 [(vL eI r_63.2.L),(vI r_63.2.f_at)])),(n_10,gB 13 Entry.enc s_7.1),(n_46,some (.cells 13 [(vS x_4),(vS r_19.1),(vI r_22.1),(vI r_25.1),(vI (w64 (r_25.1+r_47.1))),(vI r_28.1),(vI r_31.1),(gV n_68 1 v_66),(vI r_34.1),(vI r_37.1),(vI r_40.1),.nil,(vB r_43.1)])),(n_68,gB 1 eI v_66)]:Hp)) (λ_=>True) ?_ ?_
      ·rcases au h_67 with⟨hc_69,h_67⟩|⟨hc_69,h_67⟩
       ·refine aB rfl hc_69 (aa (aJ rT rfl 7 rfl wz (ay 0 2 il ft qw sH rfl rfl (gV n_58 1 s_55.1) rfl wz (ae (vI x_52) wz rfl (dW (([x_52]:List Int).map eI) iE pW rfl rfl rfl rfl rfl wz ?_)))))
        obtain ⟨a_70,hz_71,h_67⟩:=bind_some h_67
        refine mq 0 il ft (i:=3) wP wP sz3 z3 rfl (by decide) by3 (by decide) (λ_=>rfl) rfl rfl rfl hz_71 wz (λn_72=>aJ rT rfl 7 rfl wz (eu 0 il ft 2 qw rfl rfl [(vS x_4),(vS r_19.1),(vI r_22.1),(vI r_25.1),(vI (w64 (r_25.1+r_47.1))),(vI r_28.1),(vI r_31.1),(gV n_72 1 a_70),(vI r_34.1),(vI r_37.1),(vI r_40.1),.nil,(vB r_43.1)] (stC_g rfl) wz (aj ?_)))
        obtain rfl:=ah h_67
        exact aU n_72 trivial rfl (aK rfl)
       ·refine aA rfl hc_69 (ax ?_)
        obtain rfl:=ah h_67
        exact aU n_58 trivial rfl (aK rfl)
      ·rintro n_68 _ sl_ H_ hp_ hq_
       refine aN _ hp_ hq_ (aa (gm (bH hD_53 hn_54) wz rfl (ae (vI ((k_50+1:Nat):Int)) wz rfl (aj ?_))))
       obtain rfl:=ah hc_59
       exact aO (k_50+1,l_51,(v_66,r_63.2.L,r_63.2.f_at),n_68) ⟨hL_60,aP hD_53⟩ (ls_ _) rfl (aK rfl)
    ·rintro ⟨s_55,n_58⟩ ho_ sl_ H_ hp_ hq_
     subst ho_
     refine aN _ hp_ hq_ (af (af (aa (dW (([(⟨#[99,105,116,121]⟩:ByteArray),(⟨#[109,97,108,108]⟩:ByteArray)]:List ByteArray).map eS) nZ wQ rfl rfl rfl rfl rfl wz (bX Br rfl wz (ae (vI 0) wz rfl (aj (lq (λn_79 => ?_)))))))))
     obtain ⟨o_84,hj_85,hc_11⟩:=bind_some hc_11
     obtain ⟨hn_77,hj_85⟩:=bn hj_85
     refine aG (β:=((List ByteArray)×(List Int)×Int)×Nm) (λp=>(λ(s_78:(List ByteArray)×(List Int)×Int) (n_81:Nm)=>([(0,(.ref (av 0) 0 0)),(3,(gV n_10 13 s_7.1)),(6,(.ref n_46 0 0)),(11,(vL eS ([(⟨#[101,97]⟩:ByteArray),(⟨#[101,98]⟩:ByteArray),(⟨#[101,99]⟩:ByteArray),(⟨#[101,100]⟩:ByteArray)]:List ByteArray))),(12,(vI (([(⟨#[101,97]⟩:ByteArray),(⟨#[101,98]⟩:ByteArray),(⟨#[101,99]⟩:ByteArray),(⟨#[101,100]⟩:ByteArray)]:List ByteArray).length:Int))),(13,(vI (k_2:Int)))]:SL_)) p.1 p.2) (λp=>(λ(s_78:(List ByteArray)×(List Int)×Int) (n_81:Nm)=>([((av 0),some (.cells 2 [(vL eI s_78.2.1),(vI s_78.2.2)])),(n_10,gB 13 Entry.enc s_7.1),(n_46,some (.cells 13 [(vS x_4),(vS r_19.1),(vI r_22.1),(vI r_25.1),(vI (w64 (r_25.1+r_47.1))),(vI r_28.1),(vI r_31.1),(gV n_58 1 s_55.1),(vI r_34.1),(vI r_37.1),(vI r_40.1),(gV n_81 1 s_78.1),(vB r_43.1)])),(n_58,gB 1 eI s_55.1),(n_81,gB 1 eS s_78.1)]:Hp)) p.1 p.2) (λp=>o_84 = .go p.1) ?_ ?_
     ·refine aD (aX (β:=Nat×(List ByteArray)×((List ByteArray)×(List Int)×Int)×Nm) (λp=>(λ(k_73:Nat) (l_74:List ByteArray) (s_78:(List ByteArray)×(List Int)×Int) (n_81:Nm)=>([(0,(.ref (av 0) 0 0)),(3,(gV n_10 13 s_7.1)),(6,(.ref n_46 0 0)),(11,(vL eS ([(⟨#[101,97]⟩:ByteArray),(⟨#[101,98]⟩:ByteArray),(⟨#[101,99]⟩:ByteArray),(⟨#[101,100]⟩:ByteArray)]:List ByteArray))),(12,(vI (([(⟨#[101,97]⟩:ByteArray),(⟨#[101,98]⟩:ByteArray),(⟨#[101,99]⟩:ByteArray),(⟨#[101,100]⟩:ByteArray)]:List ByteArray).length:Int))),(13,(vI (k_2:Int))),(68,(vL eS ([(⟨#[99,105,116,121]⟩:ByteArray),(⟨#[109,97,108,108]⟩:ByteArray)]:List ByteArray))),(69,(vI (([(⟨#[99,105,116,121]⟩:ByteArray),(⟨#[109,97,108,108]⟩:ByteArray)]:List ByteArray).length:Int))),(70,(vI (k_73:Int)))]:SL_)) p.1 p.2.1 p.2.2.1 p.2.2.2) (λp=>(λ(k_73:Nat) (l_74:List ByteArray) (s_78:(List ByteArray)×(List Int)×Int) (n_81:Nm)=>([((av 0),some (.cells 2 [(vL eI s_78.2.1),(vI s_78.2.2)])),(n_10,gB 13 Entry.enc s_7.1),(n_46,some (.cells 13 [(vS x_4),(vS r_19.1),(vI r_22.1),(vI r_25.1),(vI (w64 (r_25.1+r_47.1))),(vI r_28.1),(vI r_31.1),(gV n_58 1 s_55.1),(vI r_34.1),(vI r_37.1),(vI r_40.1),(gV n_81 1 s_78.1),(vB r_43.1)])),(n_58,gB 1 eI s_55.1),(n_81,gB 1 eS s_78.1)]:Hp)) p.1 p.2.1 p.2.2.1 p.2.2.2) (λp=>dG (λk x s=>iw k x s) p.2.1 p.1 p.2.2.1=some o_84/\(([(⟨#[99,105,116,121]⟩:ByteArray),(⟨#[109,97,108,108]⟩:ByteArray)]:List ByteArray)).drop p.1=p.2.1) (λp=>p.2.1.length) (0,([(⟨#[99,105,116,121]⟩:ByteArray),(⟨#[109,97,108,108]⟩:ByteArray)]:List ByteArray),(([]:List ByteArray),s_55.2.1,s_55.2.2),n_79) ⟨hj_85,rfl⟩ rfl (aK rfl) ?_)
      rintro ⟨k_73,l_74,s_78,n_81⟩ ⟨hL_83,hD_76⟩
      dsimp only at hL_83 hD_76
      cases l_74 with
      | nil =>
       obtain rfl:=ah hL_83
       refine af (aa (ae (vB (decide ((k_73:Int)<(([(⟨#[99,105,116,121]⟩:ByteArray),(⟨#[109,97,108,108]⟩:ByteArray)]:List ByteArray).length:Int)))) wz rfl (aj ?_)))
       refine af (aA rfl (drop_nil hD_76) (aS ?_))
       exact aU (s_78,n_81) rfl rfl (aK rfl)
      | cons x_75 l_74 =>
       obtain ⟨c_,hc_82,hL_83⟩:=bind_some hL_83
       refine af (aa (ae (vB (decide ((k_73:Int)<(([(⟨#[99,105,116,121]⟩:ByteArray),(⟨#[109,97,108,108]⟩:ByteArray)]:List ByteArray).length:Int)))) wz rfl (aj ?_)))
       refine af (aB rfl (bE hD_76) (ax ?_))
       unfold iw at hc_82
       refine af (aD (af (aa (dL nZ rfl rfl (bL hD_76) rfl wz (bz sz9 ag9 rfl (vS x_75) rfl wz (ae (vS x_75) wz rfl (aj (af (aa (ae (.ref (av 0) 0 0) wz rfl ?_))))))))))
       obtain ⟨r_86,hr_87,hc_82⟩:=bind_some hc_82
       refine aW 0 [0] il ft (eB hr_87) rfl hb7 rfl (by kernel_rfl) (by kernel_rfl) (by kernel_rfl) (by kernel_rfl) (by kernel_rfl) (by kernel_rfl) (by kernel_rfl) (by decide) (by kernel_rfl) wz (vB r_86.1) (by kernel_rfl) ([((av 0),some (.cells 2 [(vL eI r_86.2.L),(vI r_86.2.f_at)])),(n_10,gB 13 Entry.enc s_7.1),(n_46,some (.cells 13 [(vS x_4),(vS r_19.1),(vI r_22.1),(vI r_25.1),(vI (w64 (r_25.1+r_47.1))),(vI r_28.1),(vI r_31.1),(gV n_58 1 s_55.1),(vI r_34.1),(vI r_37.1),(vI r_40.1),(gV n_81 1 s_78.1),(vB r_43.1)])),(n_58,gB 1 eI s_55.1),(n_81,gB 1 eS s_78.1)]:Hp) (by kernel_rfl) (aj ?_)
       obtain ⟨v_89,h_90,hc_82⟩:=bind_some hc_82
       refine aG (β:=Nm) (λ(n_91:Nm)=>([(0,(.ref (av 0) 0 0)),(3,(gV n_10 13 s_7.1)),(6,(.ref n_46 0 0)),(11,(vL eS ([(⟨#[101,97]⟩:ByteArray),(⟨#[101,98]⟩:ByteArray),(⟨#[101,99]⟩:ByteArray),(⟨#[101,100]⟩:ByteArray)]:List ByteArray))),(12,(vI (([(⟨#[101,97]⟩:ByteArray),(⟨#[101,98]⟩:ByteArray),(⟨#[101,99]⟩:ByteArray),(⟨#[101,100]⟩:ByteArray)]:List ByteArray).length:Int))),(13,(vI (k_2:Int))),(68,(vL eS ([(⟨#[99,105,116,121]⟩:ByteArray),(⟨#[109,97,108,108]⟩:ByteArray)]:List ByteArray))),(69,(vI (([(⟨#[99,105,116,121]⟩:ByteArray),(⟨#[109,97,108,108]⟩:ByteArray)]:List ByteArray).length:Int))),(70,(vI (k_73:Int)))]:SL_)) (λ(n_91:Nm)=>([((av 0),some (.cells 2 [(vL eI r_86.2.L),(vI r_86.2.f_at)])),(n_10,gB 13 Entry.enc s_7.1),(n_46,some (.cells 13 [(vS x_4),(vS r_19.1),(vI r_22.1),(vI r_25.1),(vI (w64 (r_25.1+r_47.1))),(vI r_28.1),(vI r_31.1),(gV n_58 1 s_55.1),(vI r_34.1),(vI r_37.1),(vI r_40.1),(gV n_91 1 v_89),(vB r_43.1)])),(n_58,gB 1 eI s_55.1),(n_91,gB 1 eS v_89)]:Hp)) (λ_=>True) ?_ ?_
       ·rcases au h_90 with⟨hc_92,h_90⟩|⟨hc_92,h_90⟩
        ·refine aB rfl hc_92 (aa (aJ ug rfl 11 rfl wz (ay 0 2 il ft yT Bb rfl rfl (gV n_81 1 s_78.1) rfl wz (ae (vS x_75) wz rfl (dW (([x_75]:List ByteArray).map eS) nZ wQ rfl rfl rfl rfl rfl wz ?_)))))
         obtain ⟨a_93,hz_94,h_90⟩:=bind_some h_90
         refine mq 0 il ft (i:=4) el28 el28 sz9 z9 rfl (by decide) by9 (by decide) (λ_=>rfl) rfl rfl rfl hz_94 wz (λn_95=>aJ ug rfl 11 rfl wz (eu 0 il ft 2 yT rfl rfl [(vS x_4),(vS r_19.1),(vI r_22.1),(vI r_25.1),(vI (w64 (r_25.1+r_47.1))),(vI r_28.1),(vI r_31.1),(gV n_58 1 s_55.1),(vI r_34.1),(vI r_37.1),(vI r_40.1),(gV n_95 1 a_93),(vB r_43.1)] (stC_g rfl) wz (aj ?_)))
         obtain rfl:=ah h_90
         exact aU n_95 trivial rfl (aK rfl)
        ·refine aA rfl hc_92 (ax ?_)
         obtain rfl:=ah h_90
         exact aU n_81 trivial rfl (aK rfl)
       ·rintro n_91 _ sl_ H_ hp_ hq_
        refine aN _ hp_ hq_ (aa (gm (bH hD_76 hn_77) wz rfl (ae (vI ((k_73+1:Nat):Int)) wz rfl (aj ?_))))
        obtain rfl:=ah hc_82
        exact aO (k_73+1,l_74,(v_89,r_86.2.L,r_86.2.f_at),n_91) ⟨hL_83,aP hD_76⟩ (ls_ _) rfl (aK rfl)
     ·rintro ⟨s_78,n_81⟩ ho_ sl_ H_ hp_ hq_
      subst ho_
      refine aN _ hp_ hq_ (gX 3 rfl (gX 4 rfl (wH_coc2 3 4 2 [(vS x_4),(vS r_19.1),(vI r_22.1),(vI r_25.1),(vI (w64 (r_25.1+r_47.1))),(vI r_28.1),(vI r_31.1),(vL eI s_55.1),(vI r_34.1),(vI r_37.1),(vI r_40.1),(vL eS s_78.1),(vB r_43.1)] rfl rfl rfl (λS hS hS2=>l5 (rfl) (l5 (rfl) (l5 (rfl) (l5 (rfl) (l5 (rfl) (l5 (rfl) (l5 (rfl) (l5 (hS) (l5 (rfl) (l5 (rfl) (l5 (rfl) (l5 (hS2) (l5 (rfl) (rfl)))))))))))))) (aa (ae (gV n_10 13 s_7.1) wz rfl (ay 0 2 il ft gK jR rfl rfl (.d (.agg (Entry.enc (⟨x_4,r_19.1,r_22.1,r_25.1,(w64 (r_25.1+r_47.1)),r_28.1,r_31.1,s_55.1,r_34.1,r_37.1,r_40.1,s_78.1,r_43.1⟩:Entry)))) rfl wz (dW (([(⟨x_4,r_19.1,r_22.1,r_25.1,(w64 (r_25.1+r_47.1)),r_28.1,r_31.1,s_55.1,r_34.1,r_37.1,r_40.1,s_78.1,r_43.1⟩:Entry)]:List Entry).map Entry.enc) mE ez26 rfl rfl rfl rfl rfl wz ?_)))))))
      obtain ⟨a_96,hz_97,hc_11⟩:=bind_some hc_11
      refine mq 0 il ft (i:=1) KZ KZ gK z38 rfl (by decide) by38 (by decide) (λ_=>rfl) rfl rfl rfl hz_97 wz (λn_98=>ae (gV n_98 13 a_96) wz rfl (aj (aa (gm (bH hD_5 hn_6) wz rfl (ae (vI ((k_2+1:Nat):Int)) wz rfl (aj ?_))))))
      obtain rfl:=ah hc_11
      exact aO (k_2+1,l_3,(a_96,s_78.2.1,s_78.2.2),n_98) ⟨hL_12,aP hD_5⟩ (ls_ _) rfl (aK rfl)
 ·rintro ⟨s_7,n_10⟩ ho_ sl_ H_ hp_ hq_
  subst ho_
  refine aN _ hp_ hq_ (af (aa (ae (gV n_10 13 s_7.1) wz rfl (ae (gV n_10 13 s_7.1) wz rfl (aj ?_)))))
  obtain rfl:=ah hF
  exact aC (EL (outs:=([(.cells 2 [(vL eI s_7.2.1),(vI s_7.2.2)])]:List Box)) (.inr rfl) 1 rfl rfl rfl (by kernel_rfl) (by kernel_rfl))
theorem eY {s_1:Stream} {low_2:Int} {high_3:Int} {r:Int×Stream} (hF:eD s_1 low_2 high_3=some r) :
  FnM Tryz.prog 24 [(.ref (av 0) 0 0),(vI low_2),(vI high_3)] [(.cells 2 [(vL eI s_1.L),(vI s_1.f_at)])] (vI r.1) [some (.cells 2 [(vL eI r.2.L),(vI r.2.f_at)])]:=by
 refine FnM.of_wH ⟨Tryz.prog,22,[],[]⟩ rfl Tryz.func24 rfl rfl (lb_ rfl) (by kernel_rfl) ?_
 unfold eD at hF
 refine af (aa (ae (vI 0) wz rfl (aj (af (af (aa (ae (.ref (av 0) 0 0) wz rfl ?_)))))))
 obtain ⟨r_4,hr_5,hF⟩:=bind_some hF
 refine aW 0 [0] il ft (eB hr_5) rfl hb7 rfl (by kernel_rfl) (by kernel_rfl) (by kernel_rfl) (by kernel_rfl) (by kernel_rfl) (by kernel_rfl) (by kernel_rfl) (by decide) (by kernel_rfl) wz (vB r_4.1) (by kernel_rfl) ([((av 0),some (.cells 2 [(vL eI r_4.2.L),(vI r_4.2.f_at)]))]:Hp) (by kernel_rfl) (aj ?_)
 rcases au hF with⟨hc_7,hF⟩|⟨hc_7,hF⟩
 ·refine aB rfl hc_7 (af (aa (ae (.ref (av 0) 0 0) wz rfl (ae (vI low_2) wz rfl (ae (vI (w64 (low_2-1))) wz rfl (ae (vI high_3) wz rfl (ae (vI (w64 (high_3+1))) wz rfl (ae (vI low_2) wz rfl (ae (vI high_3) wz rfl (dW (([(w64 (low_2-1)),(w64 (high_3+1)),low_2,high_3,(-1099511627776),1099511627776]:List Int).map eI) iE pW rfl rfl rfl rfl rfl wz ?_))))))))))
  obtain ⟨r_8,hr_9,hF⟩:=bind_some hF
  refine aW 0 [0] il ft (dz hr_9) rfl AU rfl (by kernel_rfl) (by kernel_rfl) (by kernel_rfl) (by kernel_rfl) (by kernel_rfl) (by kernel_rfl) (by kernel_rfl) (by decide) (by kernel_rfl) wz (vI r_8.1) (by kernel_rfl) ([((av 0),some (.cells 2 [(vL eI r_8.2.L),(vI r_8.2.f_at)]))]:Hp) (by kernel_rfl) (ae (vI r_8.1) wz rfl (aj ?_))
  obtain rfl:=ah hF
  exact aC (qK (.inr rfl) [(vI r_8.1)] _ [0] [av 0] ⟨rfl,trivial⟩ (.cons (iy rfl rfl) (.nil)) (by kernel_rfl) ⟨(by kernel_rfl),trivial⟩ (by decide) (by kernel_rfl))
 ·refine aA rfl hc_7 (ax (af (aa (ae (.ref (av 0) 0 0) wz rfl (ae (vI low_2) wz rfl (ae (vI high_3) wz rfl ?_))))))
  obtain ⟨r_11,hr_12,hF⟩:=bind_some hF
  refine aW 0 [0] il ft (mY hr_12) rfl hb9 rfl (by kernel_rfl) (by kernel_rfl) (by kernel_rfl) (by kernel_rfl) (by kernel_rfl) (by kernel_rfl) (by kernel_rfl) (by decide) (by kernel_rfl) wz (vI r_11.1) (by kernel_rfl) ([((av 0),some (.cells 2 [(vL eI r_11.2.L),(vI r_11.2.f_at)]))]:Hp) (by kernel_rfl) (ae (vI r_11.1) wz rfl (aj ?_))
  obtain rfl:=ah hF
  exact aC (qK (.inr rfl) [(vI r_11.1)] _ [0] [av 0] ⟨rfl,trivial⟩ (.cons (iy rfl rfl) (.nil)) (by kernel_rfl) ⟨(by kernel_rfl),trivial⟩ (by decide) (by kernel_rfl))
theorem rX {s_1:(List Int)} {r:(List Int)} (hF:iQ s_1=some r) :
  FnM Tryz.prog 25 [(vL eI s_1)] [] (gV (av 0) 1 r) (([]:List Box).map some++gO 1 eI r):=by
 refine FnM.of_wH ⟨Tryz.prog,8,[],[]⟩ rfl Tryz.func25 rfl rfl (lb_ rfl) (by kernel_rfl) ?_
 unfold iQ at hF
 refine af (aa (ae .nil wz rfl (aj (af (af (aa (ae (vL eI s_1) wz rfl (JI nL rfl wz (λb_2 hb_3=>aj ?_)))))))))
 cases b_2 with
 | true =>
  refine aB rfl rfl ?_
  obtain rfl:=hb_3 rfl
  replace hF:=Em hF
  refine af (aa (ae .nil wz rfl (aj (lq (λn_4 => ?_)))))
  obtain rfl:=ah hF
  exact aC (EL (outs:=([]:List Box)) (.inr rfl) 0 rfl rfl rfl (by kernel_rfl) (by kernel_rfl))
 | false =>
  refine aA rfl rfl (ax (af (aa (Li iE pW rfl wz (ae (vL eI s_1) wz rfl ?_)))))
  obtain ⟨a_5,hz_6,hF⟩:=bind_some hF
  refine MO 0 (.inl rfl) wP wP sz3 z3 rfl (by decide) by3 (by decide) (λ_=>rfl) rfl rfl hz_6 wz (λn_7=>ae (gV n_7 1 a_5) wz rfl (aj ?_))
  obtain rfl:=ah hF
  exact aC (EL (outs:=([]:List Box)) (.inr rfl) 0 rfl rfl rfl (by kernel_rfl) (by kernel_rfl))
theorem oW {s_1:Stream} {r:(List Entry)×Stream} (hF:iZ s_1=some r) :
  FnM Tryz.prog 4 [(.ref (av 0) 0 0)] [(.cells 2 [(vL eI s_1.L),(vI s_1.f_at)])] (vL Entry.enc r.1) [some (.cells 2 [(vL eI r.2.L),(vI r.2.f_at)])]:=by
 refine FnM.of_wH ⟨Tryz.prog,107,[],[]⟩ rfl Tryz.func4 rfl rfl (lb_ rfl) (by kernel_rfl) ?_
 unfold iZ at hF
 refine af (aa (ae .nil wz rfl (aj (af (aa (ae (.ref (av 0) 0 0) wz rfl ?_))))))
 obtain ⟨r_2,hr_3,hF⟩:=bind_some hF
 refine yS [0] (qY hr_3) rfl hb23 rfl (by kernel_rfl) (by kernel_rfl) (by kernel_rfl) (by kernel_rfl) (by kernel_rfl) rfl (by decide) (by kernel_rfl) wz ([((av 0),some (.cells 2 [(vL eI r_2.2.L),(vI r_2.2.f_at)]))]:Hp) (λ_=>by kernel_rfl) (λn_5=>ae (gV n_5 13 r_2.1) wz rfl (aj (af (af ?_))))
 obtain ⟨v_6,h_7,hF⟩:=bind_some hF
 refine aG (β:=Unit) (λ_=>([(0,(.ref (av 0) 0 0)),(3,(gV n_5 13 r_2.1)),(13,(vB v_6.1))]:SL_)) (λ_=>([((av 0),some (.cells 2 [(vL eI v_6.2.1),(vI v_6.2.2)])),(n_5,gB 13 Entry.enc r_2.1)]:Hp)) (λ_=>True) ?_ ?_
 ·refine aa (ae (gV n_5 13 r_2.1) wz rfl (qF qb rfl wz (ae (vB (decide ((r_2.1.length:Int)>0))) wz rfl ?_)))
  rcases au h_7 with⟨hc_8,h_7⟩|⟨hc_8,h_7⟩
  ·refine aH rfl hc_8 wz (ae (.ref (av 0) 0 0) wa rfl ?_)
   obtain ⟨r_9,hr_10,h_7⟩:=bind_some h_7
   refine aW 0 [0] il ft (eB hr_10) rfl hb7 rfl (by kernel_rfl) (by kernel_rfl) (by kernel_rfl) (by kernel_rfl) (by kernel_rfl) (by kernel_rfl) (by kernel_rfl) (by decide) (by kernel_rfl) wa (vB r_9.1) (by kernel_rfl) ([((av 0),some (.cells 2 [(vL eI r_9.2.L),(vI r_9.2.f_at)])),(n_5,gB 13 Entry.enc r_2.1)]:Hp) (by kernel_rfl) (ae (vB r_9.1) wz rfl (aj ?_))
   obtain rfl:=ah h_7
   exact cu
  ·refine aH rfl hc_8 wz (ak wa (ak wa (ae (vB false) wz rfl (aj ?_))))
   obtain rfl:=ah h_7
   exact cu
 ·rintro ⟨⟩ _ sl_ H_ hp_ hq_
  refine aN _ hp_ hq_ ?_
  obtain ⟨v_12,h_13,hF⟩:=bind_some hF
  refine aG (β:=Unit) (λ_=>([(3,(gV n_5 13 v_12.1))]:SL_)) (λ_=>([((av 0),some (.cells 2 [(vL eI v_12.2.1),(vI v_12.2.2)])),(n_5,gB 13 Entry.enc v_12.1)]:Hp)) (λ_=>True) ?_ ?_
  ·rcases au h_13 with⟨hc_14,h_13⟩|⟨hc_14,h_13⟩
   ·refine aB rfl hc_14 (af (aa (ae (gV n_5 13 r_2.1) wz rfl (ae (.ref (av 0) 0 0) wz rfl (ae (gV n_5 13 r_2.1) wz rfl (qF qb rfl wz ?_))))))
    obtain ⟨r_15,hr_16,h_13⟩:=bind_some h_13
    refine aW 0 [0] il ft (dU hr_16) rfl C9 rfl (by kernel_rfl) (by kernel_rfl) (by kernel_rfl) (by kernel_rfl) (by kernel_rfl) (by kernel_rfl) (by kernel_rfl) (by decide) (by kernel_rfl) wz (vI r_15.1) (by kernel_rfl) ([((av 0),some (.cells 2 [(vL eI r_15.2.L),(vI r_15.2.f_at)])),(n_5,gB 13 Entry.enc r_2.1)]:Hp) (by kernel_rfl) ?_
    obtain ⟨_,hi_18,h_13⟩:=bind_some h_13
    refine oG mE rfl rfl (jQ hi_18) (iq hi_18) wz (ae (.ref n_5 (0+(r_15.1).toNat) 0) wz rfl (aj (af (aa (ae (.ref (av 0) 0 0) wz rfl ?_)))))
    obtain ⟨r_19,hr_20,h_13⟩:=bind_some h_13
    refine aW 0 [0] il ft (dU hr_20) rfl C9 rfl (by kernel_rfl) (by kernel_rfl) (by kernel_rfl) (by kernel_rfl) (by kernel_rfl) (by kernel_rfl) (by kernel_rfl) (by decide) (by kernel_rfl) wz (vI r_19.1) (by kernel_rfl) ([((av 0),some (.cells 2 [(vL eI r_19.2.L),(vI r_19.2.f_at)])),(n_5,gB 13 Entry.enc r_2.1)]:Hp) (by kernel_rfl) (aj (aD (af (aa (ae (vB (r_19.1==0)) wz rfl (ae (vB (r_19.1==0)) wz rfl (aj ?_)))))))
    rcases au h_13 with⟨hc_22,h_13⟩|⟨hc_22,h_13⟩
    ·refine aB rfl hc_22 (aa (ae (.ref n_5 (0+(r_15.1).toNat) 0) wz rfl (ae (.ref n_5 (0+(r_15.1).toNat) 0) wz rfl (ae (.ref (av 0) 0 0) wz rfl (ae (.ref n_5 (0+(r_15.1).toNat) 0) wz rfl (ae (.ref n_5 (0+(r_15.1).toNat) 0) wz rfl (aJ j5 rfl 0 rfl wz ?_)))))))
     obtain ⟨e_23,hy_24,h_13⟩:=bind_some h_13
     refine lS 0 1 il ft sz9 ag9 rfl rfl hy_24 (vS e_23.Key) rfl wz (dW (([e_23.Key,(⟨#[]⟩:ByteArray),(⟨#[65]⟩:ByteArray),(⟨#[101,97]⟩:ByteArray)]:List ByteArray).map eS) nZ wQ rfl rfl rfl rfl rfl wz ?_)
     obtain ⟨r_25,hr_26,h_13⟩:=bind_some h_13
     refine aW 0 [0] il ft (jg hr_26) rfl KE rfl (by kernel_rfl) (by kernel_rfl) (by kernel_rfl) (by kernel_rfl) (by kernel_rfl) (by kernel_rfl) (by kernel_rfl) (by decide) (by kernel_rfl) wz (vS r_25.1) (by kernel_rfl) ([((av 0),some (.cells 2 [(vL eI r_25.2.L),(vI r_25.2.f_at)])),(n_5,gB 13 Entry.enc r_2.1)]:Hp) (by kernel_rfl) (ae (.ref (av 0) 0 0) wz rfl (dW (([(⟨#[105,97]⟩:ByteArray),(⟨#[]⟩:ByteArray),(⟨#[66]⟩:ByteArray)]:List ByteArray).map eS) nZ wQ rfl rfl rfl rfl rfl wz ?_))
     obtain ⟨r_28,hr_29,h_13⟩:=bind_some h_13
     refine aW 0 [0] il ft (jg hr_29) rfl KE rfl (by kernel_rfl) (by kernel_rfl) (by kernel_rfl) (by kernel_rfl) (by kernel_rfl) (by kernel_rfl) (by kernel_rfl) (by decide) (by kernel_rfl) wz (vS r_28.1) (by kernel_rfl) ([((av 0),some (.cells 2 [(vL eI r_28.2.L),(vI r_28.2.f_at)])),(n_5,gB 13 Entry.enc r_2.1)]:Hp) (by kernel_rfl) (ae (.ref n_5 (0+(r_15.1).toNat) 0) wz rfl (aJ j5 rfl 0 rfl wz ?_))
     obtain ⟨e_31,hy_32,h_13⟩:=bind_some h_13
     refine kJ 0 il ft 1 sz9 rfl rfl hy_32 (⟨r_25.1,e_31.Item,e_31.Version,e_31.First,e_31.Last,e_31.Every,e_31.Days,e_31.Except,e_31.From,e_31.To,e_31.Prio,e_31.Tags,e_31.Gone⟩:Entry) rfl wz (bQ (v':=(gV n_5 13 (r_2.1.set (0+(r_15.1).toNat) (⟨r_25.1,e_31.Item,e_31.Version,e_31.First,e_31.Last,e_31.Every,e_31.Days,e_31.Except,e_31.From,e_31.To,e_31.Prio,e_31.Tags,e_31.Gone⟩:Entry)))) 3 rfl (bI (by simp)) (bQ (v':=(gV n_5 13 (r_2.1.set (0+(r_15.1).toNat) (⟨r_25.1,e_31.Item,e_31.Version,e_31.First,e_31.Last,e_31.Every,e_31.Days,e_31.Except,e_31.From,e_31.To,e_31.Prio,e_31.Tags,e_31.Gone⟩:Entry)))) 14 rfl (bI (by simp)) (bQ (v':=(gV n_5 13 (r_2.1.set (0+(r_15.1).toNat) (⟨r_25.1,e_31.Item,e_31.Version,e_31.First,e_31.Last,e_31.Every,e_31.Days,e_31.Except,e_31.From,e_31.To,e_31.Prio,e_31.Tags,e_31.Gone⟩:Entry)))) 16 rfl (bI (by simp)) (ae (.ref n_5 (0+(r_15.1).toNat) 0) wz rfl (aJ yc rfl 1 rfl wz ?_)))))
     obtain ⟨e_33,hy_34,h_13⟩:=bind_some h_13
     refine kJ 0 il ft 1 sz9 rfl rfl hy_34 (⟨e_33.Key,r_28.1,e_33.Version,e_33.First,e_33.Last,e_33.Every,e_33.Days,e_33.Except,e_33.From,e_33.To,e_33.Prio,e_33.Tags,e_33.Gone⟩:Entry) rfl wz (bQ (v':=(gV n_5 13 ((r_2.1.set (0+(r_15.1).toNat) (⟨r_25.1,e_31.Item,e_31.Version,e_31.First,e_31.Last,e_31.Every,e_31.Days,e_31.Except,e_31.From,e_31.To,e_31.Prio,e_31.Tags,e_31.Gone⟩:Entry)).set (0+(r_15.1).toNat) (⟨e_33.Key,r_28.1,e_33.Version,e_33.First,e_33.Last,e_33.Every,e_33.Days,e_33.Except,e_33.From,e_33.To,e_33.Prio,e_33.Tags,e_33.Gone⟩:Entry)))) 3 rfl (bI (by simp)) (bQ (v':=(gV n_5 13 ((r_2.1.set (0+(r_15.1).toNat) (⟨r_25.1,e_31.Item,e_31.Version,e_31.First,e_31.Last,e_31.Every,e_31.Days,e_31.Except,e_31.From,e_31.To,e_31.Prio,e_31.Tags,e_31.Gone⟩:Entry)).set (0+(r_15.1).toNat) (⟨e_33.Key,r_28.1,e_33.Version,e_33.First,e_33.Last,e_33.Every,e_33.Days,e_33.Except,e_33.From,e_33.To,e_33.Prio,e_33.Tags,e_33.Gone⟩:Entry)))) 14 rfl (bI (by simp)) (bQ (v':=(gV n_5 13 ((r_2.1.set (0+(r_15.1).toNat) (⟨r_25.1,e_31.Item,e_31.Version,e_31.First,e_31.Last,e_31.Every,e_31.Days,e_31.Except,e_31.From,e_31.To,e_31.Prio,e_31.Tags,e_31.Gone⟩:Entry)).set (0+(r_15.1).toNat) (⟨e_33.Key,r_28.1,e_33.Version,e_33.First,e_33.Last,e_33.Every,e_33.Days,e_33.Except,e_33.From,e_33.To,e_33.Prio,e_33.Tags,e_33.Gone⟩:Entry)))) 16 rfl (bI (by simp)) (aj ?_))))
     obtain rfl:=ah h_13
     exact cu
    ·refine aA rfl hc_22 (af (aa (ae (vB (r_19.1==1)) wz rfl (ae (vB (r_19.1==1)) wz rfl (aj ?_)))))
     rcases au h_13 with⟨hc_35,h_13⟩|⟨hc_35,h_13⟩
     ·refine aB rfl hc_35 (aa (ae (.ref n_5 (0+(r_15.1).toNat) 0) wz rfl (ae (.ref n_5 (0+(r_15.1).toNat) 0) wz rfl (ae (.ref (av 0) 0 0) wz rfl ?_))))
      obtain ⟨r_36,hr_37,h_13⟩:=bind_some h_13
      refine aW 0 [0] il ft (eY hr_37) rfl Du rfl (by kernel_rfl) (by kernel_rfl) (by kernel_rfl) (by kernel_rfl) (by kernel_rfl) (by kernel_rfl) (by kernel_rfl) (by decide) (by kernel_rfl) wz (vI r_36.1) (by kernel_rfl) ([((av 0),some (.cells 2 [(vL eI r_36.2.L),(vI r_36.2.f_at)])),(n_5,gB 13 Entry.enc r_2.1)]:Hp) (by kernel_rfl) (ae (.ref (av 0) 0 0) wz rfl ?_)
      obtain ⟨r_39,hr_40,h_13⟩:=bind_some h_13
      refine aW 0 [0] il ft (eY hr_40) rfl Du rfl (by kernel_rfl) (by kernel_rfl) (by kernel_rfl) (by kernel_rfl) (by kernel_rfl) (by kernel_rfl) (by kernel_rfl) (by decide) (by kernel_rfl) wz (vI r_39.1) (by kernel_rfl) ([((av 0),some (.cells 2 [(vL eI r_39.2.L),(vI r_39.2.f_at)])),(n_5,gB 13 Entry.enc r_2.1)]:Hp) (by kernel_rfl) (ae (.ref n_5 (0+(r_15.1).toNat) 0) wz rfl (aJ rf rfl 3 rfl wz ?_))
      obtain ⟨e_42,hy_43,h_13⟩:=bind_some h_13
      refine kJ 0 il ft 1 sz3 rfl rfl hy_43 (⟨e_42.Key,e_42.Item,e_42.Version,r_36.1,e_42.Last,e_42.Every,e_42.Days,e_42.Except,e_42.From,e_42.To,e_42.Prio,e_42.Tags,e_42.Gone⟩:Entry) rfl wz (bQ (v':=(gV n_5 13 (r_2.1.set (0+(r_15.1).toNat) (⟨e_42.Key,e_42.Item,e_42.Version,r_36.1,e_42.Last,e_42.Every,e_42.Days,e_42.Except,e_42.From,e_42.To,e_42.Prio,e_42.Tags,e_42.Gone⟩:Entry)))) 3 rfl (bI (by simp)) (bQ (v':=(gV n_5 13 (r_2.1.set (0+(r_15.1).toNat) (⟨e_42.Key,e_42.Item,e_42.Version,r_36.1,e_42.Last,e_42.Every,e_42.Days,e_42.Except,e_42.From,e_42.To,e_42.Prio,e_42.Tags,e_42.Gone⟩:Entry)))) 14 rfl (bI (by simp)) (bQ (v':=(gV n_5 13 (r_2.1.set (0+(r_15.1).toNat) (⟨e_42.Key,e_42.Item,e_42.Version,r_36.1,e_42.Last,e_42.Every,e_42.Days,e_42.Except,e_42.From,e_42.To,e_42.Prio,e_42.Tags,e_42.Gone⟩:Entry)))) 16 rfl (bI (by simp)) (ae (.ref n_5 (0+(r_15.1).toNat) 0) wz rfl (aJ qV rfl 4 rfl wz ?_)))))
      obtain ⟨e_44,hy_45,h_13⟩:=bind_some h_13
      refine kJ 0 il ft 1 sz3 rfl rfl hy_45 (⟨e_44.Key,e_44.Item,e_44.Version,e_44.First,r_39.1,e_44.Every,e_44.Days,e_44.Except,e_44.From,e_44.To,e_44.Prio,e_44.Tags,e_44.Gone⟩:Entry) rfl wz (bQ (v':=(gV n_5 13 ((r_2.1.set (0+(r_15.1).toNat) (⟨e_42.Key,e_42.Item,e_42.Version,r_36.1,e_42.Last,e_42.Every,e_42.Days,e_42.Except,e_42.From,e_42.To,e_42.Prio,e_42.Tags,e_42.Gone⟩:Entry)).set (0+(r_15.1).toNat) (⟨e_44.Key,e_44.Item,e_44.Version,e_44.First,r_39.1,e_44.Every,e_44.Days,e_44.Except,e_44.From,e_44.To,e_44.Prio,e_44.Tags,e_44.Gone⟩:Entry)))) 3 rfl (bI (by simp)) (bQ (v':=(gV n_5 13 ((r_2.1.set (0+(r_15.1).toNat) (⟨e_42.Key,e_42.Item,e_42.Version,r_36.1,e_42.Last,e_42.Every,e_42.Days,e_42.Except,e_42.From,e_42.To,e_42.Prio,e_42.Tags,e_42.Gone⟩:Entry)).set (0+(r_15.1).toNat) (⟨e_44.Key,e_44.Item,e_44.Version,e_44.First,r_39.1,e_44.Every,e_44.Days,e_44.Except,e_44.From,e_44.To,e_44.Prio,e_44.Tags,e_44.Gone⟩:Entry)))) 14 rfl (bI (by simp)) (bQ (v':=(gV n_5 13 ((r_2.1.set (0+(r_15.1).toNat) (⟨e_42.Key,e_42.Item,e_42.Version,r_36.1,e_42.Last,e_42.Every,e_42.Days,e_42.Except,e_42.From,e_42.To,e_42.Prio,e_42.Tags,e_42.Gone⟩:Entry)).set (0+(r_15.1).toNat) (⟨e_44.Key,e_44.Item,e_44.Version,e_44.First,r_39.1,e_44.Every,e_44.Days,e_44.Except,e_44.From,e_44.To,e_44.Prio,e_44.Tags,e_44.Gone⟩:Entry)))) 16 rfl (bI (by simp)) (aj ?_))))
      obtain rfl:=ah h_13
      exact cu
     ·refine aA rfl hc_35 (af (aa (ae (vB (r_19.1==2)) wz rfl (ae (vB (r_19.1==2)) wz rfl (aj ?_)))))
      rcases au h_13 with⟨hc_46,h_13⟩|⟨hc_46,h_13⟩
      ·refine aB rfl hc_46 (aa (ae (.ref n_5 (0+(r_15.1).toNat) 0) wz rfl (ae (.ref n_5 (0+(r_15.1).toNat) 0) wz rfl (ae (.ref (av 0) 0 0) wz rfl ?_))))
       obtain ⟨r_47,hr_48,h_13⟩:=bind_some h_13
       refine aW 0 [0] il ft (eY hr_48) rfl Du rfl (by kernel_rfl) (by kernel_rfl) (by kernel_rfl) (by kernel_rfl) (by kernel_rfl) (by kernel_rfl) (by kernel_rfl) (by decide) (by kernel_rfl) wz (vI r_47.1) (by kernel_rfl) ([((av 0),some (.cells 2 [(vL eI r_47.2.L),(vI r_47.2.f_at)])),(n_5,gB 13 Entry.enc r_2.1)]:Hp) (by kernel_rfl) (ae (.ref (av 0) 0 0) wz rfl ?_)
       obtain ⟨r_50,hr_51,h_13⟩:=bind_some h_13
       refine aW 0 [0] il ft (eY hr_51) rfl Du rfl (by kernel_rfl) (by kernel_rfl) (by kernel_rfl) (by kernel_rfl) (by kernel_rfl) (by kernel_rfl) (by kernel_rfl) (by decide) (by kernel_rfl) wz (vI r_50.1) (by kernel_rfl) ([((av 0),some (.cells 2 [(vL eI r_50.2.L),(vI r_50.2.f_at)])),(n_5,gB 13 Entry.enc r_2.1)]:Hp) (by kernel_rfl) (ae (.ref n_5 (0+(r_15.1).toNat) 0) wz rfl (aJ Cb rfl 5 rfl wz ?_))
       obtain ⟨e_53,hy_54,h_13⟩:=bind_some h_13
       refine kJ 0 il ft 1 sz3 rfl rfl hy_54 (⟨e_53.Key,e_53.Item,e_53.Version,e_53.First,e_53.Last,r_47.1,e_53.Days,e_53.Except,e_53.From,e_53.To,e_53.Prio,e_53.Tags,e_53.Gone⟩:Entry) rfl wz (bQ (v':=(gV n_5 13 (r_2.1.set (0+(r_15.1).toNat) (⟨e_53.Key,e_53.Item,e_53.Version,e_53.First,e_53.Last,r_47.1,e_53.Days,e_53.Except,e_53.From,e_53.To,e_53.Prio,e_53.Tags,e_53.Gone⟩:Entry)))) 3 rfl (bI (by simp)) (bQ (v':=(gV n_5 13 (r_2.1.set (0+(r_15.1).toNat) (⟨e_53.Key,e_53.Item,e_53.Version,e_53.First,e_53.Last,r_47.1,e_53.Days,e_53.Except,e_53.From,e_53.To,e_53.Prio,e_53.Tags,e_53.Gone⟩:Entry)))) 14 rfl (bI (by simp)) (bQ (v':=(gV n_5 13 (r_2.1.set (0+(r_15.1).toNat) (⟨e_53.Key,e_53.Item,e_53.Version,e_53.First,e_53.Last,r_47.1,e_53.Days,e_53.Except,e_53.From,e_53.To,e_53.Prio,e_53.Tags,e_53.Gone⟩:Entry)))) 16 rfl (bI (by simp)) (ae (.ref n_5 (0+(r_15.1).toNat) 0) wz rfl (aJ BB rfl 6 rfl wz ?_)))))
       obtain ⟨e_55,hy_56,h_13⟩:=bind_some h_13
       refine kJ 0 il ft 1 sz3 rfl rfl hy_56 (⟨e_55.Key,e_55.Item,e_55.Version,e_55.First,e_55.Last,e_55.Every,r_50.1,e_55.Except,e_55.From,e_55.To,e_55.Prio,e_55.Tags,e_55.Gone⟩:Entry) rfl wz (bQ (v':=(gV n_5 13 ((r_2.1.set (0+(r_15.1).toNat) (⟨e_53.Key,e_53.Item,e_53.Version,e_53.First,e_53.Last,r_47.1,e_53.Days,e_53.Except,e_53.From,e_53.To,e_53.Prio,e_53.Tags,e_53.Gone⟩:Entry)).set (0+(r_15.1).toNat) (⟨e_55.Key,e_55.Item,e_55.Version,e_55.First,e_55.Last,e_55.Every,r_50.1,e_55.Except,e_55.From,e_55.To,e_55.Prio,e_55.Tags,e_55.Gone⟩:Entry)))) 3 rfl (bI (by simp)) (bQ (v':=(gV n_5 13 ((r_2.1.set (0+(r_15.1).toNat) (⟨e_53.Key,e_53.Item,e_53.Version,e_53.First,e_53.Last,r_47.1,e_53.Days,e_53.Except,e_53.From,e_53.To,e_53.Prio,e_53.Tags,e_53.Gone⟩:Entry)).set (0+(r_15.1).toNat) (⟨e_55.Key,e_55.Item,e_55.Version,e_55.First,e_55.Last,e_55.Every,r_50.1,e_55.Except,e_55.From,e_55.To,e_55.Prio,e_55.Tags,e_55.Gone⟩:Entry)))) 14 rfl (bI (by simp)) (bQ (v':=(gV n_5 13 ((r_2.1.set (0+(r_15.1).toNat) (⟨e_53.Key,e_53.Item,e_53.Version,e_53.First,e_53.Last,r_47.1,e_53.Days,e_53.Except,e_53.From,e_53.To,e_53.Prio,e_53.Tags,e_53.Gone⟩:Entry)).set (0+(r_15.1).toNat) (⟨e_55.Key,e_55.Item,e_55.Version,e_55.First,e_55.Last,e_55.Every,r_50.1,e_55.Except,e_55.From,e_55.To,e_55.Prio,e_55.Tags,e_55.Gone⟩:Entry)))) 16 rfl (bI (by simp)) (aj ?_))))
       obtain rfl:=ah h_13
       exact cu
      ·refine aA rfl hc_46 (af (aa (ae (vB (r_19.1==3)) wz rfl (ae (vB (r_19.1==3)) wz rfl (aj ?_)))))
       rcases au h_13 with⟨hc_57,h_13⟩|⟨hc_57,h_13⟩
       ·refine aB rfl hc_57 (aa (ae (.ref n_5 (0+(r_15.1).toNat) 0) wz rfl (ae (.ref n_5 (0+(r_15.1).toNat) 0) wz rfl (ae (.ref n_5 (0+(r_15.1).toNat) 0) wz rfl (aJ rT rfl 7 rfl wz ?_)))))
        obtain ⟨e_58,hy_59,h_13⟩:=bind_some h_13
        refine lS 0 1 il ft qw sH rfl rfl hy_59 (vL eI e_58.Except) rfl wz ?_
        obtain ⟨r_60,hr_61,h_13⟩:=bind_some h_13
        refine yS [] (rX hr_61) rfl hb25 rfl (by kernel_rfl) (by kernel_rfl) (by kernel_rfl) (by kernel_rfl) (by kernel_rfl) rfl (by decide) (by kernel_rfl) wz ([((av 0),some (.cells 2 [(vL eI r_19.2.L),(vI r_19.2.f_at)])),(n_5,gB 13 Entry.enc r_2.1)]:Hp) (λ_=>by kernel_rfl) (λn_63=>ae (.ref (av 0) 0 0) wz rfl ?_)
        obtain ⟨r_64,hr_65,h_13⟩:=bind_some h_13
        refine aW 0 [0] il ft (eY hr_65) rfl Du rfl (by kernel_rfl) (by kernel_rfl) (by kernel_rfl) (by kernel_rfl) (by kernel_rfl) (by kernel_rfl) (by kernel_rfl) (by decide) (by kernel_rfl) wz (vI r_64.1) (by kernel_rfl) ([((av 0),some (.cells 2 [(vL eI r_64.2.L),(vI r_64.2.f_at)])),(n_5,gB 13 Entry.enc r_2.1),(n_63,gB 1 eI r_60)]:Hp) (by kernel_rfl) (dW (([r_64.1]:List Int).map eI) iE pW rfl rfl rfl rfl rfl wz ?_)
        obtain ⟨a_67,hz_68,h_13⟩:=bind_some h_13
        refine mq 0 il ft (i:=2) wP wP sz3 z3 rfl (by decide) by3 (by decide) (λ_=>rfl) rfl rfl rfl hz_68 wz (λn_69=>ae (.ref n_5 (0+(r_15.1).toNat) 0) wz rfl (aJ rT rfl 7 rfl wz (JU (λhw=>gX 2 rfl hw) (by kernel_rfl) (JU (λhw=>dY 91 2 rfl rfl hw) (by kernel_rfl) ?_))))
        obtain ⟨e_70,hy_71,h_13⟩:=bind_some h_13
        refine kJ 0 il ft 1 qw rfl rfl hy_71 (⟨e_70.Key,e_70.Item,e_70.Version,e_70.First,e_70.Last,e_70.Every,e_70.Days,a_67,e_70.From,e_70.To,e_70.Prio,e_70.Tags,e_70.Gone⟩:Entry) rfl wz (bQ (v':=(gV n_5 13 (r_2.1.set (0+(r_15.1).toNat) (⟨e_70.Key,e_70.Item,e_70.Version,e_70.First,e_70.Last,e_70.Every,e_70.Days,a_67,e_70.From,e_70.To,e_70.Prio,e_70.Tags,e_70.Gone⟩:Entry)))) 3 rfl (bI (by simp)) (bQ (v':=(gV n_5 13 (r_2.1.set (0+(r_15.1).toNat) (⟨e_70.Key,e_70.Item,e_70.Version,e_70.First,e_70.Last,e_70.Every,e_70.Days,a_67,e_70.From,e_70.To,e_70.Prio,e_70.Tags,e_70.Gone⟩:Entry)))) 14 rfl (bI (by simp)) (bQ (v':=(gV n_5 13 (r_2.1.set (0+(r_15.1).toNat) (⟨e_70.Key,e_70.Item,e_70.Version,e_70.First,e_70.Last,e_70.Every,e_70.Days,a_67,e_70.From,e_70.To,e_70.Prio,e_70.Tags,e_70.Gone⟩:Entry)))) 16 rfl (bI (by simp)) (aj ?_))))
        obtain rfl:=ah h_13
        exact cu
       ·refine aA rfl hc_57 (af (aa (ae (vB (r_19.1==4)) wz rfl (ae (vB (r_19.1==4)) wz rfl (aj ?_)))))
        rcases au h_13 with⟨hc_72,h_13⟩|⟨hc_72,h_13⟩
        ·refine aB rfl hc_72 (aa (ae (.ref n_5 (0+(r_15.1).toNat) 0) wz rfl (ae (.ref n_5 (0+(r_15.1).toNat) 0) wz rfl (ae (.ref (av 0) 0 0) wz rfl ?_))))
         obtain ⟨r_73,hr_74,h_13⟩:=bind_some h_13
         refine aW 0 [0] il ft (eY hr_74) rfl Du rfl (by kernel_rfl) (by kernel_rfl) (by kernel_rfl) (by kernel_rfl) (by kernel_rfl) (by kernel_rfl) (by kernel_rfl) (by decide) (by kernel_rfl) wz (vI r_73.1) (by kernel_rfl) ([((av 0),some (.cells 2 [(vL eI r_73.2.L),(vI r_73.2.f_at)])),(n_5,gB 13 Entry.enc r_2.1)]:Hp) (by kernel_rfl) (ae (.ref (av 0) 0 0) wz rfl ?_)
         obtain ⟨r_76,hr_77,h_13⟩:=bind_some h_13
         refine aW 0 [0] il ft (eY hr_77) rfl Du rfl (by kernel_rfl) (by kernel_rfl) (by kernel_rfl) (by kernel_rfl) (by kernel_rfl) (by kernel_rfl) (by kernel_rfl) (by decide) (by kernel_rfl) wz (vI r_76.1) (by kernel_rfl) ([((av 0),some (.cells 2 [(vL eI r_76.2.L),(vI r_76.2.f_at)])),(n_5,gB 13 Entry.enc r_2.1)]:Hp) (by kernel_rfl) (ae (.ref n_5 (0+(r_15.1).toNat) 0) wz rfl (aJ xK rfl 8 rfl wz ?_))
         obtain ⟨e_79,hy_80,h_13⟩:=bind_some h_13
         refine kJ 0 il ft 1 sz3 rfl rfl hy_80 (⟨e_79.Key,e_79.Item,e_79.Version,e_79.First,e_79.Last,e_79.Every,e_79.Days,e_79.Except,r_73.1,e_79.To,e_79.Prio,e_79.Tags,e_79.Gone⟩:Entry) rfl wz (bQ (v':=(gV n_5 13 (r_2.1.set (0+(r_15.1).toNat) (⟨e_79.Key,e_79.Item,e_79.Version,e_79.First,e_79.Last,e_79.Every,e_79.Days,e_79.Except,r_73.1,e_79.To,e_79.Prio,e_79.Tags,e_79.Gone⟩:Entry)))) 3 rfl (bI (by simp)) (bQ (v':=(gV n_5 13 (r_2.1.set (0+(r_15.1).toNat) (⟨e_79.Key,e_79.Item,e_79.Version,e_79.First,e_79.Last,e_79.Every,e_79.Days,e_79.Except,r_73.1,e_79.To,e_79.Prio,e_79.Tags,e_79.Gone⟩:Entry)))) 14 rfl (bI (by simp)) (bQ (v':=(gV n_5 13 (r_2.1.set (0+(r_15.1).toNat) (⟨e_79.Key,e_79.Item,e_79.Version,e_79.First,e_79.Last,e_79.Every,e_79.Days,e_79.Except,r_73.1,e_79.To,e_79.Prio,e_79.Tags,e_79.Gone⟩:Entry)))) 16 rfl (bI (by simp)) (ae (.ref n_5 (0+(r_15.1).toNat) 0) wz rfl (aJ BV rfl 9 rfl wz ?_)))))
         obtain ⟨e_81,hy_82,h_13⟩:=bind_some h_13
         refine kJ 0 il ft 1 sz3 rfl rfl hy_82 (⟨e_81.Key,e_81.Item,e_81.Version,e_81.First,e_81.Last,e_81.Every,e_81.Days,e_81.Except,e_81.From,r_76.1,e_81.Prio,e_81.Tags,e_81.Gone⟩:Entry) rfl wz (bQ (v':=(gV n_5 13 ((r_2.1.set (0+(r_15.1).toNat) (⟨e_79.Key,e_79.Item,e_79.Version,e_79.First,e_79.Last,e_79.Every,e_79.Days,e_79.Except,r_73.1,e_79.To,e_79.Prio,e_79.Tags,e_79.Gone⟩:Entry)).set (0+(r_15.1).toNat) (⟨e_81.Key,e_81.Item,e_81.Version,e_81.First,e_81.Last,e_81.Every,e_81.Days,e_81.Except,e_81.From,r_76.1,e_81.Prio,e_81.Tags,e_81.Gone⟩:Entry)))) 3 rfl (bI (by simp)) (bQ (v':=(gV n_5 13 ((r_2.1.set (0+(r_15.1).toNat) (⟨e_79.Key,e_79.Item,e_79.Version,e_79.First,e_79.Last,e_79.Every,e_79.Days,e_79.Except,r_73.1,e_79.To,e_79.Prio,e_79.Tags,e_79.Gone⟩:Entry)).set (0+(r_15.1).toNat) (⟨e_81.Key,e_81.Item,e_81.Version,e_81.First,e_81.Last,e_81.Every,e_81.Days,e_81.Except,e_81.From,r_76.1,e_81.Prio,e_81.Tags,e_81.Gone⟩:Entry)))) 14 rfl (bI (by simp)) (bQ (v':=(gV n_5 13 ((r_2.1.set (0+(r_15.1).toNat) (⟨e_79.Key,e_79.Item,e_79.Version,e_79.First,e_79.Last,e_79.Every,e_79.Days,e_79.Except,r_73.1,e_79.To,e_79.Prio,e_79.Tags,e_79.Gone⟩:Entry)).set (0+(r_15.1).toNat) (⟨e_81.Key,e_81.Item,e_81.Version,e_81.First,e_81.Last,e_81.Every,e_81.Days,e_81.Except,e_81.From,r_76.1,e_81.Prio,e_81.Tags,e_81.Gone⟩:Entry)))) 16 rfl (bI (by simp)) (aj ?_))))
         obtain rfl:=ah h_13
         exact cu
        ·refine aA rfl hc_72 (bN (ae (.ref n_5 (0+(r_15.1).toNat) 0) wz rfl (ae (.ref n_5 (0+(r_15.1).toNat) 0) wz rfl (dW (([(⟨#[109,97,108,108]⟩:ByteArray),(⟨#[99,105,116,121]⟩:ByteArray)]:List ByteArray).map eS) nZ wQ rfl rfl rfl rfl rfl wz (dW (([(⟨#[]⟩:ByteArray)]:List ByteArray).map eS) nZ wQ rfl rfl rfl rfl rfl wz (dW (([(⟨#[97]⟩:ByteArray),(⟨#[97]⟩:ByteArray)]:List ByteArray).map eS) nZ wQ rfl rfl rfl rfl rfl wz (dW (([([(⟨#[109,97,108,108]⟩:ByteArray),(⟨#[99,105,116,121]⟩:ByteArray)]:List ByteArray),([(⟨#[]⟩:ByteArray)]:List ByteArray),([(⟨#[97]⟩:ByteArray),(⟨#[97]⟩:ByteArray)]:List ByteArray)]:List (List ByteArray)).map (eL eS)) KI ez63 rfl rfl rfl rfl rfl wz (ae (.ref (av 0) 0 0) wz rfl ?_))))))))
         obtain ⟨r_83,hr_84,h_13⟩:=bind_some h_13
         refine aW 7 [0] (.inr (by kernel_rfl)) (λ_ _ ag=>by exact trivial) (dU hr_84) rfl C9 rfl (by kernel_rfl) (by kernel_rfl) (by kernel_rfl) (by kernel_rfl) (by kernel_rfl) (by kernel_rfl) (by kernel_rfl) (by decide) (by kernel_rfl) wz (vI r_83.1) (by kernel_rfl) ([((av 0),some (.cells 2 [(vL eI r_83.2.L),(vI r_83.2.f_at)])),(n_5,gB 13 Entry.enc r_2.1)]:Hp) (by kernel_rfl) ?_
         obtain ⟨y_86,hy_87,h_13⟩:=bind_some h_13
         refine dL KI rfl rfl hy_87 rfl wz (bz yT Bb rfl (vL eS y_86) rfl wz (ae (.ref (av 0) 0 0) wz rfl ?_))
         obtain ⟨r_88,hr_89,h_13⟩:=bind_some h_13
         refine aW 11 [0] (.inr (by kernel_rfl)) (λ_ _ ag=>by exact⟨.inr (.inr (by kernel_rfl)),trivial⟩) (eY hr_89) rfl Du rfl (by kernel_rfl) (by kernel_rfl) (by kernel_rfl) (by kernel_rfl) (by kernel_rfl) (by kernel_rfl) (by kernel_rfl) (by decide) (by kernel_rfl) wz (vI r_88.1) (by kernel_rfl) ([((av 0),some (.cells 2 [(vL eI r_88.2.L),(vI r_88.2.f_at)])),(n_5,gB 13 Entry.enc r_2.1)]:Hp) (by kernel_rfl) (ae (.ref n_5 (0+(r_15.1).toNat) 0) wz rfl (aJ ug rfl 11 rfl wz ?_))
         obtain ⟨e_91,hy_92,h_13⟩:=bind_some h_13
         refine kJ 14 (.inr (by kernel_rfl)) (λ_ _ ag=>⟨.inr (.inr (by kernel_rfl)),⟨.inr (.inr (by kernel_rfl)),trivial⟩⟩) 1 yT rfl rfl hy_92 (⟨e_91.Key,e_91.Item,e_91.Version,e_91.First,e_91.Last,e_91.Every,e_91.Days,e_91.Except,e_91.From,e_91.To,e_91.Prio,y_86,e_91.Gone⟩:Entry) rfl wz (bQ (v':=(gV n_5 13 (r_2.1.set (0+(r_15.1).toNat) (⟨e_91.Key,e_91.Item,e_91.Version,e_91.First,e_91.Last,e_91.Every,e_91.Days,e_91.Except,e_91.From,e_91.To,e_91.Prio,y_86,e_91.Gone⟩:Entry)))) 3 rfl (bI (by simp)) (bQ (v':=(gV n_5 13 (r_2.1.set (0+(r_15.1).toNat) (⟨e_91.Key,e_91.Item,e_91.Version,e_91.First,e_91.Last,e_91.Every,e_91.Days,e_91.Except,e_91.From,e_91.To,e_91.Prio,y_86,e_91.Gone⟩:Entry)))) 14 rfl (bI (by simp)) (bQ (v':=(gV n_5 13 (r_2.1.set (0+(r_15.1).toNat) (⟨e_91.Key,e_91.Item,e_91.Version,e_91.First,e_91.Last,e_91.Every,e_91.Days,e_91.Except,e_91.From,e_91.To,e_91.Prio,y_86,e_91.Gone⟩:Entry)))) 16 rfl (bI (by simp)) (ae (.ref n_5 (0+(r_15.1).toNat) 0) wz rfl (aJ mQ rfl 10 rfl wz ?_)))))
         obtain ⟨e_93,hy_94,h_13⟩:=bind_some h_13
         refine kJ 17 (.inr (by kernel_rfl)) (λ_ _ ag=>⟨.inr (.inr (by kernel_rfl)),⟨.inr (.inr (by kernel_rfl)),⟨.inr (.inr (by kernel_rfl)),trivial⟩⟩⟩) 1 sz3 rfl rfl hy_94 (⟨e_93.Key,e_93.Item,e_93.Version,e_93.First,e_93.Last,e_93.Every,e_93.Days,e_93.Except,e_93.From,e_93.To,r_88.1,e_93.Tags,e_93.Gone⟩:Entry) rfl wz (bQ (v':=(gV n_5 13 ((r_2.1.set (0+(r_15.1).toNat) (⟨e_91.Key,e_91.Item,e_91.Version,e_91.First,e_91.Last,e_91.Every,e_91.Days,e_91.Except,e_91.From,e_91.To,e_91.Prio,y_86,e_91.Gone⟩:Entry)).set (0+(r_15.1).toNat) (⟨e_93.Key,e_93.Item,e_93.Version,e_93.First,e_93.Last,e_93.Every,e_93.Days,e_93.Except,e_93.From,e_93.To,r_88.1,e_93.Tags,e_93.Gone⟩:Entry)))) 3 rfl (bI (by simp)) (bQ (v':=(gV n_5 13 ((r_2.1.set (0+(r_15.1).toNat) (⟨e_91.Key,e_91.Item,e_91.Version,e_91.First,e_91.Last,e_91.Every,e_91.Days,e_91.Except,e_91.From,e_91.To,e_91.Prio,y_86,e_91.Gone⟩:Entry)).set (0+(r_15.1).toNat) (⟨e_93.Key,e_93.Item,e_93.Version,e_93.First,e_93.Last,e_93.Every,e_93.Days,e_93.Except,e_93.From,e_93.To,r_88.1,e_93.Tags,e_93.Gone⟩:Entry)))) 14 rfl (bI (by simp)) (bQ (v':=(gV n_5 13 ((r_2.1.set (0+(r_15.1).toNat) (⟨e_91.Key,e_91.Item,e_91.Version,e_91.First,e_91.Last,e_91.Every,e_91.Days,e_91.Except,e_91.From,e_91.To,e_91.Prio,y_86,e_91.Gone⟩:Entry)).set (0+(r_15.1).toNat) (⟨e_93.Key,e_93.Item,e_93.Version,e_93.First,e_93.Last,e_93.Every,e_93.Days,e_93.Except,e_93.From,e_93.To,r_88.1,e_93.Tags,e_93.Gone⟩:Entry)))) 16 rfl (bI (by simp)) (aj ?_))))
         obtain rfl:=ah h_13
         exact cu
   ·refine aA rfl hc_14 (ax ?_)
    obtain rfl:=ah h_13
    exact cu
  ·rintro ⟨⟩ _ sl_ H_ hp_ hq_
   refine aN _ hp_ hq_ (af (aa (ae (gV n_5 13 v_12.1) wz rfl (ae (gV n_5 13 v_12.1) wz rfl (aj (gX 1 rfl (dY 2 1 rfl rfl (dY 3 1 rfl rfl (dY 106 1 rfl rfl ?_)))))))))
   obtain rfl:=ah hF
   exact aC (qK (.inr rfl) [(vL Entry.enc v_12.1)] _ [0] [av 0] ⟨rfl,trivial⟩ (.cons (iy rfl rfl) (.nil)) (by kernel_rfl) ⟨(by kernel_rfl),trivial⟩ (by decide) (by kernel_rfl))
theorem rQ {s_1:Stream} {r:Player×Stream} (hF:iB s_1=some r) :
  FnM Tryz.prog 26 [(.ref (av 0) 0 0)] [(.cells 2 [(vL eI s_1.L),(vI s_1.f_at)])] (.d (.agg (Player.enc r.1))) [some (.cells 2 [(vL eI r.2.L),(vI r.2.f_at)])]:=by
 refine FnM.of_wH ⟨Tryz.prog,14,[],[]⟩ rfl Tryz.func26 rfl rfl (lb_ rfl) (by kernel_rfl) ?_
 unfold iB at hF
 refine af (aa (bR 0 (.inl rfl) z30 rfl wz (λn_2=>aj (af (aa (ae (.ref (av 0) 0 0) wz rfl (dW (([0,0,60,(-90),1440]:List Int).map eI) iE pW rfl rfl rfl rfl rfl wz ?_)))))))
 obtain ⟨r_3,hr_4,hF⟩:=bind_some hF
 refine aW 0 [0] il ft (dz hr_4) rfl AU rfl (by kernel_rfl) (by kernel_rfl) (by kernel_rfl) (by kernel_rfl) (by kernel_rfl) (by kernel_rfl) (by kernel_rfl) (by decide) (by kernel_rfl) wz (vI r_3.1) (by kernel_rfl) ([((av 0),some (.cells 2 [(vL eI r_3.2.L),(vI r_3.2.f_at)])),(n_2,some (.cells 4 [(vS (⟨#[]⟩:ByteArray)),(vS (⟨#[]⟩:ByteArray)),(vI 0),.nil]))]:Hp) (by kernel_rfl) (dW (([(⟨#[99,105,116,121]⟩:ByteArray)]:List ByteArray).map eS) nZ wQ rfl rfl rfl rfl rfl wz (dW (([(⟨#[99,105,116,121]⟩:ByteArray),(⟨#[109,97,108,108]⟩:ByteArray)]:List ByteArray).map eS) nZ wQ rfl rfl rfl rfl rfl wz (dW (([([]:List ByteArray),([(⟨#[99,105,116,121]⟩:ByteArray)]:List ByteArray),([(⟨#[99,105,116,121]⟩:ByteArray),(⟨#[109,97,108,108]⟩:ByteArray)]:List ByteArray)]:List (List ByteArray)).map (eL eS)) KI ez63 rfl rfl rfl rfl rfl wz (ae (.ref (av 0) 0 0) wz rfl ?_))))
 obtain ⟨r_6,hr_7,hF⟩:=bind_some hF
 refine aW 0 [0] il ft (dU hr_7) rfl C9 rfl (by kernel_rfl) (by kernel_rfl) (by kernel_rfl) (by kernel_rfl) (by kernel_rfl) (by kernel_rfl) (by kernel_rfl) (by decide) (by kernel_rfl) wz (vI r_6.1) (by kernel_rfl) ([((av 0),some (.cells 2 [(vL eI r_6.2.L),(vI r_6.2.f_at)])),(n_2,some (.cells 4 [(vS (⟨#[]⟩:ByteArray)),(vS (⟨#[]⟩:ByteArray)),(vI 0),.nil]))]:Hp) (by kernel_rfl) ?_
 obtain ⟨y_9,hy_10,hF⟩:=bind_some hF
 refine dL KI rfl rfl hy_10 rfl wz (bz yT Bb rfl (vL eS y_9) rfl wz (ae (.d (.agg (Player.enc (⟨(⟨#[112]⟩:ByteArray),(⟨#[115,97]⟩:ByteArray),r_3.1,y_9⟩:Player)))) wz (by kernel_rfl) (eu 0 il ft 1 p8 rfl rfl [(vS (⟨#[112]⟩:ByteArray)),(vS (⟨#[115,97]⟩:ByteArray)),(vI r_3.1),(vL eS y_9)] rfl wz (aj ?_))))
 obtain rfl:=ah hF
 exact aC (qK (.inr rfl) [(.d (.agg (Player.enc (⟨(⟨#[112]⟩:ByteArray),(⟨#[115,97]⟩:ByteArray),r_3.1,y_9⟩:Player))))] _ [0] [av 0] ⟨⟨1,_,_,_,_,_,_,_,rfl,rfl,p8,uI,rfl⟩,trivial⟩ (.cons (iy rfl rfl) (.nil)) (by kernel_rfl) ⟨(by kernel_rfl),trivial⟩ (by decide) (by kernel_rfl))
end Go.Proofs.YtnjnggakgeommaaGreat.Law

