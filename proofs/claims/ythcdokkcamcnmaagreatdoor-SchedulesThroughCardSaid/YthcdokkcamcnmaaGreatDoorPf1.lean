/-
 The machine computes these plain functions (written by a program of ours).
-/
import Derived.Test.YthcdokkcamcnmaaGreatDoorFacts
import Derived.Test.YthcdokkcamcnmaaGreatDoorDefs
open Go Go.Eng Go.Proofs
namespace Go.Proofs.YthcdokkcamcnmaaGreatDoor.Law
set_option maxRecDepth 100000
set_option linter.unusedVariables false
set_option maxHeartbeats 1000000
theorem vW {x_1:Int} {n_2:Int} {r:Int} (hF:qR x_1 n_2=some r) :
  FnM Tryz.prog 55 [(vI x_1),(vI n_2)] [] (vI r) []:=by
 refine FnM.of_wH ⟨Tryz.prog,16,[],[]⟩ rfl Tryz.func55 rfl rfl (lb_ rfl) (by kernel_rfl) ?_
 unfold qR at hF
 refine aj (aa (vI 0) (af (au (aj (aa (vI n_2) (aa (vB (decide (n_2<1))) (af ?_)))))))
 rcases ak hF with⟨hc_3,hF⟩|⟨hc_3,hF⟩
 ·refine aD rfl hc_3 (aj (aa (vI 0) (af ?_)))
  obtain rfl:=ae hF
  exact aC (aL [(vI 0)] ⟨rfl,trivial⟩)
 ·refine aB rfl hc_3 (ay (aj (aa (vI x_1) (aa (vI n_2) ?_))))
  obtain ⟨q_4,hz_5,hF⟩:=bind_some hF
  refine Iz rfl rfl hz_5 wz (aa (vI q_4) (af (au (aj (aa (vI q_4) (aa (vB (decide (q_4<0))) (af ?_)))))))
  obtain ⟨v_6,h_7,hF⟩:=bind_some hF
  refine aQ [(0,(vI v_6))] [] ?_ ?_
  ·rcases ak h_7 with⟨hc_8,h_7⟩|⟨hc_8,h_7⟩
   ·refine aD rfl hc_8 (ax (aa (vI q_4) (aa (vI n_2) (aa (vI (w64 (q_4+n_2))) (aa (vI (w64 (q_4+n_2))) (af ?_))))))
    obtain rfl:=ae h_7
    exact cu
   ·refine aB rfl hc_8 (ay ?_)
    obtain rfl:=ae h_7
    exact cu
  ·rintro ⟨⟩ _ sl_ H_ hp_ hq_
   refine aO _ hp_ hq_ (aj (aa (vI v_6) (aa (vI v_6) (af ?_))))
   obtain rfl:=ae hF
   exact aC (aL [(vI v_6)] ⟨rfl,trivial⟩)
theorem fD {s_1:Stream} {n_2:Int} {r:Int×Stream} (hF:dX s_1 n_2=some r) :
  FnM Tryz.prog 26 [(.ref (av 0) 0 0),(vI n_2)] [(.cells 2 [(vL eI s_1.L),(vI s_1.f_at)])] (vI r.1) [some (.cells 2 [(vL eI r.2.L),(vI r.2.f_at)])]:=by
 refine FnM.of_wH ⟨Tryz.prog,64,[],[]⟩ rfl Tryz.func26 rfl rfl (lb_ rfl) (by kernel_rfl) ?_
 unfold dX at hF
 refine aj (aa (vI 0) (af (aj (aa (.ref (av 0) 0 0) (aa (.ref (av 0) 0 0) (aI Dz rfl 1 rfl wz (aA 0 0 il ft sz3 ag3 rfl rfl (vI s_1.f_at) rfl wz (aa (vI (w64 (s_1.f_at+1))) (aa (.ref (av 0) 0 0) (aI Dz rfl 1 rfl wz (eH 0 il ft 0 sz3 rfl rfl [(vL eI s_1.L),(vI (w64 (s_1.f_at+1)))] rfl wz (af (au (aj (aa (.ref (av 0) 0 0) (aa (.ref (av 0) 0 0) (aI FW rfl 0 rfl wz (aA 0 0 il ft sV vM rfl rfl (vL eI s_1.L) rfl wz (bN qc rfl wz (aa (vB ((s_1.L.length:Int)==0)) (af ?_)))))))))))))))))))))
 rcases ak hF with⟨hc_3,hF⟩|⟨hc_3,hF⟩
 ·refine aD rfl hc_3 (aj (aa (.ref (av 0) 0 0) (aa (.ref (av 0) 0 0) (aI Dz rfl 1 rfl wz (aA 0 0 il ft sz3 ag3 rfl rfl (vI (w64 (s_1.f_at+1))) rfl wz (aa (vI (w64 ((w64 (s_1.f_at+1))*7919))) (aa (vI n_2) ?_)))))))
  obtain ⟨r_4,hr_5,hF⟩:=bind_some hF
  refine aF (vW hr_5) rfl hb55 rfl rfl rfl rfl wz (aa (vI r_4) (af ?_))
  obtain rfl:=ae hF
  exact aC (qB (.inr rfl) [(vI r_4)] _ [0] [av 0] ⟨rfl,trivial⟩ (.cons (iq rfl rfl) (.nil)) (by kernel_rfl) ⟨(by kernel_rfl),trivial⟩ (by decide) (by kernel_rfl))
 ·refine aB rfl hc_3 (ay (au (dA (aa (.ref (av 0) 0 0) (aa (.ref (av 0) 0 0) (aI Dz rfl 1 rfl wz (aA 3 0 (.inr (by kernel_rfl)) (λ_ _ ag=>trivial) sz3 ag3 rfl rfl (vI (w64 (s_1.f_at+1))) rfl wz (aa (vI (w64 ((w64 (s_1.f_at+1))-1))) (aa (.ref (av 0) 0 0) (aa (.ref (av 0) 0 0) (aI FW rfl 0 rfl wz (aA 8 0 (.inr (by kernel_rfl)) (λ_ _ ag=>⟨.inl ⟨rfl,rfl⟩,trivial⟩) sV vM rfl rfl (vL eI s_1.L) rfl wz (bN qc rfl wz ?_)))))))))))))
  obtain ⟨q_6,hz_7,hF⟩:=bind_some hF
  refine Iz rfl rfl hz_7 wz (aa (vI q_6) (af (au (dA (aa (.ref (av 0) 0 0) (aa (.ref (av 0) 0 0) (aI Dz rfl 1 rfl wz (aA 3 0 (.inr (by kernel_rfl)) (λ_ _ ag=>trivial) sz3 ag3 rfl rfl (vI (w64 (s_1.f_at+1))) rfl wz (aa (vI (w64 ((w64 (s_1.f_at+1))-1))) (aa (.ref (av 0) 0 0) (aa (.ref (av 0) 0 0) (aI FW rfl 0 rfl wz (aA 8 0 (.inr (by kernel_rfl)) (λ_ _ ag=>⟨.inl ⟨rfl,rfl⟩,trivial⟩) sV vM rfl rfl (vL eI s_1.L) rfl wz (bN qc rfl wz ?_))))))))))))))
  obtain ⟨q_8,hz_9,hF⟩:=bind_some hF
  refine NC rfl rfl hz_9 wz (aa (vI q_8) (af (aO (H0:=([((av 0),some (.cells 2 [(vL eI s_1.L),(vI (w64 (s_1.f_at+1)))]))]:Hp)) ([(0,(.ref (av 0) 0 0)),(1,(vI n_2)),(5,(vI q_6)),(6,(vI q_8))]:SL_) (by kernel_rfl) (DJ (by kernel_rfl)) (aj (aa (.ref (av 0) 0 0) (aa (.ref (av 0) 0 0) (aI FW rfl 0 rfl wz (aA 0 0 il ft sV vM rfl rfl (vL eI s_1.L) rfl wz (aa (vI q_6) ?_)))))))))
  obtain ⟨y_10,hy_11,hF⟩:=bind_some hF
  refine eU iW rfl rfl hy_11 rfl wz (bI sz3 ag3 rfl (vI y_10) rfl wz ?_)
  obtain ⟨r_12,hr_13,hF⟩:=bind_some hF
  refine aF (vW hr_13) rfl hb55 rfl rfl rfl rfl wz (aa (vI q_8) (aa (vI q_6) (aa (vI (w64 (7919+q_6))) (aa (vI (w64 (q_8*(w64 (7919+q_6))))) (aa (vI (w64 (r_12+(w64 (q_8*(w64 (7919+q_6))))))) (aa (vI n_2) ?_))))))
  obtain ⟨r_14,hr_15,hF⟩:=bind_some hF
  refine aF (vW hr_15) rfl hb55 rfl rfl rfl rfl wz (aa (vI r_14) (af ?_))
  obtain rfl:=ae hF
  exact aC (qB (.inr rfl) [(vI r_14)] _ [0] [av 0] ⟨rfl,trivial⟩ (.cons (iq rfl rfl) (.nil)) (by kernel_rfl) ⟨(by kernel_rfl),trivial⟩ (by decide) (by kernel_rfl))
theorem fC {s_1:Stream} {n_2:Int} {r:Bool×Stream} (hF:bX s_1 n_2=some r) :
  FnM Tryz.prog 25 [(.ref (av 0) 0 0),(vI n_2)] [(.cells 2 [(vL eI s_1.L),(vI s_1.f_at)])] (vB r.1) [some (.cells 2 [(vL eI r.2.L),(vI r.2.f_at)])]:=by
 refine FnM.of_wH ⟨Tryz.prog,9,[],[]⟩ rfl Tryz.func25 rfl rfl (lb_ rfl) (by kernel_rfl) ?_
 unfold bX at hF
 refine aj (aa (vB false) (af (aj (aa (.ref (av 0) 0 0) (aa (vI n_2) ?_)))))
 obtain ⟨r_3,hr_4,hF⟩:=bind_some hF
 refine bA 0 [0] il ft (fD hr_4) rfl GL rfl (by kernel_rfl) (by kernel_rfl) (by kernel_rfl) (by kernel_rfl) (by kernel_rfl) (by kernel_rfl) (by kernel_rfl) (by decide) (by kernel_rfl) wz (vI r_3.1) (by kernel_rfl) ([((av 0),some (.cells 2 [(vL eI r_3.2.L),(vI r_3.2.f_at)]))]:Hp) (by kernel_rfl) (aa (vB (r_3.1==0)) (aa (vB (r_3.1==0)) (af ?_)))
 obtain rfl:=ae hF
 exact aC (qB (.inr rfl) [(vB (r_3.1==0))] _ [0] [av 0] ⟨rfl,trivial⟩ (.cons (iq rfl rfl) (.nil)) (by kernel_rfl) ⟨(by kernel_rfl),trivial⟩ (by decide) (by kernel_rfl))
theorem jN {s_1:Stream} {l_2:(List ByteArray)} {r:ByteArray×Stream} (hF:ig s_1 l_2=some r) :
  FnM Tryz.prog 27 [(.ref (av 0) 0 0),(vL eS l_2)] [(.cells 2 [(vL eI s_1.L),(vI s_1.f_at)])] (vS r.1) [some (.cells 2 [(vL eI r.2.L),(vI r.2.f_at)])]:=by
 refine FnM.of_wH ⟨Tryz.prog,12,[],[]⟩ rfl Tryz.func27 rfl rfl (lb_ rfl) (by kernel_rfl) ?_
 unfold ig at hF
 refine aj (aa (vS (⟨#[]⟩:ByteArray)) (af (aj (aa (vL eS l_2) (aa (.ref (av 0) 0 0) (aa (vL eS l_2) (bN xI rfl wz ?_)))))))
 obtain ⟨r_3,hr_4,hF⟩:=bind_some hF
 refine bA 0 [0] il ft (fD hr_4) rfl GL rfl (by kernel_rfl) (by kernel_rfl) (by kernel_rfl) (by kernel_rfl) (by kernel_rfl) (by kernel_rfl) (by kernel_rfl) (by decide) (by kernel_rfl) wz (vI r_3.1) (by kernel_rfl) ([((av 0),some (.cells 2 [(vL eI r_3.2.L),(vI r_3.2.f_at)]))]:Hp) (by kernel_rfl) ?_
 obtain ⟨y_6,hy_7,hF⟩:=bind_some hF
 refine eU mQ rfl rfl hy_7 rfl wz (bI sz9 ag9 rfl (vS y_6) rfl wz (aa (vS y_6) (af ?_)))
 obtain rfl:=ae hF
 exact aC (qB (.inr rfl) [(vS y_6)] _ [0] [av 0] ⟨rfl,trivial⟩ (.cons (iq rfl rfl) (.nil)) (by kernel_rfl) ⟨(by kernel_rfl),trivial⟩ (by decide) (by kernel_rfl))
theorem qZ {s_1:Stream} {low_2:Int} {high_3:Int} {r:Int×Stream} (hF:jI s_1 low_2 high_3=some r) :
  FnM Tryz.prog 54 [(.ref (av 0) 0 0),(vI low_2),(vI high_3)] [(.cells 2 [(vL eI s_1.L),(vI s_1.f_at)])] (vI r.1) [some (.cells 2 [(vL eI r.2.L),(vI r.2.f_at)])]:=by
 refine FnM.of_wH ⟨Tryz.prog,19,[],[]⟩ rfl Tryz.func54 rfl rfl (lb_ rfl) (by kernel_rfl) ?_
 unfold jI at hF
 refine aj (aa (vI 0) (af (au (aj (aa (vI high_3) (aa (vI low_2) (aa (vB (decide (high_3<low_2))) (af ?_))))))))
 rcases ak hF with⟨hc_4,hF⟩|⟨hc_4,hF⟩
 ·refine aD rfl hc_4 (aj (aa (vI low_2) (aa (vI low_2) (af ?_))))
  obtain rfl:=ae hF
  exact aC (qB (.inr rfl) [(vI low_2)] _ [0] [av 0] ⟨rfl,trivial⟩ (.cons (iq rfl rfl) (.nil)) (by kernel_rfl) ⟨(by kernel_rfl),trivial⟩ (by decide) (by kernel_rfl))
 ·refine aB rfl hc_4 (ay (aj (aa (vI low_2) (aa (.ref (av 0) 0 0) (aa (vI high_3) (aa (vI low_2) (aa (vI (w64 (high_3-low_2))) (aa (vI (w64 ((w64 (high_3-low_2))+1))) ?_))))))))
  obtain ⟨r_5,hr_6,hF⟩:=bind_some hF
  refine bA 0 [0] il ft (fD hr_6) rfl GL rfl (by kernel_rfl) (by kernel_rfl) (by kernel_rfl) (by kernel_rfl) (by kernel_rfl) (by kernel_rfl) (by kernel_rfl) (by decide) (by kernel_rfl) wz (vI r_5.1) (by kernel_rfl) ([((av 0),some (.cells 2 [(vL eI r_5.2.L),(vI r_5.2.f_at)]))]:Hp) (by kernel_rfl) (aa (vI (w64 (low_2+r_5.1))) (aa (vI (w64 (low_2+r_5.1))) (af ?_)))
  obtain rfl:=ae hF
  exact aC (qB (.inr rfl) [(vI (w64 (low_2+r_5.1)))] _ [0] [av 0] ⟨rfl,trivial⟩ (.cons (iq rfl rfl) (.nil)) (by kernel_rfl) ⟨(by kernel_rfl),trivial⟩ (by decide) (by kernel_rfl))
theorem dw {s_1:Stream} {l_2:(List Int)} {r:Int×Stream} (hF:cB s_1 l_2=some r) :
  FnM Tryz.prog 31 [(.ref (av 0) 0 0),(vL eI l_2)] [(.cells 2 [(vL eI s_1.L),(vI s_1.f_at)])] (vI r.1) [some (.cells 2 [(vL eI r.2.L),(vI r.2.f_at)])]:=by
 refine FnM.of_wH ⟨Tryz.prog,12,[],[]⟩ rfl Tryz.func31 rfl rfl (lb_ rfl) (by kernel_rfl) ?_
 unfold cB at hF
 refine aj (aa (vI 0) (af (aj (aa (vL eI l_2) (aa (.ref (av 0) 0 0) (aa (vL eI l_2) (bN qc rfl wz ?_)))))))
 obtain ⟨r_3,hr_4,hF⟩:=bind_some hF
 refine bA 0 [0] il ft (fD hr_4) rfl GL rfl (by kernel_rfl) (by kernel_rfl) (by kernel_rfl) (by kernel_rfl) (by kernel_rfl) (by kernel_rfl) (by kernel_rfl) (by decide) (by kernel_rfl) wz (vI r_3.1) (by kernel_rfl) ([((av 0),some (.cells 2 [(vL eI r_3.2.L),(vI r_3.2.f_at)]))]:Hp) (by kernel_rfl) ?_
 obtain ⟨y_6,hy_7,hF⟩:=bind_some hF
 refine eU iW rfl rfl hy_7 rfl wz (bI sz3 ag3 rfl (vI y_6) rfl wz (aa (vI y_6) (af ?_)))
 obtain rfl:=ae hF
 exact aC (qB (.inr rfl) [(vI y_6)] _ [0] [av 0] ⟨rfl,trivial⟩ (.cons (iq rfl rfl) (.nil)) (by kernel_rfl) ⟨(by kernel_rfl),trivial⟩ (by decide) (by kernel_rfl))
theorem rM {s_1:Stream} {r:(List Entry)×Stream} (hF:iC s_1=some r) :
  FnM Tryz.prog 24 [(.ref (av 0) 0 0)] [(.cells 2 [(vL eI s_1.L),(vI s_1.f_at)])] (gV (av 1) 13 r.1) (([(.cells 2 [(vL eI r.2.L),(vI r.2.f_at)])]:List Box).map some++gO 13 Entry.enc r.1):=by
 refine FnM.of_wH ⟨Tryz.prog,89,[],[]⟩ rfl Tryz.func24 rfl rfl (lb_ rfl) (by kernel_rfl) ?_
 unfold iC at hF
 refine aj (aa .nil (af (aj (aa .nil (af (au (aj (dU (([(⟨#[101,97]⟩:ByteArray),(⟨#[101,98]⟩:ByteArray),(⟨#[101,99]⟩:ByteArray),(⟨#[101,100]⟩:ByteArray)]:List ByteArray).map eS) mQ vR rfl rfl rfl rfl rfl wz (bN xI rfl wz (aa (vI 0) (af (kz (λn_8 => ?_)))))))))))))
 obtain ⟨o_13,hj_14,hF⟩:=bind_some hF
 obtain ⟨hn_6,hj_14⟩:=bf hj_14
 refine jl (σ:=(List Entry)×(List Int)×Int) (N:=Nm) (λp=>(λ(s_7:(List Entry)×(List Int)×Int) (n_10:Nm)=>([(3,(gV n_10 13 s_7.1))]:SL_)) p.1 p.2) (λp=>(λ(s_7:(List Entry)×(List Int)×Int) (n_10:Nm)=>([((av 0),some (.cells 2 [(vL eI s_7.2.1),(vI s_7.2.2)])),(n_10,gB 13 Entry.enc s_7.1)]:Hp)) p.1 p.2) (λ(k_2:Nat)=>(λp=>(λ(s_7:(List Entry)×(List Int)×Int) (n_10:Nm)=>([(0,(.ref (av 0) 0 0)),(3,(gV n_10 13 s_7.1)),(11,(vL eS ([(⟨#[101,97]⟩:ByteArray),(⟨#[101,98]⟩:ByteArray),(⟨#[101,99]⟩:ByteArray),(⟨#[101,100]⟩:ByteArray)]:List ByteArray))),(12,(vI (([(⟨#[101,97]⟩:ByteArray),(⟨#[101,98]⟩:ByteArray),(⟨#[101,99]⟩:ByteArray),(⟨#[101,100]⟩:ByteArray)]:List ByteArray).length:Int))),(13,(vI (k_2:Int)))]:SL_)) p.1 p.2)) (λk x s=>gq k x s) o_13 ([(⟨#[101,97]⟩:ByteArray),(⟨#[101,98]⟩:ByteArray),(⟨#[101,99]⟩:ByteArray),(⟨#[101,100]⟩:ByteArray)]:List ByteArray) ((([]:List Entry),s_1.L,s_1.f_at),n_8) hj_14 rfl (aJ rfl) ?_ ?_
 ·rintro ⟨k_2,l_3,s_7,n_10⟩ ⟨hL_12,hD_5⟩
  dsimp only at hL_12 hD_5
  cases l_3 with
  | nil =>
   obtain rfl:=ae hL_12
   refine aj (aa (vB (decide ((k_2:Int)<(([(⟨#[101,97]⟩:ByteArray),(⟨#[101,98]⟩:ByteArray),(⟨#[101,99]⟩:ByteArray),(⟨#[101,100]⟩:ByteArray)]:List ByteArray).length:Int)))) (af ?_))
   refine au (aB rfl (drop_nil hD_5) (aU ?_))
   exact aV (s_7,n_10) rfl rfl (aJ rfl)
  | cons x_4 l_3 =>
   obtain ⟨c_,hc_11,hL_12⟩:=bind_some hL_12
   refine aj (aa (vB (decide ((k_2:Int)<(([(⟨#[101,97]⟩:ByteArray),(⟨#[101,98]⟩:ByteArray),(⟨#[101,99]⟩:ByteArray),(⟨#[101,100]⟩:ByteArray)]:List ByteArray).length:Int)))) (af ?_))
   refine au (aD rfl (bz hD_5) (ay ?_))
   unfold gq at hc_11
   refine au (aN (aj (eU mQ rfl rfl (bH hD_5) rfl wz (bI sz9 ag9 rfl (vS x_4) rfl wz (aa (vS x_4) (af (au (aj (aa (.ref (av 0) 0 0) ?_)))))))))
   obtain ⟨r_15,hr_16,hc_11⟩:=bind_some hc_11
   refine bA 0 [0] il ft (fC hr_16) rfl GU rfl (by kernel_rfl) (by kernel_rfl) (by kernel_rfl) (by kernel_rfl) (by kernel_rfl) (by kernel_rfl) (by kernel_rfl) (by decide) (by kernel_rfl) wz (vB r_15.1) (by kernel_rfl) ([((av 0),some (.cells 2 [(vL eI r_15.2.L),(vI r_15.2.f_at)])),(n_10,gB 13 Entry.enc s_7.1)]:Hp) (by kernel_rfl) (af ?_)
   rcases ak hc_11 with⟨hc_18,hc_11⟩|⟨hc_18,hc_11⟩
   ·refine aD rfl hc_18 (aU (ax (fJ (bE hD_5 hn_6) wz rfl (aa (vI ((k_2+1:Nat):Int)) (af ?_)))))
    obtain rfl:=ae hc_11
    exact aS (k_2+1,l_3,(s_7.1,r_15.2.L,r_15.2.f_at),n_10) ⟨hL_12,aR hD_5⟩ (ls_ _) rfl (aJ rfl)
   ·refine aB rfl hc_18 (ay (aj (aa (vS x_4) (aa (.ref (av 0) 0 0) (dU (([(⟨#[105,97]⟩:ByteArray),(⟨#[105,98]⟩:ByteArray),(⟨#[105,99]⟩:ByteArray)]:List ByteArray).map eS) mQ vR rfl rfl rfl rfl rfl wz ?_)))))
    obtain ⟨r_19,hr_20,hc_11⟩:=bind_some hc_11
    refine bA 0 [0] il ft (jN hr_20) rfl Oc rfl (by kernel_rfl) (by kernel_rfl) (by kernel_rfl) (by kernel_rfl) (by kernel_rfl) (by kernel_rfl) (by kernel_rfl) (by decide) (by kernel_rfl) wz (vS r_19.1) (by kernel_rfl) ([((av 0),some (.cells 2 [(vL eI r_19.2.L),(vI r_19.2.f_at)])),(n_10,gB 13 Entry.enc s_7.1)]:Hp) (by kernel_rfl) (aa (.ref (av 0) 0 0) ?_)
    obtain ⟨r_22,hr_23,hc_11⟩:=bind_some hc_11
    refine bA 0 [0] il ft (qZ hr_23) rfl hb54 rfl (by kernel_rfl) (by kernel_rfl) (by kernel_rfl) (by kernel_rfl) (by kernel_rfl) (by kernel_rfl) (by kernel_rfl) (by decide) (by kernel_rfl) wz (vI r_22.1) (by kernel_rfl) ([((av 0),some (.cells 2 [(vL eI r_22.2.L),(vI r_22.2.f_at)])),(n_10,gB 13 Entry.enc s_7.1)]:Hp) (by kernel_rfl) (aa (.ref (av 0) 0 0) (dU (([0,0,1,3]:List Int).map eI) iW qA rfl rfl rfl rfl rfl wz ?_))
    obtain ⟨r_25,hr_26,hc_11⟩:=bind_some hc_11
    refine bA 0 [0] il ft (dw hr_26) rfl BV rfl (by kernel_rfl) (by kernel_rfl) (by kernel_rfl) (by kernel_rfl) (by kernel_rfl) (by kernel_rfl) (by kernel_rfl) (by decide) (by kernel_rfl) wz (vI r_25.1) (by kernel_rfl) ([((av 0),some (.cells 2 [(vL eI r_25.2.L),(vI r_25.2.f_at)])),(n_10,gB 13 Entry.enc s_7.1)]:Hp) (by kernel_rfl) (aa (.ref (av 0) 0 0) (dU (([1,1,2,3,7]:List Int).map eI) iW qA rfl rfl rfl rfl rfl wz ?_))
    obtain ⟨r_28,hr_29,hc_11⟩:=bind_some hc_11
    refine bA 0 [0] il ft (dw hr_29) rfl BV rfl (by kernel_rfl) (by kernel_rfl) (by kernel_rfl) (by kernel_rfl) (by kernel_rfl) (by kernel_rfl) (by kernel_rfl) (by decide) (by kernel_rfl) wz (vI r_28.1) (by kernel_rfl) ([((av 0),some (.cells 2 [(vL eI r_28.2.L),(vI r_28.2.f_at)])),(n_10,gB 13 Entry.enc s_7.1)]:Hp) (by kernel_rfl) (aa (.ref (av 0) 0 0) (dU (([127,127,31,96,1,2]:List Int).map eI) iW qA rfl rfl rfl rfl rfl wz ?_))
    obtain ⟨r_31,hr_32,hc_11⟩:=bind_some hc_11
    refine bA 0 [0] il ft (dw hr_32) rfl BV rfl (by kernel_rfl) (by kernel_rfl) (by kernel_rfl) (by kernel_rfl) (by kernel_rfl) (by kernel_rfl) (by kernel_rfl) (by decide) (by kernel_rfl) wz (vI r_31.1) (by kernel_rfl) ([((av 0),some (.cells 2 [(vL eI r_31.2.L),(vI r_31.2.f_at)])),(n_10,gB 13 Entry.enc s_7.1)]:Hp) (by kernel_rfl) (aa (.ref (av 0) 0 0) (dU (([0,0,60,600,1380]:List Int).map eI) iW qA rfl rfl rfl rfl rfl wz ?_))
    obtain ⟨r_34,hr_35,hc_11⟩:=bind_some hc_11
    refine bA 0 [0] il ft (dw hr_35) rfl BV rfl (by kernel_rfl) (by kernel_rfl) (by kernel_rfl) (by kernel_rfl) (by kernel_rfl) (by kernel_rfl) (by kernel_rfl) (by decide) (by kernel_rfl) wz (vI r_34.1) (by kernel_rfl) ([((av 0),some (.cells 2 [(vL eI r_34.2.L),(vI r_34.2.f_at)])),(n_10,gB 13 Entry.enc s_7.1)]:Hp) (by kernel_rfl) (aa (.ref (av 0) 0 0) (dU (([0,60,120,600,720,1439]:List Int).map eI) iW qA rfl rfl rfl rfl rfl wz ?_))
    obtain ⟨r_37,hr_38,hc_11⟩:=bind_some hc_11
    refine bA 0 [0] il ft (dw hr_38) rfl BV rfl (by kernel_rfl) (by kernel_rfl) (by kernel_rfl) (by kernel_rfl) (by kernel_rfl) (by kernel_rfl) (by kernel_rfl) (by decide) (by kernel_rfl) wz (vI r_37.1) (by kernel_rfl) ([((av 0),some (.cells 2 [(vL eI r_37.2.L),(vI r_37.2.f_at)])),(n_10,gB 13 Entry.enc s_7.1)]:Hp) (by kernel_rfl) (aa (.ref (av 0) 0 0) (dU (([0,0,1,5]:List Int).map eI) iW qA rfl rfl rfl rfl rfl wz ?_))
    obtain ⟨r_40,hr_41,hc_11⟩:=bind_some hc_11
    refine bA 0 [0] il ft (dw hr_41) rfl BV rfl (by kernel_rfl) (by kernel_rfl) (by kernel_rfl) (by kernel_rfl) (by kernel_rfl) (by kernel_rfl) (by kernel_rfl) (by decide) (by kernel_rfl) wz (vI r_40.1) (by kernel_rfl) ([((av 0),some (.cells 2 [(vL eI r_40.2.L),(vI r_40.2.f_at)])),(n_10,gB 13 Entry.enc s_7.1)]:Hp) (by kernel_rfl) (aa (.ref (av 0) 0 0) ?_)
    obtain ⟨r_43,hr_44,hc_11⟩:=bind_some hc_11
    refine bA 0 [0] il ft (fC hr_44) rfl GU rfl (by kernel_rfl) (by kernel_rfl) (by kernel_rfl) (by kernel_rfl) (by kernel_rfl) (by kernel_rfl) (by kernel_rfl) (by decide) (by kernel_rfl) wz (vB r_43.1) (by kernel_rfl) ([((av 0),some (.cells 2 [(vL eI r_43.2.L),(vI r_43.2.f_at)])),(n_10,gB 13 Entry.enc s_7.1)]:Hp) (by kernel_rfl) (aK (.agg [(vS x_4),(vS r_19.1),(vI r_22.1),(vI r_25.1),(vI 0),(vI r_28.1),(vI r_31.1),.nil,(vI r_34.1),(vI r_37.1),(vI r_40.1),.nil,(vB r_43.1)]) wz (by kernel_rfl) (bR 0 (.inl rfl) z68 rfl wz (λn_46=>eH 0 il ft 2 iZ rfl rfl [(vS x_4),(vS r_19.1),(vI r_22.1),(vI r_25.1),(vI 0),(vI r_28.1),(vI r_31.1),.nil,(vI r_34.1),(vI r_37.1),(vI r_40.1),.nil,(vB r_43.1)] rfl wz (af (aO (H0:=([((av 0),some (.cells 2 [(vL eI r_43.2.L),(vI r_43.2.f_at)])),(n_10,gB 13 Entry.enc s_7.1),(n_46,some (.cells 13 [(vS x_4),(vS r_19.1),(vI r_22.1),(vI r_25.1),(vI 0),(vI r_28.1),(vI r_31.1),.nil,(vI r_34.1),(vI r_37.1),(vI r_40.1),.nil,(vB r_43.1)]))]:Hp)) ([(0,(.ref (av 0) 0 0)),(3,(gV n_10 13 s_7.1)),(6,(.ref n_46 0 0)),(11,(vL eS ([(⟨#[101,97]⟩:ByteArray),(⟨#[101,98]⟩:ByteArray),(⟨#[101,99]⟩:ByteArray),(⟨#[101,100]⟩:ByteArray)]:List ByteArray))),(12,(vI (([(⟨#[101,97]⟩:ByteArray),(⟨#[101,98]⟩:ByteArray),(⟨#[101,99]⟩:ByteArray),(⟨#[101,100]⟩:ByteArray)]:List ByteArray).length:Int))),(13,(vI (k_2:Int)))]:SL_) (by kernel_rfl) (DJ (by kernel_rfl)) (au (dA (aI rf rfl 3 rfl wz (aA 1 2 (.inr (by kernel_rfl)) (λ_ _ ag=>trivial) sz3 ag3 rfl rfl (vI r_25.1) rfl wz (aa (.ref (av 0) 0 0) (dU (([0,1,5,10,30]:List Int).map eI) iW qA rfl rfl rfl rfl rfl wz ?_)))))))))))
    obtain ⟨r_47,hr_48,hc_11⟩:=bind_some hc_11
    refine bA 4 [0] (.inr (by kernel_rfl)) (λ_ _ ag=>by exact⟨.inr (.inl (Lh (Fx ag (i:=0) (j:=2) rfl rfl (by decide)))),trivial⟩) (dw hr_48) rfl BV rfl (by kernel_rfl) (by kernel_rfl) (by kernel_rfl) (by kernel_rfl) (by kernel_rfl) (by kernel_rfl) (by kernel_rfl) (by decide) (by kernel_rfl) wz (vI r_47.1) (by kernel_rfl) ([((av 0),some (.cells 2 [(vL eI r_47.2.L),(vI r_47.2.f_at)])),(n_10,gB 13 Entry.enc s_7.1),(n_46,some (.cells 13 [(vS x_4),(vS r_19.1),(vI r_22.1),(vI r_25.1),(vI 0),(vI r_28.1),(vI r_31.1),.nil,(vI r_34.1),(vI r_37.1),(vI r_40.1),.nil,(vB r_43.1)]))]:Hp) (by kernel_rfl) (aa (vI (w64 (r_25.1+r_47.1))) (aI ru rfl 4 rfl wz (eH 7 (.inr (by kernel_rfl)) (λ_ _ ag=>⟨.inr (.inr (by kernel_rfl)),⟨.inr (.inr (by kernel_rfl)),trivial⟩⟩) 2 sz3 rfl rfl [(vS x_4),(vS r_19.1),(vI r_22.1),(vI r_25.1),(vI (w64 (r_25.1+r_47.1))),(vI r_28.1),(vI r_31.1),.nil,(vI r_34.1),(vI r_37.1),(vI r_40.1),.nil,(vB r_43.1)] rfl wz (af (au (aj (dU (([1,2,8]:List Int).map eI) iW qA rfl rfl rfl rfl rfl wz (bN qc rfl wz (aa (vI 0) (af (kz (λn_56 => ?_))))))))))))
    obtain ⟨o_61,hj_62,hc_11⟩:=bind_some hc_11
    obtain ⟨hn_54,hj_62⟩:=bf hj_62
    refine jl (σ:=(List Int)×(List Int)×Int) (N:=Nm) (λp=>(λ(s_55:(List Int)×(List Int)×Int) (n_58:Nm)=>([(0,(.ref (av 0) 0 0)),(3,(gV n_10 13 s_7.1)),(6,(.ref n_46 0 0)),(11,(vL eS ([(⟨#[101,97]⟩:ByteArray),(⟨#[101,98]⟩:ByteArray),(⟨#[101,99]⟩:ByteArray),(⟨#[101,100]⟩:ByteArray)]:List ByteArray))),(12,(vI (([(⟨#[101,97]⟩:ByteArray),(⟨#[101,98]⟩:ByteArray),(⟨#[101,99]⟩:ByteArray),(⟨#[101,100]⟩:ByteArray)]:List ByteArray).length:Int))),(13,(vI (k_2:Int)))]:SL_)) p.1 p.2) (λp=>(λ(s_55:(List Int)×(List Int)×Int) (n_58:Nm)=>([((av 0),some (.cells 2 [(vL eI s_55.2.1),(vI s_55.2.2)])),(n_10,gB 13 Entry.enc s_7.1),(n_46,some (.cells 13 [(vS x_4),(vS r_19.1),(vI r_22.1),(vI r_25.1),(vI (w64 (r_25.1+r_47.1))),(vI r_28.1),(vI r_31.1),(gV n_58 1 s_55.1),(vI r_34.1),(vI r_37.1),(vI r_40.1),.nil,(vB r_43.1)])),(n_58,gB 1 eI s_55.1)]:Hp)) p.1 p.2) (λ(k_50:Nat)=>(λp=>(λ(s_55:(List Int)×(List Int)×Int) (n_58:Nm)=>([(0,(.ref (av 0) 0 0)),(3,(gV n_10 13 s_7.1)),(6,(.ref n_46 0 0)),(11,(vL eS ([(⟨#[101,97]⟩:ByteArray),(⟨#[101,98]⟩:ByteArray),(⟨#[101,99]⟩:ByteArray),(⟨#[101,100]⟩:ByteArray)]:List ByteArray))),(12,(vI (([(⟨#[101,97]⟩:ByteArray),(⟨#[101,98]⟩:ByteArray),(⟨#[101,99]⟩:ByteArray),(⟨#[101,100]⟩:ByteArray)]:List ByteArray).length:Int))),(13,(vI (k_2:Int))),(53,(vL eI ([1,2,8]:List Int))),(54,(vI (([1,2,8]:List Int).length:Int))),(55,(vI (k_50:Int)))]:SL_)) p.1 p.2)) (λk x s=>iK k x s) o_61 ([1,2,8]:List Int) ((([]:List Int),r_47.2.L,r_47.2.f_at),n_56) hj_62 rfl (aJ rfl) ?_ ?_
    ·rintro ⟨k_50,l_51,s_55,n_58⟩ ⟨hL_60,hD_53⟩
     dsimp only at hL_60 hD_53
     cases l_51 with
     | nil =>
      obtain rfl:=ae hL_60
      refine aj (aa (vB (decide ((k_50:Int)<(([1,2,8]:List Int).length:Int)))) (af ?_))
      refine au (aB rfl (drop_nil hD_53) (aU ?_))
      exact aV (s_55,n_58) rfl rfl (aJ rfl)
     | cons x_52 l_51 =>
      obtain ⟨c_,hc_59,hL_60⟩:=bind_some hL_60
      refine aj (aa (vB (decide ((k_50:Int)<(([1,2,8]:List Int).length:Int)))) (af ?_))
      refine au (aD rfl (bz hD_53) (ay ?_))
      unfold iK at hc_59
      refine au (aN (aj (eU iW rfl rfl (bH hD_53) rfl wz (bI sz3 ag3 rfl (vI x_52) rfl wz (aa (vI x_52) (af (aj (aa (.ref (av 0) 0 0) ?_))))))))
      obtain ⟨r_63,hr_64,hc_59⟩:=bind_some hc_59
      refine bA 0 [0] il ft (fC hr_64) rfl GU rfl (by kernel_rfl) (by kernel_rfl) (by kernel_rfl) (by kernel_rfl) (by kernel_rfl) (by kernel_rfl) (by kernel_rfl) (by decide) (by kernel_rfl) wz (vB r_63.1) (by kernel_rfl) ([((av 0),some (.cells 2 [(vL eI r_63.2.L),(vI r_63.2.f_at)])),(n_10,gB 13 Entry.enc s_7.1),(n_46,some (.cells 13 [(vS x_4),(vS r_19.1),(vI r_22.1),(vI r_25.1),(vI (w64 (r_25.1+r_47.1))),(vI r_28.1),(vI r_31.1),(gV n_58 1 s_55.1),(vI r_34.1),(vI r_37.1),(vI r_40.1),.nil,(vB r_43.1)])),(n_58,gB 1 eI s_55.1)]:Hp) (by kernel_rfl) (af ?_)
      obtain ⟨v_66,h_67,hc_59⟩:=bind_some hc_59
      refine jO (β:=Nm) (λ(n_68:Nm)=>([(0,(.ref (av 0) 0 0)),(3,(gV n_10 13 s_7.1)),(6,(.ref n_46 0 0)),(11,(vL eS ([(⟨#[101,97]⟩:ByteArray),(⟨#[101,98]⟩:ByteArray),(⟨#[101,99]⟩:ByteArray),(⟨#[101,100]⟩:ByteArray)]:List ByteArray))),(12,(vI (([(⟨#[101,97]⟩:ByteArray),(⟨#[101,98]⟩:ByteArray),(⟨#[101,99]⟩:ByteArray),(⟨#[101,100]⟩:ByteArray)]:List ByteArray).length:Int))),(13,(vI (k_2:Int))),(53,(vL eI ([1,2,8]:List Int))),(54,(vI (([1,2,8]:List Int).length:Int))),(55,(vI (k_50:Int)))]:SL_)) (λ(n_68:Nm)=>([((av 0),some (.cells 2 [(vL eI r_63.2.L),(vI r_63.2.f_at)])),(n_10,gB 13 Entry.enc s_7.1),(n_46,some (.cells 13 [(vS x_4),(vS r_19.1),(vI r_22.1),(vI r_25.1),(vI (w64 (r_25.1+r_47.1))),(vI r_28.1),(vI r_31.1),(gV n_68 1 v_66),(vI r_34.1),(vI r_37.1),(vI r_40.1),.nil,(vB r_43.1)])),(n_68,gB 1 eI v_66)]:Hp)) (λ_=>True) ?_ ?_
      ·rcases ak h_67 with⟨hc_69,h_67⟩|⟨hc_69,h_67⟩
       ·refine aD rfl hc_69 (ax (aI sZ rfl 7 rfl wz (aA 0 2 il ft sV vM rfl rfl (gV n_58 1 s_55.1) rfl wz (aa (vI x_52) (dU (([x_52]:List Int).map eI) iW qA rfl rfl rfl rfl rfl wz ?_)))))
        obtain ⟨a_70,hz_71,h_67⟩:=bind_some h_67
        refine kI 0 il ft (i:=3) C9 C9 sz3 z3 rfl (by decide) by3 (by decide) (λ_=>rfl) rfl rfl rfl hz_71 wz (λn_72=>aI sZ rfl 7 rfl wz (eH 0 il ft 2 sV rfl rfl [(vS x_4),(vS r_19.1),(vI r_22.1),(vI r_25.1),(vI (w64 (r_25.1+r_47.1))),(vI r_28.1),(vI r_31.1),(gV n_72 1 a_70),(vI r_34.1),(vI r_37.1),(vI r_40.1),.nil,(vB r_43.1)] (stC_g rfl) wz (af ?_)))
        obtain rfl:=ae h_67
        exact aV n_72 trivial rfl (aJ rfl)
       ·refine aB rfl hc_69 (ay ?_)
        obtain rfl:=ae h_67
        exact aV n_58 trivial rfl (aJ rfl)
      ·rintro n_68 _ sl_ H_ hp_ hq_
       refine aO _ hp_ hq_ (ax (fJ (bE hD_53 hn_54) wz rfl (aa (vI ((k_50+1:Nat):Int)) (af ?_))))
       obtain rfl:=ae hc_59
       exact aS (k_50+1,l_51,(v_66,r_63.2.L,r_63.2.f_at),n_68) ⟨hL_60,aR hD_53⟩ (ls_ _) rfl (aJ rfl)
    ·rintro ⟨s_55,n_58⟩ ho_ sl_ H_ hp_ hq_
     subst ho_
     refine aO _ hp_ hq_ (au (aj (dU (([(⟨#[99,105,116,121]⟩:ByteArray),(⟨#[109,97,108,108]⟩:ByteArray)]:List ByteArray).map eS) mQ vR rfl rfl rfl rfl rfl wz (bN xI rfl wz (aa (vI 0) (af (kz (λn_79 => ?_))))))))
     obtain ⟨o_84,hj_85,hc_11⟩:=bind_some hc_11
     obtain ⟨hn_77,hj_85⟩:=bf hj_85
     refine jl (σ:=(List ByteArray)×(List Int)×Int) (N:=Nm) (λp=>(λ(s_78:(List ByteArray)×(List Int)×Int) (n_81:Nm)=>([(0,(.ref (av 0) 0 0)),(3,(gV n_10 13 s_7.1)),(6,(.ref n_46 0 0)),(11,(vL eS ([(⟨#[101,97]⟩:ByteArray),(⟨#[101,98]⟩:ByteArray),(⟨#[101,99]⟩:ByteArray),(⟨#[101,100]⟩:ByteArray)]:List ByteArray))),(12,(vI (([(⟨#[101,97]⟩:ByteArray),(⟨#[101,98]⟩:ByteArray),(⟨#[101,99]⟩:ByteArray),(⟨#[101,100]⟩:ByteArray)]:List ByteArray).length:Int))),(13,(vI (k_2:Int)))]:SL_)) p.1 p.2) (λp=>(λ(s_78:(List ByteArray)×(List Int)×Int) (n_81:Nm)=>([((av 0),some (.cells 2 [(vL eI s_78.2.1),(vI s_78.2.2)])),(n_10,gB 13 Entry.enc s_7.1),(n_46,some (.cells 13 [(vS x_4),(vS r_19.1),(vI r_22.1),(vI r_25.1),(vI (w64 (r_25.1+r_47.1))),(vI r_28.1),(vI r_31.1),(gV n_58 1 s_55.1),(vI r_34.1),(vI r_37.1),(vI r_40.1),(gV n_81 1 s_78.1),(vB r_43.1)])),(n_58,gB 1 eI s_55.1),(n_81,gB 1 eS s_78.1)]:Hp)) p.1 p.2) (λ(k_73:Nat)=>(λp=>(λ(s_78:(List ByteArray)×(List Int)×Int) (n_81:Nm)=>([(0,(.ref (av 0) 0 0)),(3,(gV n_10 13 s_7.1)),(6,(.ref n_46 0 0)),(11,(vL eS ([(⟨#[101,97]⟩:ByteArray),(⟨#[101,98]⟩:ByteArray),(⟨#[101,99]⟩:ByteArray),(⟨#[101,100]⟩:ByteArray)]:List ByteArray))),(12,(vI (([(⟨#[101,97]⟩:ByteArray),(⟨#[101,98]⟩:ByteArray),(⟨#[101,99]⟩:ByteArray),(⟨#[101,100]⟩:ByteArray)]:List ByteArray).length:Int))),(13,(vI (k_2:Int))),(68,(vL eS ([(⟨#[99,105,116,121]⟩:ByteArray),(⟨#[109,97,108,108]⟩:ByteArray)]:List ByteArray))),(69,(vI (([(⟨#[99,105,116,121]⟩:ByteArray),(⟨#[109,97,108,108]⟩:ByteArray)]:List ByteArray).length:Int))),(70,(vI (k_73:Int)))]:SL_)) p.1 p.2)) (λk x s=>iL k x s) o_84 ([(⟨#[99,105,116,121]⟩:ByteArray),(⟨#[109,97,108,108]⟩:ByteArray)]:List ByteArray) ((([]:List ByteArray),s_55.2.1,s_55.2.2),n_79) hj_85 rfl (aJ rfl) ?_ ?_
     ·rintro ⟨k_73,l_74,s_78,n_81⟩ ⟨hL_83,hD_76⟩
      dsimp only at hL_83 hD_76
      cases l_74 with
      | nil =>
       obtain rfl:=ae hL_83
       refine aj (aa (vB (decide ((k_73:Int)<(([(⟨#[99,105,116,121]⟩:ByteArray),(⟨#[109,97,108,108]⟩:ByteArray)]:List ByteArray).length:Int)))) (af ?_))
       refine au (aB rfl (drop_nil hD_76) (aU ?_))
       exact aV (s_78,n_81) rfl rfl (aJ rfl)
      | cons x_75 l_74 =>
       obtain ⟨c_,hc_82,hL_83⟩:=bind_some hL_83
       refine aj (aa (vB (decide ((k_73:Int)<(([(⟨#[99,105,116,121]⟩:ByteArray),(⟨#[109,97,108,108]⟩:ByteArray)]:List ByteArray).length:Int)))) (af ?_))
       refine au (aD rfl (bz hD_76) (ay ?_))
       unfold iL at hc_82
       refine au (aN (aj (eU mQ rfl rfl (bH hD_76) rfl wz (bI sz9 ag9 rfl (vS x_75) rfl wz (aa (vS x_75) (af (aj (aa (.ref (av 0) 0 0) ?_))))))))
       obtain ⟨r_86,hr_87,hc_82⟩:=bind_some hc_82
       refine bA 0 [0] il ft (fC hr_87) rfl GU rfl (by kernel_rfl) (by kernel_rfl) (by kernel_rfl) (by kernel_rfl) (by kernel_rfl) (by kernel_rfl) (by kernel_rfl) (by decide) (by kernel_rfl) wz (vB r_86.1) (by kernel_rfl) ([((av 0),some (.cells 2 [(vL eI r_86.2.L),(vI r_86.2.f_at)])),(n_10,gB 13 Entry.enc s_7.1),(n_46,some (.cells 13 [(vS x_4),(vS r_19.1),(vI r_22.1),(vI r_25.1),(vI (w64 (r_25.1+r_47.1))),(vI r_28.1),(vI r_31.1),(gV n_58 1 s_55.1),(vI r_34.1),(vI r_37.1),(vI r_40.1),(gV n_81 1 s_78.1),(vB r_43.1)])),(n_58,gB 1 eI s_55.1),(n_81,gB 1 eS s_78.1)]:Hp) (by kernel_rfl) (af ?_)
       obtain ⟨v_89,h_90,hc_82⟩:=bind_some hc_82
       refine jO (β:=Nm) (λ(n_91:Nm)=>([(0,(.ref (av 0) 0 0)),(3,(gV n_10 13 s_7.1)),(6,(.ref n_46 0 0)),(11,(vL eS ([(⟨#[101,97]⟩:ByteArray),(⟨#[101,98]⟩:ByteArray),(⟨#[101,99]⟩:ByteArray),(⟨#[101,100]⟩:ByteArray)]:List ByteArray))),(12,(vI (([(⟨#[101,97]⟩:ByteArray),(⟨#[101,98]⟩:ByteArray),(⟨#[101,99]⟩:ByteArray),(⟨#[101,100]⟩:ByteArray)]:List ByteArray).length:Int))),(13,(vI (k_2:Int))),(68,(vL eS ([(⟨#[99,105,116,121]⟩:ByteArray),(⟨#[109,97,108,108]⟩:ByteArray)]:List ByteArray))),(69,(vI (([(⟨#[99,105,116,121]⟩:ByteArray),(⟨#[109,97,108,108]⟩:ByteArray)]:List ByteArray).length:Int))),(70,(vI (k_73:Int)))]:SL_)) (λ(n_91:Nm)=>([((av 0),some (.cells 2 [(vL eI r_86.2.L),(vI r_86.2.f_at)])),(n_10,gB 13 Entry.enc s_7.1),(n_46,some (.cells 13 [(vS x_4),(vS r_19.1),(vI r_22.1),(vI r_25.1),(vI (w64 (r_25.1+r_47.1))),(vI r_28.1),(vI r_31.1),(gV n_58 1 s_55.1),(vI r_34.1),(vI r_37.1),(vI r_40.1),(gV n_91 1 v_89),(vB r_43.1)])),(n_58,gB 1 eI s_55.1),(n_91,gB 1 eS v_89)]:Hp)) (λ_=>True) ?_ ?_
       ·rcases ak h_90 with⟨hc_92,h_90⟩|⟨hc_92,h_90⟩
        ·refine aD rfl hc_92 (ax (aI uV rfl 11 rfl wz (aA 0 2 il ft zS BP rfl rfl (gV n_81 1 s_78.1) rfl wz (aa (vS x_75) (dU (([x_75]:List ByteArray).map eS) mQ vR rfl rfl rfl rfl rfl wz ?_)))))
         obtain ⟨a_93,hz_94,h_90⟩:=bind_some h_90
         refine kI 0 il ft (i:=4) Lj Lj sz9 z9 rfl (by decide) by9 (by decide) (λ_=>rfl) rfl rfl rfl hz_94 wz (λn_95=>aI uV rfl 11 rfl wz (eH 0 il ft 2 zS rfl rfl [(vS x_4),(vS r_19.1),(vI r_22.1),(vI r_25.1),(vI (w64 (r_25.1+r_47.1))),(vI r_28.1),(vI r_31.1),(gV n_58 1 s_55.1),(vI r_34.1),(vI r_37.1),(vI r_40.1),(gV n_95 1 a_93),(vB r_43.1)] (stC_g rfl) wz (af ?_)))
         obtain rfl:=ae h_90
         exact aV n_95 trivial rfl (aJ rfl)
        ·refine aB rfl hc_92 (ay ?_)
         obtain rfl:=ae h_90
         exact aV n_81 trivial rfl (aJ rfl)
       ·rintro n_91 _ sl_ H_ hp_ hq_
        refine aO _ hp_ hq_ (ax (fJ (bE hD_76 hn_77) wz rfl (aa (vI ((k_73+1:Nat):Int)) (af ?_))))
        obtain rfl:=ae hc_82
        exact aS (k_73+1,l_74,(v_89,r_86.2.L,r_86.2.f_at),n_91) ⟨hL_83,aR hD_76⟩ (ls_ _) rfl (aJ rfl)
     ·rintro ⟨s_78,n_81⟩ ho_ sl_ H_ hp_ hq_
      subst ho_
      refine aO _ hp_ hq_ (iw 3 rfl (iw 4 rfl (wH_coc2 3 4 2 [(vS x_4),(vS r_19.1),(vI r_22.1),(vI r_25.1),(vI (w64 (r_25.1+r_47.1))),(vI r_28.1),(vI r_31.1),(vL eI s_55.1),(vI r_34.1),(vI r_37.1),(vI r_40.1),(vL eS s_78.1),(vB r_43.1)] rfl rfl rfl (λS hS hS2=>mH (rfl) (mH (rfl) (mH (rfl) (mH (rfl) (mH (rfl) (mH (rfl) (mH (rfl) (mH (hS) (mH (rfl) (mH (rfl) (mH (rfl) (mH (hS2) (mH (rfl) (rfl)))))))))))))) (ax (aa (gV n_10 13 s_7.1) (aA 0 2 il ft iZ kK rfl rfl (.d (.agg (Entry.enc (⟨x_4,r_19.1,r_22.1,r_25.1,(w64 (r_25.1+r_47.1)),r_28.1,r_31.1,s_55.1,r_34.1,r_37.1,r_40.1,s_78.1,r_43.1⟩:Entry)))) rfl wz (dU (([(⟨x_4,r_19.1,r_22.1,r_25.1,(w64 (r_25.1+r_47.1)),r_28.1,r_31.1,s_55.1,r_34.1,r_37.1,r_40.1,s_78.1,r_43.1⟩:Entry)]:List Entry).map Entry.enc) qh ez26 rfl rfl rfl rfl rfl wz ?_)))))))
      obtain ⟨a_96,hz_97,hc_11⟩:=bind_some hc_11
      refine kI 0 il ft (i:=1) el26 el26 iZ z68 rfl (by decide) by68 (by decide) (λ_=>rfl) rfl rfl rfl hz_97 wz (λn_98=>aa (gV n_98 13 a_96) (af (ax (fJ (bE hD_5 hn_6) wz rfl (aa (vI ((k_2+1:Nat):Int)) (af ?_))))))
      obtain rfl:=ae hc_11
      exact aS (k_2+1,l_3,(a_96,s_78.2.1,s_78.2.2),n_98) ⟨hL_12,aR hD_5⟩ (ls_ _) rfl (aJ rfl)
 ·rintro ⟨s_7,n_10⟩ ho_ sl_ H_ hp_ hq_
  subst ho_
  refine aO _ hp_ hq_ (aj (aa (gV n_10 13 s_7.1) (aa (gV n_10 13 s_7.1) (af ?_))))
  obtain rfl:=ae hF
  exact aC (LQ (outs:=([(.cells 2 [(vL eI s_7.2.1),(vI s_7.2.2)])]:List Box)) (.inr rfl) 1 rfl rfl rfl (by kernel_rfl) (by kernel_rfl))
theorem fu {s_1:Stream} {low_2:Int} {high_3:Int} {r:Int×Stream} (hF:ek s_1 low_2 high_3=some r) :
  FnM Tryz.prog 28 [(.ref (av 0) 0 0),(vI low_2),(vI high_3)] [(.cells 2 [(vL eI s_1.L),(vI s_1.f_at)])] (vI r.1) [some (.cells 2 [(vL eI r.2.L),(vI r.2.f_at)])]:=by
 refine FnM.of_wH ⟨Tryz.prog,22,[],[]⟩ rfl Tryz.func28 rfl rfl (lb_ rfl) (by kernel_rfl) ?_
 unfold ek at hF
 refine aj (aa (vI 0) (af (au (aj (aa (.ref (av 0) 0 0) ?_)))))
 obtain ⟨r_4,hr_5,hF⟩:=bind_some hF
 refine bA 0 [0] il ft (fC hr_5) rfl GU rfl (by kernel_rfl) (by kernel_rfl) (by kernel_rfl) (by kernel_rfl) (by kernel_rfl) (by kernel_rfl) (by kernel_rfl) (by decide) (by kernel_rfl) wz (vB r_4.1) (by kernel_rfl) ([((av 0),some (.cells 2 [(vL eI r_4.2.L),(vI r_4.2.f_at)]))]:Hp) (by kernel_rfl) (af ?_)
 rcases ak hF with⟨hc_7,hF⟩|⟨hc_7,hF⟩
 ·refine aD rfl hc_7 (aj (aa (.ref (av 0) 0 0) (aa (vI low_2) (aa (vI (w64 (low_2-1))) (aa (vI high_3) (aa (vI (w64 (high_3+1))) (aa (vI low_2) (aa (vI high_3) (dU (([(w64 (low_2-1)),(w64 (high_3+1)),low_2,high_3,(-1099511627776),1099511627776]:List Int).map eI) iW qA rfl rfl rfl rfl rfl wz ?_)))))))))
  obtain ⟨r_8,hr_9,hF⟩:=bind_some hF
  refine bA 0 [0] il ft (dw hr_9) rfl BV rfl (by kernel_rfl) (by kernel_rfl) (by kernel_rfl) (by kernel_rfl) (by kernel_rfl) (by kernel_rfl) (by kernel_rfl) (by decide) (by kernel_rfl) wz (vI r_8.1) (by kernel_rfl) ([((av 0),some (.cells 2 [(vL eI r_8.2.L),(vI r_8.2.f_at)]))]:Hp) (by kernel_rfl) (aa (vI r_8.1) (af ?_))
  obtain rfl:=ae hF
  exact aC (qB (.inr rfl) [(vI r_8.1)] _ [0] [av 0] ⟨rfl,trivial⟩ (.cons (iq rfl rfl) (.nil)) (by kernel_rfl) ⟨(by kernel_rfl),trivial⟩ (by decide) (by kernel_rfl))
 ·refine aB rfl hc_7 (ay (aj (aa (.ref (av 0) 0 0) (aa (vI low_2) (aa (vI high_3) ?_)))))
  obtain ⟨r_11,hr_12,hF⟩:=bind_some hF
  refine bA 0 [0] il ft (qZ hr_12) rfl hb54 rfl (by kernel_rfl) (by kernel_rfl) (by kernel_rfl) (by kernel_rfl) (by kernel_rfl) (by kernel_rfl) (by kernel_rfl) (by decide) (by kernel_rfl) wz (vI r_11.1) (by kernel_rfl) ([((av 0),some (.cells 2 [(vL eI r_11.2.L),(vI r_11.2.f_at)]))]:Hp) (by kernel_rfl) (aa (vI r_11.1) (af ?_))
  obtain rfl:=ae hF
  exact aC (qB (.inr rfl) [(vI r_11.1)] _ [0] [av 0] ⟨rfl,trivial⟩ (.cons (iq rfl rfl) (.nil)) (by kernel_rfl) ⟨(by kernel_rfl),trivial⟩ (by decide) (by kernel_rfl))
theorem sS {s_1:(List Int)} {r:(List Int)} (hF:iX s_1=some r) :
  FnM Tryz.prog 29 [(vL eI s_1)] [] (gV (av 0) 1 r) (([]:List Box).map some++gO 1 eI r):=by
 refine FnM.of_wH ⟨Tryz.prog,8,[],[]⟩ rfl Tryz.func29 rfl rfl (lb_ rfl) (by kernel_rfl) ?_
 unfold iX at hF
 refine aj (aa .nil (af (au (aj (aa (vL eI s_1) (h_nileq qc rfl wz (λb_2 hb_3=>af ?_)))))))
 cases b_2 with
 | true =>
  refine aD rfl rfl ?_
  obtain rfl:=hb_3 rfl
  replace hF:=LD hF
  refine aj (aa .nil (af (kz (λn_4 => ?_))))
  obtain rfl:=ae hF
  exact aC (LQ (outs:=([]:List Box)) (.inr rfl) 0 rfl rfl rfl (by kernel_rfl) (by kernel_rfl))
 | false =>
  refine aB rfl rfl (ay (aj (h_lit0 iW qA rfl wz (aa (vL eI s_1) ?_))))
  obtain ⟨a_5,hz_6,hF⟩:=bind_some hF
  refine h_appn 0 (.inl rfl) C9 C9 sz3 z3 rfl (by decide) by3 (by decide) (λ_=>rfl) rfl rfl hz_6 wz (λn_7=>aa (gV n_7 1 a_5) (af ?_))
  obtain rfl:=ae hF
  exact aC (LQ (outs:=([]:List Box)) (.inr rfl) 0 rfl rfl rfl (by kernel_rfl) (by kernel_rfl))
theorem vY {s_1:Stream} {r:(List Entry)×Stream} (hF:jT s_1=some r) :
  FnM Tryz.prog 4 [(.ref (av 0) 0 0)] [(.cells 2 [(vL eI s_1.L),(vI s_1.f_at)])] (vL Entry.enc r.1) [some (.cells 2 [(vL eI r.2.L),(vI r.2.f_at)])]:=by
 refine FnM.of_wH ⟨Tryz.prog,107,[],[]⟩ rfl Tryz.func4 rfl rfl (lb_ rfl) (by kernel_rfl) ?_
 unfold jT at hF
 refine aj (aa .nil (af (aj (aa (.ref (av 0) 0 0) ?_))))
 obtain ⟨r_2,hr_3,hF⟩:=bind_some hF
 refine Cj [0] (rM hr_3) rfl hb24 rfl (by kernel_rfl) (by kernel_rfl) (by kernel_rfl) (by kernel_rfl) (by kernel_rfl) rfl (by decide) (by kernel_rfl) wz ([((av 0),some (.cells 2 [(vL eI r_2.2.L),(vI r_2.2.f_at)]))]:Hp) (λ_=>by kernel_rfl) (λn_5=>aa (gV n_5 13 r_2.1) (af (au (au ?_))))
 obtain ⟨v_6,h_7,hF⟩:=bind_some hF
 refine aQ [(0,(.ref (av 0) 0 0)),(3,(gV n_5 13 r_2.1)),(13,(vB v_6.1))] [((av 0),some (.cells 2 [(vL eI v_6.2.1),(vI v_6.2.2)])),(n_5,gB 13 Entry.enc r_2.1)] ?_ ?_
 ·refine ax (aa (gV n_5 13 r_2.1) (yG yB rfl wz (aa (vB (decide ((r_2.1.length:Int)>0))) ?_)))
  rcases ak h_7 with⟨hc_8,h_7⟩|⟨hc_8,h_7⟩
  ·refine aH rfl hc_8 wz (aK (.ref (av 0) 0 0) wa rfl ?_)
   obtain ⟨r_9,hr_10,h_7⟩:=bind_some h_7
   refine bA 0 [0] il ft (fC hr_10) rfl GU rfl (by kernel_rfl) (by kernel_rfl) (by kernel_rfl) (by kernel_rfl) (by kernel_rfl) (by kernel_rfl) (by kernel_rfl) (by decide) (by kernel_rfl) wa (vB r_9.1) (by kernel_rfl) ([((av 0),some (.cells 2 [(vL eI r_9.2.L),(vI r_9.2.f_at)])),(n_5,gB 13 Entry.enc r_2.1)]:Hp) (by kernel_rfl) (aa (vB r_9.1) (af ?_))
   obtain rfl:=ae h_7
   exact cu
  ·refine aH rfl hc_8 wz (ah (ah (aa (vB false) (af ?_))))
   obtain rfl:=ae h_7
   exact cu
 ·rintro ⟨⟩ _ sl_ H_ hp_ hq_
  refine aO _ hp_ hq_ ?_
  obtain ⟨v_12,h_13,hF⟩:=bind_some hF
  refine aQ [(3,(gV n_5 13 v_12.1))] [((av 0),some (.cells 2 [(vL eI v_12.2.1),(vI v_12.2.2)])),(n_5,gB 13 Entry.enc v_12.1)] ?_ ?_
  ·rcases ak h_13 with⟨hc_14,h_13⟩|⟨hc_14,h_13⟩
   ·refine aD rfl hc_14 (aj (aa (gV n_5 13 r_2.1) (aa (.ref (av 0) 0 0) (aa (gV n_5 13 r_2.1) (yG yB rfl wz ?_)))))
    obtain ⟨r_15,hr_16,h_13⟩:=bind_some h_13
    refine bA 0 [0] il ft (fD hr_16) rfl GL rfl (by kernel_rfl) (by kernel_rfl) (by kernel_rfl) (by kernel_rfl) (by kernel_rfl) (by kernel_rfl) (by kernel_rfl) (by decide) (by kernel_rfl) wz (vI r_15.1) (by kernel_rfl) ([((av 0),some (.cells 2 [(vL eI r_15.2.L),(vI r_15.2.f_at)])),(n_5,gB 13 Entry.enc r_2.1)]:Hp) (by kernel_rfl) ?_
    obtain ⟨_,hi_18,h_13⟩:=bind_some h_13
    refine uJ qh rfl rfl (jG hi_18) (gW hi_18) wz (aa (.ref n_5 (0+(r_15.1).toNat) 0) (af (aj (aa (.ref (av 0) 0 0) ?_))))
    obtain ⟨r_19,hr_20,h_13⟩:=bind_some h_13
    refine bA 0 [0] il ft (fD hr_20) rfl GL rfl (by kernel_rfl) (by kernel_rfl) (by kernel_rfl) (by kernel_rfl) (by kernel_rfl) (by kernel_rfl) (by kernel_rfl) (by decide) (by kernel_rfl) wz (vI r_19.1) (by kernel_rfl) ([((av 0),some (.cells 2 [(vL eI r_19.2.L),(vI r_19.2.f_at)])),(n_5,gB 13 Entry.enc r_2.1)]:Hp) (by kernel_rfl) (af (aN (aj (aa (vB (r_19.1==0)) (aa (vB (r_19.1==0)) (af ?_))))))
    rcases ak h_13 with⟨hc_22,h_13⟩|⟨hc_22,h_13⟩
    ·refine aD rfl hc_22 (ax (aa (.ref n_5 (0+(r_15.1).toNat) 0) (aa (.ref n_5 (0+(r_15.1).toNat) 0) (aa (.ref (av 0) 0 0) (aa (.ref n_5 (0+(r_15.1).toNat) 0) (aa (.ref n_5 (0+(r_15.1).toNat) 0) (aI kg rfl 0 rfl wz ?_)))))))
     obtain ⟨e_23,hy_24,h_13⟩:=bind_some h_13
     refine kC 0 1 il ft sz9 ag9 rfl rfl hy_24 (vS e_23.Key) rfl wz (dU (([e_23.Key,(⟨#[]⟩:ByteArray),(⟨#[65]⟩:ByteArray),(⟨#[101,97]⟩:ByteArray)]:List ByteArray).map eS) mQ vR rfl rfl rfl rfl rfl wz ?_)
     obtain ⟨r_25,hr_26,h_13⟩:=bind_some h_13
     refine bA 0 [0] il ft (jN hr_26) rfl Oc rfl (by kernel_rfl) (by kernel_rfl) (by kernel_rfl) (by kernel_rfl) (by kernel_rfl) (by kernel_rfl) (by kernel_rfl) (by decide) (by kernel_rfl) wz (vS r_25.1) (by kernel_rfl) ([((av 0),some (.cells 2 [(vL eI r_25.2.L),(vI r_25.2.f_at)])),(n_5,gB 13 Entry.enc r_2.1)]:Hp) (by kernel_rfl) (aa (.ref (av 0) 0 0) (dU (([(⟨#[105,97]⟩:ByteArray),(⟨#[]⟩:ByteArray),(⟨#[66]⟩:ByteArray)]:List ByteArray).map eS) mQ vR rfl rfl rfl rfl rfl wz ?_))
     obtain ⟨r_28,hr_29,h_13⟩:=bind_some h_13
     refine bA 0 [0] il ft (jN hr_29) rfl Oc rfl (by kernel_rfl) (by kernel_rfl) (by kernel_rfl) (by kernel_rfl) (by kernel_rfl) (by kernel_rfl) (by kernel_rfl) (by decide) (by kernel_rfl) wz (vS r_28.1) (by kernel_rfl) ([((av 0),some (.cells 2 [(vL eI r_28.2.L),(vI r_28.2.f_at)])),(n_5,gB 13 Entry.enc r_2.1)]:Hp) (by kernel_rfl) (aa (.ref n_5 (0+(r_15.1).toNat) 0) (aI kg rfl 0 rfl wz ?_))
     obtain ⟨e_31,hy_32,h_13⟩:=bind_some h_13
     refine lG 0 il ft 1 sz9 rfl rfl hy_32 (⟨r_25.1,e_31.Item,e_31.Version,e_31.First,e_31.Last,e_31.Every,e_31.Days,e_31.Except,e_31.From,e_31.To,e_31.Prio,e_31.Tags,e_31.Gone⟩:Entry) rfl wz (bL (v':=(gV n_5 13 (r_2.1.set (0+(r_15.1).toNat) (⟨r_25.1,e_31.Item,e_31.Version,e_31.First,e_31.Last,e_31.Every,e_31.Days,e_31.Except,e_31.From,e_31.To,e_31.Prio,e_31.Tags,e_31.Gone⟩:Entry)))) 3 rfl (bU (by simp)) (bL (v':=(gV n_5 13 (r_2.1.set (0+(r_15.1).toNat) (⟨r_25.1,e_31.Item,e_31.Version,e_31.First,e_31.Last,e_31.Every,e_31.Days,e_31.Except,e_31.From,e_31.To,e_31.Prio,e_31.Tags,e_31.Gone⟩:Entry)))) 14 rfl (bU (by simp)) (bL (v':=(gV n_5 13 (r_2.1.set (0+(r_15.1).toNat) (⟨r_25.1,e_31.Item,e_31.Version,e_31.First,e_31.Last,e_31.Every,e_31.Days,e_31.Except,e_31.From,e_31.To,e_31.Prio,e_31.Tags,e_31.Gone⟩:Entry)))) 16 rfl (bU (by simp)) (aa (.ref n_5 (0+(r_15.1).toNat) 0) (aI Eb rfl 1 rfl wz ?_)))))
     obtain ⟨e_33,hy_34,h_13⟩:=bind_some h_13
     refine lG 0 il ft 1 sz9 rfl rfl hy_34 (⟨e_33.Key,r_28.1,e_33.Version,e_33.First,e_33.Last,e_33.Every,e_33.Days,e_33.Except,e_33.From,e_33.To,e_33.Prio,e_33.Tags,e_33.Gone⟩:Entry) rfl wz (bL (v':=(gV n_5 13 ((r_2.1.set (0+(r_15.1).toNat) (⟨r_25.1,e_31.Item,e_31.Version,e_31.First,e_31.Last,e_31.Every,e_31.Days,e_31.Except,e_31.From,e_31.To,e_31.Prio,e_31.Tags,e_31.Gone⟩:Entry)).set (0+(r_15.1).toNat) (⟨e_33.Key,r_28.1,e_33.Version,e_33.First,e_33.Last,e_33.Every,e_33.Days,e_33.Except,e_33.From,e_33.To,e_33.Prio,e_33.Tags,e_33.Gone⟩:Entry)))) 3 rfl (bU (by simp)) (bL (v':=(gV n_5 13 ((r_2.1.set (0+(r_15.1).toNat) (⟨r_25.1,e_31.Item,e_31.Version,e_31.First,e_31.Last,e_31.Every,e_31.Days,e_31.Except,e_31.From,e_31.To,e_31.Prio,e_31.Tags,e_31.Gone⟩:Entry)).set (0+(r_15.1).toNat) (⟨e_33.Key,r_28.1,e_33.Version,e_33.First,e_33.Last,e_33.Every,e_33.Days,e_33.Except,e_33.From,e_33.To,e_33.Prio,e_33.Tags,e_33.Gone⟩:Entry)))) 14 rfl (bU (by simp)) (bL (v':=(gV n_5 13 ((r_2.1.set (0+(r_15.1).toNat) (⟨r_25.1,e_31.Item,e_31.Version,e_31.First,e_31.Last,e_31.Every,e_31.Days,e_31.Except,e_31.From,e_31.To,e_31.Prio,e_31.Tags,e_31.Gone⟩:Entry)).set (0+(r_15.1).toNat) (⟨e_33.Key,r_28.1,e_33.Version,e_33.First,e_33.Last,e_33.Every,e_33.Days,e_33.Except,e_33.From,e_33.To,e_33.Prio,e_33.Tags,e_33.Gone⟩:Entry)))) 16 rfl (bU (by simp)) (af ?_))))
     obtain rfl:=ae h_13
     exact cu
    ·refine aB rfl hc_22 (aj (aa (vB (r_19.1==1)) (aa (vB (r_19.1==1)) (af ?_))))
     rcases ak h_13 with⟨hc_35,h_13⟩|⟨hc_35,h_13⟩
     ·refine aD rfl hc_35 (ax (aa (.ref n_5 (0+(r_15.1).toNat) 0) (aa (.ref n_5 (0+(r_15.1).toNat) 0) (aa (.ref (av 0) 0 0) ?_))))
      obtain ⟨r_36,hr_37,h_13⟩:=bind_some h_13
      refine bA 0 [0] il ft (fu hr_37) rfl Eo rfl (by kernel_rfl) (by kernel_rfl) (by kernel_rfl) (by kernel_rfl) (by kernel_rfl) (by kernel_rfl) (by kernel_rfl) (by decide) (by kernel_rfl) wz (vI r_36.1) (by kernel_rfl) ([((av 0),some (.cells 2 [(vL eI r_36.2.L),(vI r_36.2.f_at)])),(n_5,gB 13 Entry.enc r_2.1)]:Hp) (by kernel_rfl) (aa (.ref (av 0) 0 0) ?_)
      obtain ⟨r_39,hr_40,h_13⟩:=bind_some h_13
      refine bA 0 [0] il ft (fu hr_40) rfl Eo rfl (by kernel_rfl) (by kernel_rfl) (by kernel_rfl) (by kernel_rfl) (by kernel_rfl) (by kernel_rfl) (by kernel_rfl) (by decide) (by kernel_rfl) wz (vI r_39.1) (by kernel_rfl) ([((av 0),some (.cells 2 [(vL eI r_39.2.L),(vI r_39.2.f_at)])),(n_5,gB 13 Entry.enc r_2.1)]:Hp) (by kernel_rfl) (aa (.ref n_5 (0+(r_15.1).toNat) 0) (aI rf rfl 3 rfl wz ?_))
      obtain ⟨e_42,hy_43,h_13⟩:=bind_some h_13
      refine lG 0 il ft 1 sz3 rfl rfl hy_43 (⟨e_42.Key,e_42.Item,e_42.Version,r_36.1,e_42.Last,e_42.Every,e_42.Days,e_42.Except,e_42.From,e_42.To,e_42.Prio,e_42.Tags,e_42.Gone⟩:Entry) rfl wz (bL (v':=(gV n_5 13 (r_2.1.set (0+(r_15.1).toNat) (⟨e_42.Key,e_42.Item,e_42.Version,r_36.1,e_42.Last,e_42.Every,e_42.Days,e_42.Except,e_42.From,e_42.To,e_42.Prio,e_42.Tags,e_42.Gone⟩:Entry)))) 3 rfl (bU (by simp)) (bL (v':=(gV n_5 13 (r_2.1.set (0+(r_15.1).toNat) (⟨e_42.Key,e_42.Item,e_42.Version,r_36.1,e_42.Last,e_42.Every,e_42.Days,e_42.Except,e_42.From,e_42.To,e_42.Prio,e_42.Tags,e_42.Gone⟩:Entry)))) 14 rfl (bU (by simp)) (bL (v':=(gV n_5 13 (r_2.1.set (0+(r_15.1).toNat) (⟨e_42.Key,e_42.Item,e_42.Version,r_36.1,e_42.Last,e_42.Every,e_42.Days,e_42.Except,e_42.From,e_42.To,e_42.Prio,e_42.Tags,e_42.Gone⟩:Entry)))) 16 rfl (bU (by simp)) (aa (.ref n_5 (0+(r_15.1).toNat) 0) (aI ru rfl 4 rfl wz ?_)))))
      obtain ⟨e_44,hy_45,h_13⟩:=bind_some h_13
      refine lG 0 il ft 1 sz3 rfl rfl hy_45 (⟨e_44.Key,e_44.Item,e_44.Version,e_44.First,r_39.1,e_44.Every,e_44.Days,e_44.Except,e_44.From,e_44.To,e_44.Prio,e_44.Tags,e_44.Gone⟩:Entry) rfl wz (bL (v':=(gV n_5 13 ((r_2.1.set (0+(r_15.1).toNat) (⟨e_42.Key,e_42.Item,e_42.Version,r_36.1,e_42.Last,e_42.Every,e_42.Days,e_42.Except,e_42.From,e_42.To,e_42.Prio,e_42.Tags,e_42.Gone⟩:Entry)).set (0+(r_15.1).toNat) (⟨e_44.Key,e_44.Item,e_44.Version,e_44.First,r_39.1,e_44.Every,e_44.Days,e_44.Except,e_44.From,e_44.To,e_44.Prio,e_44.Tags,e_44.Gone⟩:Entry)))) 3 rfl (bU (by simp)) (bL (v':=(gV n_5 13 ((r_2.1.set (0+(r_15.1).toNat) (⟨e_42.Key,e_42.Item,e_42.Version,r_36.1,e_42.Last,e_42.Every,e_42.Days,e_42.Except,e_42.From,e_42.To,e_42.Prio,e_42.Tags,e_42.Gone⟩:Entry)).set (0+(r_15.1).toNat) (⟨e_44.Key,e_44.Item,e_44.Version,e_44.First,r_39.1,e_44.Every,e_44.Days,e_44.Except,e_44.From,e_44.To,e_44.Prio,e_44.Tags,e_44.Gone⟩:Entry)))) 14 rfl (bU (by simp)) (bL (v':=(gV n_5 13 ((r_2.1.set (0+(r_15.1).toNat) (⟨e_42.Key,e_42.Item,e_42.Version,r_36.1,e_42.Last,e_42.Every,e_42.Days,e_42.Except,e_42.From,e_42.To,e_42.Prio,e_42.Tags,e_42.Gone⟩:Entry)).set (0+(r_15.1).toNat) (⟨e_44.Key,e_44.Item,e_44.Version,e_44.First,r_39.1,e_44.Every,e_44.Days,e_44.Except,e_44.From,e_44.To,e_44.Prio,e_44.Tags,e_44.Gone⟩:Entry)))) 16 rfl (bU (by simp)) (af ?_))))
      obtain rfl:=ae h_13
      exact cu
     ·refine aB rfl hc_35 (aj (aa (vB (r_19.1==2)) (aa (vB (r_19.1==2)) (af ?_))))
      rcases ak h_13 with⟨hc_46,h_13⟩|⟨hc_46,h_13⟩
      ·refine aD rfl hc_46 (ax (aa (.ref n_5 (0+(r_15.1).toNat) 0) (aa (.ref n_5 (0+(r_15.1).toNat) 0) (aa (.ref (av 0) 0 0) ?_))))
       obtain ⟨r_47,hr_48,h_13⟩:=bind_some h_13
       refine bA 0 [0] il ft (fu hr_48) rfl Eo rfl (by kernel_rfl) (by kernel_rfl) (by kernel_rfl) (by kernel_rfl) (by kernel_rfl) (by kernel_rfl) (by kernel_rfl) (by decide) (by kernel_rfl) wz (vI r_47.1) (by kernel_rfl) ([((av 0),some (.cells 2 [(vL eI r_47.2.L),(vI r_47.2.f_at)])),(n_5,gB 13 Entry.enc r_2.1)]:Hp) (by kernel_rfl) (aa (.ref (av 0) 0 0) ?_)
       obtain ⟨r_50,hr_51,h_13⟩:=bind_some h_13
       refine bA 0 [0] il ft (fu hr_51) rfl Eo rfl (by kernel_rfl) (by kernel_rfl) (by kernel_rfl) (by kernel_rfl) (by kernel_rfl) (by kernel_rfl) (by kernel_rfl) (by decide) (by kernel_rfl) wz (vI r_50.1) (by kernel_rfl) ([((av 0),some (.cells 2 [(vL eI r_50.2.L),(vI r_50.2.f_at)])),(n_5,gB 13 Entry.enc r_2.1)]:Hp) (by kernel_rfl) (aa (.ref n_5 (0+(r_15.1).toNat) 0) (aI Ec rfl 5 rfl wz ?_))
       obtain ⟨e_53,hy_54,h_13⟩:=bind_some h_13
       refine lG 0 il ft 1 sz3 rfl rfl hy_54 (⟨e_53.Key,e_53.Item,e_53.Version,e_53.First,e_53.Last,r_47.1,e_53.Days,e_53.Except,e_53.From,e_53.To,e_53.Prio,e_53.Tags,e_53.Gone⟩:Entry) rfl wz (bL (v':=(gV n_5 13 (r_2.1.set (0+(r_15.1).toNat) (⟨e_53.Key,e_53.Item,e_53.Version,e_53.First,e_53.Last,r_47.1,e_53.Days,e_53.Except,e_53.From,e_53.To,e_53.Prio,e_53.Tags,e_53.Gone⟩:Entry)))) 3 rfl (bU (by simp)) (bL (v':=(gV n_5 13 (r_2.1.set (0+(r_15.1).toNat) (⟨e_53.Key,e_53.Item,e_53.Version,e_53.First,e_53.Last,r_47.1,e_53.Days,e_53.Except,e_53.From,e_53.To,e_53.Prio,e_53.Tags,e_53.Gone⟩:Entry)))) 14 rfl (bU (by simp)) (bL (v':=(gV n_5 13 (r_2.1.set (0+(r_15.1).toNat) (⟨e_53.Key,e_53.Item,e_53.Version,e_53.First,e_53.Last,r_47.1,e_53.Days,e_53.Except,e_53.From,e_53.To,e_53.Prio,e_53.Tags,e_53.Gone⟩:Entry)))) 16 rfl (bU (by simp)) (aa (.ref n_5 (0+(r_15.1).toNat) 0) (aI Ef rfl 6 rfl wz ?_)))))
       obtain ⟨e_55,hy_56,h_13⟩:=bind_some h_13
       refine lG 0 il ft 1 sz3 rfl rfl hy_56 (⟨e_55.Key,e_55.Item,e_55.Version,e_55.First,e_55.Last,e_55.Every,r_50.1,e_55.Except,e_55.From,e_55.To,e_55.Prio,e_55.Tags,e_55.Gone⟩:Entry) rfl wz (bL (v':=(gV n_5 13 ((r_2.1.set (0+(r_15.1).toNat) (⟨e_53.Key,e_53.Item,e_53.Version,e_53.First,e_53.Last,r_47.1,e_53.Days,e_53.Except,e_53.From,e_53.To,e_53.Prio,e_53.Tags,e_53.Gone⟩:Entry)).set (0+(r_15.1).toNat) (⟨e_55.Key,e_55.Item,e_55.Version,e_55.First,e_55.Last,e_55.Every,r_50.1,e_55.Except,e_55.From,e_55.To,e_55.Prio,e_55.Tags,e_55.Gone⟩:Entry)))) 3 rfl (bU (by simp)) (bL (v':=(gV n_5 13 ((r_2.1.set (0+(r_15.1).toNat) (⟨e_53.Key,e_53.Item,e_53.Version,e_53.First,e_53.Last,r_47.1,e_53.Days,e_53.Except,e_53.From,e_53.To,e_53.Prio,e_53.Tags,e_53.Gone⟩:Entry)).set (0+(r_15.1).toNat) (⟨e_55.Key,e_55.Item,e_55.Version,e_55.First,e_55.Last,e_55.Every,r_50.1,e_55.Except,e_55.From,e_55.To,e_55.Prio,e_55.Tags,e_55.Gone⟩:Entry)))) 14 rfl (bU (by simp)) (bL (v':=(gV n_5 13 ((r_2.1.set (0+(r_15.1).toNat) (⟨e_53.Key,e_53.Item,e_53.Version,e_53.First,e_53.Last,r_47.1,e_53.Days,e_53.Except,e_53.From,e_53.To,e_53.Prio,e_53.Tags,e_53.Gone⟩:Entry)).set (0+(r_15.1).toNat) (⟨e_55.Key,e_55.Item,e_55.Version,e_55.First,e_55.Last,e_55.Every,r_50.1,e_55.Except,e_55.From,e_55.To,e_55.Prio,e_55.Tags,e_55.Gone⟩:Entry)))) 16 rfl (bU (by simp)) (af ?_))))
       obtain rfl:=ae h_13
       exact cu
      ·refine aB rfl hc_46 (aj (aa (vB (r_19.1==3)) (aa (vB (r_19.1==3)) (af ?_))))
       rcases ak h_13 with⟨hc_57,h_13⟩|⟨hc_57,h_13⟩
       ·refine aD rfl hc_57 (ax (aa (.ref n_5 (0+(r_15.1).toNat) 0) (aa (.ref n_5 (0+(r_15.1).toNat) 0) (aa (.ref n_5 (0+(r_15.1).toNat) 0) (aI sZ rfl 7 rfl wz ?_)))))
        obtain ⟨e_58,hy_59,h_13⟩:=bind_some h_13
        refine kC 0 1 il ft sV vM rfl rfl hy_59 (vL eI e_58.Except) rfl wz ?_
        obtain ⟨r_60,hr_61,h_13⟩:=bind_some h_13
        refine Cj [] (sS hr_61) rfl hb29 rfl (by kernel_rfl) (by kernel_rfl) (by kernel_rfl) (by kernel_rfl) (by kernel_rfl) rfl (by decide) (by kernel_rfl) wz ([((av 0),some (.cells 2 [(vL eI r_19.2.L),(vI r_19.2.f_at)])),(n_5,gB 13 Entry.enc r_2.1)]:Hp) (λ_=>by kernel_rfl) (λn_63=>aa (.ref (av 0) 0 0) ?_)
        obtain ⟨r_64,hr_65,h_13⟩:=bind_some h_13
        refine bA 0 [0] il ft (fu hr_65) rfl Eo rfl (by kernel_rfl) (by kernel_rfl) (by kernel_rfl) (by kernel_rfl) (by kernel_rfl) (by kernel_rfl) (by kernel_rfl) (by decide) (by kernel_rfl) wz (vI r_64.1) (by kernel_rfl) ([((av 0),some (.cells 2 [(vL eI r_64.2.L),(vI r_64.2.f_at)])),(n_5,gB 13 Entry.enc r_2.1),(n_63,gB 1 eI r_60)]:Hp) (by kernel_rfl) (dU (([r_64.1]:List Int).map eI) iW qA rfl rfl rfl rfl rfl wz ?_)
        obtain ⟨a_67,hz_68,h_13⟩:=bind_some h_13
        refine kI 0 il ft (i:=2) C9 C9 sz3 z3 rfl (by decide) by3 (by decide) (λ_=>rfl) rfl rfl rfl hz_68 wz (λn_69=>aa (.ref n_5 (0+(r_15.1).toNat) 0) (aI sZ rfl 7 rfl wz (KX (λhw=>iw 2 rfl hw) (by kernel_rfl) (KX (λhw=>dJ 91 2 rfl rfl hw) (by kernel_rfl) ?_))))
        obtain ⟨e_70,hy_71,h_13⟩:=bind_some h_13
        refine lG 0 il ft 1 sV rfl rfl hy_71 (⟨e_70.Key,e_70.Item,e_70.Version,e_70.First,e_70.Last,e_70.Every,e_70.Days,a_67,e_70.From,e_70.To,e_70.Prio,e_70.Tags,e_70.Gone⟩:Entry) rfl wz (bL (v':=(gV n_5 13 (r_2.1.set (0+(r_15.1).toNat) (⟨e_70.Key,e_70.Item,e_70.Version,e_70.First,e_70.Last,e_70.Every,e_70.Days,a_67,e_70.From,e_70.To,e_70.Prio,e_70.Tags,e_70.Gone⟩:Entry)))) 3 rfl (bU (by simp)) (bL (v':=(gV n_5 13 (r_2.1.set (0+(r_15.1).toNat) (⟨e_70.Key,e_70.Item,e_70.Version,e_70.First,e_70.Last,e_70.Every,e_70.Days,a_67,e_70.From,e_70.To,e_70.Prio,e_70.Tags,e_70.Gone⟩:Entry)))) 14 rfl (bU (by simp)) (bL (v':=(gV n_5 13 (r_2.1.set (0+(r_15.1).toNat) (⟨e_70.Key,e_70.Item,e_70.Version,e_70.First,e_70.Last,e_70.Every,e_70.Days,a_67,e_70.From,e_70.To,e_70.Prio,e_70.Tags,e_70.Gone⟩:Entry)))) 16 rfl (bU (by simp)) (af ?_))))
        obtain rfl:=ae h_13
        exact cu
       ·refine aB rfl hc_57 (aj (aa (vB (r_19.1==4)) (aa (vB (r_19.1==4)) (af ?_))))
        rcases ak h_13 with⟨hc_72,h_13⟩|⟨hc_72,h_13⟩
        ·refine aD rfl hc_72 (ax (aa (.ref n_5 (0+(r_15.1).toNat) 0) (aa (.ref n_5 (0+(r_15.1).toNat) 0) (aa (.ref (av 0) 0 0) ?_))))
         obtain ⟨r_73,hr_74,h_13⟩:=bind_some h_13
         refine bA 0 [0] il ft (fu hr_74) rfl Eo rfl (by kernel_rfl) (by kernel_rfl) (by kernel_rfl) (by kernel_rfl) (by kernel_rfl) (by kernel_rfl) (by kernel_rfl) (by decide) (by kernel_rfl) wz (vI r_73.1) (by kernel_rfl) ([((av 0),some (.cells 2 [(vL eI r_73.2.L),(vI r_73.2.f_at)])),(n_5,gB 13 Entry.enc r_2.1)]:Hp) (by kernel_rfl) (aa (.ref (av 0) 0 0) ?_)
         obtain ⟨r_76,hr_77,h_13⟩:=bind_some h_13
         refine bA 0 [0] il ft (fu hr_77) rfl Eo rfl (by kernel_rfl) (by kernel_rfl) (by kernel_rfl) (by kernel_rfl) (by kernel_rfl) (by kernel_rfl) (by kernel_rfl) (by decide) (by kernel_rfl) wz (vI r_76.1) (by kernel_rfl) ([((av 0),some (.cells 2 [(vL eI r_76.2.L),(vI r_76.2.f_at)])),(n_5,gB 13 Entry.enc r_2.1)]:Hp) (by kernel_rfl) (aa (.ref n_5 (0+(r_15.1).toNat) 0) (aI yH rfl 8 rfl wz ?_))
         obtain ⟨e_79,hy_80,h_13⟩:=bind_some h_13
         refine lG 0 il ft 1 sz3 rfl rfl hy_80 (⟨e_79.Key,e_79.Item,e_79.Version,e_79.First,e_79.Last,e_79.Every,e_79.Days,e_79.Except,r_73.1,e_79.To,e_79.Prio,e_79.Tags,e_79.Gone⟩:Entry) rfl wz (bL (v':=(gV n_5 13 (r_2.1.set (0+(r_15.1).toNat) (⟨e_79.Key,e_79.Item,e_79.Version,e_79.First,e_79.Last,e_79.Every,e_79.Days,e_79.Except,r_73.1,e_79.To,e_79.Prio,e_79.Tags,e_79.Gone⟩:Entry)))) 3 rfl (bU (by simp)) (bL (v':=(gV n_5 13 (r_2.1.set (0+(r_15.1).toNat) (⟨e_79.Key,e_79.Item,e_79.Version,e_79.First,e_79.Last,e_79.Every,e_79.Days,e_79.Except,r_73.1,e_79.To,e_79.Prio,e_79.Tags,e_79.Gone⟩:Entry)))) 14 rfl (bU (by simp)) (bL (v':=(gV n_5 13 (r_2.1.set (0+(r_15.1).toNat) (⟨e_79.Key,e_79.Item,e_79.Version,e_79.First,e_79.Last,e_79.Every,e_79.Days,e_79.Except,r_73.1,e_79.To,e_79.Prio,e_79.Tags,e_79.Gone⟩:Entry)))) 16 rfl (bU (by simp)) (aa (.ref n_5 (0+(r_15.1).toNat) 0) (aI CZ rfl 9 rfl wz ?_)))))
         obtain ⟨e_81,hy_82,h_13⟩:=bind_some h_13
         refine lG 0 il ft 1 sz3 rfl rfl hy_82 (⟨e_81.Key,e_81.Item,e_81.Version,e_81.First,e_81.Last,e_81.Every,e_81.Days,e_81.Except,e_81.From,r_76.1,e_81.Prio,e_81.Tags,e_81.Gone⟩:Entry) rfl wz (bL (v':=(gV n_5 13 ((r_2.1.set (0+(r_15.1).toNat) (⟨e_79.Key,e_79.Item,e_79.Version,e_79.First,e_79.Last,e_79.Every,e_79.Days,e_79.Except,r_73.1,e_79.To,e_79.Prio,e_79.Tags,e_79.Gone⟩:Entry)).set (0+(r_15.1).toNat) (⟨e_81.Key,e_81.Item,e_81.Version,e_81.First,e_81.Last,e_81.Every,e_81.Days,e_81.Except,e_81.From,r_76.1,e_81.Prio,e_81.Tags,e_81.Gone⟩:Entry)))) 3 rfl (bU (by simp)) (bL (v':=(gV n_5 13 ((r_2.1.set (0+(r_15.1).toNat) (⟨e_79.Key,e_79.Item,e_79.Version,e_79.First,e_79.Last,e_79.Every,e_79.Days,e_79.Except,r_73.1,e_79.To,e_79.Prio,e_79.Tags,e_79.Gone⟩:Entry)).set (0+(r_15.1).toNat) (⟨e_81.Key,e_81.Item,e_81.Version,e_81.First,e_81.Last,e_81.Every,e_81.Days,e_81.Except,e_81.From,r_76.1,e_81.Prio,e_81.Tags,e_81.Gone⟩:Entry)))) 14 rfl (bU (by simp)) (bL (v':=(gV n_5 13 ((r_2.1.set (0+(r_15.1).toNat) (⟨e_79.Key,e_79.Item,e_79.Version,e_79.First,e_79.Last,e_79.Every,e_79.Days,e_79.Except,r_73.1,e_79.To,e_79.Prio,e_79.Tags,e_79.Gone⟩:Entry)).set (0+(r_15.1).toNat) (⟨e_81.Key,e_81.Item,e_81.Version,e_81.First,e_81.Last,e_81.Every,e_81.Days,e_81.Except,e_81.From,r_76.1,e_81.Prio,e_81.Tags,e_81.Gone⟩:Entry)))) 16 rfl (bU (by simp)) (af ?_))))
         obtain rfl:=ae h_13
         exact cu
        ·refine aB rfl hc_72 (dA (aa (.ref n_5 (0+(r_15.1).toNat) 0) (aa (.ref n_5 (0+(r_15.1).toNat) 0) (dU (([(⟨#[109,97,108,108]⟩:ByteArray),(⟨#[99,105,116,121]⟩:ByteArray)]:List ByteArray).map eS) mQ vR rfl rfl rfl rfl rfl wz (dU (([(⟨#[]⟩:ByteArray)]:List ByteArray).map eS) mQ vR rfl rfl rfl rfl rfl wz (dU (([(⟨#[97]⟩:ByteArray),(⟨#[97]⟩:ByteArray)]:List ByteArray).map eS) mQ vR rfl rfl rfl rfl rfl wz (dU (([([(⟨#[109,97,108,108]⟩:ByteArray),(⟨#[99,105,116,121]⟩:ByteArray)]:List ByteArray),([(⟨#[]⟩:ByteArray)]:List ByteArray),([(⟨#[97]⟩:ByteArray),(⟨#[97]⟩:ByteArray)]:List ByteArray)]:List (List ByteArray)).map (eL eS)) Lr ez73 rfl rfl rfl rfl rfl wz (aa (.ref (av 0) 0 0) ?_))))))))
         obtain ⟨r_83,hr_84,h_13⟩:=bind_some h_13
         refine bA 7 [0] (.inr (by kernel_rfl)) (λ_ _ ag=>by exact trivial) (fD hr_84) rfl GL rfl (by kernel_rfl) (by kernel_rfl) (by kernel_rfl) (by kernel_rfl) (by kernel_rfl) (by kernel_rfl) (by kernel_rfl) (by decide) (by kernel_rfl) wz (vI r_83.1) (by kernel_rfl) ([((av 0),some (.cells 2 [(vL eI r_83.2.L),(vI r_83.2.f_at)])),(n_5,gB 13 Entry.enc r_2.1)]:Hp) (by kernel_rfl) ?_
         obtain ⟨y_86,hy_87,h_13⟩:=bind_some h_13
         refine eU Lr rfl rfl hy_87 rfl wz (bI zS BP rfl (vL eS y_86) rfl wz (aa (.ref (av 0) 0 0) ?_))
         obtain ⟨r_88,hr_89,h_13⟩:=bind_some h_13
         refine bA 11 [0] (.inr (by kernel_rfl)) (λ_ _ ag=>by exact⟨.inr (.inr (by kernel_rfl)),trivial⟩) (fu hr_89) rfl Eo rfl (by kernel_rfl) (by kernel_rfl) (by kernel_rfl) (by kernel_rfl) (by kernel_rfl) (by kernel_rfl) (by kernel_rfl) (by decide) (by kernel_rfl) wz (vI r_88.1) (by kernel_rfl) ([((av 0),some (.cells 2 [(vL eI r_88.2.L),(vI r_88.2.f_at)])),(n_5,gB 13 Entry.enc r_2.1)]:Hp) (by kernel_rfl) (aa (.ref n_5 (0+(r_15.1).toNat) 0) (aI uV rfl 11 rfl wz ?_))
         obtain ⟨e_91,hy_92,h_13⟩:=bind_some h_13
         refine lG 14 (.inr (by kernel_rfl)) (λ_ _ ag=>⟨.inr (.inr (by kernel_rfl)),⟨.inr (.inr (by kernel_rfl)),trivial⟩⟩) 1 zS rfl rfl hy_92 (⟨e_91.Key,e_91.Item,e_91.Version,e_91.First,e_91.Last,e_91.Every,e_91.Days,e_91.Except,e_91.From,e_91.To,e_91.Prio,y_86,e_91.Gone⟩:Entry) rfl wz (bL (v':=(gV n_5 13 (r_2.1.set (0+(r_15.1).toNat) (⟨e_91.Key,e_91.Item,e_91.Version,e_91.First,e_91.Last,e_91.Every,e_91.Days,e_91.Except,e_91.From,e_91.To,e_91.Prio,y_86,e_91.Gone⟩:Entry)))) 3 rfl (bU (by simp)) (bL (v':=(gV n_5 13 (r_2.1.set (0+(r_15.1).toNat) (⟨e_91.Key,e_91.Item,e_91.Version,e_91.First,e_91.Last,e_91.Every,e_91.Days,e_91.Except,e_91.From,e_91.To,e_91.Prio,y_86,e_91.Gone⟩:Entry)))) 14 rfl (bU (by simp)) (bL (v':=(gV n_5 13 (r_2.1.set (0+(r_15.1).toNat) (⟨e_91.Key,e_91.Item,e_91.Version,e_91.First,e_91.Last,e_91.Every,e_91.Days,e_91.Except,e_91.From,e_91.To,e_91.Prio,y_86,e_91.Gone⟩:Entry)))) 16 rfl (bU (by simp)) (aa (.ref n_5 (0+(r_15.1).toNat) 0) (aI ve rfl 10 rfl wz ?_)))))
         obtain ⟨e_93,hy_94,h_13⟩:=bind_some h_13
         refine lG 17 (.inr (by kernel_rfl)) (λ_ _ ag=>⟨.inr (.inr (by kernel_rfl)),⟨.inr (.inr (by kernel_rfl)),⟨.inr (.inr (by kernel_rfl)),trivial⟩⟩⟩) 1 sz3 rfl rfl hy_94 (⟨e_93.Key,e_93.Item,e_93.Version,e_93.First,e_93.Last,e_93.Every,e_93.Days,e_93.Except,e_93.From,e_93.To,r_88.1,e_93.Tags,e_93.Gone⟩:Entry) rfl wz (bL (v':=(gV n_5 13 ((r_2.1.set (0+(r_15.1).toNat) (⟨e_91.Key,e_91.Item,e_91.Version,e_91.First,e_91.Last,e_91.Every,e_91.Days,e_91.Except,e_91.From,e_91.To,e_91.Prio,y_86,e_91.Gone⟩:Entry)).set (0+(r_15.1).toNat) (⟨e_93.Key,e_93.Item,e_93.Version,e_93.First,e_93.Last,e_93.Every,e_93.Days,e_93.Except,e_93.From,e_93.To,r_88.1,e_93.Tags,e_93.Gone⟩:Entry)))) 3 rfl (bU (by simp)) (bL (v':=(gV n_5 13 ((r_2.1.set (0+(r_15.1).toNat) (⟨e_91.Key,e_91.Item,e_91.Version,e_91.First,e_91.Last,e_91.Every,e_91.Days,e_91.Except,e_91.From,e_91.To,e_91.Prio,y_86,e_91.Gone⟩:Entry)).set (0+(r_15.1).toNat) (⟨e_93.Key,e_93.Item,e_93.Version,e_93.First,e_93.Last,e_93.Every,e_93.Days,e_93.Except,e_93.From,e_93.To,r_88.1,e_93.Tags,e_93.Gone⟩:Entry)))) 14 rfl (bU (by simp)) (bL (v':=(gV n_5 13 ((r_2.1.set (0+(r_15.1).toNat) (⟨e_91.Key,e_91.Item,e_91.Version,e_91.First,e_91.Last,e_91.Every,e_91.Days,e_91.Except,e_91.From,e_91.To,e_91.Prio,y_86,e_91.Gone⟩:Entry)).set (0+(r_15.1).toNat) (⟨e_93.Key,e_93.Item,e_93.Version,e_93.First,e_93.Last,e_93.Every,e_93.Days,e_93.Except,e_93.From,e_93.To,r_88.1,e_93.Tags,e_93.Gone⟩:Entry)))) 16 rfl (bU (by simp)) (af ?_))))
         obtain rfl:=ae h_13
         exact cu
   ·refine aB rfl hc_14 (ay ?_)
    obtain rfl:=ae h_13
    exact cu
  ·rintro ⟨⟩ _ sl_ H_ hp_ hq_
   refine aO _ hp_ hq_ (aj (aa (gV n_5 13 v_12.1) (aa (gV n_5 13 v_12.1) (af (iw 1 rfl (dJ 2 1 rfl rfl (dJ 3 1 rfl rfl (dJ 106 1 rfl rfl ?_))))))))
   obtain rfl:=ae hF
   exact aC (qB (.inr rfl) [(vL Entry.enc v_12.1)] _ [0] [av 0] ⟨rfl,trivial⟩ (.cons (iq rfl rfl) (.nil)) (by kernel_rfl) ⟨(by kernel_rfl),trivial⟩ (by decide) (by kernel_rfl))
theorem sU {s_1:Stream} {r:Player×Stream} (hF:iM s_1=some r) :
  FnM Tryz.prog 30 [(.ref (av 0) 0 0)] [(.cells 2 [(vL eI s_1.L),(vI s_1.f_at)])] (.d (.agg (Player.enc r.1))) [some (.cells 2 [(vL eI r.2.L),(vI r.2.f_at)])]:=by
 refine FnM.of_wH ⟨Tryz.prog,14,[],[]⟩ rfl Tryz.func30 rfl rfl (lb_ rfl) (by kernel_rfl) ?_
 unfold iM at hF
 refine aj (bR 0 (.inl rfl) z30 rfl wz (λn_2=>af (aj (aa (.ref (av 0) 0 0) (dU (([0,0,60,(-90),1440]:List Int).map eI) iW qA rfl rfl rfl rfl rfl wz ?_)))))
 obtain ⟨r_3,hr_4,hF⟩:=bind_some hF
 refine bA 0 [0] il ft (dw hr_4) rfl BV rfl (by kernel_rfl) (by kernel_rfl) (by kernel_rfl) (by kernel_rfl) (by kernel_rfl) (by kernel_rfl) (by kernel_rfl) (by decide) (by kernel_rfl) wz (vI r_3.1) (by kernel_rfl) ([((av 0),some (.cells 2 [(vL eI r_3.2.L),(vI r_3.2.f_at)])),(n_2,some (.cells 4 [(vS (⟨#[]⟩:ByteArray)),(vS (⟨#[]⟩:ByteArray)),(vI 0),.nil]))]:Hp) (by kernel_rfl) (dU (([(⟨#[99,105,116,121]⟩:ByteArray)]:List ByteArray).map eS) mQ vR rfl rfl rfl rfl rfl wz (dU (([(⟨#[99,105,116,121]⟩:ByteArray),(⟨#[109,97,108,108]⟩:ByteArray)]:List ByteArray).map eS) mQ vR rfl rfl rfl rfl rfl wz (dU (([([]:List ByteArray),([(⟨#[99,105,116,121]⟩:ByteArray)]:List ByteArray),([(⟨#[99,105,116,121]⟩:ByteArray),(⟨#[109,97,108,108]⟩:ByteArray)]:List ByteArray)]:List (List ByteArray)).map (eL eS)) Lr ez73 rfl rfl rfl rfl rfl wz (aa (.ref (av 0) 0 0) ?_))))
 obtain ⟨r_6,hr_7,hF⟩:=bind_some hF
 refine bA 0 [0] il ft (fD hr_7) rfl GL rfl (by kernel_rfl) (by kernel_rfl) (by kernel_rfl) (by kernel_rfl) (by kernel_rfl) (by kernel_rfl) (by kernel_rfl) (by decide) (by kernel_rfl) wz (vI r_6.1) (by kernel_rfl) ([((av 0),some (.cells 2 [(vL eI r_6.2.L),(vI r_6.2.f_at)])),(n_2,some (.cells 4 [(vS (⟨#[]⟩:ByteArray)),(vS (⟨#[]⟩:ByteArray)),(vI 0),.nil]))]:Hp) (by kernel_rfl) ?_
 obtain ⟨y_9,hy_10,hF⟩:=bind_some hF
 refine eU Lr rfl rfl hy_10 rfl wz (bI zS BP rfl (vL eS y_9) rfl wz (aK (.d (.agg (Player.enc (⟨(⟨#[112]⟩:ByteArray),(⟨#[115,97]⟩:ByteArray),r_3.1,y_9⟩:Player)))) wz (by kernel_rfl) (eH 0 il ft 1 kQ rfl rfl [(vS (⟨#[112]⟩:ByteArray)),(vS (⟨#[115,97]⟩:ByteArray)),(vI r_3.1),(vL eS y_9)] rfl wz (af ?_))))
 obtain rfl:=ae hF
 exact aC (qB (.inr rfl) [(.d (.agg (Player.enc (⟨(⟨#[112]⟩:ByteArray),(⟨#[115,97]⟩:ByteArray),r_3.1,y_9⟩:Player))))] _ [0] [av 0] ⟨⟨1,_,_,_,_,_,_,_,rfl,rfl,kQ,mO,rfl⟩,trivial⟩ (.cons (iq rfl rfl) (.nil)) (by kernel_rfl) ⟨(by kernel_rfl),trivial⟩ (by decide) (by kernel_rfl))
theorem xH {s_1:Stream} {r:Player×Stream} (hF:kw s_1=some r) :
  FnM Tryz.prog 5 [(.ref (av 0) 0 0)] [(.cells 2 [(vL eI s_1.L),(vI s_1.f_at)])] (.d (.agg (Player.enc r.1))) [some (.cells 2 [(vL eI r.2.L),(vI r.2.f_at)])]:=by
 refine FnM.of_wH ⟨Tryz.prog,25,[],[]⟩ rfl Tryz.func5 rfl rfl (lb_ rfl) (by kernel_rfl) ?_
 unfold kw at hF
 refine aj (bR 0 (.inl rfl) z30 rfl wz (λn_2=>af (aj (aa (.ref (av 0) 0 0) ?_))))
 obtain ⟨r_3,hr_4,hF⟩:=bind_some hF
 refine bA 0 [0] il ft (sU hr_4) rfl hb30 rfl (by kernel_rfl) (by kernel_rfl) (by kernel_rfl) (by kernel_rfl) (by kernel_rfl) (by kernel_rfl) (by kernel_rfl) (by decide) (by kernel_rfl) wz (.d (.agg (Player.enc r_3.1))) (by kernel_rfl) ([((av 0),some (.cells 2 [(vL eI r_3.2.L),(vI r_3.2.f_at)])),(n_2,some (.cells 4 [(vS (⟨#[]⟩:ByteArray)),(vS (⟨#[]⟩:ByteArray)),(vI 0),.nil]))]:Hp) (by kernel_rfl) (bR 0 (.inl rfl) z30 rfl wz (λn_6=>eH 0 il ft 2 kQ rfl rfl (Player.v r_3.1) rfl wz (af (au (aj (aa (.ref (av 0) 0 0) ?_))))))
 obtain ⟨r_7,hr_8,hF⟩:=bind_some hF
 refine bA 0 [0] il ft (fC hr_8) rfl GU rfl (by kernel_rfl) (by kernel_rfl) (by kernel_rfl) (by kernel_rfl) (by kernel_rfl) (by kernel_rfl) (by kernel_rfl) (by decide) (by kernel_rfl) wz (vB r_7.1) (by kernel_rfl) ([((av 0),some (.cells 2 [(vL eI r_7.2.L),(vI r_7.2.f_at)])),(n_2,some (.cells 4 [(vS (⟨#[]⟩:ByteArray)),(vS (⟨#[]⟩:ByteArray)),(vI 0),.nil])),(n_6,some (.cells 4 (Player.v r_3.1)))]:Hp) (by kernel_rfl) (af ?_)
 obtain ⟨v_10,h_11,hF⟩:=bind_some hF
 refine aQ [(2,(.ref n_2 0 0)),(3,(.ref n_6 0 0))] [((av 0),some (.cells 2 [(vL eI v_10.1),(vI v_10.2.1)])),(n_2,some (.cells 4 [(vS (⟨#[]⟩:ByteArray)),(vS (⟨#[]⟩:ByteArray)),(vI 0),.nil])),(n_6,some (.cells 4 [(vS v_10.2.2.1),(vS v_10.2.2.2.1),(vI v_10.2.2.2.2.1),(vL eS v_10.2.2.2.2.2)]))] ?_ ?_
 ·rcases ak h_11 with⟨hc_12,h_11⟩|⟨hc_12,h_11⟩
  ·refine aD rfl hc_12 (ax (aa (.ref (av 0) 0 0) (dU (([(⟨#[112]⟩:ByteArray),(⟨#[]⟩:ByteArray)]:List ByteArray).map eS) mQ vR rfl rfl rfl rfl rfl wz ?_)))
   obtain ⟨r_13,hr_14,h_11⟩:=bind_some h_11
   refine bA 0 [0] il ft (jN hr_14) rfl Oc rfl (by kernel_rfl) (by kernel_rfl) (by kernel_rfl) (by kernel_rfl) (by kernel_rfl) (by kernel_rfl) (by kernel_rfl) (by decide) (by kernel_rfl) wz (vS r_13.1) (by kernel_rfl) ([((av 0),some (.cells 2 [(vL eI r_13.2.L),(vI r_13.2.f_at)])),(n_2,some (.cells 4 [(vS (⟨#[]⟩:ByteArray)),(vS (⟨#[]⟩:ByteArray)),(vI 0),.nil])),(n_6,some (.cells 4 (Player.v r_3.1)))]:Hp) (by kernel_rfl) (aa (.ref (av 0) 0 0) (dU (([(⟨#[115,97]⟩:ByteArray),(⟨#[65]⟩:ByteArray)]:List ByteArray).map eS) mQ vR rfl rfl rfl rfl rfl wz ?_))
   obtain ⟨r_16,hr_17,h_11⟩:=bind_some h_11
   refine bA 0 [0] il ft (jN hr_17) rfl Oc rfl (by kernel_rfl) (by kernel_rfl) (by kernel_rfl) (by kernel_rfl) (by kernel_rfl) (by kernel_rfl) (by kernel_rfl) (by decide) (by kernel_rfl) wz (vS r_16.1) (by kernel_rfl) ([((av 0),some (.cells 2 [(vL eI r_16.2.L),(vI r_16.2.f_at)])),(n_2,some (.cells 4 [(vS (⟨#[]⟩:ByteArray)),(vS (⟨#[]⟩:ByteArray)),(vI 0),.nil])),(n_6,some (.cells 4 (Player.v r_3.1)))]:Hp) (by kernel_rfl) (aa (.ref (av 0) 0 0) ?_)
   obtain ⟨r_19,hr_20,h_11⟩:=bind_some h_11
   refine bA 0 [0] il ft (fu hr_20) rfl Eo rfl (by kernel_rfl) (by kernel_rfl) (by kernel_rfl) (by kernel_rfl) (by kernel_rfl) (by kernel_rfl) (by kernel_rfl) (by decide) (by kernel_rfl) wz (vI r_19.1) (by kernel_rfl) ([((av 0),some (.cells 2 [(vL eI r_19.2.L),(vI r_19.2.f_at)])),(n_2,some (.cells 4 [(vS (⟨#[]⟩:ByteArray)),(vS (⟨#[]⟩:ByteArray)),(vI 0),.nil])),(n_6,some (.cells 4 (Player.v r_3.1)))]:Hp) (by kernel_rfl) (dU (([(⟨#[109,97,108,108]⟩:ByteArray),(⟨#[99,105,116,121]⟩:ByteArray)]:List ByteArray).map eS) mQ vR rfl rfl rfl rfl rfl wz (dU (([(⟨#[]⟩:ByteArray)]:List ByteArray).map eS) mQ vR rfl rfl rfl rfl rfl wz (dU (([([(⟨#[109,97,108,108]⟩:ByteArray),(⟨#[99,105,116,121]⟩:ByteArray)]:List ByteArray),([(⟨#[]⟩:ByteArray)]:List ByteArray),([]:List ByteArray)]:List (List ByteArray)).map (eL eS)) Lr ez73 rfl rfl rfl rfl rfl wz (aa (.ref (av 0) 0 0) ?_))))
   obtain ⟨r_22,hr_23,h_11⟩:=bind_some h_11
   refine bA 0 [0] il ft (fD hr_23) rfl GL rfl (by kernel_rfl) (by kernel_rfl) (by kernel_rfl) (by kernel_rfl) (by kernel_rfl) (by kernel_rfl) (by kernel_rfl) (by decide) (by kernel_rfl) wz (vI r_22.1) (by kernel_rfl) ([((av 0),some (.cells 2 [(vL eI r_22.2.L),(vI r_22.2.f_at)])),(n_2,some (.cells 4 [(vS (⟨#[]⟩:ByteArray)),(vS (⟨#[]⟩:ByteArray)),(vI 0),.nil])),(n_6,some (.cells 4 (Player.v r_3.1)))]:Hp) (by kernel_rfl) ?_
   obtain ⟨y_25,hy_26,h_11⟩:=bind_some h_11
   refine eU Lr rfl rfl hy_26 rfl wz (bI zS BP rfl (vL eS y_25) rfl wz (aK (.d (.agg (Player.enc (⟨r_13.1,r_16.1,r_19.1,y_25⟩:Player)))) wz (by kernel_rfl) (eH 0 il ft 2 kQ rfl rfl [(vS r_13.1),(vS r_16.1),(vI r_19.1),(vL eS y_25)] rfl wz (af ?_))))
   obtain rfl:=ae h_11
   exact cu
  ·refine aB rfl hc_12 (ay ?_)
   obtain rfl:=ae h_11
   exact cu
 ·rintro ⟨⟩ _ sl_ H_ hp_ hq_
  refine aO _ hp_ hq_ (aj (aA 0 2 il ft kQ mO rfl rfl (.d (.agg (Player.enc (⟨v_10.2.2.1,v_10.2.2.2.1,v_10.2.2.2.2.1,v_10.2.2.2.2.2⟩:Player)))) rfl wz (eH 0 il ft 1 kQ rfl rfl [(vS v_10.2.2.1),(vS v_10.2.2.2.1),(vI v_10.2.2.2.2.1),(vL eS v_10.2.2.2.2.2)] rfl wz (af ?_))))
  obtain rfl:=ae hF
  exact aC (qB (.inr rfl) [(.d (.agg (Player.enc (⟨v_10.2.2.1,v_10.2.2.2.1,v_10.2.2.2.2.1,v_10.2.2.2.2.2⟩:Player))))] _ [0] [av 0] ⟨⟨1,_,_,_,_,_,_,_,rfl,rfl,kQ,mO,rfl⟩,trivial⟩ (.cons (iq rfl rfl) (.nil)) (by kernel_rfl) ⟨(by kernel_rfl),trivial⟩ (by decide) (by kernel_rfl))
end Go.Proofs.YthcdokkcamcnmaaGreatDoor.Law

