/-
 The machine computes these plain functions (written by a program of ours).
-/
import Derived.Test.YtnjnggakgeommaaGreatDoorFacts
import Derived.Test.YtnjnggakgeommaaGreatDoorDefs
open Go Go.Eng Go.Proofs
namespace Go.Proofs.YtnjnggakgeommaaGreatDoor.Law
set_option maxRecDepth 100000
set_option linter.unusedVariables false
set_option maxHeartbeats 1000000
theorem vg {x_1:Int} {n_2:Int} {r:Int} (hF:qm x_1 n_2=some r) :
  FnM Tryz.prog 85 [(vI x_1),(vI n_2)] [] (vI r) []:=by
 refine FnM.of_wH ⟨Tryz.prog,16,[],[]⟩ rfl Tryz.func85 rfl rfl (lb_ rfl) (by kernel_rfl) ?_
 unfold qm at hF
 refine af (aa (ae (vI 0) wz rfl (ak (af (af (aa (ae (vI n_2) wz rfl (ae (vB (decide (n_2<1))) wz rfl (ak ?_)))))))))
 rcases au hF with⟨hc_3,hF⟩|⟨hc_3,hF⟩
 ·refine aB rfl hc_3 (af (aa (ae (vI 0) wz rfl (ak ?_))))
  obtain rfl:=aj hF
  exact ay (aO (.inr rfl) [(vI 0)] ⟨rfl,trivial⟩ rfl rfl rfl)
 ·refine aA rfl hc_3 (av (af (aa (ae (vI x_1) wz rfl (ae (vI n_2) wz rfl ?_)))))
  obtain ⟨q_4,hz_5,hF⟩:=bind_some hF
  refine K5 rfl rfl hz_5 wz (ae (vI q_4) wz rfl (ak (af (af (aa (ae (vI q_4) wz rfl (ae (vB (decide (q_4<0))) wz rfl (ak ?_))))))))
  obtain ⟨v_6,h_7,hF⟩:=bind_some hF
  refine aH (β:=Unit) (λ_=>([(0,(vI v_6))]:SL_)) (λ_=>([]:Hp)) (λ_=>True) ?_ ?_
  ·rcases au h_7 with⟨hc_8,h_7⟩|⟨hc_8,h_7⟩
   ·refine aB rfl hc_8 (aa (ae (vI q_4) wz rfl (ae (vI n_2) wz rfl (ae (vI (w64 (q_4+n_2))) wz rfl (ae (vI (w64 (q_4+n_2))) wz rfl (ak ?_))))))
    obtain rfl:=aj h_7
    exact cu
   ·refine aA rfl hc_8 (av ?_)
    obtain rfl:=aj h_7
    exact cu
  ·rintro ⟨⟩ _ sl_ H_ hp_ hq_
   refine aM _ hp_ hq_ (af (aa (ae (vI v_6) wz rfl (ae (vI v_6) wz rfl (ak ?_)))))
   obtain rfl:=aj hF
   exact ay (aO (.inr rfl) [(vI v_6)] ⟨rfl,trivial⟩ rfl rfl rfl)
theorem jO {s_1:Stream} {n_2:Int} {r:Int×Stream} (hF:gy s_1 n_2=some r) :
  FnM Tryz.prog 39 [(.ref (aJ 0) 0 0),(vI n_2)] [(.cells 2 [(vL eI s_1.L),(vI s_1.f_at)])] (vI r.1) [some (.cells 2 [(vL eI r.2.L),(vI r.2.f_at)])]:=by
 refine FnM.of_wH ⟨Tryz.prog,64,[],[]⟩ rfl Tryz.func39 rfl rfl (lb_ rfl) (by kernel_rfl) ?_
 unfold gy at hF
 refine af (aa (ae (vI 0) wz rfl (ak (af (aa (ae (.ref (aJ 0) 0 0) wz rfl (ae (.ref (aJ 0) 0 0) wz rfl (aF Cq rfl 1 rfl wz (aC 0 0 il ft sz3 ag3 rfl rfl (vI s_1.f_at) rfl wz (ae (vI (w64 (s_1.f_at+1))) wz rfl (ae (.ref (aJ 0) 0 0) wz rfl (aF Cq rfl 1 rfl wz (dX 0 il ft 0 sz3 rfl rfl [(vL eI s_1.L),(vI (w64 (s_1.f_at+1)))] rfl wz (ak (af (af (aa (ae (.ref (aJ 0) 0 0) wz rfl (ae (.ref (aJ 0) 0 0) wz rfl (aF Ei rfl 0 rfl wz (aC 0 0 il ft u6 zx rfl rfl (vL eI s_1.L) rfl wz (bJ qi rfl wz (ae (vB ((s_1.L.length:Int)==0)) wz rfl ?_)))))))))))))))))))))))
 refine ak ?_
 rcases au hF with⟨hc_3,hF⟩|⟨hc_3,hF⟩
 ·refine aB rfl hc_3 (af (aa (ae (.ref (aJ 0) 0 0) wz rfl (ae (.ref (aJ 0) 0 0) wz rfl (aF Cq rfl 1 rfl wz (aC 0 0 il ft sz3 ag3 rfl rfl (vI (w64 (s_1.f_at+1))) rfl wz (ae (vI (w64 ((w64 (s_1.f_at+1))*7919))) wz rfl (ae (vI n_2) wz rfl ?_))))))))
  obtain ⟨r_4,hr_5,hF⟩:=bind_some hF
  refine aD (vg hr_5) rfl hb85 rfl rfl rfl rfl wz (ae (vI r_4) wz rfl (ak ?_))
  obtain rfl:=aj hF
  exact ay (Fa (.inr rfl) [(vI r_4)] _ [0] [aJ 0] ⟨rfl,trivial⟩ (.cons (lH rfl rfl) (.nil)) (by kernel_rfl) ⟨(by kernel_rfl),trivial⟩ (by decide) (by kernel_rfl))
 ·refine aA rfl hc_3 (av (af (bG (ae (.ref (aJ 0) 0 0) wz rfl (ae (.ref (aJ 0) 0 0) wz rfl (aF Cq rfl 1 rfl wz (aC 3 0 (.inr (by kernel_rfl)) (λ_ _ ag=>trivial) sz3 ag3 rfl rfl (vI (w64 (s_1.f_at+1))) rfl wz (ae (vI (w64 ((w64 (s_1.f_at+1))-1))) wz rfl (ae (.ref (aJ 0) 0 0) wz rfl (ae (.ref (aJ 0) 0 0) wz rfl (aF Ei rfl 0 rfl wz (aC 8 0 (.inr (by kernel_rfl)) (λ_ _ ag=>⟨.inl ⟨rfl,rfl⟩,trivial⟩) u6 zx rfl rfl (vL eI s_1.L) rfl wz (bJ qi rfl wz ?_)))))))))))))
  obtain ⟨q_6,hz_7,hF⟩:=bind_some hF
  refine K5 rfl rfl hz_7 wz (ae (vI q_6) wz rfl (ak (af (bG (ae (.ref (aJ 0) 0 0) wz rfl (ae (.ref (aJ 0) 0 0) wz rfl (aF Cq rfl 1 rfl wz (aC 3 0 (.inr (by kernel_rfl)) (λ_ _ ag=>trivial) sz3 ag3 rfl rfl (vI (w64 (s_1.f_at+1))) rfl wz (ae (vI (w64 ((w64 (s_1.f_at+1))-1))) wz rfl (ae (.ref (aJ 0) 0 0) wz rfl (ae (.ref (aJ 0) 0 0) wz rfl (aF Ei rfl 0 rfl wz (aC 8 0 (.inr (by kernel_rfl)) (λ_ _ ag=>⟨.inl ⟨rfl,rfl⟩,trivial⟩) u6 zx rfl rfl (vL eI s_1.L) rfl wz (bJ qi rfl wz ?_))))))))))))))
  obtain ⟨q_8,hz_9,hF⟩:=bind_some hF
  refine J5 rfl rfl hz_9 wz (ae (vI q_8) wz rfl (ak (aM (H0:=([((aJ 0),some (.cells 2 [(vL eI s_1.L),(vI (w64 (s_1.f_at+1)))]))]:Hp)) ([(0,(.ref (aJ 0) 0 0)),(1,(vI n_2)),(5,(vI q_6)),(6,(vI q_8))]:SL_) (by kernel_rfl) (sO (by kernel_rfl)) (af (aa (ae (.ref (aJ 0) 0 0) wz rfl (ae (.ref (aJ 0) 0 0) wz rfl (aF Ei rfl 0 rfl wz (aC 0 0 il ft u6 zx rfl rfl (vL eI s_1.L) rfl wz (ae (vI q_6) wz rfl ?_))))))))))
  obtain ⟨y_10,hy_11,hF⟩:=bind_some hF
  refine dP kE rfl rfl hy_11 rfl wz (bO sz3 ag3 rfl (vI y_10) rfl wz ?_)
  obtain ⟨r_12,hr_13,hF⟩:=bind_some hF
  refine aD (vg hr_13) rfl hb85 rfl rfl rfl rfl wz (ae (vI q_8) wz rfl (ae (vI q_6) wz rfl (ae (vI (w64 (7919+q_6))) wz rfl (ae (vI (w64 (q_8*(w64 (7919+q_6))))) wz rfl (ae (vI (w64 (r_12+(w64 (q_8*(w64 (7919+q_6))))))) wz rfl (ae (vI n_2) wz rfl ?_))))))
  obtain ⟨r_14,hr_15,hF⟩:=bind_some hF
  refine aD (vg hr_15) rfl hb85 rfl rfl rfl rfl wz (ae (vI r_14) wz rfl (ak ?_))
  obtain rfl:=aj hF
  exact ay (Fa (.inr rfl) [(vI r_14)] _ [0] [aJ 0] ⟨rfl,trivial⟩ (.cons (lH rfl rfl) (.nil)) (by kernel_rfl) ⟨(by kernel_rfl),trivial⟩ (by decide) (by kernel_rfl))
theorem gz {s_1:Stream} {n_2:Int} {r:Bool×Stream} (hF:dK s_1 n_2=some r) :
  FnM Tryz.prog 8 [(.ref (aJ 0) 0 0),(vI n_2)] [(.cells 2 [(vL eI s_1.L),(vI s_1.f_at)])] (vB r.1) [some (.cells 2 [(vL eI r.2.L),(vI r.2.f_at)])]:=by
 refine FnM.of_wH ⟨Tryz.prog,9,[],[]⟩ rfl Tryz.func8 rfl rfl (lb_ rfl) (by kernel_rfl) ?_
 unfold dK at hF
 refine af (aa (ae (vB false) wz rfl (ak (af (aa (ae (.ref (aJ 0) 0 0) wz rfl (ae (vI n_2) wz rfl ?_)))))))
 obtain ⟨r_3,hr_4,hF⟩:=bind_some hF
 refine fK 0 [0] il ft (jO hr_4) rfl hb39 rfl (by kernel_rfl) (by kernel_rfl) (by kernel_rfl) (by kernel_rfl) (by kernel_rfl) (by kernel_rfl) (by kernel_rfl) (by decide) (by kernel_rfl) wz (vI r_3.1) (by kernel_rfl) ([((aJ 0),some (.cells 2 [(vL eI r_3.2.L),(vI r_3.2.f_at)]))]:Hp) (by kernel_rfl) (ae (vB (r_3.1==0)) wz rfl (ae (vB (r_3.1==0)) wz rfl (ak ?_)))
 obtain rfl:=aj hF
 exact ay (Fa (.inr rfl) [(vB (r_3.1==0))] _ [0] [aJ 0] ⟨rfl,trivial⟩ (.cons (lH rfl rfl) (.nil)) (by kernel_rfl) ⟨(by kernel_rfl),trivial⟩ (by decide) (by kernel_rfl))
theorem x8 {s_1:Stream} {l_2:(List ByteArray)} {r:ByteArray×Stream} (hF:kC s_1 l_2=some r) :
  FnM Tryz.prog 40 [(.ref (aJ 0) 0 0),(vL eS l_2)] [(.cells 2 [(vL eI s_1.L),(vI s_1.f_at)])] (vS r.1) [some (.cells 2 [(vL eI r.2.L),(vI r.2.f_at)])]:=by
 refine FnM.of_wH ⟨Tryz.prog,12,[],[]⟩ rfl Tryz.func40 rfl rfl (lb_ rfl) (by kernel_rfl) ?_
 unfold kC at hF
 refine af (aa (ae (vS (⟨#[]⟩:ByteArray)) wz rfl (ak (af (aa (ae (vL eS l_2) wz rfl (ae (.ref (aJ 0) 0 0) wz rfl (ae (vL eS l_2) wz rfl (bJ xc rfl wz ?_)))))))))
 obtain ⟨r_3,hr_4,hF⟩:=bind_some hF
 refine fK 0 [0] il ft (jO hr_4) rfl hb39 rfl (by kernel_rfl) (by kernel_rfl) (by kernel_rfl) (by kernel_rfl) (by kernel_rfl) (by kernel_rfl) (by kernel_rfl) (by decide) (by kernel_rfl) wz (vI r_3.1) (by kernel_rfl) ([((aJ 0),some (.cells 2 [(vL eI r_3.2.L),(vI r_3.2.f_at)]))]:Hp) (by kernel_rfl) ?_
 obtain ⟨y_6,hy_7,hF⟩:=bind_some hF
 refine dP uw rfl rfl hy_7 rfl wz (bO sz9 ag9 rfl (vS y_6) rfl wz (ae (vS y_6) wz rfl (ak ?_)))
 obtain rfl:=aj hF
 exact ay (Fa (.inr rfl) [(vS y_6)] _ [0] [aJ 0] ⟨rfl,trivial⟩ (.cons (lH rfl rfl) (.nil)) (by kernel_rfl) ⟨(by kernel_rfl),trivial⟩ (by decide) (by kernel_rfl))
theorem xy {s_1:Stream} {low_2:Int} {high_3:Int} {r:Int×Stream} (hF:jD s_1 low_2 high_3=some r) :
  FnM Tryz.prog 10 [(.ref (aJ 0) 0 0),(vI low_2),(vI high_3)] [(.cells 2 [(vL eI s_1.L),(vI s_1.f_at)])] (vI r.1) [some (.cells 2 [(vL eI r.2.L),(vI r.2.f_at)])]:=by
 refine FnM.of_wH ⟨Tryz.prog,19,[],[]⟩ rfl Tryz.func10 rfl rfl (lb_ rfl) (by kernel_rfl) ?_
 unfold jD at hF
 refine af (aa (ae (vI 0) wz rfl (ak (af (af (aa (ae (vI high_3) wz rfl (ae (vI low_2) wz rfl (ae (vB (decide (high_3<low_2))) wz rfl (ak ?_))))))))))
 rcases au hF with⟨hc_4,hF⟩|⟨hc_4,hF⟩
 ·refine aB rfl hc_4 (af (aa (ae (vI low_2) wz rfl (ae (vI low_2) wz rfl (ak ?_)))))
  obtain rfl:=aj hF
  exact ay (Fa (.inr rfl) [(vI low_2)] _ [0] [aJ 0] ⟨rfl,trivial⟩ (.cons (lH rfl rfl) (.nil)) (by kernel_rfl) ⟨(by kernel_rfl),trivial⟩ (by decide) (by kernel_rfl))
 ·refine aA rfl hc_4 (av (af (aa (ae (vI low_2) wz rfl (ae (.ref (aJ 0) 0 0) wz rfl (ae (vI high_3) wz rfl (ae (vI low_2) wz rfl (ae (vI (w64 (high_3-low_2))) wz rfl (ae (vI (w64 ((w64 (high_3-low_2))+1))) wz rfl ?_)))))))))
  obtain ⟨r_5,hr_6,hF⟩:=bind_some hF
  refine fK 0 [0] il ft (jO hr_6) rfl hb39 rfl (by kernel_rfl) (by kernel_rfl) (by kernel_rfl) (by kernel_rfl) (by kernel_rfl) (by kernel_rfl) (by kernel_rfl) (by decide) (by kernel_rfl) wz (vI r_5.1) (by kernel_rfl) ([((aJ 0),some (.cells 2 [(vL eI r_5.2.L),(vI r_5.2.f_at)]))]:Hp) (by kernel_rfl) (ae (vI (w64 (low_2+r_5.1))) wz rfl (ae (vI (w64 (low_2+r_5.1))) wz rfl (ak ?_)))
  obtain rfl:=aj hF
  exact ay (Fa (.inr rfl) [(vI (w64 (low_2+r_5.1)))] _ [0] [aJ 0] ⟨rfl,trivial⟩ (.cons (lH rfl rfl) (.nil)) (by kernel_rfl) ⟨(by kernel_rfl),trivial⟩ (by decide) (by kernel_rfl))
theorem fw {s_1:Stream} {l_2:(List Int)} {r:Int×Stream} (hF:dM s_1 l_2=some r) :
  FnM Tryz.prog 65 [(.ref (aJ 0) 0 0),(vL eI l_2)] [(.cells 2 [(vL eI s_1.L),(vI s_1.f_at)])] (vI r.1) [some (.cells 2 [(vL eI r.2.L),(vI r.2.f_at)])]:=by
 refine FnM.of_wH ⟨Tryz.prog,12,[],[]⟩ rfl Tryz.func65 rfl rfl (lb_ rfl) (by kernel_rfl) ?_
 unfold dM at hF
 refine af (aa (ae (vI 0) wz rfl (ak (af (aa (ae (vL eI l_2) wz rfl (ae (.ref (aJ 0) 0 0) wz rfl (ae (vL eI l_2) wz rfl (bJ qi rfl wz ?_)))))))))
 obtain ⟨r_3,hr_4,hF⟩:=bind_some hF
 refine fK 0 [0] il ft (jO hr_4) rfl hb39 rfl (by kernel_rfl) (by kernel_rfl) (by kernel_rfl) (by kernel_rfl) (by kernel_rfl) (by kernel_rfl) (by kernel_rfl) (by decide) (by kernel_rfl) wz (vI r_3.1) (by kernel_rfl) ([((aJ 0),some (.cells 2 [(vL eI r_3.2.L),(vI r_3.2.f_at)]))]:Hp) (by kernel_rfl) ?_
 obtain ⟨y_6,hy_7,hF⟩:=bind_some hF
 refine dP kE rfl rfl hy_7 rfl wz (bO sz3 ag3 rfl (vI y_6) rfl wz (ae (vI y_6) wz rfl (ak ?_)))
 obtain rfl:=aj hF
 exact ay (Fa (.inr rfl) [(vI y_6)] _ [0] [aJ 0] ⟨rfl,trivial⟩ (.cons (lH rfl rfl) (.nil)) (by kernel_rfl) ⟨(by kernel_rfl),trivial⟩ (by decide) (by kernel_rfl))
theorem qx {s_1:Stream} {r:(List Entry)×Stream} (hF:fC s_1=some r) :
  FnM Tryz.prog 21 [(.ref (aJ 0) 0 0)] [(.cells 2 [(vL eI s_1.L),(vI s_1.f_at)])] (vL Entry.enc r.1) [some (.cells 2 [(vL eI r.2.L),(vI r.2.f_at)])]:=by
 refine FnM.of_wH ⟨Tryz.prog,89,[],[]⟩ rfl Tryz.func21 rfl rfl (lb_ rfl) (by kernel_rfl) ?_
 unfold fC at hF
 refine af (aa (ae .nil wz rfl (ak (af (aa (ae .nil wz rfl (ak (af (af (aa (eO (([(⟨#[101,97]⟩:ByteArray),(⟨#[101,98]⟩:ByteArray),(⟨#[101,99]⟩:ByteArray),(⟨#[101,100]⟩:ByteArray)]:List ByteArray).map eS) uw Fq rfl rfl rfl rfl rfl wz (bJ xc rfl wz (ae (vI 0) wz rfl (ak (kZ (λn_8 => ?_))))))))))))))))
 obtain ⟨o_13,hj_14,hF⟩:=bind_some hF
 obtain ⟨hn_6,hj_14⟩:=bg hj_14
 refine aH (β:=((List Entry)×(List Int)×Int)×Nm) (λp=>(λ(s_7:(List Entry)×(List Int)×Int) (n_10:Nm)=>([(3,(gV n_10 13 s_7.1))]:SL_)) p.1 p.2) (λp=>(λ(s_7:(List Entry)×(List Int)×Int) (n_10:Nm)=>([((aJ 0),some (.cells 2 [(vL eI s_7.2.1),(vI s_7.2.2)])),(n_10,gB 13 Entry.enc s_7.1)]:Hp)) p.1 p.2) (λp=>o_13 = .go p.1) ?_ ?_
 ·refine aG (bv (β:=Nat×(List ByteArray)×((List Entry)×(List Int)×Int)×Nm) (λp=>(λ(k_2:Nat) (l_3:List ByteArray) (s_7:(List Entry)×(List Int)×Int) (n_10:Nm)=>([(0,(.ref (aJ 0) 0 0)),(3,(gV n_10 13 s_7.1)),(11,(vL eS ([(⟨#[101,97]⟩:ByteArray),(⟨#[101,98]⟩:ByteArray),(⟨#[101,99]⟩:ByteArray),(⟨#[101,100]⟩:ByteArray)]:List ByteArray))),(12,(vI (([(⟨#[101,97]⟩:ByteArray),(⟨#[101,98]⟩:ByteArray),(⟨#[101,99]⟩:ByteArray),(⟨#[101,100]⟩:ByteArray)]:List ByteArray).length:Int))),(13,(vI (k_2:Int)))]:SL_)) p.1 p.2.1 p.2.2.1 p.2.2.2) (λp=>(λ(k_2:Nat) (l_3:List ByteArray) (s_7:(List Entry)×(List Int)×Int) (n_10:Nm)=>([((aJ 0),some (.cells 2 [(vL eI s_7.2.1),(vI s_7.2.2)])),(n_10,gB 13 Entry.enc s_7.1)]:Hp)) p.1 p.2.1 p.2.2.1 p.2.2.2) (λp=>forR (λk x s=>dw k x s) p.2.1 p.1 p.2.2.1=some o_13/\(([(⟨#[101,97]⟩:ByteArray),(⟨#[101,98]⟩:ByteArray),(⟨#[101,99]⟩:ByteArray),(⟨#[101,100]⟩:ByteArray)]:List ByteArray)).drop p.1=p.2.1) (λp=>p.2.1.length) (0,([(⟨#[101,97]⟩:ByteArray),(⟨#[101,98]⟩:ByteArray),(⟨#[101,99]⟩:ByteArray),(⟨#[101,100]⟩:ByteArray)]:List ByteArray),(([]:List Entry),s_1.L,s_1.f_at),n_8) ⟨hj_14,rfl⟩ rfl (aK rfl) ?_)
  rintro ⟨k_2,l_3,s_7,n_10⟩ ⟨hL_12,hD_5⟩
  dsimp only at hL_12 hD_5
  cases l_3 with
  | nil =>
   obtain rfl:=aj hL_12
   refine af (aa (ae (vB (decide ((k_2:Int)<(([(⟨#[101,97]⟩:ByteArray),(⟨#[101,98]⟩:ByteArray),(⟨#[101,99]⟩:ByteArray),(⟨#[101,100]⟩:ByteArray)]:List ByteArray).length:Int)))) wz rfl (ak ?_)))
   refine af (aA rfl (drop_nil hD_5) (aX ?_))
   exact aS (s_7,n_10) rfl rfl (aK rfl)
  | cons x_4 l_3 =>
   obtain ⟨c_,hc_11,hL_12⟩:=bind_some hL_12
   refine af (aa (ae (vB (decide ((k_2:Int)<(([(⟨#[101,97]⟩:ByteArray),(⟨#[101,98]⟩:ByteArray),(⟨#[101,99]⟩:ByteArray),(⟨#[101,100]⟩:ByteArray)]:List ByteArray).length:Int)))) wz rfl (ak ?_)))
   refine af (aB rfl (bz hD_5) (av ?_))
   unfold dw at hc_11
   refine af (aG (af (aa (dP uw rfl rfl (bE hD_5) rfl wz (bO sz9 ag9 rfl (vS x_4) rfl wz (ae (vS x_4) wz rfl (ak (af (af (aa (ae (.ref (aJ 0) 0 0) wz rfl ?_)))))))))))
   obtain ⟨r_15,hr_16,hc_11⟩:=bind_some hc_11
   refine fK 0 [0] il ft (gz hr_16) rfl hb8 rfl (by kernel_rfl) (by kernel_rfl) (by kernel_rfl) (by kernel_rfl) (by kernel_rfl) (by kernel_rfl) (by kernel_rfl) (by decide) (by kernel_rfl) wz (vB r_15.1) (by kernel_rfl) ([((aJ 0),some (.cells 2 [(vL eI r_15.2.L),(vI r_15.2.f_at)])),(n_10,gB 13 Entry.enc s_7.1)]:Hp) (by kernel_rfl) (ak ?_)
   rcases au hc_11 with⟨hc_18,hc_11⟩|⟨hc_18,hc_11⟩
   ·refine aB rfl hc_18 (aX (aa (eQ (bB hD_5 hn_6) wz rfl (ae (vI ((k_2+1:Nat):Int)) wz rfl (ak ?_)))))
    obtain rfl:=aj hc_11
    exact aY (k_2+1,l_3,(s_7.1,r_15.2.L,r_15.2.f_at),n_10) ⟨hL_12,aR hD_5⟩ (ls_ _) rfl (aK rfl)
   ·refine aA rfl hc_18 (av (af (aa (ae (vS x_4) wz rfl (ae (.ref (aJ 0) 0 0) wz rfl (eO (([(⟨#[105,97]⟩:ByteArray),(⟨#[105,98]⟩:ByteArray),(⟨#[105,99]⟩:ByteArray)]:List ByteArray).map eS) uw Fq rfl rfl rfl rfl rfl wz ?_))))))
    obtain ⟨r_19,hr_20,hc_11⟩:=bind_some hc_11
    refine fK 0 [0] il ft (x8 hr_20) rfl hb40 rfl (by kernel_rfl) (by kernel_rfl) (by kernel_rfl) (by kernel_rfl) (by kernel_rfl) (by kernel_rfl) (by kernel_rfl) (by decide) (by kernel_rfl) wz (vS r_19.1) (by kernel_rfl) ([((aJ 0),some (.cells 2 [(vL eI r_19.2.L),(vI r_19.2.f_at)])),(n_10,gB 13 Entry.enc s_7.1)]:Hp) (by kernel_rfl) (ae (.ref (aJ 0) 0 0) wz rfl ?_)
    obtain ⟨r_22,hr_23,hc_11⟩:=bind_some hc_11
    refine fK 0 [0] il ft (xy hr_23) rfl hb10 rfl (by kernel_rfl) (by kernel_rfl) (by kernel_rfl) (by kernel_rfl) (by kernel_rfl) (by kernel_rfl) (by kernel_rfl) (by decide) (by kernel_rfl) wz (vI r_22.1) (by kernel_rfl) ([((aJ 0),some (.cells 2 [(vL eI r_22.2.L),(vI r_22.2.f_at)])),(n_10,gB 13 Entry.enc s_7.1)]:Hp) (by kernel_rfl) (ae (.ref (aJ 0) 0 0) wz rfl (eO (([0,0,1,3]:List Int).map eI) kE xE rfl rfl rfl rfl rfl wz ?_))
    obtain ⟨r_25,hr_26,hc_11⟩:=bind_some hc_11
    refine fK 0 [0] il ft (fw hr_26) rfl GL rfl (by kernel_rfl) (by kernel_rfl) (by kernel_rfl) (by kernel_rfl) (by kernel_rfl) (by kernel_rfl) (by kernel_rfl) (by decide) (by kernel_rfl) wz (vI r_25.1) (by kernel_rfl) ([((aJ 0),some (.cells 2 [(vL eI r_25.2.L),(vI r_25.2.f_at)])),(n_10,gB 13 Entry.enc s_7.1)]:Hp) (by kernel_rfl) (ae (.ref (aJ 0) 0 0) wz rfl (eO (([1,1,2,3,7]:List Int).map eI) kE xE rfl rfl rfl rfl rfl wz ?_))
    obtain ⟨r_28,hr_29,hc_11⟩:=bind_some hc_11
    refine fK 0 [0] il ft (fw hr_29) rfl GL rfl (by kernel_rfl) (by kernel_rfl) (by kernel_rfl) (by kernel_rfl) (by kernel_rfl) (by kernel_rfl) (by kernel_rfl) (by decide) (by kernel_rfl) wz (vI r_28.1) (by kernel_rfl) ([((aJ 0),some (.cells 2 [(vL eI r_28.2.L),(vI r_28.2.f_at)])),(n_10,gB 13 Entry.enc s_7.1)]:Hp) (by kernel_rfl) (ae (.ref (aJ 0) 0 0) wz rfl (eO (([127,127,31,96,1,2]:List Int).map eI) kE xE rfl rfl rfl rfl rfl wz ?_))
    obtain ⟨r_31,hr_32,hc_11⟩:=bind_some hc_11
    refine fK 0 [0] il ft (fw hr_32) rfl GL rfl (by kernel_rfl) (by kernel_rfl) (by kernel_rfl) (by kernel_rfl) (by kernel_rfl) (by kernel_rfl) (by kernel_rfl) (by decide) (by kernel_rfl) wz (vI r_31.1) (by kernel_rfl) ([((aJ 0),some (.cells 2 [(vL eI r_31.2.L),(vI r_31.2.f_at)])),(n_10,gB 13 Entry.enc s_7.1)]:Hp) (by kernel_rfl) (ae (.ref (aJ 0) 0 0) wz rfl (eO (([0,0,60,600,1380]:List Int).map eI) kE xE rfl rfl rfl rfl rfl wz ?_))
    obtain ⟨r_34,hr_35,hc_11⟩:=bind_some hc_11
    refine fK 0 [0] il ft (fw hr_35) rfl GL rfl (by kernel_rfl) (by kernel_rfl) (by kernel_rfl) (by kernel_rfl) (by kernel_rfl) (by kernel_rfl) (by kernel_rfl) (by decide) (by kernel_rfl) wz (vI r_34.1) (by kernel_rfl) ([((aJ 0),some (.cells 2 [(vL eI r_34.2.L),(vI r_34.2.f_at)])),(n_10,gB 13 Entry.enc s_7.1)]:Hp) (by kernel_rfl) (ae (.ref (aJ 0) 0 0) wz rfl (eO (([0,60,120,600,720,1439]:List Int).map eI) kE xE rfl rfl rfl rfl rfl wz ?_))
    obtain ⟨r_37,hr_38,hc_11⟩:=bind_some hc_11
    refine fK 0 [0] il ft (fw hr_38) rfl GL rfl (by kernel_rfl) (by kernel_rfl) (by kernel_rfl) (by kernel_rfl) (by kernel_rfl) (by kernel_rfl) (by kernel_rfl) (by decide) (by kernel_rfl) wz (vI r_37.1) (by kernel_rfl) ([((aJ 0),some (.cells 2 [(vL eI r_37.2.L),(vI r_37.2.f_at)])),(n_10,gB 13 Entry.enc s_7.1)]:Hp) (by kernel_rfl) (ae (.ref (aJ 0) 0 0) wz rfl (eO (([0,0,1,5]:List Int).map eI) kE xE rfl rfl rfl rfl rfl wz ?_))
    obtain ⟨r_40,hr_41,hc_11⟩:=bind_some hc_11
    refine fK 0 [0] il ft (fw hr_41) rfl GL rfl (by kernel_rfl) (by kernel_rfl) (by kernel_rfl) (by kernel_rfl) (by kernel_rfl) (by kernel_rfl) (by kernel_rfl) (by decide) (by kernel_rfl) wz (vI r_40.1) (by kernel_rfl) ([((aJ 0),some (.cells 2 [(vL eI r_40.2.L),(vI r_40.2.f_at)])),(n_10,gB 13 Entry.enc s_7.1)]:Hp) (by kernel_rfl) (ae (.ref (aJ 0) 0 0) wz rfl ?_)
    obtain ⟨r_43,hr_44,hc_11⟩:=bind_some hc_11
    refine fK 0 [0] il ft (gz hr_44) rfl hb8 rfl (by kernel_rfl) (by kernel_rfl) (by kernel_rfl) (by kernel_rfl) (by kernel_rfl) (by kernel_rfl) (by kernel_rfl) (by decide) (by kernel_rfl) wz (vB r_43.1) (by kernel_rfl) ([((aJ 0),some (.cells 2 [(vL eI r_43.2.L),(vI r_43.2.f_at)])),(n_10,gB 13 Entry.enc s_7.1)]:Hp) (by kernel_rfl) (ae (.agg [(vS x_4),(vS r_19.1),(vI r_22.1),(vI r_25.1),(vI 0),(vI r_28.1),(vI r_31.1),.nil,(vI r_34.1),(vI r_37.1),(vI r_40.1),.nil,(vB r_43.1)]) wz (by kernel_rfl) (dA 0 (.inl rfl) z35 rfl wz (λn_46=>dX 0 il ft 2 iX rfl rfl [(vS x_4),(vS r_19.1),(vI r_22.1),(vI r_25.1),(vI 0),(vI r_28.1),(vI r_31.1),.nil,(vI r_34.1),(vI r_37.1),(vI r_40.1),.nil,(vB r_43.1)] rfl wz (ak (aM (H0:=([((aJ 0),some (.cells 2 [(vL eI r_43.2.L),(vI r_43.2.f_at)])),(n_10,gB 13 Entry.enc s_7.1),(n_46,some (.cells 13 [(vS x_4),(vS r_19.1),(vI r_22.1),(vI r_25.1),(vI 0),(vI r_28.1),(vI r_31.1),.nil,(vI r_34.1),(vI r_37.1),(vI r_40.1),.nil,(vB r_43.1)]))]:Hp)) ([(0,(.ref (aJ 0) 0 0)),(3,(gV n_10 13 s_7.1)),(6,(.ref n_46 0 0)),(11,(vL eS ([(⟨#[101,97]⟩:ByteArray),(⟨#[101,98]⟩:ByteArray),(⟨#[101,99]⟩:ByteArray),(⟨#[101,100]⟩:ByteArray)]:List ByteArray))),(12,(vI (([(⟨#[101,97]⟩:ByteArray),(⟨#[101,98]⟩:ByteArray),(⟨#[101,99]⟩:ByteArray),(⟨#[101,100]⟩:ByteArray)]:List ByteArray).length:Int))),(13,(vI (k_2:Int)))]:SL_) (by kernel_rfl) (sO (by kernel_rfl)) (af (bG (aF uV rfl 3 rfl wz (aC 1 2 (.inr (by kernel_rfl)) (λ_ _ ag=>trivial) sz3 ag3 rfl rfl (vI r_25.1) rfl wz (ae (.ref (aJ 0) 0 0) wz rfl (eO (([0,1,5,10,30]:List Int).map eI) kE xE rfl rfl rfl rfl rfl wz ?_)))))))))))
    obtain ⟨r_47,hr_48,hc_11⟩:=bind_some hc_11
    refine fK 4 [0] (.inr (by kernel_rfl)) (λ_ _ ag=>by exact⟨.inr (.inl (dis1 (ag_ne ag (i:=0) (j:=2) rfl rfl (by decide)))),trivial⟩) (fw hr_48) rfl GL rfl (by kernel_rfl) (by kernel_rfl) (by kernel_rfl) (by kernel_rfl) (by kernel_rfl) (by kernel_rfl) (by kernel_rfl) (by decide) (by kernel_rfl) wz (vI r_47.1) (by kernel_rfl) ([((aJ 0),some (.cells 2 [(vL eI r_47.2.L),(vI r_47.2.f_at)])),(n_10,gB 13 Entry.enc s_7.1),(n_46,some (.cells 13 [(vS x_4),(vS r_19.1),(vI r_22.1),(vI r_25.1),(vI 0),(vI r_28.1),(vI r_31.1),.nil,(vI r_34.1),(vI r_37.1),(vI r_40.1),.nil,(vB r_43.1)]))]:Hp) (by kernel_rfl) (ae (vI (w64 (r_25.1+r_47.1))) wz rfl (aF ve rfl 4 rfl wz (dX 7 (.inr (by kernel_rfl)) (λ_ _ ag=>⟨.inr (.inr (by kernel_rfl)),⟨.inr (.inr (by kernel_rfl)),trivial⟩⟩) 2 sz3 rfl rfl [(vS x_4),(vS r_19.1),(vI r_22.1),(vI r_25.1),(vI (w64 (r_25.1+r_47.1))),(vI r_28.1),(vI r_31.1),.nil,(vI r_34.1),(vI r_37.1),(vI r_40.1),.nil,(vB r_43.1)] rfl wz (ak (af (af (aa (eO (([1,2,8]:List Int).map eI) kE xE rfl rfl rfl rfl rfl wz (bJ qi rfl wz (ae (vI 0) wz rfl (ak (kZ (λn_56 => ?_)))))))))))))
    obtain ⟨o_61,hj_62,hc_11⟩:=bind_some hc_11
    obtain ⟨hn_54,hj_62⟩:=bg hj_62
    refine aH (β:=((List Int)×(List Int)×Int)×Nm) (λp=>(λ(s_55:(List Int)×(List Int)×Int) (n_58:Nm)=>([(0,(.ref (aJ 0) 0 0)),(3,(gV n_10 13 s_7.1)),(6,(.ref n_46 0 0)),(11,(vL eS ([(⟨#[101,97]⟩:ByteArray),(⟨#[101,98]⟩:ByteArray),(⟨#[101,99]⟩:ByteArray),(⟨#[101,100]⟩:ByteArray)]:List ByteArray))),(12,(vI (([(⟨#[101,97]⟩:ByteArray),(⟨#[101,98]⟩:ByteArray),(⟨#[101,99]⟩:ByteArray),(⟨#[101,100]⟩:ByteArray)]:List ByteArray).length:Int))),(13,(vI (k_2:Int)))]:SL_)) p.1 p.2) (λp=>(λ(s_55:(List Int)×(List Int)×Int) (n_58:Nm)=>([((aJ 0),some (.cells 2 [(vL eI s_55.2.1),(vI s_55.2.2)])),(n_10,gB 13 Entry.enc s_7.1),(n_46,some (.cells 13 [(vS x_4),(vS r_19.1),(vI r_22.1),(vI r_25.1),(vI (w64 (r_25.1+r_47.1))),(vI r_28.1),(vI r_31.1),(gV n_58 1 s_55.1),(vI r_34.1),(vI r_37.1),(vI r_40.1),.nil,(vB r_43.1)])),(n_58,gB 1 eI s_55.1)]:Hp)) p.1 p.2) (λp=>o_61 = .go p.1) ?_ ?_
    ·refine aG (bv (β:=Nat×(List Int)×((List Int)×(List Int)×Int)×Nm) (λp=>(λ(k_50:Nat) (l_51:List Int) (s_55:(List Int)×(List Int)×Int) (n_58:Nm)=>([(0,(.ref (aJ 0) 0 0)),(3,(gV n_10 13 s_7.1)),(6,(.ref n_46 0 0)),(11,(vL eS ([(⟨#[101,97]⟩:ByteArray),(⟨#[101,98]⟩:ByteArray),(⟨#[101,99]⟩:ByteArray),(⟨#[101,100]⟩:ByteArray)]:List ByteArray))),(12,(vI (([(⟨#[101,97]⟩:ByteArray),(⟨#[101,98]⟩:ByteArray),(⟨#[101,99]⟩:ByteArray),(⟨#[101,100]⟩:ByteArray)]:List ByteArray).length:Int))),(13,(vI (k_2:Int))),(53,(vL eI ([1,2,8]:List Int))),(54,(vI (([1,2,8]:List Int).length:Int))),(55,(vI (k_50:Int)))]:SL_)) p.1 p.2.1 p.2.2.1 p.2.2.2) (λp=>(λ(k_50:Nat) (l_51:List Int) (s_55:(List Int)×(List Int)×Int) (n_58:Nm)=>([((aJ 0),some (.cells 2 [(vL eI s_55.2.1),(vI s_55.2.2)])),(n_10,gB 13 Entry.enc s_7.1),(n_46,some (.cells 13 [(vS x_4),(vS r_19.1),(vI r_22.1),(vI r_25.1),(vI (w64 (r_25.1+r_47.1))),(vI r_28.1),(vI r_31.1),(gV n_58 1 s_55.1),(vI r_34.1),(vI r_37.1),(vI r_40.1),.nil,(vB r_43.1)])),(n_58,gB 1 eI s_55.1)]:Hp)) p.1 p.2.1 p.2.2.1 p.2.2.2) (λp=>forR (λk x s=>fO k x s) p.2.1 p.1 p.2.2.1=some o_61/\(([1,2,8]:List Int)).drop p.1=p.2.1) (λp=>p.2.1.length) (0,([1,2,8]:List Int),(([]:List Int),r_47.2.L,r_47.2.f_at),n_56) ⟨hj_62,rfl⟩ rfl (aK rfl) ?_)
     rintro ⟨k_50,l_51,s_55,n_58⟩ ⟨hL_60,hD_53⟩
     dsimp only at hL_60 hD_53
     cases l_51 with
     | nil =>
      obtain rfl:=aj hL_60
      refine af (aa (ae (vB (decide ((k_50:Int)<(([1,2,8]:List Int).length:Int)))) wz rfl (ak ?_)))
      refine af (aA rfl (drop_nil hD_53) (aX ?_))
      exact aS (s_55,n_58) rfl rfl (aK rfl)
     | cons x_52 l_51 =>
      obtain ⟨c_,hc_59,hL_60⟩:=bind_some hL_60
      refine af (aa (ae (vB (decide ((k_50:Int)<(([1,2,8]:List Int).length:Int)))) wz rfl (ak ?_)))
      refine af (aB rfl (bz hD_53) (av ?_))
      unfold fO at hc_59
      refine af (aG (af (aa (dP kE rfl rfl (bE hD_53) rfl wz (bO sz3 ag3 rfl (vI x_52) rfl wz (ae (vI x_52) wz rfl (ak (af (aa (ae (.ref (aJ 0) 0 0) wz rfl ?_))))))))))
      obtain ⟨r_63,hr_64,hc_59⟩:=bind_some hc_59
      refine fK 0 [0] il ft (gz hr_64) rfl hb8 rfl (by kernel_rfl) (by kernel_rfl) (by kernel_rfl) (by kernel_rfl) (by kernel_rfl) (by kernel_rfl) (by kernel_rfl) (by decide) (by kernel_rfl) wz (vB r_63.1) (by kernel_rfl) ([((aJ 0),some (.cells 2 [(vL eI r_63.2.L),(vI r_63.2.f_at)])),(n_10,gB 13 Entry.enc s_7.1),(n_46,some (.cells 13 [(vS x_4),(vS r_19.1),(vI r_22.1),(vI r_25.1),(vI (w64 (r_25.1+r_47.1))),(vI r_28.1),(vI r_31.1),(gV n_58 1 s_55.1),(vI r_34.1),(vI r_37.1),(vI r_40.1),.nil,(vB r_43.1)])),(n_58,gB 1 eI s_55.1)]:Hp) (by kernel_rfl) (ak ?_)
      obtain ⟨v_66,h_67,hc_59⟩:=bind_some hc_59
      refine aH (β:=Nm) (λ(n_68:Nm)=>([(0,(.ref (aJ 0) 0 0)),(3,(gV n_10 13 s_7.1)),(6,(.ref n_46 0 0)),(11,(vL eS ([(⟨#[101,97]⟩:ByteArray),(⟨#[101,98]⟩:ByteArray),(⟨#[101,99]⟩:ByteArray),(⟨#[101,100]⟩:ByteArray)]:List ByteArray))),(12,(vI (([(⟨#[101,97]⟩:ByteArray),(⟨#[101,98]⟩:ByteArray),(⟨#[101,99]⟩:ByteArray),(⟨#[101,100]⟩:ByteArray)]:List ByteArray).length:Int))),(13,(vI (k_2:Int))),(53,(vL eI ([1,2,8]:List Int))),(54,(vI (([1,2,8]:List Int).length:Int))),(55,(vI (k_50:Int)))]:SL_)) (λ(n_68:Nm)=>([((aJ 0),some (.cells 2 [(vL eI r_63.2.L),(vI r_63.2.f_at)])),(n_10,gB 13 Entry.enc s_7.1),(n_46,some (.cells 13 [(vS x_4),(vS r_19.1),(vI r_22.1),(vI r_25.1),(vI (w64 (r_25.1+r_47.1))),(vI r_28.1),(vI r_31.1),(gV n_68 1 v_66),(vI r_34.1),(vI r_37.1),(vI r_40.1),.nil,(vB r_43.1)])),(n_68,gB 1 eI v_66)]:Hp)) (λ_=>True) ?_ ?_
      ·rcases au h_67 with⟨hc_69,h_67⟩|⟨hc_69,h_67⟩
       ·refine aB rfl hc_69 (aa (aF mZ rfl 7 rfl wz (aC 0 2 il ft u6 zx rfl rfl (gV n_58 1 s_55.1) rfl wz (ae (vI x_52) wz rfl (eO (([x_52]:List Int).map eI) kE xE rfl rfl rfl rfl rfl wz ?_)))))
        obtain ⟨a_70,hz_71,h_67⟩:=bind_some h_67
        refine jH 0 il ft (i:=3) GG GG sz3 z3 rfl (by decide) by3 (by decide) (λ_=>rfl) rfl rfl rfl hz_71 wz (λn_72=>aF mZ rfl 7 rfl wz (dX 0 il ft 2 u6 rfl rfl [(vS x_4),(vS r_19.1),(vI r_22.1),(vI r_25.1),(vI (w64 (r_25.1+r_47.1))),(vI r_28.1),(vI r_31.1),(gV n_72 1 a_70),(vI r_34.1),(vI r_37.1),(vI r_40.1),.nil,(vB r_43.1)] (stC_g rfl) wz (ak ?_)))
        obtain rfl:=aj h_67
        exact aS n_72 trivial rfl (aK rfl)
       ·refine aA rfl hc_69 (av ?_)
        obtain rfl:=aj h_67
        exact aS n_58 trivial rfl (aK rfl)
      ·rintro n_68 _ sl_ H_ hp_ hq_
       refine aM _ hp_ hq_ (aa (eQ (bB hD_53 hn_54) wz rfl (ae (vI ((k_50+1:Nat):Int)) wz rfl (ak ?_))))
       obtain rfl:=aj hc_59
       exact aY (k_50+1,l_51,(v_66,r_63.2.L,r_63.2.f_at),n_68) ⟨hL_60,aR hD_53⟩ (ls_ _) rfl (aK rfl)
    ·rintro ⟨s_55,n_58⟩ ho_ sl_ H_ hp_ hq_
     subst ho_
     refine aM _ hp_ hq_ (af (af (aa (eO (([(⟨#[99,105,116,121]⟩:ByteArray),(⟨#[109,97,108,108]⟩:ByteArray)]:List ByteArray).map eS) uw Fq rfl rfl rfl rfl rfl wz (bJ xc rfl wz (ae (vI 0) wz rfl (ak (kZ (λn_79 => ?_)))))))))
     obtain ⟨o_84,hj_85,hc_11⟩:=bind_some hc_11
     obtain ⟨hn_77,hj_85⟩:=bg hj_85
     refine aH (β:=((List ByteArray)×(List Int)×Int)×Nm) (λp=>(λ(s_78:(List ByteArray)×(List Int)×Int) (n_81:Nm)=>([(0,(.ref (aJ 0) 0 0)),(3,(gV n_10 13 s_7.1)),(6,(.ref n_46 0 0)),(11,(vL eS ([(⟨#[101,97]⟩:ByteArray),(⟨#[101,98]⟩:ByteArray),(⟨#[101,99]⟩:ByteArray),(⟨#[101,100]⟩:ByteArray)]:List ByteArray))),(12,(vI (([(⟨#[101,97]⟩:ByteArray),(⟨#[101,98]⟩:ByteArray),(⟨#[101,99]⟩:ByteArray),(⟨#[101,100]⟩:ByteArray)]:List ByteArray).length:Int))),(13,(vI (k_2:Int)))]:SL_)) p.1 p.2) (λp=>(λ(s_78:(List ByteArray)×(List Int)×Int) (n_81:Nm)=>([((aJ 0),some (.cells 2 [(vL eI s_78.2.1),(vI s_78.2.2)])),(n_10,gB 13 Entry.enc s_7.1),(n_46,some (.cells 13 [(vS x_4),(vS r_19.1),(vI r_22.1),(vI r_25.1),(vI (w64 (r_25.1+r_47.1))),(vI r_28.1),(vI r_31.1),(gV n_58 1 s_55.1),(vI r_34.1),(vI r_37.1),(vI r_40.1),(gV n_81 1 s_78.1),(vB r_43.1)])),(n_58,gB 1 eI s_55.1),(n_81,gB 1 eS s_78.1)]:Hp)) p.1 p.2) (λp=>o_84 = .go p.1) ?_ ?_
     ·refine aG (bv (β:=Nat×(List ByteArray)×((List ByteArray)×(List Int)×Int)×Nm) (λp=>(λ(k_73:Nat) (l_74:List ByteArray) (s_78:(List ByteArray)×(List Int)×Int) (n_81:Nm)=>([(0,(.ref (aJ 0) 0 0)),(3,(gV n_10 13 s_7.1)),(6,(.ref n_46 0 0)),(11,(vL eS ([(⟨#[101,97]⟩:ByteArray),(⟨#[101,98]⟩:ByteArray),(⟨#[101,99]⟩:ByteArray),(⟨#[101,100]⟩:ByteArray)]:List ByteArray))),(12,(vI (([(⟨#[101,97]⟩:ByteArray),(⟨#[101,98]⟩:ByteArray),(⟨#[101,99]⟩:ByteArray),(⟨#[101,100]⟩:ByteArray)]:List ByteArray).length:Int))),(13,(vI (k_2:Int))),(68,(vL eS ([(⟨#[99,105,116,121]⟩:ByteArray),(⟨#[109,97,108,108]⟩:ByteArray)]:List ByteArray))),(69,(vI (([(⟨#[99,105,116,121]⟩:ByteArray),(⟨#[109,97,108,108]⟩:ByteArray)]:List ByteArray).length:Int))),(70,(vI (k_73:Int)))]:SL_)) p.1 p.2.1 p.2.2.1 p.2.2.2) (λp=>(λ(k_73:Nat) (l_74:List ByteArray) (s_78:(List ByteArray)×(List Int)×Int) (n_81:Nm)=>([((aJ 0),some (.cells 2 [(vL eI s_78.2.1),(vI s_78.2.2)])),(n_10,gB 13 Entry.enc s_7.1),(n_46,some (.cells 13 [(vS x_4),(vS r_19.1),(vI r_22.1),(vI r_25.1),(vI (w64 (r_25.1+r_47.1))),(vI r_28.1),(vI r_31.1),(gV n_58 1 s_55.1),(vI r_34.1),(vI r_37.1),(vI r_40.1),(gV n_81 1 s_78.1),(vB r_43.1)])),(n_58,gB 1 eI s_55.1),(n_81,gB 1 eS s_78.1)]:Hp)) p.1 p.2.1 p.2.2.1 p.2.2.2) (λp=>forR (λk x s=>fM k x s) p.2.1 p.1 p.2.2.1=some o_84/\(([(⟨#[99,105,116,121]⟩:ByteArray),(⟨#[109,97,108,108]⟩:ByteArray)]:List ByteArray)).drop p.1=p.2.1) (λp=>p.2.1.length) (0,([(⟨#[99,105,116,121]⟩:ByteArray),(⟨#[109,97,108,108]⟩:ByteArray)]:List ByteArray),(([]:List ByteArray),s_55.2.1,s_55.2.2),n_79) ⟨hj_85,rfl⟩ rfl (aK rfl) ?_)
      rintro ⟨k_73,l_74,s_78,n_81⟩ ⟨hL_83,hD_76⟩
      dsimp only at hL_83 hD_76
      cases l_74 with
      | nil =>
       obtain rfl:=aj hL_83
       refine af (aa (ae (vB (decide ((k_73:Int)<(([(⟨#[99,105,116,121]⟩:ByteArray),(⟨#[109,97,108,108]⟩:ByteArray)]:List ByteArray).length:Int)))) wz rfl (ak ?_)))
       refine af (aA rfl (drop_nil hD_76) (aX ?_))
       exact aS (s_78,n_81) rfl rfl (aK rfl)
      | cons x_75 l_74 =>
       obtain ⟨c_,hc_82,hL_83⟩:=bind_some hL_83
       refine af (aa (ae (vB (decide ((k_73:Int)<(([(⟨#[99,105,116,121]⟩:ByteArray),(⟨#[109,97,108,108]⟩:ByteArray)]:List ByteArray).length:Int)))) wz rfl (ak ?_)))
       refine af (aB rfl (bz hD_76) (av ?_))
       unfold fM at hc_82
       refine af (aG (af (aa (dP uw rfl rfl (bE hD_76) rfl wz (bO sz9 ag9 rfl (vS x_75) rfl wz (ae (vS x_75) wz rfl (ak (af (aa (ae (.ref (aJ 0) 0 0) wz rfl ?_))))))))))
       obtain ⟨r_86,hr_87,hc_82⟩:=bind_some hc_82
       refine fK 0 [0] il ft (gz hr_87) rfl hb8 rfl (by kernel_rfl) (by kernel_rfl) (by kernel_rfl) (by kernel_rfl) (by kernel_rfl) (by kernel_rfl) (by kernel_rfl) (by decide) (by kernel_rfl) wz (vB r_86.1) (by kernel_rfl) ([((aJ 0),some (.cells 2 [(vL eI r_86.2.L),(vI r_86.2.f_at)])),(n_10,gB 13 Entry.enc s_7.1),(n_46,some (.cells 13 [(vS x_4),(vS r_19.1),(vI r_22.1),(vI r_25.1),(vI (w64 (r_25.1+r_47.1))),(vI r_28.1),(vI r_31.1),(gV n_58 1 s_55.1),(vI r_34.1),(vI r_37.1),(vI r_40.1),(gV n_81 1 s_78.1),(vB r_43.1)])),(n_58,gB 1 eI s_55.1),(n_81,gB 1 eS s_78.1)]:Hp) (by kernel_rfl) (ak ?_)
       obtain ⟨v_89,h_90,hc_82⟩:=bind_some hc_82
       refine aH (β:=Nm) (λ(n_91:Nm)=>([(0,(.ref (aJ 0) 0 0)),(3,(gV n_10 13 s_7.1)),(6,(.ref n_46 0 0)),(11,(vL eS ([(⟨#[101,97]⟩:ByteArray),(⟨#[101,98]⟩:ByteArray),(⟨#[101,99]⟩:ByteArray),(⟨#[101,100]⟩:ByteArray)]:List ByteArray))),(12,(vI (([(⟨#[101,97]⟩:ByteArray),(⟨#[101,98]⟩:ByteArray),(⟨#[101,99]⟩:ByteArray),(⟨#[101,100]⟩:ByteArray)]:List ByteArray).length:Int))),(13,(vI (k_2:Int))),(68,(vL eS ([(⟨#[99,105,116,121]⟩:ByteArray),(⟨#[109,97,108,108]⟩:ByteArray)]:List ByteArray))),(69,(vI (([(⟨#[99,105,116,121]⟩:ByteArray),(⟨#[109,97,108,108]⟩:ByteArray)]:List ByteArray).length:Int))),(70,(vI (k_73:Int)))]:SL_)) (λ(n_91:Nm)=>([((aJ 0),some (.cells 2 [(vL eI r_86.2.L),(vI r_86.2.f_at)])),(n_10,gB 13 Entry.enc s_7.1),(n_46,some (.cells 13 [(vS x_4),(vS r_19.1),(vI r_22.1),(vI r_25.1),(vI (w64 (r_25.1+r_47.1))),(vI r_28.1),(vI r_31.1),(gV n_58 1 s_55.1),(vI r_34.1),(vI r_37.1),(vI r_40.1),(gV n_91 1 v_89),(vB r_43.1)])),(n_58,gB 1 eI s_55.1),(n_91,gB 1 eS v_89)]:Hp)) (λ_=>True) ?_ ?_
       ·rcases au h_90 with⟨hc_92,h_90⟩|⟨hc_92,h_90⟩
        ·refine aB rfl hc_92 (aa (aF lI rfl 11 rfl wz (aC 0 2 il ft uX yK rfl rfl (gV n_81 1 s_78.1) rfl wz (ae (vS x_75) wz rfl (eO (([x_75]:List ByteArray).map eS) uw Fq rfl rfl rfl rfl rfl wz ?_)))))
         obtain ⟨a_93,hz_94,h_90⟩:=bind_some h_90
         refine jH 0 il ft (i:=4) FC FC sz9 z9 rfl (by decide) by9 (by decide) (λ_=>rfl) rfl rfl rfl hz_94 wz (λn_95=>aF lI rfl 11 rfl wz (dX 0 il ft 2 uX rfl rfl [(vS x_4),(vS r_19.1),(vI r_22.1),(vI r_25.1),(vI (w64 (r_25.1+r_47.1))),(vI r_28.1),(vI r_31.1),(gV n_58 1 s_55.1),(vI r_34.1),(vI r_37.1),(vI r_40.1),(gV n_95 1 a_93),(vB r_43.1)] (stC_g rfl) wz (ak ?_)))
         obtain rfl:=aj h_90
         exact aS n_95 trivial rfl (aK rfl)
        ·refine aA rfl hc_92 (av ?_)
         obtain rfl:=aj h_90
         exact aS n_81 trivial rfl (aK rfl)
       ·rintro n_91 _ sl_ H_ hp_ hq_
        refine aM _ hp_ hq_ (aa (eQ (bB hD_76 hn_77) wz rfl (ae (vI ((k_73+1:Nat):Int)) wz rfl (ak ?_))))
        obtain rfl:=aj hc_82
        exact aY (k_73+1,l_74,(v_89,r_86.2.L,r_86.2.f_at),n_91) ⟨hL_83,aR hD_76⟩ (ls_ _) rfl (aK rfl)
     ·rintro ⟨s_78,n_81⟩ ho_ sl_ H_ hp_ hq_
      subst ho_
      refine aM _ hp_ hq_ (fB 3 rfl (fB 4 rfl (wH_coc2 3 4 2 [(vS x_4),(vS r_19.1),(vI r_22.1),(vI r_25.1),(vI (w64 (r_25.1+r_47.1))),(vI r_28.1),(vI r_31.1),(vL eI s_55.1),(vI r_34.1),(vI r_37.1),(vI r_40.1),(vL eS s_78.1),(vB r_43.1)] rfl rfl rfl (λS hS hS2=>kH (rfl) (kH (rfl) (kH (rfl) (kH (rfl) (kH (rfl) (kH (rfl) (kH (rfl) (kH (hS) (kH (rfl) (kH (rfl) (kH (rfl) (kH (hS2) (kH (rfl) (rfl)))))))))))))) (aa (ae (gV n_10 13 s_7.1) wz rfl (aC 0 2 il ft iX pu rfl rfl (.d (.agg (Entry.enc (⟨x_4,r_19.1,r_22.1,r_25.1,(w64 (r_25.1+r_47.1)),r_28.1,r_31.1,s_55.1,r_34.1,r_37.1,r_40.1,s_78.1,r_43.1⟩:Entry)))) rfl wz (eO (([(⟨x_4,r_19.1,r_22.1,r_25.1,(w64 (r_25.1+r_47.1)),r_28.1,r_31.1,s_55.1,r_34.1,r_37.1,r_40.1,s_78.1,r_43.1⟩:Entry)]:List Entry).map Entry.enc) Cg Kr rfl rfl rfl rfl rfl wz ?_)))))))
      obtain ⟨a_96,hz_97,hc_11⟩:=bind_some hc_11
      refine jH 0 il ft (i:=1) zl zl iX z35 rfl (by decide) Jj (by decide) (λ_=>rfl) rfl rfl rfl hz_97 wz (λn_98=>ae (gV n_98 13 a_96) wz rfl (ak (aa (eQ (bB hD_5 hn_6) wz rfl (ae (vI ((k_2+1:Nat):Int)) wz rfl (ak ?_))))))
      obtain rfl:=aj hc_11
      exact aY (k_2+1,l_3,(a_96,s_78.2.1,s_78.2.2),n_98) ⟨hL_12,aR hD_5⟩ (ls_ _) rfl (aK rfl)
 ·rintro ⟨s_7,n_10⟩ ho_ sl_ H_ hp_ hq_
  subst ho_
  refine aM _ hp_ hq_ (af (aa (ae (gV n_10 13 s_7.1) wz rfl (ae (gV n_10 13 s_7.1) wz rfl (ak (fB 1 rfl (ek 2 1 rfl rfl (ek 3 1 rfl rfl (ek 88 1 rfl rfl ?_)))))))))
  obtain rfl:=aj hF
  exact ay (Fa (.inr rfl) [(vL Entry.enc s_7.1)] _ [0] [aJ 0] ⟨rfl,trivial⟩ (.cons (lH rfl rfl) (.nil)) (by kernel_rfl) ⟨(by kernel_rfl),trivial⟩ (by decide) (by kernel_rfl))
theorem fA {s_1:ByteArray} {r:Bool} (hF:fe s_1=some r) :
  FnM Tryz.prog 51 [(vS s_1)] [] (vB r) []:=by
 refine FnM.of_wH ⟨Tryz.prog,48,[],[]⟩ rfl Tryz.func51 rfl rfl (lb_ rfl) (by kernel_rfl) ?_
 unfold fe at hF
 refine af (aa (ae (vB false) wz rfl (ak (af (af (aa (ae (vI 0) wz rfl (ak ?_))))))))
 obtain ⟨o_10,hj_11,hF⟩:=bind_some hF
 obtain ⟨nq_33,hj_11⟩:=d9 hj_11
 refine aH (β:=(Int)) (λ(s_7:Int)=>([(0,(vS s_1))]:SL_)) (λ(s_7:Int)=>([]:Hp)) (λp=>o_10 = .go p) ?_ ?_
 ·refine aG (bv (β:=Nat×(Int)) (λp=>(λ(k_2:Nat) (s_7:Int)=>([(0,(vS s_1)),(3,(vI s_7))]:SL_)) p.1 p.2) (λp=>(λ(k_2:Nat) (s_7:Int)=>([]:Hp)) p.1 p.2) (λp=>iterN (λs=>iG s_1 s) p.1 p.2=some o_10) (λp=>p.1) (nq_33,0) hj_11 rfl (aK rfl) ?_)
  rintro ⟨k_2,s_7⟩ hL_9
  dsimp only at hL_9
  cases k_2 with
  | zero=>cases hL_9
  | succ k_2 =>
   obtain ⟨c_,hc_8,hL_9⟩:=bind_some hL_9
   unfold iG at hc_8
   refine af (af (aa (ae (vI s_7) wz rfl (ae (vS s_1) wz rfl (lL un9 rfl wz (ae (vB (decide (s_7<(s_1.size:Int)))) wz rfl (ak ?_)))))))
   rcases au hc_8 with⟨hc_12,hc_8⟩|⟨hc_12,hc_8⟩
   ·refine aB rfl hc_12 (av (af (aG (af (aa (ae (vS s_1) wz rfl (ae (vI s_7) wz rfl ?_)))))))
    obtain ⟨b_13,hy_14,hc_8⟩:=bind_some hc_8
    refine jm un9 rfl rfl hy_14 wz (ae (.d (.int .u8 (b_13.toNat:Int))) wz rfl (ak (af ?_)))
    obtain ⟨v_15,h_16,hc_8⟩:=bind_some hc_8
    refine aH (β:=Unit) (λ_=>([(0,(vS s_1)),(3,(vI s_7)),(40,(vB v_15))]:SL_)) (λ_=>([]:Hp)) (λ_=>True) ?_ ?_
    ·refine aa (ae (.d (.int .u8 (b_13.toNat:Int))) wz rfl (ae (vB (decide ((b_13.toNat:Int)>=97))) wz rfl ?_))
     rcases au h_16 with⟨hc_17,h_16⟩|⟨hc_17,h_16⟩
     ·refine ax rfl hc_17 wz (ae (.d (.int .u8 (b_13.toNat:Int))) wa rfl (ae (vB (decide ((b_13.toNat:Int)<=122))) wa rfl (ae (vB (decide ((b_13.toNat:Int)<=122))) wz rfl ?_)))
      rcases au h_16 with⟨hc_18,h_16⟩|⟨hc_18,h_16⟩
      ·refine ax rfl hc_18 wz (ah wa (ah wa (ah wa (ah (wn rfl rfl) (ah (wn rfl rfl) (ah (wn rfl rfl) (ah (wn rfl rfl) (ah (wn rfl rfl) (ah (wn rfl rfl) (ah (wn rfl rfl) (ah (wn rfl rfl) (ah (wn rfl rfl) (ah (wn rfl rfl) (ah (wn rfl rfl) (ah (wn rfl rfl) (ah (wn rfl rfl) (ah (wn rfl rfl) (ah wa (ae (vB true) wz rfl (ae (vB false) wz rfl (ak ?_)))))))))))))))))))))
       obtain rfl:=aj h_16
       exact cu
      ·refine ax rfl hc_18 wz (ae (vI s_7) wa rfl (ae (vB (decide (s_7>0))) wa rfl ?_))
       rcases au h_16 with⟨hc_19,h_16⟩|⟨hc_19,h_16⟩
       ·refine ax rfl hc_19 wa (ae (.d (.int .u8 (b_13.toNat:Int))) wa rfl (ae (vB (decide ((b_13.toNat:Int)>=48))) wa rfl ?_))
        rcases au h_16 with⟨hc_20,h_16⟩|⟨hc_20,h_16⟩
        ·refine ax rfl hc_20 wa (ae (.d (.int .u8 (b_13.toNat:Int))) wa rfl (ae (vB (decide ((b_13.toNat:Int)<=57))) wa rfl (ae (vB (decide ((b_13.toNat:Int)<=57))) wa rfl ?_)))
         rcases au h_16 with⟨hc_21,h_16⟩|⟨hc_21,h_16⟩
         ·refine ax rfl hc_21 wa (ah wa (ah wa (ae (vB true) wa rfl (ae (vB true) wa rfl (ah wa (ah wa (ae (vB true) wa rfl (ae (vB true) wa rfl (ae (vB true) wz rfl (ae (vB false) wz rfl (ak ?_)))))))))))
          obtain rfl:=aj h_16
          exact cu
         ·refine ax rfl hc_21 wa (ae (.d (.int .u8 (b_13.toNat:Int))) wa rfl (ae (vB ((b_13.toNat:Int)==45)) wa rfl (ae (vB ((b_13.toNat:Int)==45)) wa rfl ?_)))
          rcases au h_16 with⟨hc_22,h_16⟩|⟨hc_22,h_16⟩
          ·refine ax rfl hc_22 wa (ah wa (ah wa (ae (vB true) wa rfl (ae (vB true) wa rfl (ae (vB true) wz rfl (ae (vB false) wz rfl (ak ?_)))))))
           obtain rfl:=aj h_16
           exact cu
          ·refine ax rfl hc_22 wa (ae (.d (.int .u8 (b_13.toNat:Int))) wa rfl (ae (vB ((b_13.toNat:Int)==95)) wa rfl (ae (vB ((b_13.toNat:Int)==95)) wa rfl (ae (vB ((b_13.toNat:Int)==95)) wa rfl (ae (vB ((b_13.toNat:Int)==95)) wz rfl (ae (vB (!((b_13.toNat:Int)==95))) wz rfl (ak ?_)))))))
           obtain rfl:=aj h_16
           exact cu
        ·refine ax rfl hc_20 wa (ah wa (ah wa (ae (vB false) wa rfl (ae (vB false) wa rfl (ae (.d (.int .u8 (b_13.toNat:Int))) wa rfl (ae (vB ((b_13.toNat:Int)==45)) wa rfl (ae (vB ((b_13.toNat:Int)==45)) wa rfl ?_)))))))
         rcases au h_16 with⟨hc_23,h_16⟩|⟨hc_23,h_16⟩
         ·refine ax rfl hc_23 wa (ah wa (ah wa (ae (vB true) wa rfl (ae (vB true) wa rfl (ae (vB true) wz rfl (ae (vB false) wz rfl (ak ?_)))))))
          obtain rfl:=aj h_16
          exact cu
         ·refine ax rfl hc_23 wa (ae (.d (.int .u8 (b_13.toNat:Int))) wa rfl (ae (vB ((b_13.toNat:Int)==95)) wa rfl (ae (vB ((b_13.toNat:Int)==95)) wa rfl (ae (vB ((b_13.toNat:Int)==95)) wa rfl (ae (vB ((b_13.toNat:Int)==95)) wz rfl (ae (vB (!((b_13.toNat:Int)==95))) wz rfl (ak ?_)))))))
          obtain rfl:=aj h_16
          exact cu
       ·refine ax rfl hc_19 wa (ah wa (ah wa (ah wa (ah (wn rfl rfl) (ah (wn rfl rfl) (ah wa (ah wa (ah (wn rfl rfl) (ah (wn rfl rfl) (ah wa (ah wa (ah (wn rfl rfl) (ah (wn rfl rfl) (ah wa (ae (vB false) wa rfl (ae (vB false) wz rfl (ae (vB true) wz rfl (ak ?_))))))))))))))))))
        obtain rfl:=aj h_16
        exact cu
     ·refine ax rfl hc_17 wz (ah wa (ah wa (ae (vB false) wz rfl (ae (vB false) wz rfl (ae (vI s_7) wa rfl (ae (vB (decide (s_7>0))) wa rfl ?_))))))
      rcases au h_16 with⟨hc_24,h_16⟩|⟨hc_24,h_16⟩
      ·refine ax rfl hc_24 wa (ae (.d (.int .u8 (b_13.toNat:Int))) wa rfl (ae (vB (decide ((b_13.toNat:Int)>=48))) wa rfl ?_))
       rcases au h_16 with⟨hc_25,h_16⟩|⟨hc_25,h_16⟩
       ·refine ax rfl hc_25 wa (ae (.d (.int .u8 (b_13.toNat:Int))) wa rfl (ae (vB (decide ((b_13.toNat:Int)<=57))) wa rfl (ae (vB (decide ((b_13.toNat:Int)<=57))) wa rfl ?_)))
        rcases au h_16 with⟨hc_26,h_16⟩|⟨hc_26,h_16⟩
        ·refine ax rfl hc_26 wa (ah wa (ah wa (ae (vB true) wa rfl (ae (vB true) wa rfl (ah wa (ah wa (ae (vB true) wa rfl (ae (vB true) wa rfl (ae (vB true) wz rfl (ae (vB false) wz rfl (ak ?_)))))))))))
         obtain rfl:=aj h_16
         exact cu
        ·refine ax rfl hc_26 wa (ae (.d (.int .u8 (b_13.toNat:Int))) wa rfl (ae (vB ((b_13.toNat:Int)==45)) wa rfl (ae (vB ((b_13.toNat:Int)==45)) wa rfl ?_)))
         rcases au h_16 with⟨hc_27,h_16⟩|⟨hc_27,h_16⟩
         ·refine ax rfl hc_27 wa (ah wa (ah wa (ae (vB true) wa rfl (ae (vB true) wa rfl (ae (vB true) wz rfl (ae (vB false) wz rfl (ak ?_)))))))
          obtain rfl:=aj h_16
          exact cu
         ·refine ax rfl hc_27 wa (ae (.d (.int .u8 (b_13.toNat:Int))) wa rfl (ae (vB ((b_13.toNat:Int)==95)) wa rfl (ae (vB ((b_13.toNat:Int)==95)) wa rfl (ae (vB ((b_13.toNat:Int)==95)) wa rfl (ae (vB ((b_13.toNat:Int)==95)) wz rfl (ae (vB (!((b_13.toNat:Int)==95))) wz rfl (ak ?_)))))))
          obtain rfl:=aj h_16
          exact cu
       ·refine ax rfl hc_25 wa (ah wa (ah wa (ae (vB false) wa rfl (ae (vB false) wa rfl (ae (.d (.int .u8 (b_13.toNat:Int))) wa rfl (ae (vB ((b_13.toNat:Int)==45)) wa rfl (ae (vB ((b_13.toNat:Int)==45)) wa rfl ?_)))))))
        rcases au h_16 with⟨hc_28,h_16⟩|⟨hc_28,h_16⟩
        ·refine ax rfl hc_28 wa (ah wa (ah wa (ae (vB true) wa rfl (ae (vB true) wa rfl (ae (vB true) wz rfl (ae (vB false) wz rfl (ak ?_)))))))
         obtain rfl:=aj h_16
         exact cu
        ·refine ax rfl hc_28 wa (ae (.d (.int .u8 (b_13.toNat:Int))) wa rfl (ae (vB ((b_13.toNat:Int)==95)) wa rfl (ae (vB ((b_13.toNat:Int)==95)) wa rfl (ae (vB ((b_13.toNat:Int)==95)) wa rfl (ae (vB ((b_13.toNat:Int)==95)) wz rfl (ae (vB (!((b_13.toNat:Int)==95))) wz rfl (ak ?_)))))))
         obtain rfl:=aj h_16
         exact cu
      ·refine ax rfl hc_24 wa (ah wa (ah wa (ah wa (ah (wn rfl rfl) (ah (wn rfl rfl) (ah wa (ah wa (ah (wn rfl rfl) (ah (wn rfl rfl) (ah wa (ah wa (ah (wn rfl rfl) (ah (wn rfl rfl) (ah wa (ae (vB false) wa rfl (ae (vB false) wz rfl (ae (vB true) wz rfl (ak ?_))))))))))))))))))
       obtain rfl:=aj h_16
       exact cu
    ·rintro ⟨⟩ _ sl_ H_ hp_ hq_
     refine aM _ hp_ hq_ ?_
     rcases au hc_8 with⟨hc_29,hc_8⟩|⟨hc_29,hc_8⟩
     ·refine aB rfl hc_29 (af (aa (ae (vB false) wz rfl (ak ?_))))
      obtain rfl:=aj hc_8
      obtain rfl:=aj hL_9
      obtain rfl:=aj hF
      exact ay (aO (.inr rfl) [(vB false)] ⟨rfl,trivial⟩ rfl rfl rfl)
     ·refine aA rfl hc_29 (av (aa (ae (vI s_7) wz rfl (ae (vI (w64 (s_7+1))) wz rfl (ae (vI (w64 (s_7+1))) wz rfl (ak ?_))))))
      obtain rfl:=aj hc_8
      exact aY (k_2,(w64 (s_7+1))) hL_9 (ls_ _) rfl (aK rfl)
   ·refine aA rfl hc_12 (aX ?_)
    obtain rfl:=aj hc_8
    obtain rfl:=aj hL_9
    exact aS (s_7) rfl rfl (aK rfl)
 ·rintro s_7 ho_ sl_ H_ hp_ hq_
  subst ho_
  refine aM _ hp_ hq_ (af ?_)
  obtain ⟨v_30,h_31,hF⟩:=bind_some hF
  refine aH (β:=Unit) (λ_=>([(2,(vB v_30))]:SL_)) (λ_=>([]:Hp)) (λ_=>True) ?_ ?_
  ·refine aa (ae (vS s_1) wz rfl (ae (vB (sNe s_1 (⟨#[]⟩:ByteArray))) wz rfl ?_))
   rcases au h_31 with⟨hc_32,h_31⟩|⟨hc_32,h_31⟩
   ·refine ax rfl hc_32 wz (ae (vS s_1) wa rfl (lL un9 rfl wa (ae (vB (decide ((s_1.size:Int)<=40))) wa rfl (ae (vB (decide ((s_1.size:Int)<=40))) wz rfl (ae (vB (decide ((s_1.size:Int)<=40))) wz rfl (ak ?_))))))
    obtain rfl:=aj h_31
    exact cu
   ·refine ax rfl hc_32 wz (ah wa (ah wa (ah wa (ae (vB false) wz rfl (ae (vB false) wz rfl (ak ?_))))))
    obtain rfl:=aj h_31
    exact cu
  ·rintro ⟨⟩ _ sl_ H_ hp_ hq_
   refine aM _ hp_ hq_ ?_
   obtain rfl:=aj hF
   exact ay (aO (.inr rfl) [(vB v_30)] ⟨rfl,trivial⟩ rfl rfl rfl)
theorem bf {n_1:Int} {low_2:Int} {high_3:Int} {r:Bool} (hF:aN n_1 low_2 high_3=some r) :
  FnM Tryz.prog 52 [(vI n_1),(vI low_2),(vI high_3)] [] (vB r) []:=by
 refine FnM.of_wH ⟨Tryz.prog,15,[],[]⟩ rfl Tryz.func52 rfl rfl (lb_ rfl) (by kernel_rfl) ?_
 unfold aN at hF
 refine af (aa (ae (vB false) wz rfl (ak (af ?_))))
 obtain ⟨v_4,h_5,hF⟩:=bind_some hF
 refine aH (β:=Unit) (λ_=>([(6,(vB v_4))]:SL_)) (λ_=>([]:Hp)) (λ_=>True) ?_ ?_
 ·refine aa (ae (vI n_1) wz rfl (ae (vI low_2) wz rfl (ae (vB (decide (n_1<low_2))) wz rfl ?_)))
  rcases au h_5 with⟨hc_6,h_5⟩|⟨hc_6,h_5⟩
  ·refine ax rfl hc_6 wz (ah wa (ah wa (ah wa (ae (vB true) wz rfl (ae (vB true) wz rfl (ak ?_))))))
   obtain rfl:=aj h_5
   exact cu
  ·refine ax rfl hc_6 wz (ae (vI n_1) wa rfl (ae (vI high_3) wa rfl (ae (vB (decide (n_1>high_3))) wa rfl (ae (vB (decide (n_1>high_3))) wz rfl (ae (vB (decide (n_1>high_3))) wz rfl (ak ?_))))))
   obtain rfl:=aj h_5
   exact cu
 ·rintro ⟨⟩ _ sl_ H_ hp_ hq_
  refine aM _ hp_ hq_ ?_
  obtain rfl:=aj hF
  exact ay (aO (.inr rfl) [(vB v_4)] ⟨rfl,trivial⟩ rfl rfl rfl)
theorem EH {n_1:Int} {r:Bool} (hF:rX n_1=some r) :
  FnM Tryz.prog 136 [(vI n_1)] [] (vB r) []:=by
 refine FnM.of_wH ⟨Tryz.prog,9,[],[]⟩ rfl Tryz.func136 rfl rfl (lb_ rfl) (by kernel_rfl) ?_
 unfold rX at hF
 refine af (aa (ae (vB false) wz rfl (ak (af ?_))))
 obtain ⟨v_2,h_3,hF⟩:=bind_some hF
 refine aH (β:=Unit) (λ_=>([(2,(vB v_2))]:SL_)) (λ_=>([]:Hp)) (λ_=>True) ?_ ?_
 ·refine aa (ae (vI n_1) wz rfl (ae (vB (decide (n_1>=0))) wz rfl ?_))
  rcases au h_3 with⟨hc_4,h_3⟩|⟨hc_4,h_3⟩
  ·refine ax rfl hc_4 wz (ae (vI n_1) wa rfl (ae (vB (decide (n_1<=4000))) wa rfl (ae (vB (decide (n_1<=4000))) wz rfl (ae (vB (decide (n_1<=4000))) wz rfl (ak ?_)))))
   obtain rfl:=aj h_3
   exact cu
  ·refine ax rfl hc_4 wz (ah wa (ah wa (ae (vB false) wz rfl (ae (vB false) wz rfl (ak ?_)))))
   obtain rfl:=aj h_3
   exact cu
 ·rintro ⟨⟩ _ sl_ H_ hp_ hq_
  refine aM _ hp_ hq_ ?_
  obtain rfl:=aj hF
  exact ay (aO (.inr rfl) [(vB v_2)] ⟨rfl,trivial⟩ rfl rfl rfl)
theorem su {l_1:(List Int)} {r:Int} (hF:fo l_1=some r) :
  FnM Tryz.prog 91 [(vL eI l_1)] [] (vI r) []:=by
 refine FnM.of_wH ⟨Tryz.prog,30,[],[]⟩ rfl Tryz.func91 rfl rfl (lb_ rfl) (by kernel_rfl) ?_
 unfold fo at hF
 refine af (aa (ae (vI 0) wz rfl (ak (af (af (aa (ae (vL eI l_1) wz rfl (bJ qi rfl wz (ae (vB (decide ((l_1.length:Int)>100))) wz rfl (ak ?_))))))))))
 rcases au hF with⟨hc_2,hF⟩|⟨hc_2,hF⟩
 ·refine aB rfl hc_2 (af (aa (ae (vI 2) wz rfl (ak ?_))))
  obtain rfl:=aj hF
  exact ay (aO (.inr rfl) [(vI 2)] ⟨rfl,trivial⟩ rfl rfl rfl)
 ·refine aA rfl hc_2 (av (af (af (aa (ae (vL eI l_1) wz rfl (bJ qi rfl wz (ae (vI 0) wz rfl (ak ?_))))))))
  obtain ⟨o_11,hj_12,hF⟩:=bind_some hF
  obtain ⟨hn_7,hj_12⟩:=bg hj_12
  refine aH (β:=(Unit)) (λ(s_8:Unit)=>([]:SL_)) (λ(s_8:Unit)=>([]:Hp)) (λp=>o_11 = .go p) ?_ ?_
  ·refine aG (bv (β:=Nat×(List Int)×(Unit)) (λp=>(λ(k_3:Nat) (l_4:List Int) (s_8:Unit)=>([(0,(vL eI l_1)),(8,(vL eI l_1)),(9,(vI (l_1.length:Int))),(10,(vI (k_3:Int)))]:SL_)) p.1 p.2.1 p.2.2) (λp=>(λ(k_3:Nat) (l_4:List Int) (s_8:Unit)=>([]:Hp)) p.1 p.2.1 p.2.2) (λp=>forR (λk x s=>gK l_1 k x s) p.2.1 p.1 p.2.2=some o_11/\(l_1).drop p.1=p.2.1) (λp=>p.2.1.length) (0,l_1,()) ⟨hj_12,rfl⟩ rfl (aK rfl) ?_)
   rintro ⟨k_3,l_4,s_8⟩ ⟨hL_10,hD_6⟩
   dsimp only at hL_10 hD_6
   cases l_4 with
   | nil =>
    obtain rfl:=aj hL_10
    refine af (aa (ae (vB (decide ((k_3:Int)<(l_1.length:Int)))) wz rfl (ak ?_)))
    refine af (aA rfl (drop_nil hD_6) (aX ?_))
    exact aS (s_8) rfl rfl (aK rfl)
   | cons x_5 l_4 =>
    obtain ⟨c_,hc_9,hL_10⟩:=bind_some hL_10
    refine af (aa (ae (vB (decide ((k_3:Int)<(l_1.length:Int)))) wz rfl (ak ?_)))
    refine af (aB rfl (bz hD_6) (av ?_))
    unfold gK at hc_9
    refine af (aG (af (aa (ae (vI (k_3:Int)) wz rfl (dP kE rfl rfl (bE hD_6) rfl wz (bO sz3 ag3 rfl (vI x_5) rfl wz (ae (vI (k_3:Int)) wz rfl (ae (vI x_5) wz rfl (ak (af (af (aa (ae (vI x_5) wz rfl ?_)))))))))))))
    obtain ⟨r_13,hr_14,hc_9⟩:=bind_some hc_9
    refine aD (EH hr_14) rfl hb136 rfl rfl rfl rfl wz (ae (vB (!r_13)) wz rfl (ak ?_))
    rcases au hc_9 with⟨hc_15,hc_9⟩|⟨hc_15,hc_9⟩
    ·refine aB rfl hc_15 (af (aa (ae (vI 1) wz rfl (ak ?_))))
     obtain rfl:=aj hc_9
     obtain rfl:=aj hL_10
     obtain rfl:=aj hF
     exact ay (aO (.inr rfl) [(vI 1)] ⟨rfl,trivial⟩ rfl rfl rfl)
    ·refine aA rfl hc_15 (av (af ?_))
     obtain ⟨v_16,h_17,hc_9⟩:=bind_some hc_9
     refine aH (β:=Unit) (λ_=>([(0,(vL eI l_1)),(8,(vL eI l_1)),(9,(vI (l_1.length:Int))),(10,(vI (k_3:Int))),(28,(vB v_16))]:SL_)) (λ_=>([]:Hp)) (λ_=>True) ?_ ?_
     ·refine aa (ae (vI (k_3:Int)) wz rfl (ae (vB (decide ((k_3:Int)>0))) wz rfl ?_))
      rcases au h_17 with⟨hc_18,h_17⟩|⟨hc_18,h_17⟩
      ·refine ax rfl hc_18 wz (ae (vI x_5) wa rfl (ae (vL eI l_1) wa rfl (ae (vI (k_3:Int)) wa rfl (ae (vI (w64 ((k_3:Int)-1))) wa rfl ?_))))
       obtain ⟨y_19,hy_20,h_17⟩:=bind_some h_17
       refine dP kE rfl rfl hy_20 rfl wa (bO sz3 ag3 rfl (vI y_19) rfl wa (ae (vB (decide (x_5<=y_19))) wa rfl (ae (vB (decide (x_5<=y_19))) wz rfl (ak ?_))))
       obtain rfl:=aj h_17
       exact cu
      ·refine ax rfl hc_18 wz (ah wa (ah wa (ah wa (ah wa (ah wa (ah wa (ah wa (ae (vB false) wz rfl (ak ?_)))))))))
       obtain rfl:=aj h_17
       exact cu
     ·rintro ⟨⟩ _ sl_ H_ hp_ hq_
      refine aM _ hp_ hq_ ?_
      rcases au hc_9 with⟨hc_21,hc_9⟩|⟨hc_21,hc_9⟩
      ·refine aB rfl hc_21 (af (aa (ae (vI 7) wz rfl (ak ?_))))
       obtain rfl:=aj hc_9
       obtain rfl:=aj hL_10
       obtain rfl:=aj hF
       exact ay (aO (.inr rfl) [(vI 7)] ⟨rfl,trivial⟩ rfl rfl rfl)
      ·refine aA rfl hc_21 (av (aa (eQ (bB hD_6 hn_7) wz rfl (ae (vI ((k_3+1:Nat):Int)) wz rfl (ak ?_)))))
       obtain rfl:=aj hc_9
       exact aY (k_3+1,l_4,()) ⟨hL_10,aR hD_6⟩ (ls_ _) rfl (aK rfl)
  ·rintro s_8 ho_ sl_ H_ hp_ hq_
   subst ho_
   refine aM _ hp_ hq_ (af (aa (ae (vI 0) wz rfl (ak ?_))))
   obtain rfl:=aj hF
   exact ay (aO (.inr rfl) [(vI 0)] ⟨rfl,trivial⟩ rfl rfl rfl)
theorem pV {l_1:(List ByteArray)} {r:Int} (hF:gP l_1=some r) :
  FnM Tryz.prog 92 [(vL eS l_1)] [] (vI r) []:=by
 refine FnM.of_wH ⟨Tryz.prog,27,[],[]⟩ rfl Tryz.func92 rfl rfl (lb_ rfl) (by kernel_rfl) ?_
 unfold gP at hF
 refine af (aa (ae (vI 0) wz rfl (ak (af (af (aa (ae (vL eS l_1) wz rfl (bJ xc rfl wz (ae (vI 0) wz rfl (ak ?_))))))))))
 obtain ⟨o_10,hj_11,hF⟩:=bind_some hF
 obtain ⟨hn_6,hj_11⟩:=bg hj_11
 refine aH (β:=(Unit)) (λ(s_7:Unit)=>([]:SL_)) (λ(s_7:Unit)=>([]:Hp)) (λp=>o_10 = .go p) ?_ ?_
 ·refine aG (bv (β:=Nat×(List ByteArray)×(Unit)) (λp=>(λ(k_2:Nat) (l_3:List ByteArray) (s_7:Unit)=>([(0,(vL eS l_1)),(5,(vL eS l_1)),(6,(vI (l_1.length:Int))),(7,(vI (k_2:Int)))]:SL_)) p.1 p.2.1 p.2.2) (λp=>(λ(k_2:Nat) (l_3:List ByteArray) (s_7:Unit)=>([]:Hp)) p.1 p.2.1 p.2.2) (λp=>forR (λk x s=>fP l_1 k x s) p.2.1 p.1 p.2.2=some o_10/\(l_1).drop p.1=p.2.1) (λp=>p.2.1.length) (0,l_1,()) ⟨hj_11,rfl⟩ rfl (aK rfl) ?_)
  rintro ⟨k_2,l_3,s_7⟩ ⟨hL_9,hD_5⟩
  dsimp only at hL_9 hD_5
  cases l_3 with
  | nil =>
   obtain rfl:=aj hL_9
   refine af (aa (ae (vB (decide ((k_2:Int)<(l_1.length:Int)))) wz rfl (ak ?_)))
   refine af (aA rfl (drop_nil hD_5) (aX ?_))
   exact aS (s_7) rfl rfl (aK rfl)
  | cons x_4 l_3 =>
   obtain ⟨c_,hc_8,hL_9⟩:=bind_some hL_9
   refine af (aa (ae (vB (decide ((k_2:Int)<(l_1.length:Int)))) wz rfl (ak ?_)))
   refine af (aB rfl (bz hD_5) (av ?_))
   unfold fP at hc_8
   refine af (aG (af (aa (ae (vI (k_2:Int)) wz rfl (dP uw rfl rfl (bE hD_5) rfl wz (bO sz9 ag9 rfl (vS x_4) rfl wz (ae (vI (k_2:Int)) wz rfl (ae (vS x_4) wz rfl (ak (af (af (aa (ae (vS x_4) wz rfl ?_)))))))))))))
   obtain ⟨r_12,hr_13,hc_8⟩:=bind_some hc_8
   refine aD (fA hr_13) rfl Bl rfl rfl rfl rfl wz (ae (vB (!r_12)) wz rfl (ak ?_))
   rcases au hc_8 with⟨hc_14,hc_8⟩|⟨hc_14,hc_8⟩
   ·refine aB rfl hc_14 (af (aa (ae (vI 5) wz rfl (ak ?_))))
    obtain rfl:=aj hc_8
    obtain rfl:=aj hL_9
    obtain rfl:=aj hF
    exact ay (aO (.inr rfl) [(vI 5)] ⟨rfl,trivial⟩ rfl rfl rfl)
   ·refine aA rfl hc_14 (av (af ?_))
    obtain ⟨v_15,h_16,hc_8⟩:=bind_some hc_8
    refine aH (β:=Unit) (λ_=>([(0,(vL eS l_1)),(5,(vL eS l_1)),(6,(vI (l_1.length:Int))),(7,(vI (k_2:Int))),(25,(vB v_15))]:SL_)) (λ_=>([]:Hp)) (λ_=>True) ?_ ?_
    ·refine aa (ae (vI (k_2:Int)) wz rfl (ae (vB (decide ((k_2:Int)>0))) wz rfl ?_))
     rcases au h_16 with⟨hc_17,h_16⟩|⟨hc_17,h_16⟩
     ·refine ax rfl hc_17 wz (ae (vS x_4) wa rfl (ae (vL eS l_1) wa rfl (ae (vI (k_2:Int)) wa rfl (ae (vI (w64 ((k_2:Int)-1))) wa rfl ?_))))
      obtain ⟨y_18,hy_19,h_16⟩:=bind_some h_16
      refine dP uw rfl rfl hy_19 rfl wa (bO sz9 ag9 rfl (vS y_18) rfl wa (ae (vB (sLe x_4 y_18)) wa rfl (ae (vB (sLe x_4 y_18)) wz rfl (ak ?_))))
      obtain rfl:=aj h_16
      exact cu
     ·refine ax rfl hc_17 wz (ah wa (ah wa (ah wa (ah wa (ah wa (ah wa (ah wa (ae (vB false) wz rfl (ak ?_)))))))))
      obtain rfl:=aj h_16
      exact cu
    ·rintro ⟨⟩ _ sl_ H_ hp_ hq_
     refine aM _ hp_ hq_ ?_
     rcases au hc_8 with⟨hc_20,hc_8⟩|⟨hc_20,hc_8⟩
     ·refine aB rfl hc_20 (af (aa (ae (vI 7) wz rfl (ak ?_))))
      obtain rfl:=aj hc_8
      obtain rfl:=aj hL_9
      obtain rfl:=aj hF
      exact ay (aO (.inr rfl) [(vI 7)] ⟨rfl,trivial⟩ rfl rfl rfl)
     ·refine aA rfl hc_20 (av (aa (eQ (bB hD_5 hn_6) wz rfl (ae (vI ((k_2+1:Nat):Int)) wz rfl (ak ?_)))))
      obtain rfl:=aj hc_8
      exact aY (k_2+1,l_3,()) ⟨hL_9,aR hD_5⟩ (ls_ _) rfl (aK rfl)
 ·rintro s_7 ho_ sl_ H_ hp_ hq_
  subst ho_
  refine aM _ hp_ hq_ (af (aa (ae (vI 0) wz rfl (ak ?_))))
  obtain rfl:=aj hF
  exact ay (aO (.inr rfl) [(vI 0)] ⟨rfl,trivial⟩ rfl rfl rfl)
theorem uA {l_1:(List ByteArray)} {r:Int} (hF:eY l_1=some r) :
  FnM Tryz.prog 53 [(vL eS l_1)] [] (vI r) []:=by
 refine FnM.of_wH ⟨Tryz.prog,8,[],[]⟩ rfl Tryz.func53 rfl rfl (lb_ rfl) (by kernel_rfl) ?_
 unfold eY at hF
 refine af (aa (ae (vI 0) wz rfl (ak (af (af (aa (ae (vL eS l_1) wz rfl (bJ xc rfl wz (ae (vB (decide ((l_1.length:Int)>20))) wz rfl (ak ?_))))))))))
 rcases au hF with⟨hc_2,hF⟩|⟨hc_2,hF⟩
 ·refine aB rfl hc_2 (af (aa (ae (vI 2) wz rfl (ak ?_))))
  obtain rfl:=aj hF
  exact ay (aO (.inr rfl) [(vI 2)] ⟨rfl,trivial⟩ rfl rfl rfl)
 ·refine aA rfl hc_2 (av (af (aa (ae (vL eS l_1) wz rfl ?_))))
  obtain ⟨r_3,hr_4,hF⟩:=bind_some hF
  refine aD (pV hr_4) rfl hb92 rfl rfl rfl rfl wz (ae (vI r_3) wz rfl (ak ?_))
  obtain rfl:=aj hF
  exact ay (aO (.inr rfl) [(vI r_3)] ⟨rfl,trivial⟩ rfl rfl rfl)
theorem tK {e_1:Entry} {r:Int} (hF:eu e_1=some r) :
  FnM Tryz.prog 50 [(.d (.agg (Entry.enc e_1)))] [] (vI r) []:=by
 refine FnM.of_wH ⟨Tryz.prog,61,[],[]⟩ rfl Tryz.func50 rfl rfl (lb_ rfl) (by kernel_rfl) ?_
 unfold eu at hF
 refine af (aa (gH 0 (.inl rfl) [(vS e_1.Key),(vS e_1.Item),(vI e_1.Version),(vI e_1.First),(vI e_1.Last),(vI e_1.Every),(vI e_1.Days),(vL eI e_1.Except),(vI e_1.From),(vI e_1.To),(vI e_1.Prio),(vL eS e_1.Tags),(vB e_1.Gone)] rfl rfl wz (λn_2=>ae (vI 0) wz rfl (ak (af (af ?_))))))
 obtain ⟨v_3,h_4,hF⟩:=bind_some hF
 refine aH (β:=Unit) (λ_=>([(1,(.ref n_2 0 0)),(13,(vB v_3))]:SL_)) (λ_=>([(n_2,some (.cells 13 [(vS e_1.Key),(vS e_1.Item),(vI e_1.Version),(vI e_1.First),(vI e_1.Last),(vI e_1.Every),(vI e_1.Days),(vL eI e_1.Except),(vI e_1.From),(vI e_1.To),(vI e_1.Prio),(vL eS e_1.Tags),(vB e_1.Gone)]))]:Hp)) (λ_=>True) ?_ ?_
 ·refine aa (aF uM rfl 0 rfl wz (aC 0 0 il ft sz9 ag9 rfl rfl (vS e_1.Key) rfl wz ?_))
  obtain ⟨r_5,hr_6,h_4⟩:=bind_some h_4
  refine aD (fA hr_6) rfl Bl rfl rfl rfl rfl wz (ae (vB (!r_5)) wz rfl ?_)
  rcases au h_4 with⟨hc_7,h_4⟩|⟨hc_7,h_4⟩
  ·refine ax rfl hc_7 wz (ah wa (ah wa (ah wa (ah wa (ae (vB true) wz rfl (ak ?_))))))
   obtain rfl:=aj h_4
   exact cu
  ·refine ax rfl hc_7 wz (aF Fb rfl 1 rfl wa (aC 0 0 il ft sz9 ag9 rfl rfl (vS e_1.Item) rfl wa ?_))
   obtain ⟨r_8,hr_9,h_4⟩:=bind_some h_4
   refine aD (fA hr_9) rfl Bl rfl rfl rfl rfl wa (ae (vB (!r_8)) wa rfl (ae (vB (!r_8)) wz rfl (ak ?_)))
   obtain rfl:=aj h_4
   exact cu
 ·rintro ⟨⟩ _ sl_ H_ hp_ hq_
  refine aM _ hp_ hq_ ?_
  rcases au hF with⟨hc_10,hF⟩|⟨hc_10,hF⟩
  ·refine aB rfl hc_10 (af (aa (ae (vI 5) wz rfl (ak ?_))))
   obtain rfl:=aj hF
   exact ay (aO (.inr rfl) [(vI 5)] ⟨rfl,trivial⟩ rfl rfl rfl)
  ·refine aA rfl hc_10 (av (af (af ?_)))
   obtain ⟨v_11,h_12,hF⟩:=bind_some hF
   refine aH (β:=Unit) (λ_=>([(1,(.ref n_2 0 0)),(38,(vB v_11))]:SL_)) (λ_=>([(n_2,some (.cells 13 [(vS e_1.Key),(vS e_1.Item),(vI e_1.Version),(vI e_1.First),(vI e_1.Last),(vI e_1.Every),(vI e_1.Days),(vL eI e_1.Except),(vI e_1.From),(vI e_1.To),(vI e_1.Prio),(vL eS e_1.Tags),(vB e_1.Gone)]))]:Hp)) (λ_=>True) ?_ ?_
   ·refine aa (aF oL rfl 2 rfl wz (aC 0 0 il ft sz3 ag3 rfl rfl (vI e_1.Version) rfl wz ?_))
    obtain ⟨r_13,hr_14,h_12⟩:=bind_some h_12
    refine aD (bf hr_14) rfl qj rfl rfl rfl rfl wz ?_
    rcases au h_12 with⟨hc_15,h_12⟩|⟨hc_15,h_12⟩
    ·refine ax rfl hc_15 wz (ah wa (ah wa (ah wa (ah wa (ah wa (ae (vB true) wz rfl (ae (vB true) wz rfl (ah wa (ah wa (ah wa (ae (vB true) wz rfl (ae (vB true) wz rfl (ah wa (ah wa (ah wa (ae (vB true) wz rfl (ae (vB true) wz rfl (ah wa (ah wa (ah wa (ae (vB true) wz rfl (ak ?_))))))))))))))))))))))
     obtain rfl:=aj h_12
     exact cu
    ·refine ax rfl hc_15 wz (aF uV rfl 3 rfl wa (aC 0 0 il ft sz3 ag3 rfl rfl (vI e_1.First) rfl wa (aF ve rfl 4 rfl wa (aC 0 0 il ft sz3 ag3 rfl rfl (vI e_1.Last) rfl wa ?_))))
     obtain ⟨r_16,hr_17,h_12⟩:=bind_some h_12
     refine aD (bf hr_17) rfl qj rfl rfl rfl rfl wa (ae (vB r_16) wz rfl ?_)
     rcases au h_12 with⟨hc_18,h_12⟩|⟨hc_18,h_12⟩
     ·refine ax rfl hc_18 wz (ah wa (ah wa (ah wa (ae (vB true) wz rfl (ae (vB true) wz rfl (ah wa (ah wa (ah wa (ae (vB true) wz rfl (ae (vB true) wz rfl (ah wa (ah wa (ah wa (ae (vB true) wz rfl (ak ?_)))))))))))))))
      obtain rfl:=aj h_12
      exact cu
     ·refine ax rfl hc_18 wz (aF ve rfl 4 rfl wa (aC 0 0 il ft sz3 ag3 rfl rfl (vI e_1.Last) rfl wa (ae (vB (decide (e_1.Last>4000))) wa rfl (ae (vB (decide (e_1.Last>4000))) wz rfl ?_))))
      rcases au h_12 with⟨hc_19,h_12⟩|⟨hc_19,h_12⟩
      ·refine ax rfl hc_19 wz (ah wa (ah wa (ah wa (ae (vB true) wz rfl (ae (vB true) wz rfl (ah wa (ah wa (ah wa (ae (vB true) wz rfl (ak ?_))))))))))
       obtain rfl:=aj h_12
       exact cu
      ·refine ax rfl hc_19 wz (aF Bq rfl 5 rfl wa (aC 0 0 il ft sz3 ag3 rfl rfl (vI e_1.Every) rfl wa ?_))
       obtain ⟨r_20,hr_21,h_12⟩:=bind_some h_12
       refine aD (bf hr_21) rfl qj rfl rfl rfl rfl wa (ae (vB r_20) wz rfl ?_)
       rcases au h_12 with⟨hc_22,h_12⟩|⟨hc_22,h_12⟩
       ·refine ax rfl hc_22 wz (ah wa (ah wa (ah wa (ae (vB true) wz rfl (ak ?_)))))
        obtain rfl:=aj h_12
        exact cu
       ·refine ax rfl hc_22 wz (aF BC rfl 6 rfl wa (aC 0 0 il ft sz3 ag3 rfl rfl (vI e_1.Days) rfl wa ?_))
        obtain ⟨r_23,hr_24,h_12⟩:=bind_some h_12
        refine aD (bf hr_24) rfl qj rfl rfl rfl rfl wa (ae (vB r_23) wz rfl (ak ?_))
        obtain rfl:=aj h_12
        exact cu
   ·rintro ⟨⟩ _ sl_ H_ hp_ hq_
    refine aM _ hp_ hq_ ?_
    rcases au hF with⟨hc_25,hF⟩|⟨hc_25,hF⟩
    ·refine aB rfl hc_25 (af (aa (ae (vI 1) wz rfl (ak ?_))))
     obtain rfl:=aj hF
     exact ay (aO (.inr rfl) [(vI 1)] ⟨rfl,trivial⟩ rfl rfl rfl)
    ·refine aA rfl hc_25 (av (af (af (aa (aF mZ rfl 7 rfl wz (aC 0 0 il ft u6 zx rfl rfl (vL eI e_1.Except) rfl wz ?_))))))
     obtain ⟨r_26,hr_27,hF⟩:=bind_some hF
     refine aD (su hr_27) rfl hb91 rfl rfl rfl rfl wz (ae (vI r_26) wz rfl (ak (af (aa (ae (vI r_26) wz rfl (ae (vB (r_26 != 0)) wz rfl (ak ?_)))))))
     rcases au hF with⟨hc_28,hF⟩|⟨hc_28,hF⟩
     ·refine aB rfl hc_28 (af (aa (ae (vI r_26) wz rfl (ae (vI r_26) wz rfl (ak ?_)))))
      obtain rfl:=aj hF
      exact ay (aO (.inr rfl) [(vI r_26)] ⟨rfl,trivial⟩ rfl rfl rfl)
     ·refine aA rfl hc_28 (av (af (af ?_)))
      obtain ⟨v_29,h_30,hF⟩:=bind_some hF
      refine aH (β:=Unit) (λ_=>([(1,(.ref n_2 0 0)),(57,(vB v_29))]:SL_)) (λ_=>([(n_2,some (.cells 13 [(vS e_1.Key),(vS e_1.Item),(vI e_1.Version),(vI e_1.First),(vI e_1.Last),(vI e_1.Every),(vI e_1.Days),(vL eI e_1.Except),(vI e_1.From),(vI e_1.To),(vI e_1.Prio),(vL eS e_1.Tags),(vB e_1.Gone)]))]:Hp)) (λ_=>True) ?_ ?_
      ·refine aa (aF y9 rfl 8 rfl wz (aC 0 0 il ft sz3 ag3 rfl rfl (vI e_1.From) rfl wz ?_))
       obtain ⟨r_31,hr_32,h_30⟩:=bind_some h_30
       refine aD (bf hr_32) rfl qj rfl rfl rfl rfl wz ?_
       rcases au h_30 with⟨hc_33,h_30⟩|⟨hc_33,h_30⟩
       ·refine ax rfl hc_33 wz (ah wa (ah wa (ah wa (ae (vB true) wz rfl (ae (vB true) wz rfl (ah wa (ah wa (ah wa (ae (vB true) wz rfl (ak ?_))))))))))
        obtain rfl:=aj h_30
        exact cu
       ·refine ax rfl hc_33 wz (aF Bp rfl 9 rfl wa (aC 0 0 il ft sz3 ag3 rfl rfl (vI e_1.To) rfl wa ?_))
        obtain ⟨r_34,hr_35,h_30⟩:=bind_some h_30
        refine aD (bf hr_35) rfl qj rfl rfl rfl rfl wa (ae (vB r_34) wz rfl ?_)
        rcases au h_30 with⟨hc_36,h_30⟩|⟨hc_36,h_30⟩
        ·refine ax rfl hc_36 wz (ah wa (ah wa (ah wa (ae (vB true) wz rfl (ak ?_)))))
         obtain rfl:=aj h_30
         exact cu
        ·refine ax rfl hc_36 wz (aF xC rfl 10 rfl wa (aC 0 0 il ft sz3 ag3 rfl rfl (vI e_1.Prio) rfl wa ?_))
         obtain ⟨r_37,hr_38,h_30⟩:=bind_some h_30
         refine aD (bf hr_38) rfl qj rfl rfl rfl rfl wa (ae (vB r_37) wz rfl (ak ?_))
         obtain rfl:=aj h_30
         exact cu
      ·rintro ⟨⟩ _ sl_ H_ hp_ hq_
       refine aM _ hp_ hq_ ?_
       rcases au hF with⟨hc_39,hF⟩|⟨hc_39,hF⟩
       ·refine aB rfl hc_39 (af (aa (ae (vI 1) wz rfl (ak ?_))))
        obtain rfl:=aj hF
        exact ay (aO (.inr rfl) [(vI 1)] ⟨rfl,trivial⟩ rfl rfl rfl)
       ·refine aA rfl hc_39 (av (af (aa (aF lI rfl 11 rfl wz (aC 0 0 il ft uX yK rfl rfl (vL eS e_1.Tags) rfl wz ?_)))))
        obtain ⟨r_40,hr_41,hF⟩:=bind_some hF
        refine aD (uA hr_41) rfl hb53 rfl rfl rfl rfl wz (ae (vI r_40) wz rfl (ak ?_))
        obtain rfl:=aj hF
        exact ay (aO (.inr rfl) [(vI r_40)] ⟨rfl,trivial⟩ rfl rfl rfl)
theorem lC {l_1:(List Entry)} {r:Int} (hF:cK l_1=some r) :
  FnM Tryz.prog 13 [(vL Entry.enc l_1)] [] (vI r) []:=by
 refine FnM.of_wH ⟨Tryz.prog,35,[],[]⟩ rfl Tryz.func13 rfl rfl (lb_ rfl) (by kernel_rfl) ?_
 unfold cK at hF
 refine af (aa (ae (vI 0) wz rfl (ak (af (af (aa (ae (vL Entry.enc l_1) wz rfl (bJ BG rfl wz (ae (vB (decide ((l_1.length:Int)>200))) wz rfl (ak ?_))))))))))
 rcases au hF with⟨hc_2,hF⟩|⟨hc_2,hF⟩
 ·refine aB rfl hc_2 (af (aa (ae (vI 2) wz rfl (ak ?_))))
  obtain rfl:=aj hF
  exact ay (aO (.inr rfl) [(vI 2)] ⟨rfl,trivial⟩ rfl rfl rfl)
 ·refine aA rfl hc_2 (av (af (af (aa (ae (vL Entry.enc l_1) wz rfl (bJ BG rfl wz (ae (vI 0) wz rfl (ak ?_))))))))
  obtain ⟨o_11,hj_12,hF⟩:=bind_some hF
  obtain ⟨hn_7,hj_12⟩:=bg hj_12
  refine aH (β:=(Unit)) (λ(s_8:Unit)=>([]:SL_)) (λ(s_8:Unit)=>([]:Hp)) (λp=>o_11 = .go p) ?_ ?_
  ·refine aG (bv (β:=Nat×(List Entry)×(Unit)) (λp=>(λ(k_3:Nat) (l_4:List Entry) (s_8:Unit)=>([(0,(vL Entry.enc l_1)),(9,(vL Entry.enc l_1)),(10,(vI (l_1.length:Int))),(11,(vI (k_3:Int)))]:SL_)) p.1 p.2.1 p.2.2) (λp=>(λ(k_3:Nat) (l_4:List Entry) (s_8:Unit)=>([]:Hp)) p.1 p.2.1 p.2.2) (λp=>forR (λk x s=>dD l_1 k x s) p.2.1 p.1 p.2.2=some o_11/\(l_1).drop p.1=p.2.1) (λp=>p.2.1.length) (0,l_1,()) ⟨hj_12,rfl⟩ rfl (aK rfl) ?_)
   rintro ⟨k_3,l_4,s_8⟩ ⟨hL_10,hD_6⟩
   dsimp only at hL_10 hD_6
   cases l_4 with
   | nil =>
    obtain rfl:=aj hL_10
    refine af (aa (ae (vB (decide ((k_3:Int)<(l_1.length:Int)))) wz rfl (ak ?_)))
    refine af (aA rfl (drop_nil hD_6) (aX ?_))
    exact aS (s_8) rfl rfl (aK rfl)
   | cons x_5 l_4 =>
    obtain ⟨c_,hc_9,hL_10⟩:=bind_some hL_10
    refine af (aa (ae (vB (decide ((k_3:Int)<(l_1.length:Int)))) wz rfl (ak ?_)))
    refine af (aB rfl (bz hD_6) (av ?_))
    unfold dD at hc_9
    refine af (aG (af (aa (ae (vI (k_3:Int)) wz rfl (dP Cg rfl rfl (bE hD_6) rfl wz (bO iX pu rfl (.d (.agg (Entry.enc x_5))) rfl wz (dA 0 (.inl rfl) z35 rfl wz (λn_13=>ae (vI (k_3:Int)) wz rfl (dX 0 il ft 0 iX rfl rfl [(vS x_5.Key),(vS x_5.Item),(vI x_5.Version),(vI x_5.First),(vI x_5.Last),(vI x_5.Every),(vI x_5.Days),(vL eI x_5.Except),(vI x_5.From),(vI x_5.To),(vI x_5.Prio),(vL eS x_5.Tags),(vB x_5.Gone)] rfl wz (ak (af (af (aa (aC 0 0 il ft iX pu rfl rfl (.d (.agg (Entry.enc x_5))) rfl wz ?_))))))))))))))
    obtain ⟨r_14,hr_15,hc_9⟩:=bind_some hc_9
    refine aD (tK hr_15) rfl hb50 rfl rfl rfl rfl wz (ae (vI r_14) wz rfl (ak (af (aa (ae (vI r_14) wz rfl (ae (vB (r_14 != 0)) wz rfl (ak ?_)))))))
    rcases au hc_9 with⟨hc_16,hc_9⟩|⟨hc_16,hc_9⟩
    ·refine aB rfl hc_16 (af (aa (ae (vI r_14) wz rfl (ae (vI r_14) wz rfl (ak ?_)))))
     obtain rfl:=aj hc_9
     obtain rfl:=aj hL_10
     obtain rfl:=aj hF
     exact ay (aO (.inr rfl) [(vI r_14)] ⟨rfl,trivial⟩ rfl rfl rfl)
    ·refine aA rfl hc_16 (av (af ?_))
     obtain ⟨v_17,h_18,hc_9⟩:=bind_some hc_9
     refine aH (β:=Unit) (λ_=>([(0,(vL Entry.enc l_1)),(9,(vL Entry.enc l_1)),(10,(vI (l_1.length:Int))),(11,(vI (k_3:Int))),(33,(vB v_17))]:SL_)) (λ_=>([(n_13,some (.cells 13 [(vS x_5.Key),(vS x_5.Item),(vI x_5.Version),(vI x_5.First),(vI x_5.Last),(vI x_5.Every),(vI x_5.Days),(vL eI x_5.Except),(vI x_5.From),(vI x_5.To),(vI x_5.Prio),(vL eS x_5.Tags),(vB x_5.Gone)]))]:Hp)) (λ_=>True) ?_ ?_
     ·refine bG (ae (vI (k_3:Int)) wz rfl (ae (vB (decide ((k_3:Int)>0))) wz rfl ?_))
      rcases au h_18 with⟨hc_19,h_18⟩|⟨hc_19,h_18⟩
      ·refine ax rfl hc_19 wz (aF uM rfl 0 rfl wa (aC 4 0 (.inr (by kernel_rfl)) (λ_ _ ag=>trivial) sz9 ag9 rfl rfl (vS x_5.Key) rfl wa (ae (vL Entry.enc l_1) wa rfl (ae (vI (k_3:Int)) wa rfl (ae (vI (w64 ((k_3:Int)-1))) wa rfl ?_)))))
       obtain ⟨y_20,hy_21,h_18⟩:=bind_some h_18
       refine dP Cg rfl rfl hy_21 rfl wa (p9 uM rfl (Entry.enc y_20) rfl rfl wa (bO sz9 ag9 rfl (vS y_20.Key) rfl wa (ae (vB (sLe x_5.Key y_20.Key)) wa rfl (ae (vB (sLe x_5.Key y_20.Key)) wz rfl (ak ?_)))))
       obtain rfl:=aj h_18
       exact cu
      ·refine ax rfl hc_19 wz (ah wa (ah wa (ah wa (ah wa (ah wa (ah wa (ah wa (ah wa (ah wa (ae (vB false) wz rfl (ak ?_)))))))))))
       obtain rfl:=aj h_18
       exact cu
     ·rintro ⟨⟩ _ sl_ H_ hp_ hq_
      refine aM _ hp_ hq_ ?_
      rcases au hc_9 with⟨hc_22,hc_9⟩|⟨hc_22,hc_9⟩
      ·refine aB rfl hc_22 (af (aa (ae (vI 7) wz rfl (ak ?_))))
       obtain rfl:=aj hc_9
       obtain rfl:=aj hL_10
       obtain rfl:=aj hF
       exact ay (aO (.inr rfl) [(vI 7)] ⟨rfl,trivial⟩ rfl rfl rfl)
      ·refine aA rfl hc_22 (av (aa (eQ (bB hD_6 hn_7) wz rfl (ae (vI ((k_3+1:Nat):Int)) wz rfl (ak ?_)))))
       obtain rfl:=aj hc_9
       exact aY (k_3+1,l_4,()) ⟨hL_10,aR hD_6⟩ (ls_ _) rfl (aK rfl)
  ·rintro s_8 ho_ sl_ H_ hp_ hq_
   subst ho_
   refine aM _ hp_ hq_ (af (aa (ae (vI 0) wz rfl (ak ?_))))
   obtain rfl:=aj hF
   exact ay (aO (.inr rfl) [(vI 0)] ⟨rfl,trivial⟩ rfl rfl rfl)
theorem kU {n_1:Int} {r:Bool} (hF:bW n_1=some r) :
  FnM Tryz.prog 86 [.nil,(vI n_1)] [] (kV r (aJ 0) 13 ([]:List Entry)) (kO r 13):=by
 refine FnM.of_wH ⟨Tryz.prog,27,[],[]⟩ rfl Tryz.func86 rfl rfl (lb_ rfl) (by kernel_rfl) ?_
 unfold bW at hF
 refine af (aa (ae .nil wz rfl (ak (af (af (aa (ae (vI n_1) wz rfl (ae (vB (decide (n_1<0))) wz rfl (ak ?_)))))))))
 rcases au hF with⟨hc_2,hF⟩|⟨hc_2,hF⟩
 ·refine aB rfl hc_2 (aa ?_)
  cases hF
 ·refine aA rfl hc_2 (av (af (af (aa (ae (vI n_1) wz rfl (ae .nil wz rfl (EI zl rfl wz (ae .nil wz rfl (E9 BG rfl wz (ae (vI (w64 (0-0))) wz rfl (ae (vI (w64 (n_1-(w64 (0-0))))) wz rfl (ae (vI (w64 (n_1-(w64 (0-0))))) wz rfl (ak (af (aa (ae (vI (w64 (n_1-(w64 (0-0))))) wz rfl (ae (vB (decide ((w64 (n_1-(w64 (0-0))))>0))) wz rfl (ak ?_))))))))))))))))))
  rcases au hF with⟨hc_3,hF⟩|⟨hc_3,hF⟩
  ·refine aB rfl hc_3 (aa (ae .nil wz rfl (ae .nil wz rfl (EI zl rfl wz (ae .nil wz (by kernel_rfl) (ae (vI (w64 (n_1-(w64 (0-0))))) wz rfl ?_))))))
   obtain ⟨_,hz_5,hF⟩:=bind_some hF
   refine KW (enc:=Entry.enc) 0 (.inl rfl) zl (by kernel_rfl) iX z35 rfl (by decide) Jj rfl rfl hz_5 wz (λn_4=>ae .nil wz rfl (E9 BG rfl wz (J2 (m:=0) BG iX rfl rfl rfl (Nat.zero_le _) wz (ae (.vs n_4 13 0 0) wz rfl (ak (af (aa (ae (.vs n_4 13 0 0) wz rfl (ae (.vs n_4 13 0 0) wz rfl (ak ?_))))))))))
   obtain rfl:=aj hF
   exact ay (finK (.inr rfl) 0 rfl rfl)
  ·refine aA rfl hc_3 (av (af (aa (ae .nil wz rfl (ae .nil wz rfl (ak ?_))))))
   obtain rfl:=aj hF
   exact ay (finK0 (.inr rfl) rfl)
theorem kW {slices_1:(List (List Entry))} {r:(List Entry)} (hF:bX slices_1=some r) :
  FnM Tryz.prog 44 [(vL (eL Entry.enc) slices_1)] [] (vL Entry.enc r) []:=by
 refine FnM.of_wH ⟨Tryz.prog,36,[],[]⟩ rfl Tryz.func44 rfl rfl (lb_ rfl) (by kernel_rfl) ?_
 unfold bX at hF
 refine af (aa (ae .nil wz rfl (ak (af (aa (ae (vI 0) wz rfl (ak (af (af (aa (ae (vL (eL Entry.enc) slices_1) wz rfl (bJ un140 rfl wz (ae (vI 0) wz rfl (ak ?_))))))))))))))
 obtain ⟨o_10,hj_11,hF⟩:=bind_some hF
 obtain ⟨hn_6,hj_11⟩:=bg hj_11
 refine aH (β:=(Int)) (λ(s_7:Int)=>([(0,(vL (eL Entry.enc) slices_1)),(3,(vI s_7))]:SL_)) (λ(s_7:Int)=>([]:Hp)) (λp=>o_10 = .go p) ?_ ?_
 ·refine aG (bv (β:=Nat×(List (List Entry))×(Int)) (λp=>(λ(k_2:Nat) (l_3:List (List Entry)) (s_7:Int)=>([(0,(vL (eL Entry.enc) slices_1)),(3,(vI s_7)),(9,(vL (eL Entry.enc) slices_1)),(10,(vI (slices_1.length:Int))),(11,(vI (k_2:Int)))]:SL_)) p.1 p.2.1 p.2.2) (λp=>(λ(k_2:Nat) (l_3:List (List Entry)) (s_7:Int)=>([]:Hp)) p.1 p.2.1 p.2.2) (λp=>forR (λk x s=>aW k x s) p.2.1 p.1 p.2.2=some o_10/\(slices_1).drop p.1=p.2.1) (λp=>p.2.1.length) (0,slices_1,0) ⟨hj_11,rfl⟩ rfl (aK rfl) ?_)
  rintro ⟨k_2,l_3,s_7⟩ ⟨hL_9,hD_5⟩
  dsimp only at hL_9 hD_5
  cases l_3 with
  | nil =>
   obtain rfl:=aj hL_9
   refine af (aa (ae (vB (decide ((k_2:Int)<(slices_1.length:Int)))) wz rfl (ak ?_)))
   refine af (aA rfl (drop_nil hD_5) (aX ?_))
   exact aS (s_7) rfl rfl (aK rfl)
  | cons x_4 l_3 =>
   obtain ⟨c_,hc_8,hL_9⟩:=bind_some hL_9
   refine af (aa (ae (vB (decide ((k_2:Int)<(slices_1.length:Int)))) wz rfl (ak ?_)))
   refine af (aB rfl (bz hD_5) (av ?_))
   unfold aW at hc_8
   refine af (aG (af (aa (dP JQ rfl rfl (bE hD_5) rfl wz (bO sz26 ag26 rfl (vL Entry.enc x_4) rfl wz (ae (vL Entry.enc x_4) wz rfl (ak (af (aa (ae (vI s_7) wz rfl (ae (vL Entry.enc x_4) wz rfl (bJ BG rfl wz (ae (vI (w64 (s_7+(x_4.length:Int)))) wz rfl (ae (vI (w64 (s_7+(x_4.length:Int)))) wz rfl (ak (af (aa (ae (vI (w64 (s_7+(x_4.length:Int)))) wz rfl (ae (vB (decide ((w64 (s_7+(x_4.length:Int)))<0))) wz rfl (ak ?_))))))))))))))))))))
   obtain ⟨v_12,h_13,hc_8⟩:=bind_some hc_8
   refine aH (β:=Unit) (λ_=>([(0,(vL (eL Entry.enc) slices_1)),(3,(vI (w64 (s_7+(x_4.length:Int))))),(9,(vL (eL Entry.enc) slices_1)),(10,(vI (slices_1.length:Int))),(11,(vI (k_2:Int)))]:SL_)) (λ_=>([]:Hp)) (λ_=>True) ?_ ?_
   ·rcases au h_13 with⟨hc_14,h_13⟩|⟨hc_14,h_13⟩
    ·refine aB rfl hc_14 (aa ?_)
     cases h_13
    ·refine aA rfl hc_14 (av ?_)
     obtain rfl:=aj h_13
     exact cu
   ·rintro ⟨⟩ _ sl_ H_ hp_ hq_
    refine aM _ hp_ hq_ (aa (eQ (bB hD_5 hn_6) wz rfl (ae (vI ((k_2+1:Nat):Int)) wz rfl (ak ?_))))
    obtain rfl:=aj hc_8
    exact aY (k_2+1,l_3,(w64 (s_7+(x_4.length:Int)))) ⟨hL_9,aR hD_5⟩ (ls_ _) rfl (aK rfl)
 ·rintro s_7 ho_ sl_ H_ hp_ hq_
  subst ho_
  refine aM _ hp_ hq_ (af (aa (ae (vI s_7) wz rfl ?_)))
  obtain ⟨b_15,hr_16,hF⟩:=bind_some hF
  refine IB (enc:=Entry.enc) (kU hr_16) rfl hb86 (by kernel_rfl) rfl (by kernel_rfl) wz (λn_17=>ae (kV b_15 n_17 13 ([]:List Entry)) wz rfl (ak (af (af (aa (ae (vL (eL Entry.enc) slices_1) wz rfl (bJ un140 rfl wz (ae (vI 0) wz rfl (ak ?_)))))))))
  obtain ⟨o_28,hj_29,hF⟩:=bind_some hF
  obtain ⟨hn_22,hj_29⟩:=bg hj_29
  refine aH (β:=((List Entry))×Nm) (λp=>(λ(s_23:List Entry) (n_25:Nm)=>([(6,(kV b_15 n_25 13 s_23))]:SL_)) p.1 p.2) (λp=>(λ(s_23:List Entry) (n_25:Nm)=>([(n_25,kB b_15 13 Entry.enc s_23)]:Hp)) p.1 p.2) (λp=>o_28 = .go p.1) ?_ ?_
  ·refine aG (bv (β:=Nat×(List (List Entry))×((List Entry))×Nm) (λp=>(λ(k_18:Nat) (l_19:List (List Entry)) (s_23:List Entry) (n_25:Nm)=>([(6,(kV b_15 n_25 13 s_23)),(25,(vL (eL Entry.enc) slices_1)),(26,(vI (slices_1.length:Int))),(27,(vI (k_18:Int)))]:SL_)) p.1 p.2.1 p.2.2.1 p.2.2.2) (λp=>(λ(k_18:Nat) (l_19:List (List Entry)) (s_23:List Entry) (n_25:Nm)=>([(n_25,kB b_15 13 Entry.enc s_23)]:Hp)) p.1 p.2.1 p.2.2.1 p.2.2.2) (λp=>forR (λk x s=>aV k x s) p.2.1 p.1 p.2.2.1=some o_28/\(slices_1).drop p.1=p.2.1) (λp=>p.2.1.length) (0,slices_1,([]:List Entry),n_17) ⟨hj_29,rfl⟩ rfl (aK rfl) ?_)
   rintro ⟨k_18,l_19,s_23,n_25⟩ ⟨hL_27,hD_21⟩
   dsimp only at hL_27 hD_21
   cases l_19 with
   | nil =>
    obtain rfl:=aj hL_27
    refine af (aa (ae (vB (decide ((k_18:Int)<(slices_1.length:Int)))) wz rfl (ak ?_)))
    refine af (aA rfl (drop_nil hD_21) (aX ?_))
    exact aS (s_23,n_25) rfl rfl (aK rfl)
   | cons x_20 l_19 =>
    obtain ⟨c_,hc_26,hL_27⟩:=bind_some hL_27
    refine af (aa (ae (vB (decide ((k_18:Int)<(slices_1.length:Int)))) wz rfl (ak ?_)))
    refine af (aB rfl (bz hD_21) (av ?_))
    unfold aV at hc_26
    refine af (aG (af (aa (dP JQ rfl rfl (bE hD_21) rfl wz (bO sz26 ag26 rfl (vL Entry.enc x_20) rfl wz (ae (vL Entry.enc x_20) wz rfl (ak (aa (ae (kV b_15 n_25 13 s_23) wz rfl (ae (vL Entry.enc x_20) wz rfl ?_))))))))))
    obtain ⟨a_30,hz_31,hc_26⟩:=bind_some hc_26
    refine KL 0 il ft (i:=0) zl zl iX z35 rfl (by decide) Jj (by decide) (λ_=>rfl) rfl rfl rfl hz_31 wz (λn_32=>ae (kV b_15 n_32 13 a_30) wz rfl (ak (aa (eQ (bB hD_21 hn_22) wz rfl (ae (vI ((k_18+1:Nat):Int)) wz rfl (ak ?_))))))
    obtain rfl:=aj hc_26
    exact aY (k_18+1,l_19,a_30,n_32) ⟨hL_27,aR hD_21⟩ (ls_ _) rfl (aK rfl)
  ·rintro ⟨s_23,n_25⟩ ho_ sl_ H_ hp_ hq_
   subst ho_
   refine aM _ hp_ hq_ (af (aa (ae (kV b_15 n_25 13 s_23) wz rfl (ae (kV b_15 n_25 13 s_23) wz rfl (ak (Fw 0 rfl (ze 2 0 rfl rfl (ze 6 0 rfl rfl (ze 35 0 rfl rfl ?_)))))))))
   obtain rfl:=aj hF
   exact ay (aO (.inr rfl) [(vL Entry.enc s_23)] ⟨rfl,trivial⟩ rfl rfl rfl)
theorem lY {s1_1:(List Int)} {s2_2:(List Int)} {r:Bool} (hF:fq s1_1 s2_2=some r) :
  FnM Tryz.prog 63 [(vL eI s1_1),(vL eI s2_2)] [] (vB r) []:=by
 refine FnM.of_wH ⟨Tryz.prog,26,[],[]⟩ rfl Tryz.func63 rfl rfl (lb_ rfl) (by kernel_rfl) ?_
 unfold fq at hF
 refine af (aa (ae (vB false) wz rfl (ak (af (af (aa (ae (vL eI s1_1) wz rfl (bJ qi rfl wz (ae (vL eI s2_2) wz rfl (bJ qi rfl wz (ae (vB ((s1_1.length:Int) != (s2_2.length:Int))) wz rfl (ak ?_))))))))))))
 rcases au hF with⟨hc_3,hF⟩|⟨hc_3,hF⟩
 ·refine aB rfl hc_3 (af (aa (ae (vB false) wz rfl (ak ?_))))
  obtain rfl:=aj hF
  exact ay (aO (.inr rfl) [(vB false)] ⟨rfl,trivial⟩ rfl rfl rfl)
 ·refine aA rfl hc_3 (av (af (af (aa (ae (vL eI s1_1) wz rfl (bJ qi rfl wz (ae (vI 0) wz rfl (ak ?_))))))))
  obtain ⟨o_12,hj_13,hF⟩:=bind_some hF
  obtain ⟨hn_8,hj_13⟩:=bg hj_13
  refine aH (β:=(Unit)) (λ(s_9:Unit)=>([]:SL_)) (λ(s_9:Unit)=>([]:Hp)) (λp=>o_12 = .go p) ?_ ?_
  ·refine aG (bv (β:=Nat×(List Int)×(Unit)) (λp=>(λ(k_4:Nat) (l_5:List Int) (s_9:Unit)=>([(0,(vL eI s1_1)),(1,(vL eI s2_2)),(12,(vI (s1_1.length:Int))),(13,(vI (k_4:Int)))]:SL_)) p.1 p.2.1 p.2.2) (λp=>(λ(k_4:Nat) (l_5:List Int) (s_9:Unit)=>([]:Hp)) p.1 p.2.1 p.2.2) (λp=>forR (λk x s=>dI s2_2 k x s) p.2.1 p.1 p.2.2=some o_12/\(s1_1).drop p.1=p.2.1) (λp=>p.2.1.length) (0,s1_1,()) ⟨hj_13,rfl⟩ rfl (aK rfl) ?_)
   rintro ⟨k_4,l_5,s_9⟩ ⟨hL_11,hD_7⟩
   dsimp only at hL_11 hD_7
   cases l_5 with
   | nil =>
    obtain rfl:=aj hL_11
    refine af (aa (ae (vB (decide ((k_4:Int)<(s1_1.length:Int)))) wz rfl (ak ?_)))
    refine af (aA rfl (drop_nil hD_7) (aX ?_))
    exact aS (s_9) rfl rfl (aK rfl)
   | cons x_6 l_5 =>
    obtain ⟨c_,hc_10,hL_11⟩:=bind_some hL_11
    refine af (aa (ae (vB (decide ((k_4:Int)<(s1_1.length:Int)))) wz rfl (ak ?_)))
    refine af (aB rfl (bz hD_7) (av ?_))
    unfold dI at hc_10
    refine af (aG (af (aa (ae (vI (k_4:Int)) wz rfl (ae (vI (k_4:Int)) wz rfl (ak (af (bG (ae (vL eI s1_1) wz rfl (ae (vI (k_4:Int)) wz rfl (dP kE rfl rfl (bE hD_7) rfl wz (bO sz3 ag3 rfl (vI x_6) rfl wz (ae (vL eI s2_2) wz rfl (ae (vI (k_4:Int)) wz rfl ?_))))))))))))))
    obtain ⟨y_14,hy_15,hc_10⟩:=bind_some hc_10
    refine dP kE rfl rfl hy_15 rfl wz (bO sz3 ag3 rfl (vI y_14) rfl wz (ae (vB (x_6 != y_14)) wz rfl (ak ?_)))
    rcases au hc_10 with⟨hc_16,hc_10⟩|⟨hc_16,hc_10⟩
    ·refine aB rfl hc_16 (af (aa (ae (vB false) wz rfl (ak ?_))))
     obtain rfl:=aj hc_10
     obtain rfl:=aj hL_11
     obtain rfl:=aj hF
     exact ay (aO (.inr rfl) [(vB false)] ⟨rfl,trivial⟩ rfl rfl rfl)
    ·refine aA rfl hc_16 (av (aa (eQ (bB hD_7 hn_8) wz rfl (ae (vI ((k_4+1:Nat):Int)) wz rfl (ak ?_)))))
     obtain rfl:=aj hc_10
     exact aY (k_4+1,l_5,()) ⟨hL_11,aR hD_7⟩ (ls_ _) rfl (aK rfl)
  ·rintro s_9 ho_ sl_ H_ hp_ hq_
   subst ho_
   refine aM _ hp_ hq_ (af (aa (ae (vB true) wz rfl (ak ?_))))
   obtain rfl:=aj hF
   exact ay (aO (.inr rfl) [(vB true)] ⟨rfl,trivial⟩ rfl rfl rfl)
end Go.Proofs.YtnjnggakgeommaaGreatDoor.Law

