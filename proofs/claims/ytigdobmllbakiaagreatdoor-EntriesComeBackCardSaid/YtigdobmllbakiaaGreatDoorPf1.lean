/-
 The machine computes these plain functions (written by a program of ours).
-/
import Derived.Test.YtigdobmllbakiaaGreatDoorFacts
import Derived.Test.YtigdobmllbakiaaGreatDoorDefs
import Derived.Test.YtigdobmllbakiaaGreatDoorShelf
open Go Go.Eng Go.Proofs
namespace Go.Proofs.YtigdobmllbakiaaGreatDoor.Law
set_option maxRecDepth 100000
set_option linter.unusedVariables false
set_option maxHeartbeats 1000000
theorem uQ {x_1:Int} {n_2:Int} {r:Int} (hF:qz x_1 n_2=some r) :
  FnM Tryz.prog 63 [(vI x_1),(vI n_2)] [] (vI r) []:=by
 refine FnM.of_wH ⟨Tryz.prog,16,[],[]⟩ rfl Tryz.func63 rfl rfl (lb_ rfl) (by kernel_rfl) ?_
 unfold qz at hF
 refine aj (aa (vI 0) (af (au (aj (aa (vI n_2) (aa (vB (decide (n_2<1))) (af ?_)))))))
 rcases ak hF with⟨hc_3,hF⟩|⟨hc_3,hF⟩
 ·refine aB rfl hc_3 (aj (aa (vI 0) (af ?_)))
  obtain rfl:=ae hF
  exact ay (aK [(vI 0)] ⟨rfl,trivial⟩)
 ·refine aA rfl hc_3 (ax (aj (aa (vI x_1) (aa (vI n_2) ?_))))
  obtain ⟨q_4,hz_5,hF⟩:=bind_some hF
  refine Nc rfl rfl hz_5 wz (aa (vI q_4) (af (au (aj (aa (vI q_4) (aa (vB (decide (q_4<0))) (af ?_)))))))
  obtain ⟨v_6,h_7,hF⟩:=bind_some hF
  refine aR [(0,(vI v_6))] [] ?_ ?_
  ·rcases ak h_7 with⟨hc_8,h_7⟩|⟨hc_8,h_7⟩
   ·refine aB rfl hc_8 (av (aa (vI q_4) (aa (vI n_2) (aa (vI (w64 (q_4+n_2))) (aa (vI (w64 (q_4+n_2))) (af ?_))))))
    obtain rfl:=ae h_7
    exact cu
   ·refine aA rfl hc_8 (ax ?_)
    obtain rfl:=ae h_7
    exact cu
  ·rintro ⟨⟩ _ sl_ H_ hp_ hq_
   refine aQ _ hp_ hq_ (aj (aa (vI v_6) (aa (vI v_6) (af ?_))))
   obtain rfl:=ae hF
   exact ay (aK [(vI v_6)] ⟨rfl,trivial⟩)
theorem fK {s_1:Stream} {n_2:Int} {r:Int×Stream} (hF:d9 s_1 n_2=some r) :
  FnM Tryz.prog 34 [(.ref (aF 0) 0 0),(vI n_2)] [(.cells 2 [(vL eI s_1.L),(vI s_1.f_at)])] (vI r.1) [some (.cells 2 [(vL eI r.2.L),(vI r.2.f_at)])]:=by
 refine FnM.of_wH ⟨Tryz.prog,64,[],[]⟩ rfl Tryz.func34 rfl rfl (lb_ rfl) (by kernel_rfl) ?_
 unfold d9 at hF
 refine aj (aa (vI 0) (af (aj (aa (.ref (aF 0) 0 0) (aa (.ref (aF 0) 0 0) (aI Cn rfl 1 rfl wz (aG 0 0 il ft sz3 ag3 rfl rfl (vI s_1.f_at) rfl wz (aa (vI (w64 (s_1.f_at+1))) (aa (.ref (aF 0) 0 0) (aI Cn rfl 1 rfl wz (fo 0 il ft 0 sz3 rfl rfl [(vL eI s_1.L),(vI (w64 (s_1.f_at+1)))] rfl wz (af (au (aj (aa (.ref (aF 0) 0 0) (aa (.ref (aF 0) 0 0) (aI Gi rfl 0 rfl wz (aG 0 0 il ft yu Cb rfl rfl (vL eI s_1.L) rfl wz (bI pV rfl wz (aa (vB ((s_1.L.length:Int)==0)) (af ?_)))))))))))))))))))))
 rcases ak hF with⟨hc_3,hF⟩|⟨hc_3,hF⟩
 ·refine aB rfl hc_3 (aj (aa (.ref (aF 0) 0 0) (aa (.ref (aF 0) 0 0) (aI Cn rfl 1 rfl wz (aG 0 0 il ft sz3 ag3 rfl rfl (vI (w64 (s_1.f_at+1))) rfl wz (aa (vI (w64 ((w64 (s_1.f_at+1))*7919))) (aa (vI n_2) ?_)))))))
  obtain ⟨r_4,hr_5,hF⟩:=bind_some hF
  refine aC (uQ hr_5) rfl hb63 rfl rfl rfl rfl wz (aa (vI r_4) (af ?_))
  obtain rfl:=ae hF
  exact ay (y8 (.inr rfl) [(vI r_4)] _ [0] [aF 0] ⟨rfl,trivial⟩ (.cons (ja rfl rfl) (.nil)) (by kernel_rfl) ⟨(by kernel_rfl),trivial⟩ (by decide) (by kernel_rfl))
 ·refine aA rfl hc_3 (ax (au (bL (aa (.ref (aF 0) 0 0) (aa (.ref (aF 0) 0 0) (aI Cn rfl 1 rfl wz (aG 3 0 (.inr (by kernel_rfl)) (λ_ _ ag=>trivial) sz3 ag3 rfl rfl (vI (w64 (s_1.f_at+1))) rfl wz (aa (vI (w64 ((w64 (s_1.f_at+1))-1))) (aa (.ref (aF 0) 0 0) (aa (.ref (aF 0) 0 0) (aI Gi rfl 0 rfl wz (aG 8 0 (.inr (by kernel_rfl)) (λ_ _ ag=>⟨.inl ⟨rfl,rfl⟩,trivial⟩) yu Cb rfl rfl (vL eI s_1.L) rfl wz (bI pV rfl wz ?_)))))))))))))
  obtain ⟨q_6,hz_7,hF⟩:=bind_some hF
  refine Nc rfl rfl hz_7 wz (aa (vI q_6) (af (au (bL (aa (.ref (aF 0) 0 0) (aa (.ref (aF 0) 0 0) (aI Cn rfl 1 rfl wz (aG 3 0 (.inr (by kernel_rfl)) (λ_ _ ag=>trivial) sz3 ag3 rfl rfl (vI (w64 (s_1.f_at+1))) rfl wz (aa (vI (w64 ((w64 (s_1.f_at+1))-1))) (aa (.ref (aF 0) 0 0) (aa (.ref (aF 0) 0 0) (aI Gi rfl 0 rfl wz (aG 8 0 (.inr (by kernel_rfl)) (λ_ _ ag=>⟨.inl ⟨rfl,rfl⟩,trivial⟩) yu Cb rfl rfl (vL eI s_1.L) rfl wz (bI pV rfl wz ?_))))))))))))))
  obtain ⟨q_8,hz_9,hF⟩:=bind_some hF
  refine Nt rfl rfl hz_9 wz (aa (vI q_8) (af (aQ (H0:=([((aF 0),some (.cells 2 [(vL eI s_1.L),(vI (w64 (s_1.f_at+1)))]))]:Hp)) ([(0,(.ref (aF 0) 0 0)),(1,(vI n_2)),(5,(vI q_6)),(6,(vI q_8))]:SL_) (by kernel_rfl) (rE (by kernel_rfl)) (aj (aa (.ref (aF 0) 0 0) (aa (.ref (aF 0) 0 0) (aI Gi rfl 0 rfl wz (aG 0 0 il ft yu Cb rfl rfl (vL eI s_1.L) rfl wz (aa (vI q_6) ?_)))))))))
  obtain ⟨y_10,hy_11,hF⟩:=bind_some hF
  refine cZ iQ rfl rfl hy_11 rfl wz (bC sz3 ag3 rfl (vI y_10) rfl wz ?_)
  obtain ⟨r_12,hr_13,hF⟩:=bind_some hF
  refine aC (uQ hr_13) rfl hb63 rfl rfl rfl rfl wz (aa (vI q_8) (aa (vI q_6) (aa (vI (w64 (7919+q_6))) (aa (vI (w64 (q_8*(w64 (7919+q_6))))) (aa (vI (w64 (r_12+(w64 (q_8*(w64 (7919+q_6))))))) (aa (vI n_2) ?_))))))
  obtain ⟨r_14,hr_15,hF⟩:=bind_some hF
  refine aC (uQ hr_15) rfl hb63 rfl rfl rfl rfl wz (aa (vI r_14) (af ?_))
  obtain rfl:=ae hF
  exact ay (y8 (.inr rfl) [(vI r_14)] _ [0] [aF 0] ⟨rfl,trivial⟩ (.cons (ja rfl rfl) (.nil)) (by kernel_rfl) ⟨(by kernel_rfl),trivial⟩ (by decide) (by kernel_rfl))
theorem iW {s_1:Stream} {n_2:Int} {r:Bool×Stream} (hF:eZ s_1 n_2=some r) :
  FnM Tryz.prog 11 [(.ref (aF 0) 0 0),(vI n_2)] [(.cells 2 [(vL eI s_1.L),(vI s_1.f_at)])] (vB r.1) [some (.cells 2 [(vL eI r.2.L),(vI r.2.f_at)])]:=by
 refine FnM.of_wH ⟨Tryz.prog,9,[],[]⟩ rfl Tryz.func11 rfl rfl (lb_ rfl) (by kernel_rfl) ?_
 unfold eZ at hF
 refine aj (aa (vB false) (af (aj (aa (.ref (aF 0) 0 0) (aa (vI n_2) ?_)))))
 obtain ⟨r_3,hr_4,hF⟩:=bind_some hF
 refine dN 0 [0] il ft (fK hr_4) rfl JS rfl (by kernel_rfl) (by kernel_rfl) (by kernel_rfl) (by kernel_rfl) (by kernel_rfl) (by kernel_rfl) (by kernel_rfl) (by decide) (by kernel_rfl) wz (vI r_3.1) (by kernel_rfl) ([((aF 0),some (.cells 2 [(vL eI r_3.2.L),(vI r_3.2.f_at)]))]:Hp) (by kernel_rfl) (aa (vB (r_3.1==0)) (aa (vB (r_3.1==0)) (af ?_)))
 obtain rfl:=ae hF
 exact ay (y8 (.inr rfl) [(vB (r_3.1==0))] _ [0] [aF 0] ⟨rfl,trivial⟩ (.cons (ja rfl rfl) (.nil)) (by kernel_rfl) ⟨(by kernel_rfl),trivial⟩ (by decide) (by kernel_rfl))
theorem mO {s_1:Stream} {l_2:(List ByteArray)} {r:ByteArray×Stream} (hF:iB s_1 l_2=some r) :
  FnM Tryz.prog 12 [(.ref (aF 0) 0 0),(vL eS l_2)] [(.cells 2 [(vL eI s_1.L),(vI s_1.f_at)])] (vS r.1) [some (.cells 2 [(vL eI r.2.L),(vI r.2.f_at)])]:=by
 refine FnM.of_wH ⟨Tryz.prog,12,[],[]⟩ rfl Tryz.func12 rfl rfl (lb_ rfl) (by kernel_rfl) ?_
 unfold iB at hF
 refine aj (aa (vS (⟨#[]⟩:ByteArray)) (af (aj (aa (vL eS l_2) (aa (.ref (aF 0) 0 0) (aa (vL eS l_2) (bI qQ rfl wz ?_)))))))
 obtain ⟨r_3,hr_4,hF⟩:=bind_some hF
 refine dN 0 [0] il ft (fK hr_4) rfl JS rfl (by kernel_rfl) (by kernel_rfl) (by kernel_rfl) (by kernel_rfl) (by kernel_rfl) (by kernel_rfl) (by kernel_rfl) (by decide) (by kernel_rfl) wz (vI r_3.1) (by kernel_rfl) ([((aF 0),some (.cells 2 [(vL eI r_3.2.L),(vI r_3.2.f_at)]))]:Hp) (by kernel_rfl) ?_
 obtain ⟨y_6,hy_7,hF⟩:=bind_some hF
 refine cZ lH rfl rfl hy_7 rfl wz (bC sz9 ag9 rfl (vS y_6) rfl wz (aa (vS y_6) (af ?_)))
 obtain rfl:=ae hF
 exact ay (y8 (.inr rfl) [(vS y_6)] _ [0] [aF 0] ⟨rfl,trivial⟩ (.cons (ja rfl rfl) (.nil)) (by kernel_rfl) ⟨(by kernel_rfl),trivial⟩ (by decide) (by kernel_rfl))
theorem xO {s_1:Stream} {low_2:Int} {high_3:Int} {r:Int×Stream} (hF:jS s_1 low_2 high_3=some r) :
  FnM Tryz.prog 13 [(.ref (aF 0) 0 0),(vI low_2),(vI high_3)] [(.cells 2 [(vL eI s_1.L),(vI s_1.f_at)])] (vI r.1) [some (.cells 2 [(vL eI r.2.L),(vI r.2.f_at)])]:=by
 refine FnM.of_wH ⟨Tryz.prog,19,[],[]⟩ rfl Tryz.func13 rfl rfl (lb_ rfl) (by kernel_rfl) ?_
 unfold jS at hF
 refine aj (aa (vI 0) (af (au (aj (aa (vI high_3) (aa (vI low_2) (aa (vB (decide (high_3<low_2))) (af ?_))))))))
 rcases ak hF with⟨hc_4,hF⟩|⟨hc_4,hF⟩
 ·refine aB rfl hc_4 (aj (aa (vI low_2) (aa (vI low_2) (af ?_))))
  obtain rfl:=ae hF
  exact ay (y8 (.inr rfl) [(vI low_2)] _ [0] [aF 0] ⟨rfl,trivial⟩ (.cons (ja rfl rfl) (.nil)) (by kernel_rfl) ⟨(by kernel_rfl),trivial⟩ (by decide) (by kernel_rfl))
 ·refine aA rfl hc_4 (ax (aj (aa (vI low_2) (aa (.ref (aF 0) 0 0) (aa (vI high_3) (aa (vI low_2) (aa (vI (w64 (high_3-low_2))) (aa (vI (w64 ((w64 (high_3-low_2))+1))) ?_))))))))
  obtain ⟨r_5,hr_6,hF⟩:=bind_some hF
  refine dN 0 [0] il ft (fK hr_6) rfl JS rfl (by kernel_rfl) (by kernel_rfl) (by kernel_rfl) (by kernel_rfl) (by kernel_rfl) (by kernel_rfl) (by kernel_rfl) (by decide) (by kernel_rfl) wz (vI r_5.1) (by kernel_rfl) ([((aF 0),some (.cells 2 [(vL eI r_5.2.L),(vI r_5.2.f_at)]))]:Hp) (by kernel_rfl) (aa (vI (w64 (low_2+r_5.1))) (aa (vI (w64 (low_2+r_5.1))) (af ?_)))
  obtain rfl:=ae hF
  exact ay (y8 (.inr rfl) [(vI (w64 (low_2+r_5.1)))] _ [0] [aF 0] ⟨rfl,trivial⟩ (.cons (ja rfl rfl) (.nil)) (by kernel_rfl) ⟨(by kernel_rfl),trivial⟩ (by decide) (by kernel_rfl))
theorem eX {s_1:Stream} {l_2:(List Int)} {r:Int×Stream} (hF:dF s_1 l_2=some r) :
  FnM Tryz.prog 14 [(.ref (aF 0) 0 0),(vL eI l_2)] [(.cells 2 [(vL eI s_1.L),(vI s_1.f_at)])] (vI r.1) [some (.cells 2 [(vL eI r.2.L),(vI r.2.f_at)])]:=by
 refine FnM.of_wH ⟨Tryz.prog,12,[],[]⟩ rfl Tryz.func14 rfl rfl (lb_ rfl) (by kernel_rfl) ?_
 unfold dF at hF
 refine aj (aa (vI 0) (af (aj (aa (vL eI l_2) (aa (.ref (aF 0) 0 0) (aa (vL eI l_2) (bI pV rfl wz ?_)))))))
 obtain ⟨r_3,hr_4,hF⟩:=bind_some hF
 refine dN 0 [0] il ft (fK hr_4) rfl JS rfl (by kernel_rfl) (by kernel_rfl) (by kernel_rfl) (by kernel_rfl) (by kernel_rfl) (by kernel_rfl) (by kernel_rfl) (by decide) (by kernel_rfl) wz (vI r_3.1) (by kernel_rfl) ([((aF 0),some (.cells 2 [(vL eI r_3.2.L),(vI r_3.2.f_at)]))]:Hp) (by kernel_rfl) ?_
 obtain ⟨y_6,hy_7,hF⟩:=bind_some hF
 refine cZ iQ rfl rfl hy_7 rfl wz (bC sz3 ag3 rfl (vI y_6) rfl wz (aa (vI y_6) (af ?_)))
 obtain rfl:=ae hF
 exact ay (y8 (.inr rfl) [(vI y_6)] _ [0] [aF 0] ⟨rfl,trivial⟩ (.cons (ja rfl rfl) (.nil)) (by kernel_rfl) ⟨(by kernel_rfl),trivial⟩ (by decide) (by kernel_rfl))
theorem lw {s_1:Stream} {r:(List Entry)×Stream} (hF:eG s_1=some r) :
  FnM Tryz.prog 4 [(.ref (aF 0) 0 0)] [(.cells 2 [(vL eI s_1.L),(vI s_1.f_at)])] (vL Entry.enc r.1) [some (.cells 2 [(vL eI r.2.L),(vI r.2.f_at)])]:=by
 refine FnM.of_wH ⟨Tryz.prog,89,[],[]⟩ rfl Tryz.func4 rfl rfl (lb_ rfl) (by kernel_rfl) ?_
 unfold eG at hF
 refine aj (aa .nil (af (aj (aa .nil (af (au (aj (dW (([(⟨#[101,97]⟩:ByteArray),(⟨#[101,98]⟩:ByteArray),(⟨#[101,99]⟩:ByteArray),(⟨#[101,100]⟩:ByteArray)]:List ByteArray).map eS) lH zC rfl rfl rfl rfl rfl wz (bI qQ rfl wz (aa (vI 0) (af (lJ (λn_8 => ?_)))))))))))))
 obtain ⟨o_13,hj_14,hF⟩:=bind_some hF
 obtain ⟨hn_6,hj_14⟩:=aX hj_14
 refine fV (σ:=(List Entry)×(List Int)×Int) (N:=Nm) (λp=>(λ(s_7:(List Entry)×(List Int)×Int) (n_10:Nm)=>([(3,(gV n_10 13 s_7.1))]:SL_)) p.1 p.2) (λp=>(λ(s_7:(List Entry)×(List Int)×Int) (n_10:Nm)=>([((aF 0),some (.cells 2 [(vL eI s_7.2.1),(vI s_7.2.2)])),(n_10,gB 13 Entry.enc s_7.1)]:Hp)) p.1 p.2) (λ(k_2:Nat)=>(λp=>(λ(s_7:(List Entry)×(List Int)×Int) (n_10:Nm)=>([(0,(.ref (aF 0) 0 0)),(3,(gV n_10 13 s_7.1)),(11,(vL eS ([(⟨#[101,97]⟩:ByteArray),(⟨#[101,98]⟩:ByteArray),(⟨#[101,99]⟩:ByteArray),(⟨#[101,100]⟩:ByteArray)]:List ByteArray))),(12,(vI (([(⟨#[101,97]⟩:ByteArray),(⟨#[101,98]⟩:ByteArray),(⟨#[101,99]⟩:ByteArray),(⟨#[101,100]⟩:ByteArray)]:List ByteArray).length:Int))),(13,(vI (k_2:Int)))]:SL_)) p.1 p.2)) (λk x s=>dB k x s) o_13 ([(⟨#[101,97]⟩:ByteArray),(⟨#[101,98]⟩:ByteArray),(⟨#[101,99]⟩:ByteArray),(⟨#[101,100]⟩:ByteArray)]:List ByteArray) ((([]:List Entry),s_1.L,s_1.f_at),n_8) hj_14 rfl (aL rfl) ?_ ?_
 ·rintro ⟨k_2,l_3,s_7,n_10⟩ ⟨hL_12,hD_5⟩
  dsimp only at hL_12 hD_5
  cases l_3 with
  | nil =>
   obtain rfl:=ae hL_12
   refine aj (aa (vB (decide ((k_2:Int)<(([(⟨#[101,97]⟩:ByteArray),(⟨#[101,98]⟩:ByteArray),(⟨#[101,99]⟩:ByteArray),(⟨#[101,100]⟩:ByteArray)]:List ByteArray).length:Int)))) (af ?_))
   refine au (aA rfl (drop_nil hD_5) (bg ?_))
   exact aZ (s_7,n_10) rfl rfl (aL rfl)
  | cons x_4 l_3 =>
   obtain ⟨c_,hc_11,hL_12⟩:=bind_some hL_12
   refine aj (aa (vB (decide ((k_2:Int)<(([(⟨#[101,97]⟩:ByteArray),(⟨#[101,98]⟩:ByteArray),(⟨#[101,99]⟩:ByteArray),(⟨#[101,100]⟩:ByteArray)]:List ByteArray).length:Int)))) (af ?_))
   refine au (aB rfl (bz hD_5) (ax ?_))
   unfold dB at hc_11
   refine au (aO (aj (cZ lH rfl rfl (bH hD_5) rfl wz (bC sz9 ag9 rfl (vS x_4) rfl wz (aa (vS x_4) (af (au (aj (aa (.ref (aF 0) 0 0) ?_)))))))))
   obtain ⟨r_15,hr_16,hc_11⟩:=bind_some hc_11
   refine dN 0 [0] il ft (iW hr_16) rfl Mm rfl (by kernel_rfl) (by kernel_rfl) (by kernel_rfl) (by kernel_rfl) (by kernel_rfl) (by kernel_rfl) (by kernel_rfl) (by decide) (by kernel_rfl) wz (vB r_15.1) (by kernel_rfl) ([((aF 0),some (.cells 2 [(vL eI r_15.2.L),(vI r_15.2.f_at)])),(n_10,gB 13 Entry.enc s_7.1)]:Hp) (by kernel_rfl) (af ?_)
   rcases ak hc_11 with⟨hc_18,hc_11⟩|⟨hc_18,hc_11⟩
   ·refine aB rfl hc_18 (bg (av (eY (bD hD_5 hn_6) wz rfl (aa (vI ((k_2+1:Nat):Int)) (af ?_)))))
    obtain rfl:=ae hc_11
    exact aY (k_2+1,l_3,(s_7.1,r_15.2.L,r_15.2.f_at),n_10) ⟨hL_12,aV hD_5⟩ (ls_ _) rfl (aL rfl)
   ·refine aA rfl hc_18 (ax (aj (aa (vS x_4) (aa (.ref (aF 0) 0 0) (dW (([(⟨#[105,97]⟩:ByteArray),(⟨#[105,98]⟩:ByteArray),(⟨#[105,99]⟩:ByteArray)]:List ByteArray).map eS) lH zC rfl rfl rfl rfl rfl wz ?_)))))
    obtain ⟨r_19,hr_20,hc_11⟩:=bind_some hc_11
    refine dN 0 [0] il ft (mO hr_20) rfl hb12 rfl (by kernel_rfl) (by kernel_rfl) (by kernel_rfl) (by kernel_rfl) (by kernel_rfl) (by kernel_rfl) (by kernel_rfl) (by decide) (by kernel_rfl) wz (vS r_19.1) (by kernel_rfl) ([((aF 0),some (.cells 2 [(vL eI r_19.2.L),(vI r_19.2.f_at)])),(n_10,gB 13 Entry.enc s_7.1)]:Hp) (by kernel_rfl) (aa (.ref (aF 0) 0 0) ?_)
    obtain ⟨r_22,hr_23,hc_11⟩:=bind_some hc_11
    refine dN 0 [0] il ft (xO hr_23) rfl hb13 rfl (by kernel_rfl) (by kernel_rfl) (by kernel_rfl) (by kernel_rfl) (by kernel_rfl) (by kernel_rfl) (by kernel_rfl) (by decide) (by kernel_rfl) wz (vI r_22.1) (by kernel_rfl) ([((aF 0),some (.cells 2 [(vL eI r_22.2.L),(vI r_22.2.f_at)])),(n_10,gB 13 Entry.enc s_7.1)]:Hp) (by kernel_rfl) (aa (.ref (aF 0) 0 0) (dW (([0,0,1,3]:List Int).map eI) iQ wX rfl rfl rfl rfl rfl wz ?_))
    obtain ⟨r_25,hr_26,hc_11⟩:=bind_some hc_11
    refine dN 0 [0] il ft (eX hr_26) rfl Gp rfl (by kernel_rfl) (by kernel_rfl) (by kernel_rfl) (by kernel_rfl) (by kernel_rfl) (by kernel_rfl) (by kernel_rfl) (by decide) (by kernel_rfl) wz (vI r_25.1) (by kernel_rfl) ([((aF 0),some (.cells 2 [(vL eI r_25.2.L),(vI r_25.2.f_at)])),(n_10,gB 13 Entry.enc s_7.1)]:Hp) (by kernel_rfl) (aa (.ref (aF 0) 0 0) (dW (([1,1,2,3,7]:List Int).map eI) iQ wX rfl rfl rfl rfl rfl wz ?_))
    obtain ⟨r_28,hr_29,hc_11⟩:=bind_some hc_11
    refine dN 0 [0] il ft (eX hr_29) rfl Gp rfl (by kernel_rfl) (by kernel_rfl) (by kernel_rfl) (by kernel_rfl) (by kernel_rfl) (by kernel_rfl) (by kernel_rfl) (by decide) (by kernel_rfl) wz (vI r_28.1) (by kernel_rfl) ([((aF 0),some (.cells 2 [(vL eI r_28.2.L),(vI r_28.2.f_at)])),(n_10,gB 13 Entry.enc s_7.1)]:Hp) (by kernel_rfl) (aa (.ref (aF 0) 0 0) (dW (([127,127,31,96,1,2]:List Int).map eI) iQ wX rfl rfl rfl rfl rfl wz ?_))
    obtain ⟨r_31,hr_32,hc_11⟩:=bind_some hc_11
    refine dN 0 [0] il ft (eX hr_32) rfl Gp rfl (by kernel_rfl) (by kernel_rfl) (by kernel_rfl) (by kernel_rfl) (by kernel_rfl) (by kernel_rfl) (by kernel_rfl) (by decide) (by kernel_rfl) wz (vI r_31.1) (by kernel_rfl) ([((aF 0),some (.cells 2 [(vL eI r_31.2.L),(vI r_31.2.f_at)])),(n_10,gB 13 Entry.enc s_7.1)]:Hp) (by kernel_rfl) (aa (.ref (aF 0) 0 0) (dW (([0,0,60,600,1380]:List Int).map eI) iQ wX rfl rfl rfl rfl rfl wz ?_))
    obtain ⟨r_34,hr_35,hc_11⟩:=bind_some hc_11
    refine dN 0 [0] il ft (eX hr_35) rfl Gp rfl (by kernel_rfl) (by kernel_rfl) (by kernel_rfl) (by kernel_rfl) (by kernel_rfl) (by kernel_rfl) (by kernel_rfl) (by decide) (by kernel_rfl) wz (vI r_34.1) (by kernel_rfl) ([((aF 0),some (.cells 2 [(vL eI r_34.2.L),(vI r_34.2.f_at)])),(n_10,gB 13 Entry.enc s_7.1)]:Hp) (by kernel_rfl) (aa (.ref (aF 0) 0 0) (dW (([0,60,120,600,720,1439]:List Int).map eI) iQ wX rfl rfl rfl rfl rfl wz ?_))
    obtain ⟨r_37,hr_38,hc_11⟩:=bind_some hc_11
    refine dN 0 [0] il ft (eX hr_38) rfl Gp rfl (by kernel_rfl) (by kernel_rfl) (by kernel_rfl) (by kernel_rfl) (by kernel_rfl) (by kernel_rfl) (by kernel_rfl) (by decide) (by kernel_rfl) wz (vI r_37.1) (by kernel_rfl) ([((aF 0),some (.cells 2 [(vL eI r_37.2.L),(vI r_37.2.f_at)])),(n_10,gB 13 Entry.enc s_7.1)]:Hp) (by kernel_rfl) (aa (.ref (aF 0) 0 0) (dW (([0,0,1,5]:List Int).map eI) iQ wX rfl rfl rfl rfl rfl wz ?_))
    obtain ⟨r_40,hr_41,hc_11⟩:=bind_some hc_11
    refine dN 0 [0] il ft (eX hr_41) rfl Gp rfl (by kernel_rfl) (by kernel_rfl) (by kernel_rfl) (by kernel_rfl) (by kernel_rfl) (by kernel_rfl) (by kernel_rfl) (by decide) (by kernel_rfl) wz (vI r_40.1) (by kernel_rfl) ([((aF 0),some (.cells 2 [(vL eI r_40.2.L),(vI r_40.2.f_at)])),(n_10,gB 13 Entry.enc s_7.1)]:Hp) (by kernel_rfl) (aa (.ref (aF 0) 0 0) ?_)
    obtain ⟨r_43,hr_44,hc_11⟩:=bind_some hc_11
    refine dN 0 [0] il ft (iW hr_44) rfl Mm rfl (by kernel_rfl) (by kernel_rfl) (by kernel_rfl) (by kernel_rfl) (by kernel_rfl) (by kernel_rfl) (by kernel_rfl) (by decide) (by kernel_rfl) wz (vB r_43.1) (by kernel_rfl) ([((aF 0),some (.cells 2 [(vL eI r_43.2.L),(vI r_43.2.f_at)])),(n_10,gB 13 Entry.enc s_7.1)]:Hp) (by kernel_rfl) (aJ (.agg [(vS x_4),(vS r_19.1),(vI r_22.1),(vI r_25.1),(vI 0),(vI r_28.1),(vI r_31.1),.nil,(vI r_34.1),(vI r_37.1),(vI r_40.1),.nil,(vB r_43.1)]) wz (by kernel_rfl) (dE 0 (.inl rfl) z36 rfl wz (λn_46=>fo 0 il ft 2 jW rfl rfl [(vS x_4),(vS r_19.1),(vI r_22.1),(vI r_25.1),(vI 0),(vI r_28.1),(vI r_31.1),.nil,(vI r_34.1),(vI r_37.1),(vI r_40.1),.nil,(vB r_43.1)] rfl wz (af (aQ (H0:=([((aF 0),some (.cells 2 [(vL eI r_43.2.L),(vI r_43.2.f_at)])),(n_10,gB 13 Entry.enc s_7.1),(n_46,some (.cells 13 [(vS x_4),(vS r_19.1),(vI r_22.1),(vI r_25.1),(vI 0),(vI r_28.1),(vI r_31.1),.nil,(vI r_34.1),(vI r_37.1),(vI r_40.1),.nil,(vB r_43.1)]))]:Hp)) ([(0,(.ref (aF 0) 0 0)),(3,(gV n_10 13 s_7.1)),(6,(.ref n_46 0 0)),(11,(vL eS ([(⟨#[101,97]⟩:ByteArray),(⟨#[101,98]⟩:ByteArray),(⟨#[101,99]⟩:ByteArray),(⟨#[101,100]⟩:ByteArray)]:List ByteArray))),(12,(vI (([(⟨#[101,97]⟩:ByteArray),(⟨#[101,98]⟩:ByteArray),(⟨#[101,99]⟩:ByteArray),(⟨#[101,100]⟩:ByteArray)]:List ByteArray).length:Int))),(13,(vI (k_2:Int)))]:SL_) (by kernel_rfl) (rE (by kernel_rfl)) (au (bL (aI xM rfl 3 rfl wz (aG 1 2 (.inr (by kernel_rfl)) (λ_ _ ag=>trivial) sz3 ag3 rfl rfl (vI r_25.1) rfl wz (aa (.ref (aF 0) 0 0) (dW (([0,1,5,10,30]:List Int).map eI) iQ wX rfl rfl rfl rfl rfl wz ?_)))))))))))
    obtain ⟨r_47,hr_48,hc_11⟩:=bind_some hc_11
    refine dN 4 [0] (.inr (by kernel_rfl)) (λ_ _ ag=>by exact⟨.inr (.inl (dis1 (NB ag (i:=0) (j:=2) rfl rfl (by decide)))),trivial⟩) (eX hr_48) rfl Gp rfl (by kernel_rfl) (by kernel_rfl) (by kernel_rfl) (by kernel_rfl) (by kernel_rfl) (by kernel_rfl) (by kernel_rfl) (by decide) (by kernel_rfl) wz (vI r_47.1) (by kernel_rfl) ([((aF 0),some (.cells 2 [(vL eI r_47.2.L),(vI r_47.2.f_at)])),(n_10,gB 13 Entry.enc s_7.1),(n_46,some (.cells 13 [(vS x_4),(vS r_19.1),(vI r_22.1),(vI r_25.1),(vI 0),(vI r_28.1),(vI r_31.1),.nil,(vI r_34.1),(vI r_37.1),(vI r_40.1),.nil,(vB r_43.1)]))]:Hp) (by kernel_rfl) (aa (vI (w64 (r_25.1+r_47.1))) (aI xY rfl 4 rfl wz (fo 7 (.inr (by kernel_rfl)) (λ_ _ ag=>⟨.inr (.inr (by kernel_rfl)),⟨.inr (.inr (by kernel_rfl)),trivial⟩⟩) 2 sz3 rfl rfl [(vS x_4),(vS r_19.1),(vI r_22.1),(vI r_25.1),(vI (w64 (r_25.1+r_47.1))),(vI r_28.1),(vI r_31.1),.nil,(vI r_34.1),(vI r_37.1),(vI r_40.1),.nil,(vB r_43.1)] rfl wz (af (au (aj (dW (([1,2,8]:List Int).map eI) iQ wX rfl rfl rfl rfl rfl wz (bI pV rfl wz (aa (vI 0) (af (lJ (λn_56 => ?_))))))))))))
    obtain ⟨o_61,hj_62,hc_11⟩:=bind_some hc_11
    obtain ⟨hn_54,hj_62⟩:=aX hj_62
    refine fV (σ:=(List Int)×(List Int)×Int) (N:=Nm) (λp=>(λ(s_55:(List Int)×(List Int)×Int) (n_58:Nm)=>([(0,(.ref (aF 0) 0 0)),(3,(gV n_10 13 s_7.1)),(6,(.ref n_46 0 0)),(11,(vL eS ([(⟨#[101,97]⟩:ByteArray),(⟨#[101,98]⟩:ByteArray),(⟨#[101,99]⟩:ByteArray),(⟨#[101,100]⟩:ByteArray)]:List ByteArray))),(12,(vI (([(⟨#[101,97]⟩:ByteArray),(⟨#[101,98]⟩:ByteArray),(⟨#[101,99]⟩:ByteArray),(⟨#[101,100]⟩:ByteArray)]:List ByteArray).length:Int))),(13,(vI (k_2:Int)))]:SL_)) p.1 p.2) (λp=>(λ(s_55:(List Int)×(List Int)×Int) (n_58:Nm)=>([((aF 0),some (.cells 2 [(vL eI s_55.2.1),(vI s_55.2.2)])),(n_10,gB 13 Entry.enc s_7.1),(n_46,some (.cells 13 [(vS x_4),(vS r_19.1),(vI r_22.1),(vI r_25.1),(vI (w64 (r_25.1+r_47.1))),(vI r_28.1),(vI r_31.1),(gV n_58 1 s_55.1),(vI r_34.1),(vI r_37.1),(vI r_40.1),.nil,(vB r_43.1)])),(n_58,gB 1 eI s_55.1)]:Hp)) p.1 p.2) (λ(k_50:Nat)=>(λp=>(λ(s_55:(List Int)×(List Int)×Int) (n_58:Nm)=>([(0,(.ref (aF 0) 0 0)),(3,(gV n_10 13 s_7.1)),(6,(.ref n_46 0 0)),(11,(vL eS ([(⟨#[101,97]⟩:ByteArray),(⟨#[101,98]⟩:ByteArray),(⟨#[101,99]⟩:ByteArray),(⟨#[101,100]⟩:ByteArray)]:List ByteArray))),(12,(vI (([(⟨#[101,97]⟩:ByteArray),(⟨#[101,98]⟩:ByteArray),(⟨#[101,99]⟩:ByteArray),(⟨#[101,100]⟩:ByteArray)]:List ByteArray).length:Int))),(13,(vI (k_2:Int))),(53,(vL eI ([1,2,8]:List Int))),(54,(vI (([1,2,8]:List Int).length:Int))),(55,(vI (k_50:Int)))]:SL_)) p.1 p.2)) (λk x s=>fU k x s) o_61 ([1,2,8]:List Int) ((([]:List Int),r_47.2.L,r_47.2.f_at),n_56) hj_62 rfl (aL rfl) ?_ ?_
    ·rintro ⟨k_50,l_51,s_55,n_58⟩ ⟨hL_60,hD_53⟩
     dsimp only at hL_60 hD_53
     cases l_51 with
     | nil =>
      obtain rfl:=ae hL_60
      refine aj (aa (vB (decide ((k_50:Int)<(([1,2,8]:List Int).length:Int)))) (af ?_))
      refine au (aA rfl (drop_nil hD_53) (bg ?_))
      exact aZ (s_55,n_58) rfl rfl (aL rfl)
     | cons x_52 l_51 =>
      obtain ⟨c_,hc_59,hL_60⟩:=bind_some hL_60
      refine aj (aa (vB (decide ((k_50:Int)<(([1,2,8]:List Int).length:Int)))) (af ?_))
      refine au (aB rfl (bz hD_53) (ax ?_))
      unfold fU at hc_59
      refine au (aO (aj (cZ iQ rfl rfl (bH hD_53) rfl wz (bC sz3 ag3 rfl (vI x_52) rfl wz (aa (vI x_52) (af (aj (aa (.ref (aF 0) 0 0) ?_))))))))
      obtain ⟨r_63,hr_64,hc_59⟩:=bind_some hc_59
      refine dN 0 [0] il ft (iW hr_64) rfl Mm rfl (by kernel_rfl) (by kernel_rfl) (by kernel_rfl) (by kernel_rfl) (by kernel_rfl) (by kernel_rfl) (by kernel_rfl) (by decide) (by kernel_rfl) wz (vB r_63.1) (by kernel_rfl) ([((aF 0),some (.cells 2 [(vL eI r_63.2.L),(vI r_63.2.f_at)])),(n_10,gB 13 Entry.enc s_7.1),(n_46,some (.cells 13 [(vS x_4),(vS r_19.1),(vI r_22.1),(vI r_25.1),(vI (w64 (r_25.1+r_47.1))),(vI r_28.1),(vI r_31.1),(gV n_58 1 s_55.1),(vI r_34.1),(vI r_37.1),(vI r_40.1),.nil,(vB r_43.1)])),(n_58,gB 1 eI s_55.1)]:Hp) (by kernel_rfl) (af ?_)
      obtain ⟨v_66,h_67,hc_59⟩:=bind_some hc_59
      refine kZ (β:=Nm) (λ(n_68:Nm)=>([(0,(.ref (aF 0) 0 0)),(3,(gV n_10 13 s_7.1)),(6,(.ref n_46 0 0)),(11,(vL eS ([(⟨#[101,97]⟩:ByteArray),(⟨#[101,98]⟩:ByteArray),(⟨#[101,99]⟩:ByteArray),(⟨#[101,100]⟩:ByteArray)]:List ByteArray))),(12,(vI (([(⟨#[101,97]⟩:ByteArray),(⟨#[101,98]⟩:ByteArray),(⟨#[101,99]⟩:ByteArray),(⟨#[101,100]⟩:ByteArray)]:List ByteArray).length:Int))),(13,(vI (k_2:Int))),(53,(vL eI ([1,2,8]:List Int))),(54,(vI (([1,2,8]:List Int).length:Int))),(55,(vI (k_50:Int)))]:SL_)) (λ(n_68:Nm)=>([((aF 0),some (.cells 2 [(vL eI r_63.2.L),(vI r_63.2.f_at)])),(n_10,gB 13 Entry.enc s_7.1),(n_46,some (.cells 13 [(vS x_4),(vS r_19.1),(vI r_22.1),(vI r_25.1),(vI (w64 (r_25.1+r_47.1))),(vI r_28.1),(vI r_31.1),(gV n_68 1 v_66),(vI r_34.1),(vI r_37.1),(vI r_40.1),.nil,(vB r_43.1)])),(n_68,gB 1 eI v_66)]:Hp)) (λ_=>True) ?_ ?_
      ·rcases ak h_67 with⟨hc_69,h_67⟩|⟨hc_69,h_67⟩
       ·refine aB rfl hc_69 (av (aI rO rfl 7 rfl wz (aG 0 2 il ft yu Cb rfl rfl (gV n_58 1 s_55.1) rfl wz (aa (vI x_52) (dW (([x_52]:List Int).map eI) iQ wX rfl rfl rfl rfl rfl wz ?_)))))
        obtain ⟨a_70,hz_71,h_67⟩:=bind_some h_67
        refine jV 0 il ft (i:=3) Jh Jh sz3 z3 rfl (by decide) by3 (by decide) (λ_=>rfl) rfl rfl rfl hz_71 wz (λn_72=>aI rO rfl 7 rfl wz (fo 0 il ft 2 yu rfl rfl [(vS x_4),(vS r_19.1),(vI r_22.1),(vI r_25.1),(vI (w64 (r_25.1+r_47.1))),(vI r_28.1),(vI r_31.1),(gV n_72 1 a_70),(vI r_34.1),(vI r_37.1),(vI r_40.1),.nil,(vB r_43.1)] (stC_g rfl) wz (af ?_)))
        obtain rfl:=ae h_67
        exact aZ n_72 trivial rfl (aL rfl)
       ·refine aA rfl hc_69 (ax ?_)
        obtain rfl:=ae h_67
        exact aZ n_58 trivial rfl (aL rfl)
      ·rintro n_68 _ sl_ H_ hp_ hq_
       refine aQ _ hp_ hq_ (av (eY (bD hD_53 hn_54) wz rfl (aa (vI ((k_50+1:Nat):Int)) (af ?_))))
       obtain rfl:=ae hc_59
       exact aY (k_50+1,l_51,(v_66,r_63.2.L,r_63.2.f_at),n_68) ⟨hL_60,aV hD_53⟩ (ls_ _) rfl (aL rfl)
    ·rintro ⟨s_55,n_58⟩ ho_ sl_ H_ hp_ hq_
     subst ho_
     refine aQ _ hp_ hq_ (au (aj (dW (([(⟨#[99,105,116,121]⟩:ByteArray),(⟨#[109,97,108,108]⟩:ByteArray)]:List ByteArray).map eS) lH zC rfl rfl rfl rfl rfl wz (bI qQ rfl wz (aa (vI 0) (af (lJ (λn_79 => ?_))))))))
     obtain ⟨o_84,hj_85,hc_11⟩:=bind_some hc_11
     obtain ⟨hn_77,hj_85⟩:=aX hj_85
     refine fV (σ:=(List ByteArray)×(List Int)×Int) (N:=Nm) (λp=>(λ(s_78:(List ByteArray)×(List Int)×Int) (n_81:Nm)=>([(0,(.ref (aF 0) 0 0)),(3,(gV n_10 13 s_7.1)),(6,(.ref n_46 0 0)),(11,(vL eS ([(⟨#[101,97]⟩:ByteArray),(⟨#[101,98]⟩:ByteArray),(⟨#[101,99]⟩:ByteArray),(⟨#[101,100]⟩:ByteArray)]:List ByteArray))),(12,(vI (([(⟨#[101,97]⟩:ByteArray),(⟨#[101,98]⟩:ByteArray),(⟨#[101,99]⟩:ByteArray),(⟨#[101,100]⟩:ByteArray)]:List ByteArray).length:Int))),(13,(vI (k_2:Int)))]:SL_)) p.1 p.2) (λp=>(λ(s_78:(List ByteArray)×(List Int)×Int) (n_81:Nm)=>([((aF 0),some (.cells 2 [(vL eI s_78.2.1),(vI s_78.2.2)])),(n_10,gB 13 Entry.enc s_7.1),(n_46,some (.cells 13 [(vS x_4),(vS r_19.1),(vI r_22.1),(vI r_25.1),(vI (w64 (r_25.1+r_47.1))),(vI r_28.1),(vI r_31.1),(gV n_58 1 s_55.1),(vI r_34.1),(vI r_37.1),(vI r_40.1),(gV n_81 1 s_78.1),(vB r_43.1)])),(n_58,gB 1 eI s_55.1),(n_81,gB 1 eS s_78.1)]:Hp)) p.1 p.2) (λ(k_73:Nat)=>(λp=>(λ(s_78:(List ByteArray)×(List Int)×Int) (n_81:Nm)=>([(0,(.ref (aF 0) 0 0)),(3,(gV n_10 13 s_7.1)),(6,(.ref n_46 0 0)),(11,(vL eS ([(⟨#[101,97]⟩:ByteArray),(⟨#[101,98]⟩:ByteArray),(⟨#[101,99]⟩:ByteArray),(⟨#[101,100]⟩:ByteArray)]:List ByteArray))),(12,(vI (([(⟨#[101,97]⟩:ByteArray),(⟨#[101,98]⟩:ByteArray),(⟨#[101,99]⟩:ByteArray),(⟨#[101,100]⟩:ByteArray)]:List ByteArray).length:Int))),(13,(vI (k_2:Int))),(68,(vL eS ([(⟨#[99,105,116,121]⟩:ByteArray),(⟨#[109,97,108,108]⟩:ByteArray)]:List ByteArray))),(69,(vI (([(⟨#[99,105,116,121]⟩:ByteArray),(⟨#[109,97,108,108]⟩:ByteArray)]:List ByteArray).length:Int))),(70,(vI (k_73:Int)))]:SL_)) p.1 p.2)) (λk x s=>fT k x s) o_84 ([(⟨#[99,105,116,121]⟩:ByteArray),(⟨#[109,97,108,108]⟩:ByteArray)]:List ByteArray) ((([]:List ByteArray),s_55.2.1,s_55.2.2),n_79) hj_85 rfl (aL rfl) ?_ ?_
     ·rintro ⟨k_73,l_74,s_78,n_81⟩ ⟨hL_83,hD_76⟩
      dsimp only at hL_83 hD_76
      cases l_74 with
      | nil =>
       obtain rfl:=ae hL_83
       refine aj (aa (vB (decide ((k_73:Int)<(([(⟨#[99,105,116,121]⟩:ByteArray),(⟨#[109,97,108,108]⟩:ByteArray)]:List ByteArray).length:Int)))) (af ?_))
       refine au (aA rfl (drop_nil hD_76) (bg ?_))
       exact aZ (s_78,n_81) rfl rfl (aL rfl)
      | cons x_75 l_74 =>
       obtain ⟨c_,hc_82,hL_83⟩:=bind_some hL_83
       refine aj (aa (vB (decide ((k_73:Int)<(([(⟨#[99,105,116,121]⟩:ByteArray),(⟨#[109,97,108,108]⟩:ByteArray)]:List ByteArray).length:Int)))) (af ?_))
       refine au (aB rfl (bz hD_76) (ax ?_))
       unfold fT at hc_82
       refine au (aO (aj (cZ lH rfl rfl (bH hD_76) rfl wz (bC sz9 ag9 rfl (vS x_75) rfl wz (aa (vS x_75) (af (aj (aa (.ref (aF 0) 0 0) ?_))))))))
       obtain ⟨r_86,hr_87,hc_82⟩:=bind_some hc_82
       refine dN 0 [0] il ft (iW hr_87) rfl Mm rfl (by kernel_rfl) (by kernel_rfl) (by kernel_rfl) (by kernel_rfl) (by kernel_rfl) (by kernel_rfl) (by kernel_rfl) (by decide) (by kernel_rfl) wz (vB r_86.1) (by kernel_rfl) ([((aF 0),some (.cells 2 [(vL eI r_86.2.L),(vI r_86.2.f_at)])),(n_10,gB 13 Entry.enc s_7.1),(n_46,some (.cells 13 [(vS x_4),(vS r_19.1),(vI r_22.1),(vI r_25.1),(vI (w64 (r_25.1+r_47.1))),(vI r_28.1),(vI r_31.1),(gV n_58 1 s_55.1),(vI r_34.1),(vI r_37.1),(vI r_40.1),(gV n_81 1 s_78.1),(vB r_43.1)])),(n_58,gB 1 eI s_55.1),(n_81,gB 1 eS s_78.1)]:Hp) (by kernel_rfl) (af ?_)
       obtain ⟨v_89,h_90,hc_82⟩:=bind_some hc_82
       refine kZ (β:=Nm) (λ(n_91:Nm)=>([(0,(.ref (aF 0) 0 0)),(3,(gV n_10 13 s_7.1)),(6,(.ref n_46 0 0)),(11,(vL eS ([(⟨#[101,97]⟩:ByteArray),(⟨#[101,98]⟩:ByteArray),(⟨#[101,99]⟩:ByteArray),(⟨#[101,100]⟩:ByteArray)]:List ByteArray))),(12,(vI (([(⟨#[101,97]⟩:ByteArray),(⟨#[101,98]⟩:ByteArray),(⟨#[101,99]⟩:ByteArray),(⟨#[101,100]⟩:ByteArray)]:List ByteArray).length:Int))),(13,(vI (k_2:Int))),(68,(vL eS ([(⟨#[99,105,116,121]⟩:ByteArray),(⟨#[109,97,108,108]⟩:ByteArray)]:List ByteArray))),(69,(vI (([(⟨#[99,105,116,121]⟩:ByteArray),(⟨#[109,97,108,108]⟩:ByteArray)]:List ByteArray).length:Int))),(70,(vI (k_73:Int)))]:SL_)) (λ(n_91:Nm)=>([((aF 0),some (.cells 2 [(vL eI r_86.2.L),(vI r_86.2.f_at)])),(n_10,gB 13 Entry.enc s_7.1),(n_46,some (.cells 13 [(vS x_4),(vS r_19.1),(vI r_22.1),(vI r_25.1),(vI (w64 (r_25.1+r_47.1))),(vI r_28.1),(vI r_31.1),(gV n_58 1 s_55.1),(vI r_34.1),(vI r_37.1),(vI r_40.1),(gV n_91 1 v_89),(vB r_43.1)])),(n_58,gB 1 eI s_55.1),(n_91,gB 1 eS v_89)]:Hp)) (λ_=>True) ?_ ?_
       ·rcases ak h_90 with⟨hc_92,h_90⟩|⟨hc_92,h_90⟩
        ·refine aB rfl hc_92 (av (aI pW rfl 11 rfl wz (aG 0 2 il ft yZ Cs rfl rfl (gV n_81 1 s_78.1) rfl wz (aa (vS x_75) (dW (([x_75]:List ByteArray).map eS) lH zC rfl rfl rfl rfl rfl wz ?_)))))
         obtain ⟨a_93,hz_94,h_90⟩:=bind_some h_90
         refine jV 0 il ft (i:=4) Bb Bb sz9 z9 rfl (by decide) by9 (by decide) (λ_=>rfl) rfl rfl rfl hz_94 wz (λn_95=>aI pW rfl 11 rfl wz (fo 0 il ft 2 yZ rfl rfl [(vS x_4),(vS r_19.1),(vI r_22.1),(vI r_25.1),(vI (w64 (r_25.1+r_47.1))),(vI r_28.1),(vI r_31.1),(gV n_58 1 s_55.1),(vI r_34.1),(vI r_37.1),(vI r_40.1),(gV n_95 1 a_93),(vB r_43.1)] (stC_g rfl) wz (af ?_)))
         obtain rfl:=ae h_90
         exact aZ n_95 trivial rfl (aL rfl)
        ·refine aA rfl hc_92 (ax ?_)
         obtain rfl:=ae h_90
         exact aZ n_81 trivial rfl (aL rfl)
       ·rintro n_91 _ sl_ H_ hp_ hq_
        refine aQ _ hp_ hq_ (av (eY (bD hD_76 hn_77) wz rfl (aa (vI ((k_73+1:Nat):Int)) (af ?_))))
        obtain rfl:=ae hc_82
        exact aY (k_73+1,l_74,(v_89,r_86.2.L,r_86.2.f_at),n_91) ⟨hL_83,aV hD_76⟩ (ls_ _) rfl (aL rfl)
     ·rintro ⟨s_78,n_81⟩ ho_ sl_ H_ hp_ hq_
      subst ho_
      refine aQ _ hp_ hq_ (gH 3 rfl (gH 4 rfl (wH_coc2 3 4 2 [(vS x_4),(vS r_19.1),(vI r_22.1),(vI r_25.1),(vI (w64 (r_25.1+r_47.1))),(vI r_28.1),(vI r_31.1),(vL eI s_55.1),(vI r_34.1),(vI r_37.1),(vI r_40.1),(vL eS s_78.1),(vB r_43.1)] rfl rfl rfl (λS hS hS2=>lh (rfl) (lh (rfl) (lh (rfl) (lh (rfl) (lh (rfl) (lh (rfl) (lh (rfl) (lh (hS) (lh (rfl) (lh (rfl) (lh (rfl) (lh (hS2) (lh (rfl) (rfl)))))))))))))) (av (aa (gV n_10 13 s_7.1) (aG 0 2 il ft jW ql rfl rfl (.d (.agg (Entry.enc (⟨x_4,r_19.1,r_22.1,r_25.1,(w64 (r_25.1+r_47.1)),r_28.1,r_31.1,s_55.1,r_34.1,r_37.1,r_40.1,s_78.1,r_43.1⟩:Entry)))) rfl wz (dW (([(⟨x_4,r_19.1,r_22.1,r_25.1,(w64 (r_25.1+r_47.1)),r_28.1,r_31.1,s_55.1,r_34.1,r_37.1,r_40.1,s_78.1,r_43.1⟩:Entry)]:List Entry).map Entry.enc) EI ez26 rfl rfl rfl rfl rfl wz ?_)))))))
      obtain ⟨a_96,hz_97,hc_11⟩:=bind_some hc_11
      refine jV 0 il ft (i:=1) el26 el26 jW z36 rfl (by decide) by36 (by decide) (λ_=>rfl) rfl rfl rfl hz_97 wz (λn_98=>aa (gV n_98 13 a_96) (af (av (eY (bD hD_5 hn_6) wz rfl (aa (vI ((k_2+1:Nat):Int)) (af ?_))))))
      obtain rfl:=ae hc_11
      exact aY (k_2+1,l_3,(a_96,s_78.2.1,s_78.2.2),n_98) ⟨hL_12,aV hD_5⟩ (ls_ _) rfl (aL rfl)
 ·rintro ⟨s_7,n_10⟩ ho_ sl_ H_ hp_ hq_
  subst ho_
  refine aQ _ hp_ hq_ (aj (aa (gV n_10 13 s_7.1) (aa (gV n_10 13 s_7.1) (af (gH 1 rfl (fO 2 1 rfl rfl (fO 3 1 rfl rfl (fO 88 1 rfl rfl ?_))))))))
  obtain rfl:=ae hF
  exact ay (y8 (.inr rfl) [(vL Entry.enc s_7.1)] _ [0] [aF 0] ⟨rfl,trivial⟩ (.cons (ja rfl rfl) (.nil)) (by kernel_rfl) ⟨(by kernel_rfl),trivial⟩ (by decide) (by kernel_rfl))
theorem fJ {s_1:ByteArray} {r:Bool} (hF:fE s_1=some r) :
  FnM Tryz.prog 64 [(vS s_1)] [] (vB r) []:=by
 refine FnM.of_wH ⟨Tryz.prog,48,[],[]⟩ rfl Tryz.func64 rfl rfl (lb_ rfl) (by kernel_rfl) ?_
 unfold fE at hF
 refine aj (aa (vB false) (af (au (aj (aa (vI 0) (af ?_))))))
 obtain ⟨o_10,hj_11,hF⟩:=bind_some hF
 obtain ⟨nq_33,hj_11⟩:=gu hj_11
 refine jB (λ(s_7:Int)=>[(0,(vS s_1))]) (λ(s_7:Int)=>[]) (λ(k_2:Nat)=>(λ(s_7:Int)=>[(0,(vS s_1)),(3,(vI s_7))])) (λs=>jc s_1 s) o_10 nq_33 0 hj_11 rfl (aL rfl) ?_ ?_
 ·rintro ⟨k_2,s_7⟩ hL_9
  dsimp only at hL_9
  cases k_2 with
  | zero=>cases hL_9
  | succ k_2 =>
   obtain ⟨c_,hc_8,hL_9⟩:=bind_some hL_9
   unfold jc at hc_8
   refine au (aj (aa (vI s_7) (aa (vS s_1) (nH un9 rfl wz (aa (vB (decide (s_7<(s_1.size:Int)))) (af ?_))))))
   rcases ak hc_8 with⟨hc_12,hc_8⟩|⟨hc_12,hc_8⟩
   ·refine aB rfl hc_12 (ax (au (aO (aj (aa (vS s_1) (aa (vI s_7) ?_))))))
    obtain ⟨b_13,hy_14,hc_8⟩:=bind_some hc_8
    refine vw un9 rfl rfl hy_14 wz (aa (.d (.int .u8 (b_13.toNat:Int))) (af (au ?_)))
    obtain ⟨v_15,h_16,hc_8⟩:=bind_some hc_8
    refine aR [(0,(vS s_1)),(3,(vI s_7)),(40,(vB v_15))] [] ?_ ?_
    ·refine av (aa (.d (.int .u8 (b_13.toNat:Int))) (aa (vB (decide ((b_13.toNat:Int)>=97))) ?_))
     rcases ak h_16 with⟨hc_17,h_16⟩|⟨hc_17,h_16⟩
     ·refine aD rfl hc_17 wz (aJ (.d (.int .u8 (b_13.toNat:Int))) wa rfl (aJ (vB (decide ((b_13.toNat:Int)<=122))) wa rfl (aa (vB (decide ((b_13.toNat:Int)<=122))) ?_)))
      rcases ak h_16 with⟨hc_18,h_16⟩|⟨hc_18,h_16⟩
      ·refine aD rfl hc_18 wz (ah (ah (ah (bG (wn rfl rfl) (bG (wn rfl rfl) (bG (wn rfl rfl) (bG (wn rfl rfl) (bG (wn rfl rfl) (bG (wn rfl rfl) (bG (wn rfl rfl) (bG (wn rfl rfl) (bG (wn rfl rfl) (bG (wn rfl rfl) (bG (wn rfl rfl) (bG (wn rfl rfl) (bG (wn rfl rfl) (bG (wn rfl rfl) (ah (aa (vB true) (aa (vB false) (af ?_)))))))))))))))))))))
       obtain rfl:=ae h_16
       exact cu
      ·refine aD rfl hc_18 wz (aJ (vI s_7) wa rfl (aJ (vB (decide (s_7>0))) wa rfl ?_))
       rcases ak h_16 with⟨hc_19,h_16⟩|⟨hc_19,h_16⟩
       ·refine aD rfl hc_19 wa (aJ (.d (.int .u8 (b_13.toNat:Int))) wa rfl (aJ (vB (decide ((b_13.toNat:Int)>=48))) wa rfl ?_))
        rcases ak h_16 with⟨hc_20,h_16⟩|⟨hc_20,h_16⟩
        ·refine aD rfl hc_20 wa (aJ (.d (.int .u8 (b_13.toNat:Int))) wa rfl (aJ (vB (decide ((b_13.toNat:Int)<=57))) wa rfl (aJ (vB (decide ((b_13.toNat:Int)<=57))) wa rfl ?_)))
         rcases ak h_16 with⟨hc_21,h_16⟩|⟨hc_21,h_16⟩
         ·refine aD rfl hc_21 wa (ah (ah (aJ (vB true) wa rfl (aJ (vB true) wa rfl (ah (ah (aJ (vB true) wa rfl (aJ (vB true) wa rfl (aa (vB true) (aa (vB false) (af ?_)))))))))))
          obtain rfl:=ae h_16
          exact cu
         ·refine aD rfl hc_21 wa (aJ (.d (.int .u8 (b_13.toNat:Int))) wa rfl (aJ (vB ((b_13.toNat:Int)==45)) wa rfl (aJ (vB ((b_13.toNat:Int)==45)) wa rfl ?_)))
          rcases ak h_16 with⟨hc_22,h_16⟩|⟨hc_22,h_16⟩
          ·refine aD rfl hc_22 wa (ah (ah (aJ (vB true) wa rfl (aJ (vB true) wa rfl (aa (vB true) (aa (vB false) (af ?_)))))))
           obtain rfl:=ae h_16
           exact cu
          ·refine aD rfl hc_22 wa (aJ (.d (.int .u8 (b_13.toNat:Int))) wa rfl (aJ (vB ((b_13.toNat:Int)==95)) wa rfl (aJ (vB ((b_13.toNat:Int)==95)) wa rfl (aJ (vB ((b_13.toNat:Int)==95)) wa rfl (aa (vB ((b_13.toNat:Int)==95)) (aa (vB (!((b_13.toNat:Int)==95))) (af ?_)))))))
           obtain rfl:=ae h_16
           exact cu
        ·refine aD rfl hc_20 wa (ah (ah (aJ (vB false) wa rfl (aJ (vB false) wa rfl (aJ (.d (.int .u8 (b_13.toNat:Int))) wa rfl (aJ (vB ((b_13.toNat:Int)==45)) wa rfl (aJ (vB ((b_13.toNat:Int)==45)) wa rfl ?_)))))))
         rcases ak h_16 with⟨hc_23,h_16⟩|⟨hc_23,h_16⟩
         ·refine aD rfl hc_23 wa (ah (ah (aJ (vB true) wa rfl (aJ (vB true) wa rfl (aa (vB true) (aa (vB false) (af ?_)))))))
          obtain rfl:=ae h_16
          exact cu
         ·refine aD rfl hc_23 wa (aJ (.d (.int .u8 (b_13.toNat:Int))) wa rfl (aJ (vB ((b_13.toNat:Int)==95)) wa rfl (aJ (vB ((b_13.toNat:Int)==95)) wa rfl (aJ (vB ((b_13.toNat:Int)==95)) wa rfl (aa (vB ((b_13.toNat:Int)==95)) (aa (vB (!((b_13.toNat:Int)==95))) (af ?_)))))))
          obtain rfl:=ae h_16
          exact cu
       ·refine aD rfl hc_19 wa (ah (ah (ah (bG (wn rfl rfl) (bG (wn rfl rfl) (ah (ah (bG (wn rfl rfl) (bG (wn rfl rfl) (ah (ah (bG (wn rfl rfl) (bG (wn rfl rfl) (ah (aJ (vB false) wa rfl (aa (vB false) (aa (vB true) (af ?_))))))))))))))))))
        obtain rfl:=ae h_16
        exact cu
     ·refine aD rfl hc_17 wz (ah (ah (aa (vB false) (aa (vB false) (aJ (vI s_7) wa rfl (aJ (vB (decide (s_7>0))) wa rfl ?_))))))
      rcases ak h_16 with⟨hc_24,h_16⟩|⟨hc_24,h_16⟩
      ·refine aD rfl hc_24 wa (aJ (.d (.int .u8 (b_13.toNat:Int))) wa rfl (aJ (vB (decide ((b_13.toNat:Int)>=48))) wa rfl ?_))
       rcases ak h_16 with⟨hc_25,h_16⟩|⟨hc_25,h_16⟩
       ·refine aD rfl hc_25 wa (aJ (.d (.int .u8 (b_13.toNat:Int))) wa rfl (aJ (vB (decide ((b_13.toNat:Int)<=57))) wa rfl (aJ (vB (decide ((b_13.toNat:Int)<=57))) wa rfl ?_)))
        rcases ak h_16 with⟨hc_26,h_16⟩|⟨hc_26,h_16⟩
        ·refine aD rfl hc_26 wa (ah (ah (aJ (vB true) wa rfl (aJ (vB true) wa rfl (ah (ah (aJ (vB true) wa rfl (aJ (vB true) wa rfl (aa (vB true) (aa (vB false) (af ?_)))))))))))
         obtain rfl:=ae h_16
         exact cu
        ·refine aD rfl hc_26 wa (aJ (.d (.int .u8 (b_13.toNat:Int))) wa rfl (aJ (vB ((b_13.toNat:Int)==45)) wa rfl (aJ (vB ((b_13.toNat:Int)==45)) wa rfl ?_)))
         rcases ak h_16 with⟨hc_27,h_16⟩|⟨hc_27,h_16⟩
         ·refine aD rfl hc_27 wa (ah (ah (aJ (vB true) wa rfl (aJ (vB true) wa rfl (aa (vB true) (aa (vB false) (af ?_)))))))
          obtain rfl:=ae h_16
          exact cu
         ·refine aD rfl hc_27 wa (aJ (.d (.int .u8 (b_13.toNat:Int))) wa rfl (aJ (vB ((b_13.toNat:Int)==95)) wa rfl (aJ (vB ((b_13.toNat:Int)==95)) wa rfl (aJ (vB ((b_13.toNat:Int)==95)) wa rfl (aa (vB ((b_13.toNat:Int)==95)) (aa (vB (!((b_13.toNat:Int)==95))) (af ?_)))))))
          obtain rfl:=ae h_16
          exact cu
       ·refine aD rfl hc_25 wa (ah (ah (aJ (vB false) wa rfl (aJ (vB false) wa rfl (aJ (.d (.int .u8 (b_13.toNat:Int))) wa rfl (aJ (vB ((b_13.toNat:Int)==45)) wa rfl (aJ (vB ((b_13.toNat:Int)==45)) wa rfl ?_)))))))
        rcases ak h_16 with⟨hc_28,h_16⟩|⟨hc_28,h_16⟩
        ·refine aD rfl hc_28 wa (ah (ah (aJ (vB true) wa rfl (aJ (vB true) wa rfl (aa (vB true) (aa (vB false) (af ?_)))))))
         obtain rfl:=ae h_16
         exact cu
        ·refine aD rfl hc_28 wa (aJ (.d (.int .u8 (b_13.toNat:Int))) wa rfl (aJ (vB ((b_13.toNat:Int)==95)) wa rfl (aJ (vB ((b_13.toNat:Int)==95)) wa rfl (aJ (vB ((b_13.toNat:Int)==95)) wa rfl (aa (vB ((b_13.toNat:Int)==95)) (aa (vB (!((b_13.toNat:Int)==95))) (af ?_)))))))
         obtain rfl:=ae h_16
         exact cu
      ·refine aD rfl hc_24 wa (ah (ah (ah (bG (wn rfl rfl) (bG (wn rfl rfl) (ah (ah (bG (wn rfl rfl) (bG (wn rfl rfl) (ah (ah (bG (wn rfl rfl) (bG (wn rfl rfl) (ah (aJ (vB false) wa rfl (aa (vB false) (aa (vB true) (af ?_))))))))))))))))))
       obtain rfl:=ae h_16
       exact cu
    ·rintro ⟨⟩ _ sl_ H_ hp_ hq_
     refine aQ _ hp_ hq_ ?_
     rcases ak hc_8 with⟨hc_29,hc_8⟩|⟨hc_29,hc_8⟩
     ·refine aB rfl hc_29 (aj (aa (vB false) (af ?_)))
      obtain rfl:=ae hc_8
      obtain rfl:=ae hL_9
      obtain rfl:=ae hF
      exact ay (aK [(vB false)] ⟨rfl,trivial⟩)
     ·refine aA rfl hc_29 (ax (av (aa (vI s_7) (aa (vI (w64 (s_7+1))) (aa (vI (w64 (s_7+1))) (af ?_))))))
      obtain rfl:=ae hc_8
      exact aY (k_2,(w64 (s_7+1))) hL_9 (ls_ _) rfl (aL rfl)
   ·refine aA rfl hc_12 (bg ?_)
    obtain rfl:=ae hc_8
    obtain rfl:=ae hL_9
    exact aZ (s_7) rfl rfl (aL rfl)
 ·rintro s_7 ho_ sl_ H_ hp_ hq_
  subst ho_
  refine aQ _ hp_ hq_ (au ?_)
  obtain ⟨v_30,h_31,hF⟩:=bind_some hF
  refine aR [(2,(vB v_30))] [] ?_ ?_
  ·refine av (aa (vS s_1) (aa (vB (sNe s_1 (⟨#[]⟩:ByteArray))) ?_))
   rcases ak h_31 with⟨hc_32,h_31⟩|⟨hc_32,h_31⟩
   ·refine aD rfl hc_32 wz (aJ (vS s_1) wa rfl (nH un9 rfl wa (aJ (vB (decide ((s_1.size:Int)<=40))) wa rfl (aa (vB (decide ((s_1.size:Int)<=40))) (aa (vB (decide ((s_1.size:Int)<=40))) (af ?_))))))
    obtain rfl:=ae h_31
    exact cu
   ·refine aD rfl hc_32 wz (ah (ah (ah (aa (vB false) (aa (vB false) (af ?_))))))
    obtain rfl:=ae h_31
    exact cu
  ·rintro ⟨⟩ _ sl_ H_ hp_ hq_
   refine aQ _ hp_ hq_ ?_
   obtain rfl:=ae hF
   exact ay (aK [(vB v_30)] ⟨rfl,trivial⟩)
theorem bn {n_1:Int} {low_2:Int} {high_3:Int} {r:Bool} (hF:aP n_1 low_2 high_3=some r) :
  FnM Tryz.prog 53 [(vI n_1),(vI low_2),(vI high_3)] [] (vB r) []:=by
 refine FnM.of_wH ⟨Tryz.prog,15,[],[]⟩ rfl Tryz.func53 rfl rfl (lb_ rfl) (by kernel_rfl) ?_
 unfold aP at hF
 refine aj (aa (vB false) (af (au ?_)))
 obtain ⟨v_4,h_5,hF⟩:=bind_some hF
 refine aR [(6,(vB v_4))] [] ?_ ?_
 ·refine av (aa (vI n_1) (aa (vI low_2) (aa (vB (decide (n_1<low_2))) ?_)))
  rcases ak h_5 with⟨hc_6,h_5⟩|⟨hc_6,h_5⟩
  ·refine aD rfl hc_6 wz (ah (ah (ah (aa (vB true) (aa (vB true) (af ?_))))))
   obtain rfl:=ae h_5
   exact cu
  ·refine aD rfl hc_6 wz (aJ (vI n_1) wa rfl (aJ (vI high_3) wa rfl (aJ (vB (decide (n_1>high_3))) wa rfl (aa (vB (decide (n_1>high_3))) (aa (vB (decide (n_1>high_3))) (af ?_))))))
   obtain rfl:=ae h_5
   exact cu
 ·rintro ⟨⟩ _ sl_ H_ hp_ hq_
  refine aQ _ hp_ hq_ ?_
  obtain rfl:=ae hF
  exact ay (aK [(vB v_4)] ⟨rfl,trivial⟩)
theorem FB {n_1:Int} {r:Bool} (hF:sG n_1=some r) :
  FnM Tryz.prog 95 [(vI n_1)] [] (vB r) []:=by
 refine FnM.of_wH ⟨Tryz.prog,9,[],[]⟩ rfl Tryz.func95 rfl rfl (lb_ rfl) (by kernel_rfl) ?_
 unfold sG at hF
 refine aj (aa (vB false) (af (au ?_)))
 obtain ⟨v_2,h_3,hF⟩:=bind_some hF
 refine aR [(2,(vB v_2))] [] ?_ ?_
 ·refine av (aa (vI n_1) (aa (vB (decide (n_1>=0))) ?_))
  rcases ak h_3 with⟨hc_4,h_3⟩|⟨hc_4,h_3⟩
  ·refine aD rfl hc_4 wz (aJ (vI n_1) wa rfl (aJ (vB (decide (n_1<=4000))) wa rfl (aa (vB (decide (n_1<=4000))) (aa (vB (decide (n_1<=4000))) (af ?_)))))
   obtain rfl:=ae h_3
   exact cu
  ·refine aD rfl hc_4 wz (ah (ah (aa (vB false) (aa (vB false) (af ?_)))))
   obtain rfl:=ae h_3
   exact cu
 ·rintro ⟨⟩ _ sl_ H_ hp_ hq_
  refine aQ _ hp_ hq_ ?_
  obtain rfl:=ae hF
  exact ay (aK [(vB v_2)] ⟨rfl,trivial⟩)
theorem rV {l_1:(List Int)} {r:Int} (hF:fC l_1=some r) :
  FnM Tryz.prog 65 [(vL eI l_1)] [] (vI r) []:=by
 refine FnM.of_wH ⟨Tryz.prog,30,[],[]⟩ rfl Tryz.func65 rfl rfl (lb_ rfl) (by kernel_rfl) ?_
 unfold fC at hF
 refine aj (aa (vI 0) (af (au (aj (aa (vL eI l_1) (bI pV rfl wz (aa (vB (decide ((l_1.length:Int)>100))) (af ?_))))))))
 rcases ak hF with⟨hc_2,hF⟩|⟨hc_2,hF⟩
 ·refine aB rfl hc_2 (aj (aa (vI 2) (af ?_)))
  obtain rfl:=ae hF
  exact ay (aK [(vI 2)] ⟨rfl,trivial⟩)
 ·refine aA rfl hc_2 (ax (au (aj (aa (vL eI l_1) (bI pV rfl wz (aa (vI 0) (af ?_)))))))
  obtain ⟨o_11,hj_12,hF⟩:=bind_some hF
  obtain ⟨hn_7,hj_12⟩:=aX hj_12
  refine di (λ(s_8:Unit)=>[]) (λ(s_8:Unit)=>[]) (λ(k_3:Nat)=>(λ(s_8:Unit)=>[(0,(vL eI l_1)),(8,(vL eI l_1)),(9,(vI (l_1.length:Int))),(10,(vI (k_3:Int)))])) (λk x s=>gM l_1 k x s) o_11 l_1 () hj_12 rfl (aL rfl) ?_ ?_
  ·rintro ⟨k_3,l_4,s_8⟩ ⟨hL_10,hD_6⟩
   dsimp only at hL_10 hD_6
   cases l_4 with
   | nil =>
    obtain rfl:=ae hL_10
    refine aj (aa (vB (decide ((k_3:Int)<(l_1.length:Int)))) (af ?_))
    refine au (aA rfl (drop_nil hD_6) (bg ?_))
    exact aZ (s_8) rfl rfl (aL rfl)
   | cons x_5 l_4 =>
    obtain ⟨c_,hc_9,hL_10⟩:=bind_some hL_10
    refine aj (aa (vB (decide ((k_3:Int)<(l_1.length:Int)))) (af ?_))
    refine au (aB rfl (bz hD_6) (ax ?_))
    unfold gM at hc_9
    refine au (aO (aj (aa (vI (k_3:Int)) (cZ iQ rfl rfl (bH hD_6) rfl wz (bC sz3 ag3 rfl (vI x_5) rfl wz (aa (vI (k_3:Int)) (aa (vI x_5) (af (au (aj (aa (vI x_5) ?_)))))))))))
    obtain ⟨r_13,hr_14,hc_9⟩:=bind_some hc_9
    refine aC (FB hr_14) rfl hb95 rfl rfl rfl rfl wz (aa (vB (!r_13)) (af ?_))
    rcases ak hc_9 with⟨hc_15,hc_9⟩|⟨hc_15,hc_9⟩
    ·refine aB rfl hc_15 (aj (aa (vI 1) (af ?_)))
     obtain rfl:=ae hc_9
     obtain rfl:=ae hL_10
     obtain rfl:=ae hF
     exact ay (aK [(vI 1)] ⟨rfl,trivial⟩)
    ·refine aA rfl hc_15 (ax (au ?_))
     obtain ⟨v_16,h_17,hc_9⟩:=bind_some hc_9
     refine aR [(0,(vL eI l_1)),(8,(vL eI l_1)),(9,(vI (l_1.length:Int))),(10,(vI (k_3:Int))),(28,(vB v_16))] [] ?_ ?_
     ·refine av (aa (vI (k_3:Int)) (aa (vB (decide ((k_3:Int)>0))) ?_))
      rcases ak h_17 with⟨hc_18,h_17⟩|⟨hc_18,h_17⟩
      ·refine aD rfl hc_18 wz (aJ (vI x_5) wa rfl (aJ (vL eI l_1) wa rfl (aJ (vI (k_3:Int)) wa rfl (aJ (vI (w64 ((k_3:Int)-1))) wa rfl ?_))))
       obtain ⟨y_19,hy_20,h_17⟩:=bind_some h_17
       refine cZ iQ rfl rfl hy_20 rfl wa (bC sz3 ag3 rfl (vI y_19) rfl wa (aJ (vB (decide (x_5<=y_19))) wa rfl (aa (vB (decide (x_5<=y_19))) (af ?_))))
       obtain rfl:=ae h_17
       exact cu
      ·refine aD rfl hc_18 wz (ah (ah (ah (ah (ah (ah (ah (aa (vB false) (af ?_)))))))))
       obtain rfl:=ae h_17
       exact cu
     ·rintro ⟨⟩ _ sl_ H_ hp_ hq_
      refine aQ _ hp_ hq_ ?_
      rcases ak hc_9 with⟨hc_21,hc_9⟩|⟨hc_21,hc_9⟩
      ·refine aB rfl hc_21 (aj (aa (vI 7) (af ?_)))
       obtain rfl:=ae hc_9
       obtain rfl:=ae hL_10
       obtain rfl:=ae hF
       exact ay (aK [(vI 7)] ⟨rfl,trivial⟩)
      ·refine aA rfl hc_21 (ax (av (eY (bD hD_6 hn_7) wz rfl (aa (vI ((k_3+1:Nat):Int)) (af ?_)))))
       obtain rfl:=ae hc_9
       exact aY (k_3+1,l_4,()) ⟨hL_10,aV hD_6⟩ (ls_ _) rfl (aL rfl)
  ·rintro s_8 ho_ sl_ H_ hp_ hq_
   subst ho_
   refine aQ _ hp_ hq_ (aj (aa (vI 0) (af ?_)))
   obtain rfl:=ae hF
   exact ay (aK [(vI 0)] ⟨rfl,trivial⟩)
theorem qo {l_1:(List ByteArray)} {r:Int} (hF:gW l_1=some r) :
  FnM Tryz.prog 96 [(vL eS l_1)] [] (vI r) []:=by
 refine FnM.of_wH ⟨Tryz.prog,27,[],[]⟩ rfl Tryz.func96 rfl rfl (lb_ rfl) (by kernel_rfl) ?_
 unfold gW at hF
 refine aj (aa (vI 0) (af (au (aj (aa (vL eS l_1) (bI qQ rfl wz (aa (vI 0) (af ?_))))))))
 obtain ⟨o_10,hj_11,hF⟩:=bind_some hF
 obtain ⟨hn_6,hj_11⟩:=aX hj_11
 refine di (λ(s_7:Unit)=>[]) (λ(s_7:Unit)=>[]) (λ(k_2:Nat)=>(λ(s_7:Unit)=>[(0,(vL eS l_1)),(5,(vL eS l_1)),(6,(vI (l_1.length:Int))),(7,(vI (k_2:Int)))])) (λk x s=>fZ l_1 k x s) o_10 l_1 () hj_11 rfl (aL rfl) ?_ ?_
 ·rintro ⟨k_2,l_3,s_7⟩ ⟨hL_9,hD_5⟩
  dsimp only at hL_9 hD_5
  cases l_3 with
  | nil =>
   obtain rfl:=ae hL_9
   refine aj (aa (vB (decide ((k_2:Int)<(l_1.length:Int)))) (af ?_))
   refine au (aA rfl (drop_nil hD_5) (bg ?_))
   exact aZ (s_7) rfl rfl (aL rfl)
  | cons x_4 l_3 =>
   obtain ⟨c_,hc_8,hL_9⟩:=bind_some hL_9
   refine aj (aa (vB (decide ((k_2:Int)<(l_1.length:Int)))) (af ?_))
   refine au (aB rfl (bz hD_5) (ax ?_))
   unfold fZ at hc_8
   refine au (aO (aj (aa (vI (k_2:Int)) (cZ lH rfl rfl (bH hD_5) rfl wz (bC sz9 ag9 rfl (vS x_4) rfl wz (aa (vI (k_2:Int)) (aa (vS x_4) (af (au (aj (aa (vS x_4) ?_)))))))))))
   obtain ⟨r_12,hr_13,hc_8⟩:=bind_some hc_8
   refine aC (fJ hr_13) rfl CW rfl rfl rfl rfl wz (aa (vB (!r_12)) (af ?_))
   rcases ak hc_8 with⟨hc_14,hc_8⟩|⟨hc_14,hc_8⟩
   ·refine aB rfl hc_14 (aj (aa (vI 5) (af ?_)))
    obtain rfl:=ae hc_8
    obtain rfl:=ae hL_9
    obtain rfl:=ae hF
    exact ay (aK [(vI 5)] ⟨rfl,trivial⟩)
   ·refine aA rfl hc_14 (ax (au ?_))
    obtain ⟨v_15,h_16,hc_8⟩:=bind_some hc_8
    refine aR [(0,(vL eS l_1)),(5,(vL eS l_1)),(6,(vI (l_1.length:Int))),(7,(vI (k_2:Int))),(25,(vB v_15))] [] ?_ ?_
    ·refine av (aa (vI (k_2:Int)) (aa (vB (decide ((k_2:Int)>0))) ?_))
     rcases ak h_16 with⟨hc_17,h_16⟩|⟨hc_17,h_16⟩
     ·refine aD rfl hc_17 wz (aJ (vS x_4) wa rfl (aJ (vL eS l_1) wa rfl (aJ (vI (k_2:Int)) wa rfl (aJ (vI (w64 ((k_2:Int)-1))) wa rfl ?_))))
      obtain ⟨y_18,hy_19,h_16⟩:=bind_some h_16
      refine cZ lH rfl rfl hy_19 rfl wa (bC sz9 ag9 rfl (vS y_18) rfl wa (aJ (vB (sLe x_4 y_18)) wa rfl (aa (vB (sLe x_4 y_18)) (af ?_))))
      obtain rfl:=ae h_16
      exact cu
     ·refine aD rfl hc_17 wz (ah (ah (ah (ah (ah (ah (ah (aa (vB false) (af ?_)))))))))
      obtain rfl:=ae h_16
      exact cu
    ·rintro ⟨⟩ _ sl_ H_ hp_ hq_
     refine aQ _ hp_ hq_ ?_
     rcases ak hc_8 with⟨hc_20,hc_8⟩|⟨hc_20,hc_8⟩
     ·refine aB rfl hc_20 (aj (aa (vI 7) (af ?_)))
      obtain rfl:=ae hc_8
      obtain rfl:=ae hL_9
      obtain rfl:=ae hF
      exact ay (aK [(vI 7)] ⟨rfl,trivial⟩)
     ·refine aA rfl hc_20 (ax (av (eY (bD hD_5 hn_6) wz rfl (aa (vI ((k_2+1:Nat):Int)) (af ?_)))))
      obtain rfl:=ae hc_8
      exact aY (k_2+1,l_3,()) ⟨hL_9,aV hD_5⟩ (ls_ _) rfl (aL rfl)
 ·rintro s_7 ho_ sl_ H_ hp_ hq_
  subst ho_
  refine aQ _ hp_ hq_ (aj (aa (vI 0) (af ?_)))
  obtain rfl:=ae hF
  exact ay (aK [(vI 0)] ⟨rfl,trivial⟩)
theorem uK {l_1:(List ByteArray)} {r:Int} (hF:fA l_1=some r) :
  FnM Tryz.prog 66 [(vL eS l_1)] [] (vI r) []:=by
 refine FnM.of_wH ⟨Tryz.prog,8,[],[]⟩ rfl Tryz.func66 rfl rfl (lb_ rfl) (by kernel_rfl) ?_
 unfold fA at hF
 refine aj (aa (vI 0) (af (au (aj (aa (vL eS l_1) (bI qQ rfl wz (aa (vB (decide ((l_1.length:Int)>20))) (af ?_))))))))
 rcases ak hF with⟨hc_2,hF⟩|⟨hc_2,hF⟩
 ·refine aB rfl hc_2 (aj (aa (vI 2) (af ?_)))
  obtain rfl:=ae hF
  exact ay (aK [(vI 2)] ⟨rfl,trivial⟩)
 ·refine aA rfl hc_2 (ax (aj (aa (vL eS l_1) ?_)))
  obtain ⟨r_3,hr_4,hF⟩:=bind_some hF
  refine aC (qo hr_4) rfl hb96 rfl rfl rfl rfl wz (aa (vI r_3) (af ?_))
  obtain rfl:=ae hF
  exact ay (aK [(vI r_3)] ⟨rfl,trivial⟩)
theorem ul {e_1:Entry} {r:Int} (hF:eT e_1=some r) :
  FnM Tryz.prog 35 [(.d (.agg (Entry.enc e_1)))] [] (vI r) []:=by
 refine FnM.of_wH ⟨Tryz.prog,61,[],[]⟩ rfl Tryz.func35 rfl rfl (lb_ rfl) (by kernel_rfl) ?_
 unfold eT at hF
 refine aj (ik 0 (.inl rfl) (Entry.v e_1) rfl rfl wz (λn_2=>aa (vI 0) (af (au (au ?_)))))
 obtain ⟨v_3,h_4,hF⟩:=bind_some hF
 refine aR [(1,(.ref n_2 0 0)),(13,(vB v_3))] [(n_2,some (.cells 13 (Entry.v e_1)))] ?_ ?_
 ·refine av (aI Dn rfl 0 rfl wz (aG 0 0 il ft sz9 ag9 rfl rfl (vS e_1.Key) rfl wz ?_))
  obtain ⟨r_5,hr_6,h_4⟩:=bind_some h_4
  refine aC (fJ hr_6) rfl CW rfl rfl rfl rfl wz (aa (vB (!r_5)) ?_)
  rcases ak h_4 with⟨hc_7,h_4⟩|⟨hc_7,h_4⟩
  ·refine aD rfl hc_7 wz (ah (ah (ah (ah (aa (vB true) (af ?_))))))
   obtain rfl:=ae h_4
   exact cu
  ·refine aD rfl hc_7 wz (aI JJ rfl 1 rfl wa (aG 0 0 il ft sz9 ag9 rfl rfl (vS e_1.Item) rfl wa ?_))
   obtain ⟨r_8,hr_9,h_4⟩:=bind_some h_4
   refine aC (fJ hr_9) rfl CW rfl rfl rfl rfl wa (aJ (vB (!r_8)) wa rfl (aa (vB (!r_8)) (af ?_)))
   obtain rfl:=ae h_4
   exact cu
 ·rintro ⟨⟩ _ sl_ H_ hp_ hq_
  refine aQ _ hp_ hq_ ?_
  rcases ak hF with⟨hc_10,hF⟩|⟨hc_10,hF⟩
  ·refine aB rfl hc_10 (aj (aa (vI 5) (af ?_)))
   obtain rfl:=ae hF
   exact ay (aK [(vI 5)] ⟨rfl,trivial⟩)
  ·refine aA rfl hc_10 (ax (au (au ?_)))
   obtain ⟨v_11,h_12,hF⟩:=bind_some hF
   refine aR [(1,(.ref n_2 0 0)),(38,(vB v_11))] [(n_2,some (.cells 13 (Entry.v e_1)))] ?_ ?_
   ·refine av (aI Jy rfl 2 rfl wz (aG 0 0 il ft sz3 ag3 rfl rfl (vI e_1.Version) rfl wz ?_))
    obtain ⟨r_13,hr_14,h_12⟩:=bind_some h_12
    refine aC (bn hr_14) rfl qN rfl rfl rfl rfl wz ?_
    rcases ak h_12 with⟨hc_15,h_12⟩|⟨hc_15,h_12⟩
    ·refine aD rfl hc_15 wz (ah (ah (ah (ah (ah (aa (vB true) (aa (vB true) (ah (ah (ah (aa (vB true) (aa (vB true) (ah (ah (ah (aa (vB true) (aa (vB true) (ah (ah (ah (aa (vB true) (af ?_))))))))))))))))))))))
     obtain rfl:=ae h_12
     exact cu
    ·refine aD rfl hc_15 wz (aI xM rfl 3 rfl wa (aG 0 0 il ft sz3 ag3 rfl rfl (vI e_1.First) rfl wa (aI xY rfl 4 rfl wa (aG 0 0 il ft sz3 ag3 rfl rfl (vI e_1.Last) rfl wa ?_))))
     obtain ⟨r_16,hr_17,h_12⟩:=bind_some h_12
     refine aC (bn hr_17) rfl qN rfl rfl rfl rfl wa (aa (vB r_16) ?_)
     rcases ak h_12 with⟨hc_18,h_12⟩|⟨hc_18,h_12⟩
     ·refine aD rfl hc_18 wz (ah (ah (ah (aa (vB true) (aa (vB true) (ah (ah (ah (aa (vB true) (aa (vB true) (ah (ah (ah (aa (vB true) (af ?_)))))))))))))))
      obtain rfl:=ae h_12
      exact cu
     ·refine aD rfl hc_18 wz (aI xY rfl 4 rfl wa (aG 0 0 il ft sz3 ag3 rfl rfl (vI e_1.Last) rfl wa (aJ (vB (decide (e_1.Last>4000))) wa rfl (aa (vB (decide (e_1.Last>4000))) ?_))))
      rcases ak h_12 with⟨hc_19,h_12⟩|⟨hc_19,h_12⟩
      ·refine aD rfl hc_19 wz (ah (ah (ah (aa (vB true) (aa (vB true) (ah (ah (ah (aa (vB true) (af ?_))))))))))
       obtain rfl:=ae h_12
       exact cu
      ·refine aD rfl hc_19 wz (aI Fs rfl 5 rfl wa (aG 0 0 il ft sz3 ag3 rfl rfl (vI e_1.Every) rfl wa ?_))
       obtain ⟨r_20,hr_21,h_12⟩:=bind_some h_12
       refine aC (bn hr_21) rfl qN rfl rfl rfl rfl wa (aa (vB r_20) ?_)
       rcases ak h_12 with⟨hc_22,h_12⟩|⟨hc_22,h_12⟩
       ·refine aD rfl hc_22 wz (ah (ah (ah (aa (vB true) (af ?_)))))
        obtain rfl:=ae h_12
        exact cu
       ·refine aD rfl hc_22 wz (aI FN rfl 6 rfl wa (aG 0 0 il ft sz3 ag3 rfl rfl (vI e_1.Days) rfl wa ?_))
        obtain ⟨r_23,hr_24,h_12⟩:=bind_some h_12
        refine aC (bn hr_24) rfl qN rfl rfl rfl rfl wa (aa (vB r_23) (af ?_))
        obtain rfl:=ae h_12
        exact cu
   ·rintro ⟨⟩ _ sl_ H_ hp_ hq_
    refine aQ _ hp_ hq_ ?_
    rcases ak hF with⟨hc_25,hF⟩|⟨hc_25,hF⟩
    ·refine aB rfl hc_25 (aj (aa (vI 1) (af ?_)))
     obtain rfl:=ae hF
     exact ay (aK [(vI 1)] ⟨rfl,trivial⟩)
    ·refine aA rfl hc_25 (ax (au (aj (aI rO rfl 7 rfl wz (aG 0 0 il ft yu Cb rfl rfl (vL eI e_1.Except) rfl wz ?_)))))
     obtain ⟨r_26,hr_27,hF⟩:=bind_some hF
     refine aC (rV hr_27) rfl hb65 rfl rfl rfl rfl wz (aa (vI r_26) (af (aj (aa (vI r_26) (aa (vB (r_26 != 0)) (af ?_))))))
     rcases ak hF with⟨hc_28,hF⟩|⟨hc_28,hF⟩
     ·refine aB rfl hc_28 (aj (aa (vI r_26) (aa (vI r_26) (af ?_))))
      obtain rfl:=ae hF
      exact ay (aK [(vI r_26)] ⟨rfl,trivial⟩)
     ·refine aA rfl hc_28 (ax (au (au ?_)))
      obtain ⟨v_29,h_30,hF⟩:=bind_some hF
      refine aR [(1,(.ref n_2 0 0)),(57,(vB v_29))] [(n_2,some (.cells 13 (Entry.v e_1)))] ?_ ?_
      ·refine av (aI CL rfl 8 rfl wz (aG 0 0 il ft sz3 ag3 rfl rfl (vI e_1.From) rfl wz ?_))
       obtain ⟨r_31,hr_32,h_30⟩:=bind_some h_30
       refine aC (bn hr_32) rfl qN rfl rfl rfl rfl wz ?_
       rcases ak h_30 with⟨hc_33,h_30⟩|⟨hc_33,h_30⟩
       ·refine aD rfl hc_33 wz (ah (ah (ah (aa (vB true) (aa (vB true) (ah (ah (ah (aa (vB true) (af ?_))))))))))
        obtain rfl:=ae h_30
        exact cu
       ·refine aD rfl hc_33 wz (aI Fb rfl 9 rfl wa (aG 0 0 il ft sz3 ag3 rfl rfl (vI e_1.To) rfl wa ?_))
        obtain ⟨r_34,hr_35,h_30⟩:=bind_some h_30
        refine aC (bn hr_35) rfl qN rfl rfl rfl rfl wa (aa (vB r_34) ?_)
        rcases ak h_30 with⟨hc_36,h_30⟩|⟨hc_36,h_30⟩
        ·refine aD rfl hc_36 wz (ah (ah (ah (aa (vB true) (af ?_)))))
         obtain rfl:=ae h_30
         exact cu
        ·refine aD rfl hc_36 wz (aI E8 rfl 10 rfl wa (aG 0 0 il ft sz3 ag3 rfl rfl (vI e_1.Prio) rfl wa ?_))
         obtain ⟨r_37,hr_38,h_30⟩:=bind_some h_30
         refine aC (bn hr_38) rfl qN rfl rfl rfl rfl wa (aa (vB r_37) (af ?_))
         obtain rfl:=ae h_30
         exact cu
      ·rintro ⟨⟩ _ sl_ H_ hp_ hq_
       refine aQ _ hp_ hq_ ?_
       rcases ak hF with⟨hc_39,hF⟩|⟨hc_39,hF⟩
       ·refine aB rfl hc_39 (aj (aa (vI 1) (af ?_)))
        obtain rfl:=ae hF
        exact ay (aK [(vI 1)] ⟨rfl,trivial⟩)
       ·refine aA rfl hc_39 (ax (aj (aI pW rfl 11 rfl wz (aG 0 0 il ft yZ Cs rfl rfl (vL eS e_1.Tags) rfl wz ?_))))
        obtain ⟨r_40,hr_41,hF⟩:=bind_some hF
        refine aC (uK hr_41) rfl hb66 rfl rfl rfl rfl wz (aa (vI r_40) (af ?_))
        obtain rfl:=ae hF
        exact ay (aK [(vI r_40)] ⟨rfl,trivial⟩)
theorem jh {l_1:(List Entry)} {r:Int} (hF:bA l_1=some r) :
  FnM Tryz.prog 15 [(vL Entry.enc l_1)] [] (vI r) []:=by
 refine FnM.of_wH ⟨Tryz.prog,35,[],[]⟩ rfl Tryz.func15 rfl rfl (lb_ rfl) (by kernel_rfl) ?_
 unfold bA at hF
 refine aj (aa (vI 0) (af (au (aj (aa (vL Entry.enc l_1) (bI IG rfl wz (aa (vB (decide ((l_1.length:Int)>200))) (af ?_))))))))
 rcases ak hF with⟨hc_2,hF⟩|⟨hc_2,hF⟩
 ·refine aB rfl hc_2 (aj (aa (vI 2) (af ?_)))
  obtain rfl:=ae hF
  exact ay (aK [(vI 2)] ⟨rfl,trivial⟩)
 ·refine aA rfl hc_2 (ax (au (aj (aa (vL Entry.enc l_1) (bI IG rfl wz (aa (vI 0) (af ?_)))))))
  obtain ⟨o_11,hj_12,hF⟩:=bind_some hF
  obtain ⟨hn_7,hj_12⟩:=aX hj_12
  refine di (λ(s_8:Unit)=>[]) (λ(s_8:Unit)=>[]) (λ(k_3:Nat)=>(λ(s_8:Unit)=>[(0,(vL Entry.enc l_1)),(9,(vL Entry.enc l_1)),(10,(vI (l_1.length:Int))),(11,(vI (k_3:Int)))])) (λk x s=>dM l_1 k x s) o_11 l_1 () hj_12 rfl (aL rfl) ?_ ?_
  ·rintro ⟨k_3,l_4,s_8⟩ ⟨hL_10,hD_6⟩
   dsimp only at hL_10 hD_6
   cases l_4 with
   | nil =>
    obtain rfl:=ae hL_10
    refine aj (aa (vB (decide ((k_3:Int)<(l_1.length:Int)))) (af ?_))
    refine au (aA rfl (drop_nil hD_6) (bg ?_))
    exact aZ (s_8) rfl rfl (aL rfl)
   | cons x_5 l_4 =>
    obtain ⟨c_,hc_9,hL_10⟩:=bind_some hL_10
    refine aj (aa (vB (decide ((k_3:Int)<(l_1.length:Int)))) (af ?_))
    refine au (aB rfl (bz hD_6) (ax ?_))
    unfold dM at hc_9
    refine au (aO (aj (aa (vI (k_3:Int)) (cZ EI rfl rfl (bH hD_6) rfl wz (bC jW ql rfl (.d (.agg (Entry.enc x_5))) rfl wz (dE 0 (.inl rfl) z36 rfl wz (λn_13=>aa (vI (k_3:Int)) (fo 0 il ft 0 jW rfl rfl (Entry.v x_5) rfl wz (af (au (aj (aG 0 0 il ft jW ql rfl rfl (.d (.agg (Entry.enc x_5))) rfl wz ?_))))))))))))
    obtain ⟨r_14,hr_15,hc_9⟩:=bind_some hc_9
    refine aC (ul hr_15) rfl hb35 rfl rfl rfl rfl wz (aa (vI r_14) (af (aj (aa (vI r_14) (aa (vB (r_14 != 0)) (af ?_))))))
    rcases ak hc_9 with⟨hc_16,hc_9⟩|⟨hc_16,hc_9⟩
    ·refine aB rfl hc_16 (aj (aa (vI r_14) (aa (vI r_14) (af ?_))))
     obtain rfl:=ae hc_9
     obtain rfl:=ae hL_10
     obtain rfl:=ae hF
     exact ay (aK [(vI r_14)] ⟨rfl,trivial⟩)
    ·refine aA rfl hc_16 (ax (au ?_))
     obtain ⟨v_17,h_18,hc_9⟩:=bind_some hc_9
     refine aR [(0,(vL Entry.enc l_1)),(9,(vL Entry.enc l_1)),(10,(vI (l_1.length:Int))),(11,(vI (k_3:Int))),(33,(vB v_17))] [(n_13,some (.cells 13 (Entry.v x_5)))] ?_ ?_
     ·refine bL (aa (vI (k_3:Int)) (aa (vB (decide ((k_3:Int)>0))) ?_))
      rcases ak h_18 with⟨hc_19,h_18⟩|⟨hc_19,h_18⟩
      ·refine aD rfl hc_19 wz (aI Dn rfl 0 rfl wa (aG 4 0 (.inr (by kernel_rfl)) (λ_ _ ag=>trivial) sz9 ag9 rfl rfl (vS x_5.Key) rfl wa (aJ (vL Entry.enc l_1) wa rfl (aJ (vI (k_3:Int)) wa rfl (aJ (vI (w64 ((k_3:Int)-1))) wa rfl ?_)))))
       obtain ⟨y_20,hy_21,h_18⟩:=bind_some h_18
       refine cZ EI rfl rfl hy_21 rfl wa (qi Dn rfl (Entry.enc y_20) rfl rfl wa (bC sz9 ag9 rfl (vS y_20.Key) rfl wa (aJ (vB (sLe x_5.Key y_20.Key)) wa rfl (aa (vB (sLe x_5.Key y_20.Key)) (af ?_)))))
       obtain rfl:=ae h_18
       exact cu
      ·refine aD rfl hc_19 wz (ah (ah (ah (ah (ah (ah (ah (ah (ah (aa (vB false) (af ?_)))))))))))
       obtain rfl:=ae h_18
       exact cu
     ·rintro ⟨⟩ _ sl_ H_ hp_ hq_
      refine aQ _ hp_ hq_ ?_
      rcases ak hc_9 with⟨hc_22,hc_9⟩|⟨hc_22,hc_9⟩
      ·refine aB rfl hc_22 (aj (aa (vI 7) (af ?_)))
       obtain rfl:=ae hc_9
       obtain rfl:=ae hL_10
       obtain rfl:=ae hF
       exact ay (aK [(vI 7)] ⟨rfl,trivial⟩)
      ·refine aA rfl hc_22 (ax (av (eY (bD hD_6 hn_7) wz rfl (aa (vI ((k_3+1:Nat):Int)) (af ?_)))))
       obtain rfl:=ae hc_9
       exact aY (k_3+1,l_4,()) ⟨hL_10,aV hD_6⟩ (ls_ _) rfl (aL rfl)
  ·rintro s_8 ho_ sl_ H_ hp_ hq_
   subst ho_
   refine aQ _ hp_ hq_ (aj (aa (vI 0) (af ?_)))
   obtain rfl:=ae hF
   exact ay (aK [(vI 0)] ⟨rfl,trivial⟩)
theorem lX {x0:Int} {r:ByteArray} (hF:strconv_Itoa x0=some r) :
  FnM Tryz.prog 37 [(vI x0)] [] (vS r) [] :=
 itoa_ok Tryz.strconv_Itoa IQ hF
theorem jN {x0:(List ByteArray)} {x1:ByteArray} {r:ByteArray} (hF:strings_Join x0 x1=some r) :
  FnM Tryz.prog 38 [(vL eS x0),(vS x1)] [] (vS r) [] :=
 join_ok rfl Tryz.strings_Join_none Tryz.strings_Join hF
theorem qx {l_1:(List ByteArray)} {r:ByteArray} (hF:gU l_1=some r) :
  FnM Tryz.prog 39 [(vL eS l_1)] [] (vS r) []:=by
 refine FnM.of_wH ⟨Tryz.prog,8,[],[]⟩ rfl Tryz.func39 rfl rfl (lb_ rfl) (by kernel_rfl) ?_
 unfold gU at hF
 refine aj (aa (vS (⟨#[]⟩:ByteArray)) (af (au (aj (aa (vL eS l_1) (bI qQ rfl wz (aa (vB ((l_1.length:Int)==0)) (af ?_))))))))
 rcases ak hF with⟨hc_2,hF⟩|⟨hc_2,hF⟩
 ·refine aB rfl hc_2 (aj (aa (vS (⟨#[45]⟩:ByteArray)) (af ?_)))
  obtain rfl:=ae hF
  exact ay (aK [(vS (⟨#[45]⟩:ByteArray))] ⟨rfl,trivial⟩)
 ·refine aA rfl hc_2 (ax (aj (aa (vL eS l_1) ?_)))
  obtain ⟨r_3,hr_4,hF⟩:=bind_some hF
  refine aC (jN hr_4) rfl Np rfl rfl rfl rfl wz (aa (vS r_3) (af ?_))
  obtain rfl:=ae hF
  exact ay (aK [(vS r_3)] ⟨rfl,trivial⟩)
theorem uJ {e_1:Entry} {r:ByteArray} (hF:cK e_1=some r) :
  FnM Tryz.prog 17 [(.d (.agg (Entry.enc e_1)))] [] (vS r) []:=by
 refine FnM.of_wH ⟨Tryz.prog,69,[14],[]⟩ rfl Tryz.func17 rfl rfl (lb_ rfl) (by kernel_rfl) ?_
 unfold cK at hF
 refine aj (ik 0 (.inl rfl) (Entry.v e_1) rfl rfl wz (λn_2=>aa (vS (⟨#[]⟩:ByteArray)) (af (aj (aI Dn rfl 0 rfl wz (aG 0 0 il ft sz9 ag9 rfl rfl (vS e_1.Key) rfl wz (aI JJ rfl 1 rfl wz (aG 0 0 il ft sz9 ag9 rfl rfl (vS e_1.Item) rfl wz (h_litv 0 (.inl rfl) (([e_1.Key,e_1.Item]:List ByteArray).map eS) lH zC rfl rfl rfl rfl rfl wz (λn_3=>aa (vV n_3 1 ([e_1.Key,e_1.Item]:List ByteArray)) (af (au (aj (aI Jy rfl 2 rfl wz (aG 0 0 il ft sz3 ag3 rfl rfl (vI e_1.Version) rfl wz (aI xM rfl 3 rfl wz (aG 0 0 il ft sz3 ag3 rfl rfl (vI e_1.First) rfl wz (aI xY rfl 4 rfl wz (aG 0 0 il ft sz3 ag3 rfl rfl (vI e_1.Last) rfl wz (aI Fs rfl 5 rfl wz (aG 0 0 il ft sz3 ag3 rfl rfl (vI e_1.Every) rfl wz (aI FN rfl 6 rfl wz (aG 0 0 il ft sz3 ag3 rfl rfl (vI e_1.Days) rfl wz ?_)))))))))))))))))))))))
 refine aI CL rfl 8 rfl wz (aG 0 0 il ft sz3 ag3 rfl rfl (vI e_1.From) rfl wz (aI Fb rfl 9 rfl wz (aG 0 0 il ft sz3 ag3 rfl rfl (vI e_1.To) rfl wz (aI E8 rfl 10 rfl wz (aG 0 0 il ft sz3 ag3 rfl rfl (vI e_1.Prio) rfl wz (dW (([e_1.Version,e_1.First,e_1.Last,e_1.Every,e_1.Days,e_1.From,e_1.To,e_1.Prio]:List Int).map eI) iQ wX rfl rfl rfl rfl rfl wz (bI pV rfl wz (aa (vI 0) (af ?_)))))))))
 obtain ⟨o_14,hj_15,hF⟩:=bind_some hF
 obtain ⟨hn_8,hj_15⟩:=aX hj_15
 refine fV (σ:=(List ByteArray)) (N:=Nm) (λp=>(λ(s_9:List ByteArray) (n_11:Nm)=>([(1,(.ref n_2 0 0)),(3,(vV n_11 1 s_9))]:SL_)) p.1 p.2) (λp=>(λ(s_9:List ByteArray) (n_11:Nm)=>([(n_2,some (.cells 13 (Entry.v e_1))),(n_11,some (bV 1 eS s_9))]:Hp)) p.1 p.2) (λ(k_4:Nat)=>(λp=>(λ(s_9:List ByteArray) (n_11:Nm)=>([(1,(.ref n_2 0 0)),(3,(vV n_11 1 s_9)),(31,(vL eI ([e_1.Version,e_1.First,e_1.Last,e_1.Every,e_1.Days,e_1.From,e_1.To,e_1.Prio]:List Int))),(32,(vI (([e_1.Version,e_1.First,e_1.Last,e_1.Every,e_1.Days,e_1.From,e_1.To,e_1.Prio]:List Int).length:Int))),(33,(vI (k_4:Int)))]:SL_)) p.1 p.2)) (λk x s=>iL k x s) o_14 ([e_1.Version,e_1.First,e_1.Last,e_1.Every,e_1.Days,e_1.From,e_1.To,e_1.Prio]:List Int) (([e_1.Key,e_1.Item]:List ByteArray),n_3) hj_15 rfl (aL rfl) ?_ ?_
 ·rintro ⟨k_4,l_5,s_9,n_11⟩ ⟨hL_13,hD_7⟩
  dsimp only at hL_13 hD_7
  cases l_5 with
  | nil =>
   obtain rfl:=ae hL_13
   refine aj (aa (vB (decide ((k_4:Int)<(([e_1.Version,e_1.First,e_1.Last,e_1.Every,e_1.Days,e_1.From,e_1.To,e_1.Prio]:List Int).length:Int)))) (af ?_))
   refine au (aA rfl (drop_nil hD_7) (bg ?_))
   exact aZ (s_9,n_11) rfl rfl (aL rfl)
  | cons x_6 l_5 =>
   obtain ⟨c_,hc_12,hL_13⟩:=bind_some hL_13
   refine aj (aa (vB (decide ((k_4:Int)<(([e_1.Version,e_1.First,e_1.Last,e_1.Every,e_1.Days,e_1.From,e_1.To,e_1.Prio]:List Int).length:Int)))) (af ?_))
   refine au (aB rfl (bz hD_7) (ax ?_))
   unfold iL at hc_12
   refine au (aO (aj (cZ iQ rfl rfl (bH hD_7) rfl wz (bC sz3 ag3 rfl (vI x_6) rfl wz (aa (vI x_6) (af (av (aa (vV n_11 1 s_9) (aa (vI x_6) ?_)))))))))
   obtain ⟨r_16,hr_17,hc_12⟩:=bind_some hc_12
   refine aC (lX hr_17) rfl hb37 rfl rfl rfl rfl wz (dW (([r_16]:List ByteArray).map eS) lH zC rfl rfl rfl rfl rfl wz ?_)
   obtain ⟨a_18,hz_19,hc_12⟩:=bind_some hc_12
   refine Iu 0 il ft (i:=1) Bb Bb sz9 z9 rfl (by decide) by9 (by decide) (λ_=>rfl) rfl rfl rfl hz_19 wz (λn_20=>aa (vV n_20 1 a_18) (af (av (eY (bD hD_7 hn_8) wz rfl (aa (vI ((k_4+1:Nat):Int)) (af ?_))))))
   obtain rfl:=ae hc_12
   exact aY (k_4+1,l_5,a_18,n_20) ⟨hL_13,aV hD_7⟩ (ls_ _) rfl (aL rfl)
 ·rintro ⟨s_9,n_11⟩ ho_ sl_ H_ hp_ hq_
  subst ho_
  refine aQ _ hp_ hq_ (aj (aa (vS (⟨#[111,110]⟩:ByteArray)) (af (au (aj (aI Fe rfl 12 rfl wz (aG 0 0 il ft sz4 ag4 rfl rfl (vB e_1.Gone) rfl wz (af ?_))))))))
  obtain ⟨v_21,h_22,hF⟩:=bind_some hF
  refine aR [(1,(.ref n_2 0 0)),(3,(vV n_11 1 s_9)),(6,(vS v_21))] [(n_2,some (.cells 13 (Entry.v e_1))),(n_11,some (bV 1 eS s_9))] ?_ ?_
  ·rcases ak h_22 with⟨hc_23,h_22⟩|⟨hc_23,h_22⟩
   ·refine aB rfl hc_23 (av (aa (vS (⟨#[103,111,110,101]⟩:ByteArray)) (af ?_)))
    obtain rfl:=ae h_22
    exact cu
   ·refine aA rfl hc_23 (ax ?_)
    obtain rfl:=ae h_22
    exact cu
  ·rintro ⟨⟩ _ sl_ H_ hp_ hq_
   refine aQ _ hp_ hq_ (aj (aa .nil (af (au (aj (aI rO rfl 7 rfl wz (aG 0 0 il ft yu Cb rfl rfl (vL eI e_1.Except) rfl wz (bI pV rfl wz (aa (vI 0) (af (lJ (λn_30 => ?_))))))))))))
   obtain ⟨o_35,hj_36,hF⟩:=bind_some hF
   obtain ⟨hn_28,hj_36⟩:=aX hj_36
   refine fV (σ:=(List ByteArray)) (N:=Nm) (λp=>(λ(s_29:List ByteArray) (n_32:Nm)=>([(1,(.ref n_2 0 0)),(3,(vV n_11 1 s_9)),(6,(vS v_21)),(7,(gV n_32 1 s_29))]:SL_)) p.1 p.2) (λp=>(λ(s_29:List ByteArray) (n_32:Nm)=>([(n_2,some (.cells 13 (Entry.v e_1))),(n_11,some (bV 1 eS s_9)),(n_32,gB 1 eS s_29)]:Hp)) p.1 p.2) (λ(k_24:Nat)=>(λp=>(λ(s_29:List ByteArray) (n_32:Nm)=>([(1,(.ref n_2 0 0)),(3,(vV n_11 1 s_9)),(6,(vS v_21)),(7,(gV n_32 1 s_29)),(46,(vL eI e_1.Except)),(47,(vI (e_1.Except.length:Int))),(48,(vI (k_24:Int)))]:SL_)) p.1 p.2)) (λk x s=>iO k x s) o_35 e_1.Except (([]:List ByteArray),n_30) hj_36 rfl (aL rfl) ?_ ?_
   ·rintro ⟨k_24,l_25,s_29,n_32⟩ ⟨hL_34,hD_27⟩
    dsimp only at hL_34 hD_27
    cases l_25 with
    | nil =>
     obtain rfl:=ae hL_34
     refine aj (aa (vB (decide ((k_24:Int)<(e_1.Except.length:Int)))) (af ?_))
     refine au (aA rfl (drop_nil hD_27) (bg ?_))
     exact aZ (s_29,n_32) rfl rfl (aL rfl)
    | cons x_26 l_25 =>
     obtain ⟨c_,hc_33,hL_34⟩:=bind_some hL_34
     refine aj (aa (vB (decide ((k_24:Int)<(e_1.Except.length:Int)))) (af ?_))
     refine au (aB rfl (bz hD_27) (ax ?_))
     unfold iO at hc_33
     refine au (aO (aj (cZ iQ rfl rfl (bH hD_27) rfl wz (bC sz3 ag3 rfl (vI x_26) rfl wz (aa (vI x_26) (af (av (aa (gV n_32 1 s_29) (aa (vI x_26) ?_)))))))))
     obtain ⟨r_37,hr_38,hc_33⟩:=bind_some hc_33
     refine aC (lX hr_38) rfl hb37 rfl rfl rfl rfl wz (dW (([r_37]:List ByteArray).map eS) lH zC rfl rfl rfl rfl rfl wz ?_)
     obtain ⟨a_39,hz_40,hc_33⟩:=bind_some hc_33
     refine jV 0 il ft (i:=2) Bb Bb sz9 z9 rfl (by decide) by9 (by decide) (λ_=>rfl) rfl rfl rfl hz_40 wz (λn_41=>aa (gV n_41 1 a_39) (af (av (eY (bD hD_27 hn_28) wz rfl (aa (vI ((k_24+1:Nat):Int)) (af ?_))))))
     obtain rfl:=ae hc_33
     exact aY (k_24+1,l_25,a_39,n_41) ⟨hL_34,aV hD_27⟩ (ls_ _) rfl (aL rfl)
   ·rintro ⟨s_29,n_32⟩ ho_ sl_ H_ hp_ hq_
    subst ho_
    refine aQ _ hp_ hq_ (au (gH 2 rfl (fO 7 2 rfl rfl (bL (aa (vV n_11 1 s_9) (aa (vS v_21) (aa (vL eS s_29) ?_)))))))
    obtain ⟨r_42,hr_43,hF⟩:=bind_some hF
    refine aC (qx hr_43) rfl hb39 rfl rfl rfl rfl wz (aI pW rfl 11 rfl wz (aG 5 0 (.inr (by kernel_rfl)) (λ_ _ ag=>trivial) yZ Cs rfl rfl (vL eS e_1.Tags) rfl wz ?_))
    obtain ⟨r_44,hr_45,hF⟩:=bind_some hF
    refine aC (qx hr_45) rfl hb39 rfl rfl rfl rfl wz (dW (([v_21,r_42,r_44]:List ByteArray).map eS) lH zC rfl rfl rfl rfl rfl wz ?_)
    obtain ⟨a_46,hz_47,hF⟩:=bind_some hF
    refine Iu 8 (.inr (by kernel_rfl)) (λ_ _ ag=>⟨.inr (.inr (by kernel_rfl)),trivial⟩) (i:=1) Bb Bb sz9 z9 rfl (by decide) by9 (by decide) (λ_=>rfl) rfl rfl rfl hz_47 wz (λn_48 => ?_)
    obtain ⟨_,hn_49,hF⟩:=bind_some hF
    replace hn_49:=Mf hn_49
    refine KG 1 rfl (Kq hn_49).symm ?_
    obtain ⟨r_50,hr_51,hF⟩:=bind_some hF
    refine wI (bs:=[]) (os:=[]) 9 [] 1 0 (.inr (by kernel_rfl)) (λ_ _ ag=>by exact⟨.inr (.inr (by kernel_rfl)),⟨.inr (.inr (by kernel_rfl)),trivial⟩⟩) (FnM.unfz (args:=[(dV (aF 0) 1 a_46),(vS (⟨#[32]⟩:ByteArray))]) (po:=0) (enc:=eS) (jN hr_51) rfl rfl) rfl Np rfl rfl rfl (by kernel_rfl) rfl (.inr (.inr ⟨rfl,hn_49⟩)) rfl (by kernel_rfl) (by kernel_rfl) (by kernel_rfl) (by kernel_rfl) rfl (by decide) (by kernel_rfl) yY (Ho rfl) wz ([(n_2,some (.cells 13 (Entry.v e_1))),(n_48,gB 1 eS a_46),(n_32,gF 1 eS s_29)]:Hp) (by kernel_rfl) ?_
    obtain ⟨s_52,hz_53,hF⟩:=bind_some hF
    refine Ae rfl rfl hz_53 wz (aa (vS s_52) (af ?_))
    obtain rfl:=ae hF
    exact ay (aK [(vS s_52)] ⟨rfl,trivial⟩)
theorem NA:rR Tryz.prog 16 49 47 9 :=
 L9 Tryz.lays166 Tryz.Builder_Extra_166
theorem MQ:BldT Tryz.prog 47 9 5 :=
 ⟨by kernel_rfl,by kernel_rfl,by kernel_rfl,by kernel_rfl,by kernel_rfl,rfl⟩
theorem ME:yE Tryz.prog 18 49 :=
 lenDoes Tryz.lays170
theorem MV:wE Tryz.prog 19 49 :=
 strDoes Tryz.lays169 Tryz.Builder_Extra_169 rfl
theorem sS {l_1:(List Entry)} {r:ByteArray×Int} (hF:fF l_1=some r) :
  FnM Tryz.prog 5 [(vL Entry.enc l_1)] [] (.tup [(vS r.1),(vI r.2)]) []:=by
 refine FnM.of_wH ⟨Tryz.prog,26,[5],[]⟩ rfl Tryz.func5 rfl rfl (lb_ rfl) (by kernel_rfl) ?_
 unfold fF at hF
 refine aj (aa (vS (⟨#[]⟩:ByteArray)) (aa (vI 0) (af (au (aj (aa (vL Entry.enc l_1) ?_))))))
 obtain ⟨r_2,hr_3,hF⟩:=bind_some hF
 refine aC (jh hr_3) rfl hb15 rfl rfl rfl rfl wz (aa (vI r_2) (af (aj (aa (vI r_2) (aa (vB (r_2 != 0)) (af ?_))))))
 rcases ak hF with⟨hc_4,hF⟩|⟨hc_4,hF⟩
 ·refine aB rfl hc_4 (aj (aa (vI r_2) (aa (vS (⟨#[]⟩:ByteArray)) (aa (vI r_2) (af ?_)))))
  obtain rfl:=ae hF
  exact ay (aK [(vS (⟨#[]⟩:ByteArray)),(vI r_2)] ⟨rfl,⟨rfl,trivial⟩⟩)
 ·refine aA rfl hc_4 (ax (aj (Nn 0 (.inl rfl) z49 wz (λn_5=>EF (λn_6=>KG (b':=some (.cells (1048576+49) [.any,gV n_6 1 ([]:List Int)])) 0 rfl rfl (af (au (aj (aa (vL Entry.enc l_1) (bI IG rfl wz (aa (vI 0) (af ?_))))))))))))
  obtain ⟨o_17,hj_18,hF⟩:=bind_some hF
  obtain ⟨hn_11,hj_18⟩:=aX hj_18
  refine fV (σ:=(List Int)) (N:=Nm) (λp=>(λ(s_12:List Int) (n_14:Nm)=>([(5,(.ref n_5 0 0))]:SL_)) p.1 p.2) (λp=>(λ(s_12:List Int) (n_14:Nm)=>([(n_5,some (.cells (1048576+49) [.any,(gV n_14 1 s_12)])),(n_14,gB 1 (eK .u8) s_12)]:Hp)) p.1 p.2) (λ(k_7:Nat)=>(λp=>(λ(s_12:List Int) (n_14:Nm)=>([(5,(.ref n_5 0 0)),(13,(vL Entry.enc l_1)),(14,(vI (l_1.length:Int))),(15,(vI (k_7:Int)))]:SL_)) p.1 p.2)) (λk x s=>iw k x s) o_17 l_1 (([]:List Int),n_6) hj_18 rfl (aL rfl) ?_ ?_
  ·rintro ⟨k_7,l_8,s_12,n_14⟩ ⟨hL_16,hD_10⟩
   dsimp only at hL_16 hD_10
   cases l_8 with
   | nil =>
    obtain rfl:=ae hL_16
    refine aj (aa (vB (decide ((k_7:Int)<(l_1.length:Int)))) (af ?_))
    refine au (aA rfl (drop_nil hD_10) (bg ?_))
    exact aZ (s_12,n_14) rfl rfl (aL rfl)
   | cons x_9 l_8 =>
    obtain ⟨c_,hc_15,hL_16⟩:=bind_some hL_16
    refine aj (aa (vB (decide ((k_7:Int)<(l_1.length:Int)))) (af ?_))
    refine au (aB rfl (bz hD_10) (ax ?_))
    unfold iw at hc_15
    refine au (aO (aj (cZ EI rfl rfl (bH hD_10) rfl wz (bC jW ql rfl (.d (.agg (Entry.enc x_9))) rfl wz (dE 0 (.inl rfl) z36 rfl wz (λn_19=>fo 0 il ft 2 jW rfl rfl (Entry.v x_9) rfl wz (af (av (aG 0 2 il ft jW ql rfl rfl (.d (.agg (Entry.enc x_9))) rfl wz ?_)))))))))
    obtain ⟨r_20,hr_21,hc_15⟩:=bind_some hc_15
    refine aC (uJ hr_21) rfl hb17 rfl rfl rfl rfl wz ?_
    obtain ⟨a_22,hz_23,hc_15⟩:=bind_some hc_15
    refine KU 0 0 1 il ft NA MQ rfl hb16 rfl rfl rfl rfl (by decide) hz_23 wz (λn_24=>af (av (eY (bD hD_10 hn_11) wz rfl (aa (vI ((k_7+1:Nat):Int)) (af ?_)))))
    obtain rfl:=ae hc_15
    exact aY (k_7+1,l_8,a_22,n_24) ⟨hL_16,aV hD_10⟩ (ls_ _) rfl (aL rfl)
  ·rintro ⟨s_12,n_14⟩ ho_ sl_ H_ hp_ hq_
   subst ho_
   refine aQ _ hp_ hq_ (au (aj (h_blenL 0 0 1 il ft ME rfl hb18 rfl rfl rfl (by decide) wz (aa (vB (decide ((s_12.length:Int)>200000))) (af ?_)))))
   rcases ak hF with⟨hc_25,hF⟩|⟨hc_25,hF⟩
   ·refine aB rfl hc_25 (aj (aa (vS (⟨#[]⟩:ByteArray)) (aa (vI 2) (af ?_))))
    obtain rfl:=ae hF
    exact ay (aK [(vS (⟨#[]⟩:ByteArray)),(vI 2)] ⟨rfl,⟨rfl,trivial⟩⟩)
   ·refine aA rfl hc_25 (ax (aj ?_))
    obtain ⟨s_26,hz_27,hF⟩:=bind_some hF
    refine h_bstrL 0 0 1 il ft MV rfl hb19 rfl rfl rfl (by decide) hz_27 wz (aa (vS s_26) (aa (vI 0) (af ?_)))
    obtain rfl:=ae hF
    exact ay (aK [(vS s_26),(vI 0)] ⟨rfl,⟨rfl,trivial⟩⟩)
theorem nC {x0:ByteArray} {x1:ByteArray} {r:(List ByteArray)} (hF:strings_Split x0 x1=some r) :
  FnM Tryz.prog 40 [(vS x0),(vS x1)] [] (vL eS r) [] :=
 MK rfl Tryz.strings_Split vo hF
theorem FT {s_1:ByteArray} {r:(List ByteArray)×Bool} (hF:rW s_1=some r) :
  FnM Tryz.prog 20 [(vS s_1)] [] (.tup [(vL eS r.1),(vB r.2)]) []:=by
 refine FnM.of_wH ⟨Tryz.prog,19,[],[]⟩ rfl Tryz.func20 rfl rfl (lb_ rfl) (by kernel_rfl) ?_
 unfold rW at hF
 refine aj (aa .nil (aa (vB false) (af (aj (aa (vS s_1) ?_)))))
 obtain ⟨r_2,hr_3,hF⟩:=bind_some hF
 refine aC (nC hr_3) rfl hb40 rfl rfl rfl rfl wz (aa (vL eS r_2) (af (aj (aa (vL eS r_2) (bI qQ rfl wz (aa (vI (w64 ((r_2.length:Int)-1))) (aa (vI (w64 ((r_2.length:Int)-1))) (af (au (aj (aa (vL eS r_2) (aa (vI (w64 ((r_2.length:Int)-1))) ?_))))))))))))
 obtain ⟨y_4,hy_5,hF⟩:=bind_some hF
 refine cZ lH rfl rfl hy_5 rfl wz (bC sz9 ag9 rfl (vS y_4) rfl wz (aa (vB (sEq y_4 (⟨#[]⟩:ByteArray))) (af ?_)))
 rcases ak hF with⟨hc_6,hF⟩|⟨hc_6,hF⟩
 ·refine aB rfl hc_6 (aj (aa (vL eS r_2) (aa (vI (w64 ((r_2.length:Int)-1))) ?_)))
  obtain ⟨y_7,hy_8,hF⟩:=bind_some hF
  refine A7 qQ sz9 (λ_=>rfl) rfl rfl hy_8 wz (aa (vL eS y_7) (aa (vB true) (af ?_)))
  obtain rfl:=ae hF
  exact ay (aK [(vL eS y_7),(vB true)] ⟨rfl,⟨rfl,trivial⟩⟩)
 ·refine aA rfl hc_6 (ax (aj (aa (vL eS r_2) (aa (vL eS r_2) (aa (vB false) (af ?_))))))
  obtain rfl:=ae hF
  exact ay (aK [(vL eS r_2),(vB false)] ⟨rfl,⟨rfl,trivial⟩⟩)
theorem oq {s_1:(List ByteArray)} {v_2:ByteArray} {r:Int} (hF:dY s_1 v_2=some r) :
  FnM Tryz.prog 99 [(vL eS s_1),(vS v_2)] [] (vI r) []:=by
 refine FnM.of_wH ⟨Tryz.prog,19,[],[]⟩ rfl Tryz.func99 rfl rfl (lb_ rfl) (by kernel_rfl) ?_
 unfold dY at hF
 refine aj (aa (vI 0) (af (au (aj (aa (vL eS s_1) (bI qQ rfl wz (aa (vI 0) (af ?_))))))))
 obtain ⟨o_11,hj_12,hF⟩:=bind_some hF
 obtain ⟨hn_7,hj_12⟩:=aX hj_12
 refine di (λ(s_8:Unit)=>[]) (λ(s_8:Unit)=>[]) (λ(k_3:Nat)=>(λ(s_8:Unit)=>[(0,(vL eS s_1)),(1,(vS v_2)),(7,(vI (s_1.length:Int))),(8,(vI (k_3:Int)))])) (λk x s=>bJ v_2 k x s) o_11 s_1 () hj_12 rfl (aL rfl) ?_ ?_
 ·rintro ⟨k_3,l_4,s_8⟩ ⟨hL_10,hD_6⟩
  dsimp only at hL_10 hD_6
  cases l_4 with
  | nil =>
   obtain rfl:=ae hL_10
   refine aj (aa (vB (decide ((k_3:Int)<(s_1.length:Int)))) (af ?_))
   refine au (aA rfl (drop_nil hD_6) (bg ?_))
   exact aZ (s_8) rfl rfl (aL rfl)
  | cons x_5 l_4 =>
   obtain ⟨c_,hc_9,hL_10⟩:=bind_some hL_10
   refine aj (aa (vB (decide ((k_3:Int)<(s_1.length:Int)))) (af ?_))
   refine au (aB rfl (bz hD_6) (ax ?_))
   unfold bJ at hc_9
   refine au (aO (aj (aa (vI (k_3:Int)) (aa (vI (k_3:Int)) (af (aj (aa (vS v_2) (aa (vL eS s_1) (aa (vI (k_3:Int)) (cZ lH rfl rfl (bH hD_6) rfl wz (bC sz9 ag9 rfl (vS x_5) rfl wz (aa (vB (sEq v_2 x_5)) (af ?_)))))))))))))
   rcases ak hc_9 with⟨hc_13,hc_9⟩|⟨hc_13,hc_9⟩
   ·refine aB rfl hc_13 (aj (aa (vI (k_3:Int)) (aa (vI (k_3:Int)) (af ?_))))
    obtain rfl:=ae hc_9
    obtain rfl:=ae hL_10
    obtain rfl:=ae hF
    exact ay (aK [(vI (k_3:Int))] ⟨rfl,trivial⟩)
   ·refine aA rfl hc_13 (ax (av (eY (bD hD_6 hn_7) wz rfl (aa (vI ((k_3+1:Nat):Int)) (af ?_)))))
    obtain rfl:=ae hc_9
    exact aY (k_3+1,l_4,()) ⟨hL_10,aV hD_6⟩ (ls_ _) rfl (aL rfl)
 ·rintro s_8 ho_ sl_ H_ hp_ hq_
  subst ho_
  refine aQ _ hp_ hq_ (aj (aa (vI (-1)) (af ?_)))
  obtain rfl:=ae hF
  exact ay (aK [(vI (-1))] ⟨rfl,trivial⟩)
theorem iY {s_1:(List ByteArray)} {v_2:ByteArray} {r:Bool} (hF:bK s_1 v_2=some r) :
  FnM Tryz.prog 70 [(vL eS s_1),(vS v_2)] [] (vB r) []:=by
 refine FnM.of_wH ⟨Tryz.prog,9,[],[]⟩ rfl Tryz.func70 rfl rfl (lb_ rfl) (by kernel_rfl) ?_
 unfold bK at hF
 refine aj (aa (vB false) (af (aj (aa (vL eS s_1) (aa (vS v_2) ?_)))))
 obtain ⟨r_3,hr_4,hF⟩:=bind_some hF
 refine aC (oq hr_4) rfl hb99 rfl rfl rfl rfl wz (aa (vB (decide (r_3>=0))) (aa (vB (decide (r_3>=0))) (af ?_)))
 obtain rfl:=ae hF
 exact ay (aK [(vB (decide (r_3>=0)))] ⟨rfl,trivial⟩)
theorem EG {s_1:ByteArray} {r:(List ByteArray)×Bool} (hF:nL s_1=some r) :
  FnM Tryz.prog 41 [(vS s_1)] [] (.tup [(vL eS r.1),(vB r.2)]) []:=by
 refine FnM.of_wH ⟨Tryz.prog,11,[],[]⟩ rfl Tryz.func41 rfl rfl (lb_ rfl) (by kernel_rfl) ?_
 unfold nL at hF
 refine aj (aa .nil (aa (vB false) (af (aj (aa (vS s_1) ?_)))))
 obtain ⟨r_2,hr_3,hF⟩:=bind_some hF
 refine aC (nC hr_3) rfl hb40 rfl rfl rfl rfl wz (aa (vL eS r_2) (af (aj (aa (vL eS r_2) (aa (vL eS r_2) ?_)))))
 obtain ⟨r_4,hr_5,hF⟩:=bind_some hF
 refine aC (iY hr_5) rfl hb70 rfl rfl rfl rfl wz (aa (vB (!r_4)) (aa (vL eS r_2) (aa (vB (!r_4)) (af ?_))))
 obtain rfl:=ae hF
 exact ay (aK [(vL eS r_2),(vB (!r_4))] ⟨rfl,⟨rfl,trivial⟩⟩)
theorem mJ {s_1:ByteArray} {prefixv_2:ByteArray} {r:Bool} (hF:dA s_1 prefixv_2=some r) :
  FnM Tryz.prog 169 [(vS s_1),(vS prefixv_2)] [] (vB r) []:=by
 refine FnM.of_wH ⟨Tryz.prog,18,[],[]⟩ rfl Tryz.func169 rfl rfl (lb_ rfl) (by kernel_rfl) ?_
 unfold dA at hF
 refine aj (aa (vB false) (af (au ?_)))
 obtain ⟨v_3,h_4,hF⟩:=bind_some hF
 refine aR [(4,(vB v_3))] [] ?_ ?_
 ·refine av (aa (vS s_1) (nH un9 rfl wz (aa (vS prefixv_2) (nH un9 rfl wz (aa (vB (decide ((s_1.size:Int)>=(prefixv_2.size:Int)))) ?_)))))
  rcases ak h_4 with⟨hc_5,h_4⟩|⟨hc_5,h_4⟩
  ·refine aD rfl hc_5 wz (aJ (vS s_1) wa rfl (aJ (vS prefixv_2) wa rfl (nH un9 rfl wa ?_)))
   obtain ⟨y_6,hy_7,h_4⟩:=bind_some h_4
   refine nu un9 rfl rfl hy_7 wa (aJ (vS prefixv_2) wa rfl (aJ (vB (sEq y_6 prefixv_2)) wa rfl (aa (vB (sEq y_6 prefixv_2)) (aa (vB (sEq y_6 prefixv_2)) (af ?_)))))
   obtain rfl:=ae h_4
   exact cu
  ·refine aD rfl hc_5 wz (ah (ah (ah (ah (ah (ah (aa (vB false) (aa (vB false) (af ?_)))))))))
   obtain rfl:=ae h_4
   exact cu
 ·rintro ⟨⟩ _ sl_ H_ hp_ hq_
  refine aQ _ hp_ hq_ ?_
  obtain rfl:=ae hF
  exact ay (aK [(vB v_3)] ⟨rfl,trivial⟩)
theorem l7 {s_1:ByteArray} {prefixv_2:ByteArray} {r:ByteArray} (hF:dn s_1 prefixv_2=some r) :
  FnM Tryz.prog 146 [(vS s_1),(vS prefixv_2)] [] (vS r) []:=by
 refine FnM.of_wH ⟨Tryz.prog,13,[],[]⟩ rfl Tryz.func146 rfl rfl (lb_ rfl) (by kernel_rfl) ?_
 unfold dn at hF
 refine aj (aa (vS (⟨#[]⟩:ByteArray)) (af (au (aj (aa (vS s_1) (aa (vS prefixv_2) ?_))))))
 obtain ⟨r_3,hr_4,hF⟩:=bind_some hF
 refine aC (mJ hr_4) rfl hb169 rfl rfl rfl rfl wz (af ?_)
 rcases ak hF with⟨hc_5,hF⟩|⟨hc_5,hF⟩
 ·refine aB rfl hc_5 (aj (aa (vS s_1) (aa (vS prefixv_2) (nH un9 rfl wz ?_))))
  obtain ⟨y_6,hy_7,hF⟩:=bind_some hF
  refine ni un9 rfl rfl hy_7 wz (aa (vS y_6) (af ?_))
  obtain rfl:=ae hF
  exact ay (aK [(vS y_6)] ⟨rfl,trivial⟩)
 ·refine aA rfl hc_5 (ax (aj (aa (vS s_1) (aa (vS s_1) (af ?_)))))
  obtain rfl:=ae hF
  exact ay (aK [(vS s_1)] ⟨rfl,trivial⟩)
theorem uP {s_1:ByteArray} {prefixv_2:ByteArray} {r:ByteArray} (hF:strings_TrimPrefix s_1 prefixv_2=some r) :
  FnM Tryz.prog 120 [(vS s_1),(vS prefixv_2)] [] (vS r) []:=by
 refine FnM.of_wH ⟨Tryz.prog,8,[],[]⟩ rfl Tryz.func120 rfl rfl (lb_ rfl) (by kernel_rfl) ?_
 unfold strings_TrimPrefix at hF
 refine aj (aa (vS (⟨#[]⟩:ByteArray)) (af (aj (aa (vS s_1) (aa (vS prefixv_2) ?_)))))
 obtain ⟨r_3,hr_4,hF⟩:=bind_some hF
 refine aC (l7 hr_4) rfl hb146 rfl rfl rfl rfl wz (aa (vS r_3) (af ?_))
 obtain rfl:=ae hF
 exact ay (aK [(vS r_3)] ⟨rfl,trivial⟩)
theorem strconv_Atoi_ok {x0:ByteArray} {r:Int} (hF:strconv_Atoi x0=some r) :
  FnM Tryz.prog 121 [(.d (.str x0))] [] (.tup [(.d (.int .i64 r)),.nili]) [] :=
 atoi_ok rfl Tryz.strconv_Atoi hF
end Go.Proofs.YtigdobmllbakiaaGreatDoor.Law

