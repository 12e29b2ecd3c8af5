/-
 The machine computes these plain functions (written by a program of ours).
-/
import Derived.Test.YtacmlgpnplklaaaGreatDoorFacts
import Derived.Test.YtacmlgpnplklaaaGreatDoorDefs
import Derived.Test.YtacmlgpnplklaaaGreatDoorShelf
open Go Go.Eng Go.Proofs
namespace Go.Proofs.YtacmlgpnplklaaaGreatDoor.Law
set_option maxRecDepth 100000
set_option linter.unusedVariables false
set_option maxHeartbeats 1000000
theorem qR {x_1:Int} {n_2:Int} {r:Int} (hF:nR x_1 n_2=some r) :
  FnM Tryz.prog 42 [(vI x_1),(vI n_2)] [] (vI r) []:=by
 refine FnM.of_wH ⟨Tryz.prog,16,[],[]⟩ rfl Tryz.func42 rfl rfl (lb_ rfl) (by kernel_rfl) ?_
 unfold nR at hF
 refine ai (aa (vI 0) (af (ak (ai (aa (vI n_2) (aa (vB (decide (n_2<1))) (af ?_)))))))
 rcases aj hF with⟨hc_3,hF⟩|⟨hc_3,hF⟩
 ·refine aC rfl hc_3 (ai (aa (vI 0) (af ?_)))
  obtain rfl:=ae hF
  exact ay (aN [(vI 0)] ⟨rfl,trivial⟩)
 ·refine aA rfl hc_3 (ax (ai (aa (vI x_1) (aa (vI n_2) ?_))))
  obtain ⟨q_4,hz_5,hF⟩:=bind_some hF
  refine h_rem rfl rfl hz_5 wz (aa (vI q_4) (af (ak (ai (aa (vI q_4) (aa (vB (decide (q_4<0))) (af ?_)))))))
  obtain ⟨v_6,h_7,hF⟩:=bind_some hF
  refine aU [(0,(vI v_6))] [] ?_ ?_
  ·rcases aj h_7 with⟨hc_8,h_7⟩|⟨hc_8,h_7⟩
   ·refine aC rfl hc_8 (av (aa (vI q_4) (aa (vI n_2) (aa (vI (w64 (q_4+n_2))) (aa (vI (w64 (q_4+n_2))) (af ?_))))))
    obtain rfl:=ae h_7
    exact cu
   ·refine aA rfl hc_8 (ax ?_)
    obtain rfl:=ae h_7
    exact cu
  ·rintro ⟨⟩ _ sl_ H_ hp_ hq_
   refine aS _ hp_ hq_ (ai (aa (vI v_6) (aa (vI v_6) (af ?_))))
   obtain rfl:=ae hF
   exact ay (aN [(vI v_6)] ⟨rfl,trivial⟩)
theorem dA {s_1:Stream} {n_2:Int} {r:Int×Stream} (hF:bZ s_1 n_2=some r) :
  FnM Tryz.prog 15 [(.ref (au 0) 0 0),(vI n_2)] [(.cells 2 [(vL eI s_1.L),(vI s_1.f_at)])] (vI r.1) [some (.cells 2 [(vL eI r.2.L),(vI r.2.f_at)])]:=by
 refine FnM.of_wH ⟨Tryz.prog,64,[],[]⟩ rfl Tryz.func15 rfl rfl (lb_ rfl) (by kernel_rfl) ?_
 unfold bZ at hF
 refine ai (aa (vI 0) (af (ai (aa (.ref (au 0) 0 0) (aa (.ref (au 0) 0 0) (aF xU rfl 1 rfl wz (aJ 0 0 il ft sz3 ag3 rfl rfl (vI s_1.f_at) rfl wz (aa (vI (w64 (s_1.f_at+1))) (aa (.ref (au 0) 0 0) (aF xU rfl 1 rfl wz (bR 0 il ft 0 sz3 rfl rfl [(vL eI s_1.L),(vI (w64 (s_1.f_at+1)))] rfl wz (af (ak (ai (aa (.ref (au 0) 0 0) (aa (.ref (au 0) 0 0) (aF Be rfl 0 rfl wz (aJ 0 0 il ft sz22 ag22 rfl rfl (vL eI s_1.L) rfl wz (dH sO rfl wz (aa (vB ((s_1.L.length:Int)==0)) (af ?_)))))))))))))))))))))
 rcases aj hF with⟨hc_3,hF⟩|⟨hc_3,hF⟩
 ·refine aC rfl hc_3 (ai (aa (.ref (au 0) 0 0) (aa (.ref (au 0) 0 0) (aF xU rfl 1 rfl wz (aJ 0 0 il ft sz3 ag3 rfl rfl (vI (w64 (s_1.f_at+1))) rfl wz (aa (vI (w64 ((w64 (s_1.f_at+1))*7919))) (aa (vI n_2) ?_)))))))
  obtain ⟨r_4,hr_5,hF⟩:=bind_some hF
  refine aI (qR hr_5) rfl hb42 rfl rfl rfl rfl wz (aa (vI r_4) (af ?_))
  obtain rfl:=ae hF
  exact ay (qz (.inr rfl) [(vI r_4)] _ [0] [au 0] ⟨rfl,trivial⟩ (.cons (fB rfl rfl) (.nil)) (by kernel_rfl) ⟨(by kernel_rfl),trivial⟩ (by decide) (by kernel_rfl))
 ·refine aA rfl hc_3 (ax (ak (bJ (aa (.ref (au 0) 0 0) (aa (.ref (au 0) 0 0) (aF xU rfl 1 rfl wz (aJ 3 0 (.inr (by kernel_rfl)) (λ_ _ ag=>trivial) sz3 ag3 rfl rfl (vI (w64 (s_1.f_at+1))) rfl wz (aa (vI (w64 ((w64 (s_1.f_at+1))-1))) (aa (.ref (au 0) 0 0) (aa (.ref (au 0) 0 0) (aF Be rfl 0 rfl wz (aJ 8 0 (.inr (by kernel_rfl)) (λ_ _ ag=>⟨.inl ⟨rfl,rfl⟩,trivial⟩) sz22 ag22 rfl rfl (vL eI s_1.L) rfl wz (dH sO rfl wz ?_)))))))))))))
  obtain ⟨q_6,hz_7,hF⟩:=bind_some hF
  refine h_rem rfl rfl hz_7 wz (aa (vI q_6) (af (ak (bJ (aa (.ref (au 0) 0 0) (aa (.ref (au 0) 0 0) (aF xU rfl 1 rfl wz (aJ 3 0 (.inr (by kernel_rfl)) (λ_ _ ag=>trivial) sz3 ag3 rfl rfl (vI (w64 (s_1.f_at+1))) rfl wz (aa (vI (w64 ((w64 (s_1.f_at+1))-1))) (aa (.ref (au 0) 0 0) (aa (.ref (au 0) 0 0) (aF Be rfl 0 rfl wz (aJ 8 0 (.inr (by kernel_rfl)) (λ_ _ ag=>⟨.inl ⟨rfl,rfl⟩,trivial⟩) sz22 ag22 rfl rfl (vL eI s_1.L) rfl wz (dH sO rfl wz ?_))))))))))))))
  obtain ⟨q_8,hz_9,hF⟩:=bind_some hF
  refine h_quo rfl rfl hz_9 wz (aa (vI q_8) (af (aS (H0:=([((au 0),some (.cells 2 [(vL eI s_1.L),(vI (w64 (s_1.f_at+1)))]))]:Hp)) ([(0,(.ref (au 0) 0 0)),(1,(vI n_2)),(5,(vI q_6)),(6,(vI q_8))]:SL_) (by kernel_rfl) (Bq (by kernel_rfl)) (ai (aa (.ref (au 0) 0 0) (aa (.ref (au 0) 0 0) (aF Be rfl 0 rfl wz (aJ 0 0 il ft sz22 ag22 rfl rfl (vL eI s_1.L) rfl wz (aa (vI q_6) ?_)))))))))
  obtain ⟨y_10,hy_11,hF⟩:=bind_some hF
  refine eH iq rfl rfl hy_11 rfl wz (bT sz3 ag3 rfl (vI y_10) rfl wz ?_)
  obtain ⟨r_12,hr_13,hF⟩:=bind_some hF
  refine aI (qR hr_13) rfl hb42 rfl rfl rfl rfl wz (aa (vI q_8) (aa (vI q_6) (aa (vI (w64 (7919+q_6))) (aa (vI (w64 (q_8*(w64 (7919+q_6))))) (aa (vI (w64 (r_12+(w64 (q_8*(w64 (7919+q_6))))))) (aa (vI n_2) ?_))))))
  obtain ⟨r_14,hr_15,hF⟩:=bind_some hF
  refine aI (qR hr_15) rfl hb42 rfl rfl rfl rfl wz (aa (vI r_14) (af ?_))
  obtain rfl:=ae hF
  exact ay (qz (.inr rfl) [(vI r_14)] _ [0] [au 0] ⟨rfl,trivial⟩ (.cons (fB rfl rfl) (.nil)) (by kernel_rfl) ⟨(by kernel_rfl),trivial⟩ (by decide) (by kernel_rfl))
theorem eu {s_1:Stream} {l_2:(List Int)} {r:Int×Stream} (hF:dJ s_1 l_2=some r) :
  FnM Tryz.prog 20 [(.ref (au 0) 0 0),(vL eI l_2)] [(.cells 2 [(vL eI s_1.L),(vI s_1.f_at)])] (vI r.1) [some (.cells 2 [(vL eI r.2.L),(vI r.2.f_at)])]:=by
 refine FnM.of_wH ⟨Tryz.prog,12,[],[]⟩ rfl Tryz.func20 rfl rfl (lb_ rfl) (by kernel_rfl) ?_
 unfold dJ at hF
 refine ai (aa (vI 0) (af (ai (aa (vL eI l_2) (aa (.ref (au 0) 0 0) (aa (vL eI l_2) (dH sO rfl wz ?_)))))))
 obtain ⟨r_3,hr_4,hF⟩:=bind_some hF
 refine aZ 0 [0] il ft (dA hr_4) rfl Ca rfl (by kernel_rfl) (by kernel_rfl) (by kernel_rfl) (by kernel_rfl) (by kernel_rfl) (by kernel_rfl) (by kernel_rfl) (by decide) (by kernel_rfl) wz (vI r_3.1) (by kernel_rfl) ([((au 0),some (.cells 2 [(vL eI r_3.2.L),(vI r_3.2.f_at)]))]:Hp) (by kernel_rfl) ?_
 obtain ⟨y_6,hy_7,hF⟩:=bind_some hF
 refine eH iq rfl rfl hy_7 rfl wz (bT sz3 ag3 rfl (vI y_6) rfl wz (aa (vI y_6) (af ?_)))
 obtain rfl:=ae hF
 exact ay (qz (.inr rfl) [(vI y_6)] _ [0] [au 0] ⟨rfl,trivial⟩ (.cons (fB rfl rfl) (.nil)) (by kernel_rfl) ⟨(by kernel_rfl),trivial⟩ (by decide) (by kernel_rfl))
theorem ja {s_1:Stream} {n_2:Int} {r:Bool×Stream} (hF:eZ s_1 n_2=some r) :
  FnM Tryz.prog 14 [(.ref (au 0) 0 0),(vI n_2)] [(.cells 2 [(vL eI s_1.L),(vI s_1.f_at)])] (vB r.1) [some (.cells 2 [(vL eI r.2.L),(vI r.2.f_at)])]:=by
 refine FnM.of_wH ⟨Tryz.prog,9,[],[]⟩ rfl Tryz.func14 rfl rfl (lb_ rfl) (by kernel_rfl) ?_
 unfold eZ at hF
 refine ai (aa (vB false) (af (ai (aa (.ref (au 0) 0 0) (aa (vI n_2) ?_)))))
 obtain ⟨r_3,hr_4,hF⟩:=bind_some hF
 refine aZ 0 [0] il ft (dA hr_4) rfl Ca rfl (by kernel_rfl) (by kernel_rfl) (by kernel_rfl) (by kernel_rfl) (by kernel_rfl) (by kernel_rfl) (by kernel_rfl) (by decide) (by kernel_rfl) wz (vI r_3.1) (by kernel_rfl) ([((au 0),some (.cells 2 [(vL eI r_3.2.L),(vI r_3.2.f_at)]))]:Hp) (by kernel_rfl) (aa (vB (r_3.1==0)) (aa (vB (r_3.1==0)) (af ?_)))
 obtain rfl:=ae hF
 exact ay (qz (.inr rfl) [(vB (r_3.1==0))] _ [0] [au 0] ⟨rfl,trivial⟩ (.cons (fB rfl rfl) (.nil)) (by kernel_rfl) ⟨(by kernel_rfl),trivial⟩ (by decide) (by kernel_rfl))
theorem cZ {s_1:Stream} {low_2:Int} {high_3:Int} {r:Int×Stream} (hF:bI s_1 low_2 high_3=some r) :
  FnM Tryz.prog 41 [(.ref (au 0) 0 0),(vI low_2),(vI high_3)] [(.cells 2 [(vL eI s_1.L),(vI s_1.f_at)])] (vI r.1) [some (.cells 2 [(vL eI r.2.L),(vI r.2.f_at)])]:=by
 refine FnM.of_wH ⟨Tryz.prog,19,[],[]⟩ rfl Tryz.func41 rfl rfl (lb_ rfl) (by kernel_rfl) ?_
 unfold bI at hF
 refine ai (aa (vI 0) (af (ak (ai (aa (vI high_3) (aa (vI low_2) (aa (vB (decide (high_3<low_2))) (af ?_))))))))
 rcases aj hF with⟨hc_4,hF⟩|⟨hc_4,hF⟩
 ·refine aC rfl hc_4 (ai (aa (vI low_2) (aa (vI low_2) (af ?_))))
  obtain rfl:=ae hF
  exact ay (qz (.inr rfl) [(vI low_2)] _ [0] [au 0] ⟨rfl,trivial⟩ (.cons (fB rfl rfl) (.nil)) (by kernel_rfl) ⟨(by kernel_rfl),trivial⟩ (by decide) (by kernel_rfl))
 ·refine aA rfl hc_4 (ax (ai (aa (vI low_2) (aa (.ref (au 0) 0 0) (aa (vI high_3) (aa (vI low_2) (aa (vI (w64 (high_3-low_2))) (aa (vI (w64 ((w64 (high_3-low_2))+1))) ?_))))))))
  obtain ⟨r_5,hr_6,hF⟩:=bind_some hF
  refine aZ 0 [0] il ft (dA hr_6) rfl Ca rfl (by kernel_rfl) (by kernel_rfl) (by kernel_rfl) (by kernel_rfl) (by kernel_rfl) (by kernel_rfl) (by kernel_rfl) (by decide) (by kernel_rfl) wz (vI r_5.1) (by kernel_rfl) ([((au 0),some (.cells 2 [(vL eI r_5.2.L),(vI r_5.2.f_at)]))]:Hp) (by kernel_rfl) (aa (vI (w64 (low_2+r_5.1))) (aa (vI (w64 (low_2+r_5.1))) (af ?_)))
  obtain rfl:=ae hF
  exact ay (qz (.inr rfl) [(vI (w64 (low_2+r_5.1)))] _ [0] [au 0] ⟨rfl,trivial⟩ (.cons (fB rfl rfl) (.nil)) (by kernel_rfl) ⟨(by kernel_rfl),trivial⟩ (by decide) (by kernel_rfl))
theorem jO {s_1:Stream} {r:Layout×Stream} (hF:bQ s_1=some r) :
  FnM Tryz.prog 13 [(.ref (au 0) 0 0)] [(.cells 2 [(vL eI s_1.L),(vI s_1.f_at)])] (.d (.agg (Layout.enc r.1))) [some (.cells 2 [(vL eI r.2.L),(vI r.2.f_at)])]:=by
 refine FnM.of_wH ⟨Tryz.prog,66,[],[]⟩ rfl Tryz.func13 rfl rfl (lb_ rfl) (by kernel_rfl) ?_
 unfold bQ at hF
 refine ai (dM 0 (.inl rfl) z28 rfl wz (λn_2=>af (ai (aa (.ref (au 0) 0 0) (gu (([5,8,10,16]:List Int).map eI) iq tF rfl rfl rfl rfl rfl wz ?_)))))
 obtain ⟨r_3,hr_4,hF⟩:=bind_some hF
 refine aZ 0 [0] il ft (eu hr_4) rfl ET rfl (by kernel_rfl) (by kernel_rfl) (by kernel_rfl) (by kernel_rfl) (by kernel_rfl) (by kernel_rfl) (by kernel_rfl) (by decide) (by kernel_rfl) wz (vI r_3.1) (by kernel_rfl) ([((au 0),some (.cells 2 [(vL eI r_3.2.L),(vI r_3.2.f_at)])),(n_2,some (.cells 4 [(vS (⟨#[]⟩:ByteArray)),(vI 0),(vI 0),.nil]))]:Hp) (by kernel_rfl) (aa (.ref (au 0) 0 0) (gu (([4,6,9]:List Int).map eI) iq tF rfl rfl rfl rfl rfl wz ?_))
 obtain ⟨r_6,hr_7,hF⟩:=bind_some hF
 refine aZ 0 [0] il ft (eu hr_7) rfl ET rfl (by kernel_rfl) (by kernel_rfl) (by kernel_rfl) (by kernel_rfl) (by kernel_rfl) (by kernel_rfl) (by kernel_rfl) (by decide) (by kernel_rfl) wz (vI r_6.1) (by kernel_rfl) ([((au 0),some (.cells 2 [(vL eI r_6.2.L),(vI r_6.2.f_at)])),(n_2,some (.cells 4 [(vS (⟨#[]⟩:ByteArray)),(vI 0),(vI 0),.nil]))]:Hp) (by kernel_rfl) (aH (.agg [(vS (⟨#[108]⟩:ByteArray)),(vI r_3.1),(vI r_6.1),.nil]) wz (by kernel_rfl) (dM 0 (.inl rfl) z28 rfl wz (λn_9=>bR 0 il ft 2 iK rfl rfl [(vS (⟨#[108]⟩:ByteArray)),(vI r_3.1),(vI r_6.1),.nil] rfl wz (af (ak (ai (gu (([(⟨#[122,97]⟩:ByteArray),(⟨#[122,98]⟩:ByteArray),(⟨#[122,99]⟩:ByteArray),(⟨#[122,100]⟩:ByteArray)]:List ByteArray).map eS) rX ez67 rfl rfl rfl rfl rfl wz (dH uM rfl wz (aa (vI 0) (af (nK (λn_16 => ?_))))))))))))
 obtain ⟨o_21,hj_22,hF⟩:=bind_some hF
 obtain ⟨hn_14,hj_22⟩:=bH hj_22
 refine iw (σ:=(List Zone)×(List Int)×Int) (N:=Nm) (λp=>(λ(s_15:(List Zone)×(List Int)×Int) (n_18:Nm)=>([(2,(.ref n_2 0 0)),(3,(.ref n_9 0 0))]:SL_)) p.1 p.2) (λp=>(λ(s_15:(List Zone)×(List Int)×Int) (n_18:Nm)=>([((au 0),some (.cells 2 [(vL eI s_15.2.1),(vI s_15.2.2)])),(n_2,some (.cells 4 [(vS (⟨#[]⟩:ByteArray)),(vI 0),(vI 0),.nil])),(n_9,some (.cells 4 [(vS (⟨#[108]⟩:ByteArray)),(vI r_3.1),(vI r_6.1),(gV n_18 6 s_15.1)])),(n_18,gB 6 Zone.enc s_15.1)]:Hp)) p.1 p.2) (λ(k_10:Nat)=>(λp=>(λ(s_15:(List Zone)×(List Int)×Int) (n_18:Nm)=>([(0,(.ref (au 0) 0 0)),(2,(.ref n_2 0 0)),(3,(.ref n_9 0 0)),(14,(vL eS ([(⟨#[122,97]⟩:ByteArray),(⟨#[122,98]⟩:ByteArray),(⟨#[122,99]⟩:ByteArray),(⟨#[122,100]⟩:ByteArray)]:List ByteArray))),(15,(vI (([(⟨#[122,97]⟩:ByteArray),(⟨#[122,98]⟩:ByteArray),(⟨#[122,99]⟩:ByteArray),(⟨#[122,100]⟩:ByteArray)]:List ByteArray).length:Int))),(16,(vI (k_10:Int)))]:SL_)) p.1 p.2)) (λk x s=>bM r_3 r_6 k x s) o_21 ([(⟨#[122,97]⟩:ByteArray),(⟨#[122,98]⟩:ByteArray),(⟨#[122,99]⟩:ByteArray),(⟨#[122,100]⟩:ByteArray)]:List ByteArray) ((([]:List Zone),r_6.2.L,r_6.2.f_at),n_16) hj_22 rfl (aK rfl) ?_ ?_
 ·rintro ⟨k_10,l_11,s_15,n_18⟩ ⟨hL_20,hD_13⟩
  dsimp only at hL_20 hD_13
  cases l_11 with
  | nil =>
   obtain rfl:=ae hL_20
   refine ai (aa (vB (decide ((k_10:Int)<(([(⟨#[122,97]⟩:ByteArray),(⟨#[122,98]⟩:ByteArray),(⟨#[122,99]⟩:ByteArray),(⟨#[122,100]⟩:ByteArray)]:List ByteArray).length:Int)))) (af ?_))
   refine ak (aA rfl (drop_nil hD_13) (bE ?_))
   exact bn (s_15,n_18) rfl rfl (aK rfl)
  | cons x_12 l_11 =>
   obtain ⟨c_,hc_19,hL_20⟩:=bind_some hL_20
   refine ai (aa (vB (decide ((k_10:Int)<(([(⟨#[122,97]⟩:ByteArray),(⟨#[122,98]⟩:ByteArray),(⟨#[122,99]⟩:ByteArray),(⟨#[122,100]⟩:ByteArray)]:List ByteArray).length:Int)))) (af ?_))
   refine ak (aC rfl (bN hD_13) (ax ?_))
   unfold bM at hc_19
   refine ak (aR (ai (eH rX rfl rfl (dz hD_13) rfl wz (bT sz9 ag9 rfl (vS x_12) rfl wz (aa (vS x_12) (af (ak (ai (aa (.ref (au 0) 0 0) ?_)))))))))
   obtain ⟨r_23,hr_24,hc_19⟩:=bind_some hc_19
   refine aZ 0 [0] il ft (ja hr_24) rfl hb14 rfl (by kernel_rfl) (by kernel_rfl) (by kernel_rfl) (by kernel_rfl) (by kernel_rfl) (by kernel_rfl) (by kernel_rfl) (by decide) (by kernel_rfl) wz (vB r_23.1) (by kernel_rfl) ([((au 0),some (.cells 2 [(vL eI r_23.2.L),(vI r_23.2.f_at)])),(n_2,some (.cells 4 [(vS (⟨#[]⟩:ByteArray)),(vI 0),(vI 0),.nil])),(n_9,some (.cells 4 [(vS (⟨#[108]⟩:ByteArray)),(vI r_3.1),(vI r_6.1),(gV n_18 6 s_15.1)])),(n_18,gB 6 Zone.enc s_15.1)]:Hp) (by kernel_rfl) (af ?_)
   rcases aj hc_19 with⟨hc_26,hc_19⟩|⟨hc_26,hc_19⟩
   ·refine aC rfl hc_26 (bE (av (gW (bX hD_13 hn_14) wz rfl (aa (vI ((k_10+1:Nat):Int)) (af ?_)))))
    obtain rfl:=ae hc_19
    exact bD (k_10+1,l_11,(s_15.1,r_23.2.L,r_23.2.f_at),n_18) ⟨hL_20,bv hD_13⟩ (ls_ _) rfl (aK rfl)
   ·refine aA rfl hc_26 (ax (ak (bJ (aa (vS x_12) (aa (.ref (au 0) 0 0) (aF mq rfl 1 rfl wz (aJ 3 2 (.inr (by kernel_rfl)) (λ_ _ ag=>trivial) sz3 ag3 rfl rfl (vI r_3.1) rfl wz (aa (vI (w64 (r_3.1-1))) ?_))))))))
    obtain ⟨r_27,hr_28,hc_19⟩:=bind_some hc_19
    refine aZ 5 [0] (.inr (by kernel_rfl)) (λ_ _ ag=>by exact⟨.inr (.inr (by kernel_rfl)),trivial⟩) (cZ hr_28) rfl BL rfl (by kernel_rfl) (by kernel_rfl) (by kernel_rfl) (by kernel_rfl) (by kernel_rfl) (by kernel_rfl) (by kernel_rfl) (by decide) (by kernel_rfl) wz (vI r_27.1) (by kernel_rfl) ([((au 0),some (.cells 2 [(vL eI r_27.2.L),(vI r_27.2.f_at)])),(n_2,some (.cells 4 [(vS (⟨#[]⟩:ByteArray)),(vI 0),(vI 0),.nil])),(n_9,some (.cells 4 [(vS (⟨#[108]⟩:ByteArray)),(vI r_3.1),(vI r_6.1),(gV n_18 6 s_15.1)])),(n_18,gB 6 Zone.enc s_15.1)]:Hp) (by kernel_rfl) (aa (.ref (au 0) 0 0) (aF lC rfl 2 rfl wz (aJ 8 2 (.inr (by kernel_rfl)) (λ_ _ ag=>⟨.inl ⟨rfl,rfl⟩,⟨.inr (.inl (dis1 (Fs ag (i:=2) (j:=0) rfl rfl (by decide)))),trivial⟩⟩) sz3 ag3 rfl rfl (vI r_6.1) rfl wz (aa (vI (w64 (r_6.1-1))) ?_))))
    obtain ⟨r_30,hr_31,hc_19⟩:=bind_some hc_19
    refine aZ 10 [0] (.inr (by kernel_rfl)) (λ_ _ ag=>by exact⟨.inr (.inr (by kernel_rfl)),⟨.inr (.inr (by kernel_rfl)),⟨.inr (.inr (by kernel_rfl)),trivial⟩⟩⟩) (cZ hr_31) rfl BL rfl (by kernel_rfl) (by kernel_rfl) (by kernel_rfl) (by kernel_rfl) (by kernel_rfl) (by kernel_rfl) (by kernel_rfl) (by decide) (by kernel_rfl) wz (vI r_30.1) (by kernel_rfl) ([((au 0),some (.cells 2 [(vL eI r_30.2.L),(vI r_30.2.f_at)])),(n_2,some (.cells 4 [(vS (⟨#[]⟩:ByteArray)),(vI 0),(vI 0),.nil])),(n_9,some (.cells 4 [(vS (⟨#[108]⟩:ByteArray)),(vI r_3.1),(vI r_6.1),(gV n_18 6 s_15.1)])),(n_18,gB 6 Zone.enc s_15.1)]:Hp) (by kernel_rfl) (aH (.d (.agg (Rect.enc (⟨r_27.1,r_30.1,0,0⟩:Rect)))) wz (by kernel_rfl) (aa (.ref (au 0) 0 0) (gu (([0,0,1,2]:List Int).map eI) iq tF rfl rfl rfl rfl rfl wz ?_)))
    obtain ⟨r_33,hr_34,hc_19⟩:=bind_some hc_19
    refine aZ 14 [0] (.inr (by kernel_rfl)) (λ_ _ ag=>by exact⟨.inr (.inr (by kernel_rfl)),⟨.inr (.inr (by kernel_rfl)),⟨.inr (.inr (by kernel_rfl)),⟨.inr (.inr (by kernel_rfl)),trivial⟩⟩⟩⟩) (eu hr_34) rfl ET rfl (by kernel_rfl) (by kernel_rfl) (by kernel_rfl) (by kernel_rfl) (by kernel_rfl) (by kernel_rfl) (by kernel_rfl) (by decide) (by kernel_rfl) wz (vI r_33.1) (by kernel_rfl) ([((au 0),some (.cells 2 [(vL eI r_33.2.L),(vI r_33.2.f_at)])),(n_2,some (.cells 4 [(vS (⟨#[]⟩:ByteArray)),(vI 0),(vI 0),.nil])),(n_9,some (.cells 4 [(vS (⟨#[108]⟩:ByteArray)),(vI r_3.1),(vI r_6.1),(gV n_18 6 s_15.1)])),(n_18,gB 6 Zone.enc s_15.1)]:Hp) (by kernel_rfl) (aH (.d (.agg (Zone.enc (⟨x_12,(⟨r_27.1,r_30.1,0,0⟩:Rect),r_33.1⟩:Zone)))) wz (by kernel_rfl) (dM 16 (.inr (by kernel_rfl)) z49 rfl wz (λn_36=>bR 17 (.inr (by kernel_rfl)) (λ_ _ ag=>⟨.inr (.inr (by kernel_rfl)),⟨.inr (.inr (by kernel_rfl)),⟨.inr (.inr (by kernel_rfl)),⟨.inr (.inr (by kernel_rfl)),⟨.inr (.inr (by kernel_rfl)),⟨.inr (.inr (by kernel_rfl)),trivial⟩⟩⟩⟩⟩⟩) 4 pO rfl rfl [(vS x_12),(vI r_27.1),(vI r_30.1),(vI 0),(vI 0),(vI r_33.1)] rfl wz (af (ak (bJ (aa (.ref (au 0) 0 0) (aF mq rfl 1 rfl wz (aJ 2 2 (.inr (by kernel_rfl)) (λ_ _ ag=>trivial) sz3 ag3 rfl rfl (vI r_3.1) rfl wz (aF jJ rfl 1 rfl wz (aF kU rfl 1 rfl wz (aJ 5 4 (.inr (by kernel_rfl)) (λ_ _ ag=>⟨.inl ⟨rfl,rfl⟩,trivial⟩) sz3 ag3 rfl rfl (vI r_27.1) rfl wz (aa (vI (w64 (r_3.1-r_27.1))) ?_)))))))))))))
    obtain ⟨r_37,hr_38,hc_19⟩:=bind_some hc_19
    refine aZ 7 [0] (.inr (by kernel_rfl)) (λ_ _ ag=>by exact⟨.inr (.inr (by kernel_rfl)),⟨.inr (.inr (by kernel_rfl)),trivial⟩⟩) (cZ hr_38) rfl BL rfl (by kernel_rfl) (by kernel_rfl) (by kernel_rfl) (by kernel_rfl) (by kernel_rfl) (by kernel_rfl) (by kernel_rfl) (by decide) (by kernel_rfl) wz (vI r_37.1) (by kernel_rfl) ([((au 0),some (.cells 2 [(vL eI r_37.2.L),(vI r_37.2.f_at)])),(n_2,some (.cells 4 [(vS (⟨#[]⟩:ByteArray)),(vI 0),(vI 0),.nil])),(n_9,some (.cells 4 [(vS (⟨#[108]⟩:ByteArray)),(vI r_3.1),(vI r_6.1),(gV n_18 6 s_15.1)])),(n_18,gB 6 Zone.enc s_15.1),(n_36,some (.cells 6 [(vS x_12),(vI r_27.1),(vI r_30.1),(vI 0),(vI 0),(vI r_33.1)]))]:Hp) (by kernel_rfl) (aa (.ref (au 0) 0 0) (aF lC rfl 2 rfl wz (aJ 10 2 (.inr (by kernel_rfl)) (λ_ _ ag=>⟨.inl ⟨rfl,rfl⟩,⟨.inl ⟨rfl,rfl⟩,⟨.inr (.inl (dis1 (Fs ag (i:=2) (j:=0) rfl rfl (by decide)))),trivial⟩⟩⟩) sz3 ag3 rfl rfl (vI r_6.1) rfl wz (aF jJ rfl 1 rfl wz (aF jI rfl 2 rfl wz (aJ 13 4 (.inr (by kernel_rfl)) (λ_ _ ag=>⟨.inl ⟨rfl,rfl⟩,⟨.inl ⟨rfl,rfl⟩,⟨.inr (.inl (dis1 (Fs ag (i:=4) (j:=0) rfl rfl (by decide)))),⟨.inl ⟨rfl,rfl⟩,trivial⟩⟩⟩⟩) sz3 ag3 rfl rfl (vI r_30.1) rfl wz (aa (vI (w64 (r_6.1-r_30.1))) ?_)))))))
    obtain ⟨r_40,hr_41,hc_19⟩:=bind_some hc_19
    refine aZ 15 [0] (.inr (by kernel_rfl)) (λ_ _ ag=>by exact⟨.inr (.inr (by kernel_rfl)),⟨.inr (.inr (by kernel_rfl)),⟨.inr (.inr (by kernel_rfl)),⟨.inr (.inr (by kernel_rfl)),⟨.inr (.inr (by kernel_rfl)),trivial⟩⟩⟩⟩⟩) (cZ hr_41) rfl BL rfl (by kernel_rfl) (by kernel_rfl) (by kernel_rfl) (by kernel_rfl) (by kernel_rfl) (by kernel_rfl) (by kernel_rfl) (by decide) (by kernel_rfl) wz (vI r_40.1) (by kernel_rfl) ([((au 0),some (.cells 2 [(vL eI r_40.2.L),(vI r_40.2.f_at)])),(n_2,some (.cells 4 [(vS (⟨#[]⟩:ByteArray)),(vI 0),(vI 0),.nil])),(n_9,some (.cells 4 [(vS (⟨#[108]⟩:ByteArray)),(vI r_3.1),(vI r_6.1),(gV n_18 6 s_15.1)])),(n_18,gB 6 Zone.enc s_15.1),(n_36,some (.cells 6 [(vS x_12),(vI r_27.1),(vI r_30.1),(vI 0),(vI 0),(vI r_33.1)]))]:Hp) (by kernel_rfl) (aF jJ rfl 1 rfl wz (aF oM rfl 3 rfl wz (bR 18 (.inr (by kernel_rfl)) (λ_ _ ag=>⟨.inr (.inr (by kernel_rfl)),⟨.inr (.inr (by kernel_rfl)),⟨.inr (.inr (by kernel_rfl)),⟨.inr (.inr (by kernel_rfl)),⟨.inr (.inr (by kernel_rfl)),⟨.inr (.inr (by kernel_rfl)),trivial⟩⟩⟩⟩⟩⟩) 4 sz3 rfl rfl [(vS x_12),(vI r_27.1),(vI r_30.1),(vI r_37.1),(vI 0),(vI r_33.1)] rfl wz (aF jJ rfl 1 rfl wz (aF mg rfl 4 rfl wz (bR 21 (.inr (by kernel_rfl)) (λ_ _ ag=>⟨.inr (.inr (by kernel_rfl)),⟨.inr (.inr (by kernel_rfl)),⟨.inr (.inr (by kernel_rfl)),⟨.inr (.inr (by kernel_rfl)),⟨.inr (.inr (by kernel_rfl)),⟨.inr (.inr (by kernel_rfl)),⟨.inr (.inr (by kernel_rfl)),trivial⟩⟩⟩⟩⟩⟩⟩) 4 sz3 rfl rfl [(vS x_12),(vI r_27.1),(vI r_30.1),(vI r_37.1),(vI r_40.1),(vI r_33.1)] rfl wz (af (aS (H0:=([((au 0),some (.cells 2 [(vL eI r_40.2.L),(vI r_40.2.f_at)])),(n_2,some (.cells 4 [(vS (⟨#[]⟩:ByteArray)),(vI 0),(vI 0),.nil])),(n_9,some (.cells 4 [(vS (⟨#[108]⟩:ByteArray)),(vI r_3.1),(vI r_6.1),(gV n_18 6 s_15.1)])),(n_18,gB 6 Zone.enc s_15.1),(n_36,some (.cells 6 [(vS x_12),(vI r_27.1),(vI r_30.1),(vI r_37.1),(vI r_40.1),(vI r_33.1)]))]:Hp)) ([(0,(.ref (au 0) 0 0)),(2,(.ref n_2 0 0)),(3,(.ref n_9 0 0)),(6,(.ref n_36 0 0)),(14,(vL eS ([(⟨#[122,97]⟩:ByteArray),(⟨#[122,98]⟩:ByteArray),(⟨#[122,99]⟩:ByteArray),(⟨#[122,100]⟩:ByteArray)]:List ByteArray))),(15,(vI (([(⟨#[122,97]⟩:ByteArray),(⟨#[122,98]⟩:ByteArray),(⟨#[122,99]⟩:ByteArray),(⟨#[122,100]⟩:ByteArray)]:List ByteArray).length:Int))),(16,(vI (k_10:Int)))]:SL_) (by kernel_rfl) (Bq (by kernel_rfl)) (av (aF iQ rfl 3 rfl wz (aJ 0 2 il ft qc uI rfl rfl (gV n_18 6 s_15.1) rfl wz (aJ 0 4 il ft pO ES rfl rfl (.d (.agg (Zone.enc (⟨x_12,(⟨r_27.1,r_30.1,r_37.1,r_40.1⟩:Rect),r_33.1⟩:Zone)))) rfl wz (gu (([(⟨x_12,(⟨r_27.1,r_30.1,r_37.1,r_40.1⟩:Rect),r_33.1⟩:Zone)]:List Zone).map Zone.enc) xA IG rfl rfl rfl rfl rfl wz ?_)))))))))))))
    obtain ⟨a_43,hz_44,hc_19⟩:=bind_some hc_19
    refine kI 0 il ft (i:=3) zR zR pO z49 rfl (by decide) Iz (by decide) (λ_=>rfl) rfl rfl rfl hz_44 wz (λn_45=>aF iQ rfl 3 rfl wz (bR 0 il ft 2 qc rfl rfl [(vS (⟨#[108]⟩:ByteArray)),(vI r_3.1),(vI r_6.1),(gV n_45 6 a_43)] (FJ rfl) wz (af (av (gW (bX hD_13 hn_14) wz rfl (aa (vI ((k_10+1:Nat):Int)) (af ?_)))))))
    obtain rfl:=ae hc_19
    exact bD (k_10+1,l_11,(a_43,r_40.2.L,r_40.2.f_at),n_45) ⟨hL_20,bv hD_13⟩ (ls_ _) rfl (aK rfl)
 ·rintro ⟨s_15,n_18⟩ ho_ sl_ H_ hp_ hq_
  subst ho_
  refine aS _ hp_ hq_ (ak (gN 3 rfl (Es 3 2 [(vS (⟨#[108]⟩:ByteArray)),(vI r_3.1),(vI r_6.1),(vL Zone.enc s_15.1)] rfl rfl (λS hS=>gX (rfl) (gX (rfl) (gX (rfl) (gX (hS) (rfl))))) (av (aJ 0 2 il ft iK nM rfl rfl (.d (.agg (Layout.enc (⟨(⟨#[108]⟩:ByteArray),r_3.1,r_6.1,s_15.1⟩:Layout)))) rfl wz (bR 0 il ft 1 iK rfl rfl [(vS (⟨#[108]⟩:ByteArray)),(vI r_3.1),(vI r_6.1),(vL Zone.enc s_15.1)] rfl wz (af ?_)))))))
  obtain rfl:=ae hF
  exact ay (qz (.inr rfl) [(.d (.agg (Layout.enc (⟨(⟨#[108]⟩:ByteArray),r_3.1,r_6.1,s_15.1⟩:Layout))))] _ [0] [au 0] ⟨⟨1,_,_,_,_,_,_,_,rfl,rfl,iK,nM,rfl⟩,trivial⟩ (.cons (fB rfl rfl) (.nil)) (by kernel_rfl) ⟨(by kernel_rfl),trivial⟩ (by decide) (by kernel_rfl))
theorem oo {s_1:Stream} {l_2:(List ByteArray)} {r:ByteArray×Stream} (hF:iH s_1 l_2=some r) :
  FnM Tryz.prog 16 [(.ref (au 0) 0 0),(vL eS l_2)] [(.cells 2 [(vL eI s_1.L),(vI s_1.f_at)])] (vS r.1) [some (.cells 2 [(vL eI r.2.L),(vI r.2.f_at)])]:=by
 refine FnM.of_wH ⟨Tryz.prog,12,[],[]⟩ rfl Tryz.func16 rfl rfl (lb_ rfl) (by kernel_rfl) ?_
 unfold iH at hF
 refine ai (aa (vS (⟨#[]⟩:ByteArray)) (af (ai (aa (vL eS l_2) (aa (.ref (au 0) 0 0) (aa (vL eS l_2) (dH uM rfl wz ?_)))))))
 obtain ⟨r_3,hr_4,hF⟩:=bind_some hF
 refine aZ 0 [0] il ft (dA hr_4) rfl Ca rfl (by kernel_rfl) (by kernel_rfl) (by kernel_rfl) (by kernel_rfl) (by kernel_rfl) (by kernel_rfl) (by kernel_rfl) (by decide) (by kernel_rfl) wz (vI r_3.1) (by kernel_rfl) ([((au 0),some (.cells 2 [(vL eI r_3.2.L),(vI r_3.2.f_at)]))]:Hp) (by kernel_rfl) ?_
 obtain ⟨y_6,hy_7,hF⟩:=bind_some hF
 refine eH rX rfl rfl hy_7 rfl wz (bT sz9 ag9 rfl (vS y_6) rfl wz (aa (vS y_6) (af ?_)))
 obtain rfl:=ae hF
 exact ay (qz (.inr rfl) [(vS y_6)] _ [0] [au 0] ⟨rfl,trivial⟩ (.cons (fB rfl rfl) (.nil)) (by kernel_rfl) ⟨(by kernel_rfl),trivial⟩ (by decide) (by kernel_rfl))
theorem iA {s_1:Stream} {low_2:Int} {high_3:Int} {r:Int×Stream} (hF:eU s_1 low_2 high_3=some r) :
  FnM Tryz.prog 17 [(.ref (au 0) 0 0),(vI low_2),(vI high_3)] [(.cells 2 [(vL eI s_1.L),(vI s_1.f_at)])] (vI r.1) [some (.cells 2 [(vL eI r.2.L),(vI r.2.f_at)])]:=by
 refine FnM.of_wH ⟨Tryz.prog,22,[],[]⟩ rfl Tryz.func17 rfl rfl (lb_ rfl) (by kernel_rfl) ?_
 unfold eU at hF
 refine ai (aa (vI 0) (af (ak (ai (aa (.ref (au 0) 0 0) ?_)))))
 obtain ⟨r_4,hr_5,hF⟩:=bind_some hF
 refine aZ 0 [0] il ft (ja hr_5) rfl hb14 rfl (by kernel_rfl) (by kernel_rfl) (by kernel_rfl) (by kernel_rfl) (by kernel_rfl) (by kernel_rfl) (by kernel_rfl) (by decide) (by kernel_rfl) wz (vB r_4.1) (by kernel_rfl) ([((au 0),some (.cells 2 [(vL eI r_4.2.L),(vI r_4.2.f_at)]))]:Hp) (by kernel_rfl) (af ?_)
 rcases aj hF with⟨hc_7,hF⟩|⟨hc_7,hF⟩
 ·refine aC rfl hc_7 (ai (aa (.ref (au 0) 0 0) (aa (vI low_2) (aa (vI (w64 (low_2-1))) (aa (vI high_3) (aa (vI (w64 (high_3+1))) (aa (vI low_2) (aa (vI high_3) (gu (([(w64 (low_2-1)),(w64 (high_3+1)),low_2,high_3,(-1099511627776),1099511627776]:List Int).map eI) iq tF rfl rfl rfl rfl rfl wz ?_)))))))))
  obtain ⟨r_8,hr_9,hF⟩:=bind_some hF
  refine aZ 0 [0] il ft (eu hr_9) rfl ET rfl (by kernel_rfl) (by kernel_rfl) (by kernel_rfl) (by kernel_rfl) (by kernel_rfl) (by kernel_rfl) (by kernel_rfl) (by decide) (by kernel_rfl) wz (vI r_8.1) (by kernel_rfl) ([((au 0),some (.cells 2 [(vL eI r_8.2.L),(vI r_8.2.f_at)]))]:Hp) (by kernel_rfl) (aa (vI r_8.1) (af ?_))
  obtain rfl:=ae hF
  exact ay (qz (.inr rfl) [(vI r_8.1)] _ [0] [au 0] ⟨rfl,trivial⟩ (.cons (fB rfl rfl) (.nil)) (by kernel_rfl) ⟨(by kernel_rfl),trivial⟩ (by decide) (by kernel_rfl))
 ·refine aA rfl hc_7 (ax (ai (aa (.ref (au 0) 0 0) (aa (vI low_2) (aa (vI high_3) ?_)))))
  obtain ⟨r_11,hr_12,hF⟩:=bind_some hF
  refine aZ 0 [0] il ft (cZ hr_12) rfl BL rfl (by kernel_rfl) (by kernel_rfl) (by kernel_rfl) (by kernel_rfl) (by kernel_rfl) (by kernel_rfl) (by kernel_rfl) (by decide) (by kernel_rfl) wz (vI r_11.1) (by kernel_rfl) ([((au 0),some (.cells 2 [(vL eI r_11.2.L),(vI r_11.2.f_at)]))]:Hp) (by kernel_rfl) (aa (vI r_11.1) (af ?_))
  obtain rfl:=ae hF
  exact ay (qz (.inr rfl) [(vI r_11.1)] _ [0] [au 0] ⟨rfl,trivial⟩ (.cons (fB rfl rfl) (.nil)) (by kernel_rfl) ⟨(by kernel_rfl),trivial⟩ (by decide) (by kernel_rfl))
theorem pV {s_1:Stream} {r:Rect×Stream} (hF:fG s_1=some r) :
  FnM Tryz.prog 43 [(.ref (au 0) 0 0)] [(.cells 2 [(vL eI s_1.L),(vI s_1.f_at)])] (.d (.agg (Rect.enc r.1))) [some (.cells 2 [(vL eI r.2.L),(vI r.2.f_at)])]:=by
 refine FnM.of_wH ⟨Tryz.prog,12,[],[]⟩ rfl Tryz.func43 rfl rfl (lb_ rfl) (by kernel_rfl) ?_
 unfold fG at hF
 refine ai (dM 0 (.inl rfl) z47 rfl wz (λn_2=>af (ai (aa (.ref (au 0) 0 0) ?_))))
 obtain ⟨r_3,hr_4,hF⟩:=bind_some hF
 refine aZ 0 [0] il ft (cZ hr_4) rfl BL rfl (by kernel_rfl) (by kernel_rfl) (by kernel_rfl) (by kernel_rfl) (by kernel_rfl) (by kernel_rfl) (by kernel_rfl) (by decide) (by kernel_rfl) wz (vI r_3.1) (by kernel_rfl) ([((au 0),some (.cells 2 [(vL eI r_3.2.L),(vI r_3.2.f_at)])),(n_2,some (.cells 4 [(vI 0),(vI 0),(vI 0),(vI 0)]))]:Hp) (by kernel_rfl) (aa (.ref (au 0) 0 0) ?_)
 obtain ⟨r_6,hr_7,hF⟩:=bind_some hF
 refine aZ 0 [0] il ft (cZ hr_7) rfl BL rfl (by kernel_rfl) (by kernel_rfl) (by kernel_rfl) (by kernel_rfl) (by kernel_rfl) (by kernel_rfl) (by kernel_rfl) (by decide) (by kernel_rfl) wz (vI r_6.1) (by kernel_rfl) ([((au 0),some (.cells 2 [(vL eI r_6.2.L),(vI r_6.2.f_at)])),(n_2,some (.cells 4 [(vI 0),(vI 0),(vI 0),(vI 0)]))]:Hp) (by kernel_rfl) (aa (.ref (au 0) 0 0) ?_)
 obtain ⟨r_9,hr_10,hF⟩:=bind_some hF
 refine aZ 0 [0] il ft (cZ hr_10) rfl BL rfl (by kernel_rfl) (by kernel_rfl) (by kernel_rfl) (by kernel_rfl) (by kernel_rfl) (by kernel_rfl) (by kernel_rfl) (by decide) (by kernel_rfl) wz (vI r_9.1) (by kernel_rfl) ([((au 0),some (.cells 2 [(vL eI r_9.2.L),(vI r_9.2.f_at)])),(n_2,some (.cells 4 [(vI 0),(vI 0),(vI 0),(vI 0)]))]:Hp) (by kernel_rfl) (aa (.ref (au 0) 0 0) ?_)
 obtain ⟨r_12,hr_13,hF⟩:=bind_some hF
 refine aZ 0 [0] il ft (cZ hr_13) rfl BL rfl (by kernel_rfl) (by kernel_rfl) (by kernel_rfl) (by kernel_rfl) (by kernel_rfl) (by kernel_rfl) (by kernel_rfl) (by decide) (by kernel_rfl) wz (vI r_12.1) (by kernel_rfl) ([((au 0),some (.cells 2 [(vL eI r_12.2.L),(vI r_12.2.f_at)])),(n_2,some (.cells 4 [(vI 0),(vI 0),(vI 0),(vI 0)]))]:Hp) (by kernel_rfl) (aH (.d (.agg (Rect.enc (⟨r_3.1,r_6.1,r_9.1,r_12.1⟩:Rect)))) wz (by kernel_rfl) (bR 0 il ft 1 nC rfl rfl [(vI r_3.1),(vI r_6.1),(vI r_9.1),(vI r_12.1)] rfl wz (af ?_)))
 obtain rfl:=ae hF
 exact ay (qz (.inr rfl) [(.d (.agg (Rect.enc (⟨r_3.1,r_6.1,r_9.1,r_12.1⟩:Rect))))] _ [0] [au 0] ⟨⟨1,_,_,_,_,_,_,_,rfl,rfl,nC,xx,rfl⟩,trivial⟩ (.cons (fB rfl rfl) (.nil)) (by kernel_rfl) ⟨(by kernel_rfl),trivial⟩ (by decide) (by kernel_rfl))
theorem ul {s_1:Stream} {r:Rect×Stream} (hF:jg s_1=some r) :
  FnM Tryz.prog 19 [(.ref (au 0) 0 0)] [(.cells 2 [(vL eI s_1.L),(vI s_1.f_at)])] (.d (.agg (Rect.enc r.1))) [some (.cells 2 [(vL eI r.2.L),(vI r.2.f_at)])]:=by
 refine FnM.of_wH ⟨Tryz.prog,32,[],[]⟩ rfl Tryz.func19 rfl rfl (lb_ rfl) (by kernel_rfl) ?_
 unfold jg at hF
 refine ai (dM 0 (.inl rfl) z47 rfl wz (λn_2=>af (ai (aa (.ref (au 0) 0 0) ?_))))
 obtain ⟨r_3,hr_4,hF⟩:=bind_some hF
 refine aZ 0 [0] il ft (pV hr_4) rfl hb43 rfl (by kernel_rfl) (by kernel_rfl) (by kernel_rfl) (by kernel_rfl) (by kernel_rfl) (by kernel_rfl) (by kernel_rfl) (by decide) (by kernel_rfl) wz (.d (.agg (Rect.enc r_3.1))) (by kernel_rfl) ([((au 0),some (.cells 2 [(vL eI r_3.2.L),(vI r_3.2.f_at)])),(n_2,some (.cells 4 [(vI 0),(vI 0),(vI 0),(vI 0)]))]:Hp) (by kernel_rfl) (dM 0 (.inl rfl) z47 rfl wz (λn_6=>bR 0 il ft 2 nC rfl rfl (Rect.v r_3.1) rfl wz (af (ak (ai (aa (.ref (au 0) 0 0) ?_))))))
 obtain ⟨r_7,hr_8,hF⟩:=bind_some hF
 refine aZ 0 [0] il ft (ja hr_8) rfl hb14 rfl (by kernel_rfl) (by kernel_rfl) (by kernel_rfl) (by kernel_rfl) (by kernel_rfl) (by kernel_rfl) (by kernel_rfl) (by decide) (by kernel_rfl) wz (vB r_7.1) (by kernel_rfl) ([((au 0),some (.cells 2 [(vL eI r_7.2.L),(vI r_7.2.f_at)])),(n_2,some (.cells 4 [(vI 0),(vI 0),(vI 0),(vI 0)])),(n_6,some (.cells 4 (Rect.v r_3.1)))]:Hp) (by kernel_rfl) (af ?_)
 obtain ⟨v_10,h_11,hF⟩:=bind_some hF
 refine aU [(2,(.ref n_2 0 0)),(3,(.ref n_6 0 0))] [((au 0),some (.cells 2 [(vL eI v_10.1),(vI v_10.2.1)])),(n_2,some (.cells 4 [(vI 0),(vI 0),(vI 0),(vI 0)])),(n_6,some (.cells 4 [(vI v_10.2.2.1),(vI v_10.2.2.2.1),(vI v_10.2.2.2.2.1),(vI v_10.2.2.2.2.2)]))] ?_ ?_
 ·rcases aj h_11 with⟨hc_12,h_11⟩|⟨hc_12,h_11⟩
  ·refine aC rfl hc_12 (ai (aa (.ref (au 0) 0 0) ?_))
   obtain ⟨r_13,hr_14,h_11⟩:=bind_some h_11
   refine aZ 0 [0] il ft (dA hr_14) rfl Ca rfl (by kernel_rfl) (by kernel_rfl) (by kernel_rfl) (by kernel_rfl) (by kernel_rfl) (by kernel_rfl) (by kernel_rfl) (by decide) (by kernel_rfl) wz (vI r_13.1) (by kernel_rfl) ([((au 0),some (.cells 2 [(vL eI r_13.2.L),(vI r_13.2.f_at)])),(n_2,some (.cells 4 [(vI 0),(vI 0),(vI 0),(vI 0)])),(n_6,some (.cells 4 (Rect.v r_3.1)))]:Hp) (by kernel_rfl) (af (aR (ai (aa (vB (r_13.1==0)) (aa (vB (r_13.1==0)) (af ?_))))))
   rcases aj h_11 with⟨hc_16,h_11⟩|⟨hc_16,h_11⟩
   ·refine aC rfl hc_16 (av (aa (.ref (au 0) 0 0) ?_))
    obtain ⟨r_17,hr_18,h_11⟩:=bind_some h_11
    refine aZ 0 [0] il ft (iA hr_18) rfl Ic rfl (by kernel_rfl) (by kernel_rfl) (by kernel_rfl) (by kernel_rfl) (by kernel_rfl) (by kernel_rfl) (by kernel_rfl) (by decide) (by kernel_rfl) wz (vI r_17.1) (by kernel_rfl) ([((au 0),some (.cells 2 [(vL eI r_17.2.L),(vI r_17.2.f_at)])),(n_2,some (.cells 4 [(vI 0),(vI 0),(vI 0),(vI 0)])),(n_6,some (.cells 4 (Rect.v r_3.1)))]:Hp) (by kernel_rfl) (aF kU rfl 0 rfl wz (bR 0 il ft 2 sz3 rfl rfl [(vI r_17.1),(vI r_3.1.Y),(vI r_3.1.W),(vI r_3.1.H)] rfl wz (af ?_)))
    obtain rfl:=ae h_11
    exact cu
   ·refine aA rfl hc_16 (ai (aa (vB (r_13.1==1)) (aa (vB (r_13.1==1)) (af ?_))))
    rcases aj h_11 with⟨hc_20,h_11⟩|⟨hc_20,h_11⟩
    ·refine aC rfl hc_20 (av (aa (.ref (au 0) 0 0) ?_))
     obtain ⟨r_21,hr_22,h_11⟩:=bind_some h_11
     refine aZ 0 [0] il ft (iA hr_22) rfl Ic rfl (by kernel_rfl) (by kernel_rfl) (by kernel_rfl) (by kernel_rfl) (by kernel_rfl) (by kernel_rfl) (by kernel_rfl) (by decide) (by kernel_rfl) wz (vI r_21.1) (by kernel_rfl) ([((au 0),some (.cells 2 [(vL eI r_21.2.L),(vI r_21.2.f_at)])),(n_2,some (.cells 4 [(vI 0),(vI 0),(vI 0),(vI 0)])),(n_6,some (.cells 4 (Rect.v r_3.1)))]:Hp) (by kernel_rfl) (aa (.ref (au 0) 0 0) ?_)
     obtain ⟨r_24,hr_25,h_11⟩:=bind_some h_11
     refine aZ 0 [0] il ft (iA hr_25) rfl Ic rfl (by kernel_rfl) (by kernel_rfl) (by kernel_rfl) (by kernel_rfl) (by kernel_rfl) (by kernel_rfl) (by kernel_rfl) (by decide) (by kernel_rfl) wz (vI r_24.1) (by kernel_rfl) ([((au 0),some (.cells 2 [(vL eI r_24.2.L),(vI r_24.2.f_at)])),(n_2,some (.cells 4 [(vI 0),(vI 0),(vI 0),(vI 0)])),(n_6,some (.cells 4 (Rect.v r_3.1)))]:Hp) (by kernel_rfl) (aF oM rfl 2 rfl wz (bR 0 il ft 2 sz3 rfl rfl [(vI r_3.1.X),(vI r_3.1.Y),(vI r_21.1),(vI r_3.1.H)] rfl wz (aF mg rfl 3 rfl wz (bR 0 il ft 2 sz3 rfl rfl [(vI r_3.1.X),(vI r_3.1.Y),(vI r_21.1),(vI r_24.1)] rfl wz (af ?_)))))
     obtain rfl:=ae h_11
     exact cu
    ·refine aA rfl hc_20 (av (aa (.ref (au 0) 0 0) (gu (([(-100000),99999]:List Int).map eI) iq tF rfl rfl rfl rfl rfl wz ?_)))
     obtain ⟨r_27,hr_28,h_11⟩:=bind_some h_11
     refine aZ 0 [0] il ft (eu hr_28) rfl ET rfl (by kernel_rfl) (by kernel_rfl) (by kernel_rfl) (by kernel_rfl) (by kernel_rfl) (by kernel_rfl) (by kernel_rfl) (by decide) (by kernel_rfl) wz (vI r_27.1) (by kernel_rfl) ([((au 0),some (.cells 2 [(vL eI r_27.2.L),(vI r_27.2.f_at)])),(n_2,some (.cells 4 [(vI 0),(vI 0),(vI 0),(vI 0)])),(n_6,some (.cells 4 (Rect.v r_3.1)))]:Hp) (by kernel_rfl) (aa (.ref (au 0) 0 0) (gu (([1,2,200000]:List Int).map eI) iq tF rfl rfl rfl rfl rfl wz ?_))
     obtain ⟨r_30,hr_31,h_11⟩:=bind_some h_11
     refine aZ 0 [0] il ft (eu hr_31) rfl ET rfl (by kernel_rfl) (by kernel_rfl) (by kernel_rfl) (by kernel_rfl) (by kernel_rfl) (by kernel_rfl) (by kernel_rfl) (by decide) (by kernel_rfl) wz (vI r_30.1) (by kernel_rfl) ([((au 0),some (.cells 2 [(vL eI r_30.2.L),(vI r_30.2.f_at)])),(n_2,some (.cells 4 [(vI 0),(vI 0),(vI 0),(vI 0)])),(n_6,some (.cells 4 (Rect.v r_3.1)))]:Hp) (by kernel_rfl) (aF jI rfl 1 rfl wz (bR 0 il ft 2 sz3 rfl rfl [(vI r_3.1.X),(vI r_27.1),(vI r_3.1.W),(vI r_3.1.H)] rfl wz (aF mg rfl 3 rfl wz (bR 0 il ft 2 sz3 rfl rfl [(vI r_3.1.X),(vI r_27.1),(vI r_3.1.W),(vI r_30.1)] rfl wz (af ?_)))))
     obtain rfl:=ae h_11
     exact cu
  ·refine aA rfl hc_12 (ax ?_)
   obtain rfl:=ae h_11
   exact cu
 ·rintro ⟨⟩ _ sl_ H_ hp_ hq_
  refine aS _ hp_ hq_ (ai (aJ 0 2 il ft nC xx rfl rfl (.d (.agg (Rect.enc (⟨v_10.2.2.1,v_10.2.2.2.1,v_10.2.2.2.2.1,v_10.2.2.2.2.2⟩:Rect)))) rfl wz (bR 0 il ft 1 nC rfl rfl [(vI v_10.2.2.1),(vI v_10.2.2.2.1),(vI v_10.2.2.2.2.1),(vI v_10.2.2.2.2.2)] rfl wz (af ?_))))
  obtain rfl:=ae hF
  exact ay (qz (.inr rfl) [(.d (.agg (Rect.enc (⟨v_10.2.2.1,v_10.2.2.2.1,v_10.2.2.2.2.1,v_10.2.2.2.2.2⟩:Rect))))] _ [0] [au 0] ⟨⟨1,_,_,_,_,_,_,_,rfl,rfl,nC,xx,rfl⟩,trivial⟩ (.cons (fB rfl rfl) (.nil)) (by kernel_rfl) ⟨(by kernel_rfl),trivial⟩ (by decide) (by kernel_rfl))
theorem jZ {s_1:(List Zone)} {r:(List Zone)} (hF:cz s_1=some r) :
  FnM Tryz.prog 18 [(vL Zone.enc s_1)] [] (gV (au 0) 6 r) (([]:List Box).map some++gO 6 Zone.enc r):=by
 refine FnM.of_wH ⟨Tryz.prog,8,[],[]⟩ rfl Tryz.func18 rfl rfl (lb_ rfl) (by kernel_rfl) ?_
 unfold cz at hF
 refine ai (aa .nil (af (ak (ai (aa (vL Zone.enc s_1) (h_nileq uV rfl wz (λb_2 hb_3=>af ?_)))))))
 cases b_2 with
 | true =>
  refine aC rfl rfl ?_
  obtain rfl:=hb_3 rfl
  replace hF:=GI hF
  refine ai (aa .nil (af (nK (λn_4 => ?_))))
  obtain rfl:=ae hF
  exact ay (finG (outs:=([]:List Box)) (.inr rfl) 0 rfl rfl rfl (by kernel_rfl) (by kernel_rfl))
 | false =>
  refine aA rfl rfl (ax (ai (h_lit0 xA IG rfl wz (aa (vL Zone.enc s_1) ?_))))
  obtain ⟨a_5,hz_6,hF⟩:=bind_some hF
  refine h_appn 0 (.inl rfl) zR zR pO z49 rfl (by decide) Iz (by decide) (λ_=>rfl) rfl rfl hz_6 wz (λn_7=>aa (gV n_7 6 a_5) (af ?_))
  obtain rfl:=ae hF
  exact ay (finG (outs:=([]:List Box)) (.inr rfl) 0 rfl rfl rfl (by kernel_rfl) (by kernel_rfl))
theorem si {s_1:Stream} {r:Layout×Stream} (hF:ik s_1=some r) :
  FnM Tryz.prog 4 [(.ref (au 0) 0 0)] [(.cells 2 [(vL eI s_1.L),(vI s_1.f_at)])] (.d (.agg (Layout.enc r.1))) [some (.cells 2 [(vL eI r.2.L),(vI r.2.f_at)])]:=by
 refine FnM.of_wH ⟨Tryz.prog,36,[],[]⟩ rfl Tryz.func4 rfl rfl (lb_ rfl) (by kernel_rfl) ?_
 unfold ik at hF
 refine ai (dM 0 (.inl rfl) z28 rfl wz (λn_2=>af (ai (aa (.ref (au 0) 0 0) ?_))))
 obtain ⟨r_3,hr_4,hF⟩:=bind_some hF
 refine aZ 0 [0] il ft (jO hr_4) rfl hb13 rfl (by kernel_rfl) (by kernel_rfl) (by kernel_rfl) (by kernel_rfl) (by kernel_rfl) (by kernel_rfl) (by kernel_rfl) (by decide) (by kernel_rfl) wz (.d (.agg (Layout.enc r_3.1))) (by kernel_rfl) ([((au 0),some (.cells 2 [(vL eI r_3.2.L),(vI r_3.2.f_at)])),(n_2,some (.cells 4 [(vS (⟨#[]⟩:ByteArray)),(vI 0),(vI 0),.nil]))]:Hp) (by kernel_rfl) (dM 0 (.inl rfl) z28 rfl wz (λn_6=>bR 0 il ft 2 iK rfl rfl (Layout.v r_3.1) rfl wz (af (ak (ai (aa (.ref (au 0) 0 0) ?_))))))
 obtain ⟨r_7,hr_8,hF⟩:=bind_some hF
 refine aZ 0 [0] il ft (ja hr_8) rfl hb14 rfl (by kernel_rfl) (by kernel_rfl) (by kernel_rfl) (by kernel_rfl) (by kernel_rfl) (by kernel_rfl) (by kernel_rfl) (by decide) (by kernel_rfl) wz (vB r_7.1) (by kernel_rfl) ([((au 0),some (.cells 2 [(vL eI r_7.2.L),(vI r_7.2.f_at)])),(n_2,some (.cells 4 [(vS (⟨#[]⟩:ByteArray)),(vI 0),(vI 0),.nil])),(n_6,some (.cells 4 (Layout.v r_3.1)))]:Hp) (by kernel_rfl) (af ?_)
 obtain ⟨v_12,h_13,hF⟩:=bind_some hF
 refine IP (β:=Unit) (λ_=>([(2,(.ref n_2 0 0)),(3,(.ref n_6 0 0))]:SL_)) (λ_=>([((au 0),some (.cells 2 [(vL eI v_12.1),(vI v_12.2.1)])),(n_2,some (.cells 4 [(vS (⟨#[]⟩:ByteArray)),(vI 0),(vI 0),.nil])),(n_6,some (.cells 4 [(vS v_12.2.2.1),(vI r_3.1.W),(vI v_12.2.2.2.1),(vL Zone.enc v_12.2.2.2.2)]))]:Hp)) (λ_=>True) ?_ ?_
 ·rcases aj h_13 with⟨hc_14,h_13⟩|⟨hc_14,h_13⟩
  ·refine aC rfl hc_14 (ai (aa (.ref (au 0) 0 0) ?_))
   obtain ⟨r_15,hr_16,h_13⟩:=bind_some h_13
   refine aZ 0 [0] il ft (dA hr_16) rfl Ca rfl (by kernel_rfl) (by kernel_rfl) (by kernel_rfl) (by kernel_rfl) (by kernel_rfl) (by kernel_rfl) (by kernel_rfl) (by decide) (by kernel_rfl) wz (vI r_15.1) (by kernel_rfl) ([((au 0),some (.cells 2 [(vL eI r_15.2.L),(vI r_15.2.f_at)])),(n_2,some (.cells 4 [(vS (⟨#[]⟩:ByteArray)),(vI 0),(vI 0),.nil])),(n_6,some (.cells 4 (Layout.v r_3.1)))]:Hp) (by kernel_rfl) (af (aR (ai (aa (vB (r_15.1==0)) (aa (vB (r_15.1==0)) (af ?_))))))
   rcases aj h_13 with⟨hc_18,h_13⟩|⟨hc_18,h_13⟩
   ·refine aC rfl hc_18 (av (aa (.ref (au 0) 0 0) (gu (([(⟨#[]⟩:ByteArray),(⟨#[65]⟩:ByteArray)]:List ByteArray).map eS) rX ez67 rfl rfl rfl rfl rfl wz ?_)))
    obtain ⟨r_19,hr_20,h_13⟩:=bind_some h_13
    refine aZ 0 [0] il ft (oo hr_20) rfl hb16 rfl (by kernel_rfl) (by kernel_rfl) (by kernel_rfl) (by kernel_rfl) (by kernel_rfl) (by kernel_rfl) (by kernel_rfl) (by decide) (by kernel_rfl) wz (vS r_19.1) (by kernel_rfl) ([((au 0),some (.cells 2 [(vL eI r_19.2.L),(vI r_19.2.f_at)])),(n_2,some (.cells 4 [(vS (⟨#[]⟩:ByteArray)),(vI 0),(vI 0),.nil])),(n_6,some (.cells 4 (Layout.v r_3.1)))]:Hp) (by kernel_rfl) (aF pY rfl 0 rfl wz (bR 0 il ft 2 sz9 rfl rfl [(vS r_19.1),(vI r_3.1.W),(vI r_3.1.H),(vL Zone.enc r_3.1.Zones)] rfl wz (af ?_)))
    intro C_ b_ Q_ key_
    obtain rfl:=ae h_13
    exact key_ () trivial _ _ rfl (aK rfl)
   ·refine aA rfl hc_18 (ai (aa (vB (r_15.1==1)) (aa (vB (r_15.1==1)) (af ?_))))
    rcases aj h_13 with⟨hc_22,h_13⟩|⟨hc_22,h_13⟩
    ·refine aC rfl hc_22 (av (aa (.ref (au 0) 0 0) ?_))
     obtain ⟨r_23,hr_24,h_13⟩:=bind_some h_13
     refine aZ 0 [0] il ft (iA hr_24) rfl Ic rfl (by kernel_rfl) (by kernel_rfl) (by kernel_rfl) (by kernel_rfl) (by kernel_rfl) (by kernel_rfl) (by kernel_rfl) (by decide) (by kernel_rfl) wz (vI r_23.1) (by kernel_rfl) ([((au 0),some (.cells 2 [(vL eI r_23.2.L),(vI r_23.2.f_at)])),(n_2,some (.cells 4 [(vS (⟨#[]⟩:ByteArray)),(vI 0),(vI 0),.nil])),(n_6,some (.cells 4 (Layout.v r_3.1)))]:Hp) (by kernel_rfl) (aF lC rfl 2 rfl wz (bR 0 il ft 2 sz3 rfl rfl [(vS r_3.1.Key),(vI r_3.1.W),(vI r_23.1),(vL Zone.enc r_3.1.Zones)] rfl wz (af ?_)))
     intro C_ b_ Q_ key_
     obtain rfl:=ae h_13
     exact key_ () trivial _ _ rfl (aK rfl)
    ·refine aA rfl hc_22 (av (aF iQ rfl 3 rfl wz (aJ 0 2 il ft qc uI rfl rfl (vL Zone.enc r_3.1.Zones) rfl wz ?_)))
     obtain ⟨r_26,hr_27,h_13⟩:=bind_some h_13
     refine h_callg [] (jZ hr_27) rfl hb18 rfl (by kernel_rfl) (by kernel_rfl) (by kernel_rfl) (by kernel_rfl) (by kernel_rfl) rfl (by decide) (by kernel_rfl) wz ([((au 0),some (.cells 2 [(vL eI r_15.2.L),(vI r_15.2.f_at)])),(n_2,some (.cells 4 [(vS (⟨#[]⟩:ByteArray)),(vI 0),(vI 0),.nil])),(n_6,some (.cells 4 (Layout.v r_3.1)))]:Hp) (λ_=>by kernel_rfl) (λn_29=>aa (.ref (au 0) 0 0) (gu (([(⟨#[]⟩:ByteArray),(⟨#[122,97]⟩:ByteArray),(⟨#[122,122]⟩:ByteArray)]:List ByteArray).map eS) rX ez67 rfl rfl rfl rfl rfl wz ?_))
     obtain ⟨r_30,hr_31,h_13⟩:=bind_some h_13
     refine aZ 0 [0] il ft (oo hr_31) rfl hb16 rfl (by kernel_rfl) (by kernel_rfl) (by kernel_rfl) (by kernel_rfl) (by kernel_rfl) (by kernel_rfl) (by kernel_rfl) (by decide) (by kernel_rfl) wz (vS r_30.1) (by kernel_rfl) ([((au 0),some (.cells 2 [(vL eI r_30.2.L),(vI r_30.2.f_at)])),(n_2,some (.cells 4 [(vS (⟨#[]⟩:ByteArray)),(vI 0),(vI 0),.nil])),(n_6,some (.cells 4 (Layout.v r_3.1))),(n_29,gB 6 Zone.enc r_26)]:Hp) (by kernel_rfl) (aa (.ref (au 0) 0 0) ?_)
     obtain ⟨r_33,hr_34,h_13⟩:=bind_some h_13
     refine aZ 0 [0] il ft (ul hr_34) rfl hb19 rfl (by kernel_rfl) (by kernel_rfl) (by kernel_rfl) (by kernel_rfl) (by kernel_rfl) (by kernel_rfl) (by kernel_rfl) (by decide) (by kernel_rfl) wz (.d (.agg (Rect.enc r_33.1))) (by kernel_rfl) ([((au 0),some (.cells 2 [(vL eI r_33.2.L),(vI r_33.2.f_at)])),(n_2,some (.cells 4 [(vS (⟨#[]⟩:ByteArray)),(vI 0),(vI 0),.nil])),(n_6,some (.cells 4 (Layout.v r_3.1))),(n_29,gB 6 Zone.enc r_26)]:Hp) (by kernel_rfl) (aa (.ref (au 0) 0 0) ?_)
     obtain ⟨r_36,hr_37,h_13⟩:=bind_some h_13
     refine aZ 0 [0] il ft (iA hr_37) rfl Ic rfl (by kernel_rfl) (by kernel_rfl) (by kernel_rfl) (by kernel_rfl) (by kernel_rfl) (by kernel_rfl) (by kernel_rfl) (by decide) (by kernel_rfl) wz (vI r_36.1) (by kernel_rfl) ([((au 0),some (.cells 2 [(vL eI r_36.2.L),(vI r_36.2.f_at)])),(n_2,some (.cells 4 [(vS (⟨#[]⟩:ByteArray)),(vI 0),(vI 0),.nil])),(n_6,some (.cells 4 (Layout.v r_3.1))),(n_29,gB 6 Zone.enc r_26)]:Hp) (by kernel_rfl) (aH (.d (.agg (Zone.enc (⟨r_30.1,r_33.1,r_36.1⟩:Zone)))) wz (by kernel_rfl) (gu (([(⟨r_30.1,r_33.1,r_36.1⟩:Zone)]:List Zone).map Zone.enc) xA IG rfl rfl rfl rfl rfl wz ?_))
     obtain ⟨a_39,hz_40,h_13⟩:=bind_some h_13
     refine kI 0 il ft (i:=3) zR zR pO z49 rfl (by decide) Iz (by decide) (λ_=>rfl) rfl rfl rfl hz_40 wz (λn_41=>aF iQ rfl 3 rfl wz (bR 0 il ft 2 qc rfl rfl [(vS r_3.1.Key),(vI r_3.1.W),(vI r_3.1.H),(gV n_41 6 a_39)] (FJ rfl) wz (af ?_)))
     intro C_ b_ Q_ key_
     refine gN 3 rfl (gQ 22 3 rfl rfl (wH_coc3 3 2 [false,false,false,true] [(vS r_3.1.Key),(vI r_3.1.W),(vI r_3.1.H),(vL Zone.enc a_39)] rfl rfl rfl (λS hS=>gX (rfl) (gX (rfl) (gX (rfl) (gX (hS) (rfl))))) ?_))
     obtain rfl:=ae h_13
     exact key_ () trivial _ _ rfl (aK rfl)
  ·refine aA rfl hc_14 (ax ?_)
   intro C_ b_ Q_ key_
   obtain rfl:=ae h_13
   exact key_ () trivial _ _ rfl (aK rfl)
 ·rintro ⟨⟩ _ sl_ H_ hp_ hq_
  refine aS _ hp_ hq_ (ai (aJ 0 2 il ft iK nM rfl rfl (.d (.agg (Layout.enc (⟨v_12.2.2.1,r_3.1.W,v_12.2.2.2.1,v_12.2.2.2.2⟩:Layout)))) rfl wz (bR 0 il ft 1 iK rfl rfl [(vS v_12.2.2.1),(vI r_3.1.W),(vI v_12.2.2.2.1),(vL Zone.enc v_12.2.2.2.2)] rfl wz (af ?_))))
  obtain rfl:=ae hF
  exact ay (qz (.inr rfl) [(.d (.agg (Layout.enc (⟨v_12.2.2.1,r_3.1.W,v_12.2.2.2.1,v_12.2.2.2.2⟩:Layout))))] _ [0] [au 0] ⟨⟨1,_,_,_,_,_,_,_,rfl,rfl,iK,nM,rfl⟩,trivial⟩ (.cons (fB rfl rfl) (.nil)) (by kernel_rfl) ⟨(by kernel_rfl),trivial⟩ (by decide) (by kernel_rfl))
theorem mo {x0:Int} {r:ByteArray} (hF:strconv_Itoa x0=some r) :
  FnM Tryz.prog 50 [(vI x0)] [] (vS r) [] :=
 itoa_ok Tryz.strconv_Itoa EQ hF
theorem xn {x0:(List ByteArray)} {x1:ByteArray} {r:ByteArray} (hF:strings_Join x0 x1=some r) :
  FnM Tryz.prog 52 [(vL eS x0),(vS x1)] [] (vS r) [] :=
 join_ok rfl Tryz.strings_Join_none Tryz.strings_Join hF
theorem rq {l_1:(List Int)} {r:ByteArray} (hF:ku l_1=some r) :
  FnM Tryz.prog 31 [(vL eI l_1)] [] (vS r) []:=by
 refine FnM.of_wH ⟨Tryz.prog,20,[],[]⟩ rfl Tryz.func31 rfl rfl (lb_ rfl) (by kernel_rfl) ?_
 unfold ku at hF
 refine ai (aa (vS (⟨#[]⟩:ByteArray)) (af (ai (aa .nil (af (ak (ai (aa (vL eI l_1) (dH sO rfl wz (aa (vI 0) (af (nK (λn_8 => ?_)))))))))))))
 obtain ⟨o_13,hj_14,hF⟩:=bind_some hF
 obtain ⟨hn_6,hj_14⟩:=bH hj_14
 refine iw (σ:=(List ByteArray)) (N:=Nm) (λp=>(λ(s_7:List ByteArray) (n_10:Nm)=>([(3,(gV n_10 1 s_7))]:SL_)) p.1 p.2) (λp=>(λ(s_7:List ByteArray) (n_10:Nm)=>([(n_10,gB 1 eS s_7)]:Hp)) p.1 p.2) (λ(k_2:Nat)=>(λp=>(λ(s_7:List ByteArray) (n_10:Nm)=>([(3,(gV n_10 1 s_7)),(6,(vL eI l_1)),(7,(vI (l_1.length:Int))),(8,(vI (k_2:Int)))]:SL_)) p.1 p.2)) (λk x s=>iB k x s) o_13 l_1 (([]:List ByteArray),n_8) hj_14 rfl (aK rfl) ?_ ?_
 ·rintro ⟨k_2,l_3,s_7,n_10⟩ ⟨hL_12,hD_5⟩
  dsimp only at hL_12 hD_5
  cases l_3 with
  | nil =>
   obtain rfl:=ae hL_12
   refine ai (aa (vB (decide ((k_2:Int)<(l_1.length:Int)))) (af ?_))
   refine ak (aA rfl (drop_nil hD_5) (bE ?_))
   exact bn (s_7,n_10) rfl rfl (aK rfl)
  | cons x_4 l_3 =>
   obtain ⟨c_,hc_11,hL_12⟩:=bind_some hL_12
   refine ai (aa (vB (decide ((k_2:Int)<(l_1.length:Int)))) (af ?_))
   refine ak (aC rfl (bN hD_5) (ax ?_))
   unfold iB at hc_11
   refine ak (aR (ai (eH iq rfl rfl (dz hD_5) rfl wz (bT sz3 ag3 rfl (vI x_4) rfl wz (aa (vI x_4) (af (av (aa (gV n_10 1 s_7) (aa (vI x_4) ?_)))))))))
   obtain ⟨r_15,hr_16,hc_11⟩:=bind_some hc_11
   refine aI (mo hr_16) rfl hb50 rfl rfl rfl rfl wz (gu (([r_15]:List ByteArray).map eS) rX ez67 rfl rfl rfl rfl rfl wz ?_)
   obtain ⟨a_17,hz_18,hc_11⟩:=bind_some hc_11
   refine kI 0 il ft (i:=0) el67 el67 sz9 z9 rfl (by decide) by9 (by decide) (λ_=>rfl) rfl rfl rfl hz_18 wz (λn_19=>aa (gV n_19 1 a_17) (af (av (gW (bX hD_5 hn_6) wz rfl (aa (vI ((k_2+1:Nat):Int)) (af ?_))))))
   obtain rfl:=ae hc_11
   exact bD (k_2+1,l_3,a_17,n_19) ⟨hL_12,bv hD_5⟩ (ls_ _) rfl (aK rfl)
 ·rintro ⟨s_7,n_10⟩ ho_ sl_ H_ hp_ hq_
  subst ho_
  refine aS _ hp_ hq_ (ak (gN 0 rfl (gQ 3 0 rfl rfl (av (aa (vL eS s_7) ?_)))))
  obtain ⟨r_20,hr_21,hF⟩:=bind_some hF
  refine aI (xn hr_21) rfl hb52 rfl rfl rfl rfl wz (aa (vS r_20) (af ?_))
  obtain rfl:=ae hF
  exact ay (aN [(vS r_20)] ⟨rfl,trivial⟩)
theorem nH {l_1:Layout} {r:ByteArray} (hF:fF l_1=some r) :
  FnM Tryz.prog 8 [(.d (.agg (Layout.enc l_1)))] [] (vS r) []:=by
 refine FnM.of_wH ⟨Tryz.prog,51,[],[]⟩ rfl Tryz.func8 rfl rfl (lb_ rfl) (by kernel_rfl) ?_
 unfold fF at hF
 refine ai (o9 0 (.inl rfl) (Layout.v l_1) rfl rfl wz (λn_2=>aa (vS (⟨#[]⟩:ByteArray)) (af (ak (bJ (aF pY rfl 0 rfl wz (aJ 1 0 (.inr (by kernel_rfl)) (λ_ _ ag=>trivial) sz9 ag9 rfl rfl (vS l_1.Key) rfl wz ?_)))))))
 obtain ⟨s_3,hz_4,hF⟩:=bind_some hF
 refine kr rfl rfl hz_4 wz ?_
 obtain ⟨s_5,hz_6,hF⟩:=bind_some hF
 refine kr rfl rfl hz_6 wz (aF mq rfl 1 rfl wz (aJ 5 0 (.inr (by kernel_rfl)) (λ_ _ ag=>⟨.inl ⟨rfl,rfl⟩,trivial⟩) sz3 ag3 rfl rfl (vI l_1.W) rfl wz (aF lC rfl 2 rfl wz (aJ 7 0 (.inr (by kernel_rfl)) (λ_ _ ag=>⟨.inl ⟨rfl,rfl⟩,⟨.inl ⟨rfl,rfl⟩,trivial⟩⟩) sz3 ag3 rfl rfl (vI l_1.H) rfl wz (gu (([l_1.W,l_1.H]:List Int).map eI) iq tF rfl rfl rfl rfl rfl wz ?_)))))
 obtain ⟨r_7,hr_8,hF⟩:=bind_some hF
 refine aI (rq hr_8) rfl hb31 rfl rfl rfl rfl wz ?_
 obtain ⟨s_9,hz_10,hF⟩:=bind_some hF
 refine kr rfl rfl hz_10 wz ?_
 obtain ⟨s_11,hz_12,hF⟩:=bind_some hF
 refine kr rfl rfl hz_12 wz (aa (vS s_11) (af (ak (ai (aF iQ rfl 3 rfl wz (aJ 0 0 il ft qc uI rfl rfl (vL Zone.enc l_1.Zones) rfl wz (dH uV rfl wz (aa (vI 0) (af ?_)))))))))
 obtain ⟨o_21,hj_22,hF⟩:=bind_some hF
 obtain ⟨hn_17,hj_22⟩:=bH hj_22
 refine fO (λ(s_18:ByteArray)=>[(3,(vS s_18))]) (λ(s_18:ByteArray)=>[(n_2,some (.cells 4 (Layout.v l_1)))]) (λ(k_13:Nat)=>(λ(s_18:ByteArray)=>[(3,(vS s_18)),(19,(vL Zone.enc l_1.Zones)),(20,(vI (l_1.Zones.length:Int))),(21,(vI (k_13:Int)))])) (λk x s=>eO k x s) o_21 l_1.Zones s_11 hj_22 rfl (aK rfl) ?_ ?_
 ·rintro ⟨k_13,l_14,s_18⟩ ⟨hL_20,hD_16⟩
  dsimp only at hL_20 hD_16
  cases l_14 with
  | nil =>
   obtain rfl:=ae hL_20
   refine ai (aa (vB (decide ((k_13:Int)<(l_1.Zones.length:Int)))) (af ?_))
   refine ak (aA rfl (drop_nil hD_16) (bE ?_))
   exact bn (s_18) rfl rfl (aK rfl)
  | cons x_15 l_14 =>
   obtain ⟨c_,hc_19,hL_20⟩:=bind_some hL_20
   refine ai (aa (vB (decide ((k_13:Int)<(l_1.Zones.length:Int)))) (af ?_))
   refine ak (aC rfl (bN hD_16) (ax ?_))
   unfold eO at hc_19
   refine ak (aR (ai (eH xA rfl rfl (dz hD_16) rfl wz (bT pO ES rfl (.d (.agg (Zone.enc x_15))) rfl wz (dM 0 (.inl rfl) z49 rfl wz (λn_23=>bR 0 il ft 1 pO rfl rfl (Zone.v x_15) rfl wz (af (bJ (aa (vS s_18) (aF qE rfl 0 rfl wz (aJ 2 1 (.inr (by kernel_rfl)) (λ_ _ ag=>trivial) sz9 ag9 rfl rfl (vS x_15.Key) rfl wz ?_)))))))))))
   obtain ⟨s_24,hz_25,hc_19⟩:=bind_some hc_19
   refine kr rfl rfl hz_25 wz ?_
   obtain ⟨s_26,hz_27,hc_19⟩:=bind_some hc_19
   refine kr rfl rfl hz_27 wz (aF jJ rfl 1 rfl wz (aF kU rfl 1 rfl wz (aJ 7 1 (.inr (by kernel_rfl)) (λ_ _ ag=>⟨.inl ⟨rfl,rfl⟩,trivial⟩) sz3 ag3 rfl rfl (vI x_15.On.X) rfl wz (aF jJ rfl 1 rfl wz (aF jI rfl 2 rfl wz (aJ 10 1 (.inr (by kernel_rfl)) (λ_ _ ag=>⟨.inl ⟨rfl,rfl⟩,⟨.inl ⟨rfl,rfl⟩,trivial⟩⟩) sz3 ag3 rfl rfl (vI x_15.On.Y) rfl wz (aF jJ rfl 1 rfl wz (aF oM rfl 3 rfl wz (aJ 13 1 (.inr (by kernel_rfl)) (λ_ _ ag=>⟨.inl ⟨rfl,rfl⟩,⟨.inl ⟨rfl,rfl⟩,⟨.inl ⟨rfl,rfl⟩,trivial⟩⟩⟩) sz3 ag3 rfl rfl (vI x_15.On.W) rfl wz (aF jJ rfl 1 rfl wz (aF mg rfl 4 rfl wz (aJ 16 1 (.inr (by kernel_rfl)) (λ_ _ ag=>⟨.inl ⟨rfl,rfl⟩,⟨.inl ⟨rfl,rfl⟩,⟨.inl ⟨rfl,rfl⟩,⟨.inl ⟨rfl,rfl⟩,trivial⟩⟩⟩⟩) sz3 ag3 rfl rfl (vI x_15.On.H) rfl wz (aF BA rfl 5 rfl wz (aJ 18 1 (.inr (by kernel_rfl)) (λ_ _ ag=>⟨.inl ⟨rfl,rfl⟩,⟨.inl ⟨rfl,rfl⟩,⟨.inl ⟨rfl,rfl⟩,⟨.inl ⟨rfl,rfl⟩,⟨.inl ⟨rfl,rfl⟩,trivial⟩⟩⟩⟩⟩) sz3 ag3 rfl rfl (vI x_15.Order) rfl wz (gu (([x_15.On.X,x_15.On.Y,x_15.On.W,x_15.On.H,x_15.Order]:List Int).map eI) iq tF rfl rfl rfl rfl rfl wz ?_)))))))))))))))
   obtain ⟨r_28,hr_29,hc_19⟩:=bind_some hc_19
   refine aI (rq hr_29) rfl hb31 rfl rfl rfl rfl wz ?_
   obtain ⟨s_30,hz_31,hc_19⟩:=bind_some hc_19
   refine kr rfl rfl hz_31 wz ?_
   obtain ⟨s_32,hz_33,hc_19⟩:=bind_some hc_19
   refine kr rfl rfl hz_33 wz ?_
   obtain ⟨s_34,hz_35,hc_19⟩:=bind_some hc_19
   refine kr rfl rfl hz_35 wz (aa (vS s_34) (af (av (gW (bX hD_16 hn_17) wz rfl (aa (vI ((k_13+1:Nat):Int)) (af ?_))))))
   obtain rfl:=ae hc_19
   exact bD (k_13+1,l_14,s_34) ⟨hL_20,bv hD_16⟩ (ls_ _) rfl (aK rfl)
 ·rintro s_18 ho_ sl_ H_ hp_ hq_
  subst ho_
  refine aS _ hp_ hq_ (ai (aa (vS s_18) (aa (vS s_18) (af ?_))))
  obtain rfl:=ae hF
  exact ay (aN [(vS s_18)] ⟨rfl,trivial⟩)
theorem qM {s_1:Stream} {t_2:ByteArray} {withv_3:ByteArray} {r:ByteArray×Stream} (hF:fC s_1 t_2 withv_3=some r) :
  FnM Tryz.prog 21 [(.ref (au 0) 0 0),(vS t_2),(vS withv_3)] [(.cells 2 [(vL eI s_1.L),(vI s_1.f_at)])] (vS r.1) [some (.cells 2 [(vL eI r.2.L),(vI r.2.f_at)])]:=by
 refine FnM.of_wH ⟨Tryz.prog,63,[],[]⟩ rfl Tryz.func21 rfl rfl (lb_ rfl) (by kernel_rfl) ?_
 unfold fC at hF
 refine ai (aa (vS (⟨#[]⟩:ByteArray)) (af (ak (ak ?_))))
 obtain ⟨v_4,h_5,hF⟩:=bind_some hF
 refine aU [(0,(.ref (au 0) 0 0)),(1,(vS t_2)),(2,(vS withv_3)),(14,(vB v_4))] [((au 0),some (.cells 2 [(vL eI s_1.L),(vI s_1.f_at)]))] ?_ ?_
 ·refine av (aa (vS t_2) (aa (vB (sEq t_2 (⟨#[]⟩:ByteArray))) ?_))
  rcases aj h_5 with⟨hc_6,h_5⟩|⟨hc_6,h_5⟩
  ·refine aD rfl hc_6 wz (ah (ah (aa (vB true) (af ?_))))
   obtain rfl:=ae h_5
   exact cu
  ·refine aD rfl hc_6 wz (aH (vS withv_3) wa rfl (aH (vB (sEq withv_3 (⟨#[]⟩:ByteArray))) wa rfl (aa (vB (sEq withv_3 (⟨#[]⟩:ByteArray))) (af ?_))))
   obtain rfl:=ae h_5
   exact cu
 ·rintro ⟨⟩ _ sl_ H_ hp_ hq_
  refine aS _ hp_ hq_ ?_
  rcases aj hF with⟨hc_7,hF⟩|⟨hc_7,hF⟩
  ·refine aC rfl hc_7 (ai (aa (vS withv_3) (aa (vS withv_3) (af ?_))))
   obtain rfl:=ae hF
   exact ay (qz (.inr rfl) [(vS withv_3)] _ [0] [au 0] ⟨rfl,trivial⟩ (.cons (fB rfl rfl) (.nil)) (by kernel_rfl) ⟨(by kernel_rfl),trivial⟩ (by decide) (by kernel_rfl))
  ·refine aA rfl hc_7 (ax (ai (aa (.ref (au 0) 0 0) (aa (vS t_2) (iX un9 rfl wz ?_)))))
   obtain ⟨r_8,hr_9,hF⟩:=bind_some hF
   refine aZ 0 [0] il ft (dA hr_9) rfl Ca rfl (by kernel_rfl) (by kernel_rfl) (by kernel_rfl) (by kernel_rfl) (by kernel_rfl) (by kernel_rfl) (by kernel_rfl) (by decide) (by kernel_rfl) wz (vI r_8.1) (by kernel_rfl) ([((au 0),some (.cells 2 [(vL eI r_8.2.L),(vI r_8.2.f_at)]))]:Hp) (by kernel_rfl) (aa (vI r_8.1) (af (ai (aa (vS withv_3) (aa (.ref (au 0) 0 0) (aa (vS withv_3) (iX un9 rfl wz ?_)))))))
   obtain ⟨r_11,hr_12,hF⟩:=bind_some hF
   refine aZ 0 [0] il ft (dA hr_12) rfl Ca rfl (by kernel_rfl) (by kernel_rfl) (by kernel_rfl) (by kernel_rfl) (by kernel_rfl) (by kernel_rfl) (by kernel_rfl) (by decide) (by kernel_rfl) wz (vI r_11.1) (by kernel_rfl) ([((au 0),some (.cells 2 [(vL eI r_11.2.L),(vI r_11.2.f_at)]))]:Hp) (by kernel_rfl) ?_
   obtain ⟨b_14,hy_15,hF⟩:=bind_some hF
   refine qK un9 rfl rfl hy_15 wz (aa (.d (.int .u8 (b_14.toNat:Int))) (af (ak (ai (aa (.ref (au 0) 0 0) ?_)))))
   obtain ⟨r_16,hr_17,hF⟩:=bind_some hF
   refine aZ 0 [0] il ft (dA hr_17) rfl Ca rfl (by kernel_rfl) (by kernel_rfl) (by kernel_rfl) (by kernel_rfl) (by kernel_rfl) (by kernel_rfl) (by kernel_rfl) (by decide) (by kernel_rfl) wz (vI r_16.1) (by kernel_rfl) ([((au 0),some (.cells 2 [(vL eI r_16.2.L),(vI r_16.2.f_at)]))]:Hp) (by kernel_rfl) (af (aR (ai (aa (vB (r_16.1==0)) (aa (vB (r_16.1==0)) (af ?_))))))
   rcases aj hF with⟨hc_19,hF⟩|⟨hc_19,hF⟩
   ·refine aC rfl hc_19 (ak (bJ (aa (vS t_2) (aa (vI r_8.1) ?_))))
    obtain ⟨y_20,hy_21,hF⟩:=bind_some hF
    refine ib un9 rfl rfl hy_21 wz (aa (.d (.int .u8 (b_14.toNat:Int))) (yC un5 un21 rfl wz (FQ un21 un9 rfl wz ?_)))
    obtain ⟨s_22,hz_23,hF⟩:=bind_some hF
    refine kr rfl rfl hz_23 wz (aa (vS t_2) (aa (vI r_8.1) (aa (vI (w64 (r_8.1+1))) ?_)))
    obtain ⟨y_24,hy_25,hF⟩:=bind_some hF
    refine jh un9 rfl rfl hy_25 wz ?_
    obtain ⟨s_26,hz_27,hF⟩:=bind_some hF
    refine kr rfl rfl hz_27 wz (aa (vS s_26) (af ?_))
    obtain rfl:=ae hF
    exact ay (qz (.inr rfl) [(vS s_26)] _ [0] [au 0] ⟨rfl,trivial⟩ (.cons (fB rfl rfl) (.nil)) (by kernel_rfl) ⟨(by kernel_rfl),trivial⟩ (by decide) (by kernel_rfl))
   ·refine aA rfl hc_19 (ai (aa (vB (r_16.1==1)) (aa (vB (r_16.1==1)) (af ?_))))
    rcases aj hF with⟨hc_28,hF⟩|⟨hc_28,hF⟩
    ·refine aC rfl hc_28 (ak (bJ (aa (vS t_2) (aa (vI r_8.1) ?_))))
     obtain ⟨y_29,hy_30,hF⟩:=bind_some hF
     refine ib un9 rfl rfl hy_30 wz (aa (.d (.int .u8 (b_14.toNat:Int))) (yC un5 un21 rfl wz (FQ un21 un9 rfl wz ?_)))
     obtain ⟨s_31,hz_32,hF⟩:=bind_some hF
     refine kr rfl rfl hz_32 wz (aa (vS t_2) (aa (vI r_8.1) ?_))
     obtain ⟨y_33,hy_34,hF⟩:=bind_some hF
     refine jh un9 rfl rfl hy_34 wz ?_
     obtain ⟨s_35,hz_36,hF⟩:=bind_some hF
     refine kr rfl rfl hz_36 wz (aa (vS s_35) (af (aS (H0:=([((au 0),some (.cells 2 [(vL eI r_16.2.L),(vI r_16.2.f_at)]))]:Hp)) ([(6,(vS s_35))]:SL_) (by kernel_rfl) (Bq (by kernel_rfl)) ?_)))
     obtain rfl:=ae hF
     exact ay (qz (.inr rfl) [(vS s_35)] _ [0] [au 0] ⟨rfl,trivial⟩ (.cons (fB rfl rfl) (.nil)) (by kernel_rfl) ⟨(by kernel_rfl),trivial⟩ (by decide) (by kernel_rfl))
    ·refine aA rfl hc_28 (ax (ak (bJ (aa (vS t_2) (aa (vI r_8.1) ?_)))))
     obtain ⟨y_37,hy_38,hF⟩:=bind_some hF
     refine ib un9 rfl rfl hy_38 wz (aa (vS t_2) (aa (vI r_8.1) (aa (vI (w64 (r_8.1+1))) ?_)))
     obtain ⟨y_39,hy_40,hF⟩:=bind_some hF
     refine jh un9 rfl rfl hy_40 wz ?_
     obtain ⟨s_41,hz_42,hF⟩:=bind_some hF
     refine kr rfl rfl hz_42 wz (aa (vS s_41) (af ?_))
     obtain rfl:=ae hF
     exact ay (qz (.inr rfl) [(vS s_41)] _ [0] [au 0] ⟨rfl,trivial⟩ (.cons (fB rfl rfl) (.nil)) (by kernel_rfl) ⟨(by kernel_rfl),trivial⟩ (by decide) (by kernel_rfl))
theorem o7 {s_1:Stream} {r:ByteArray×Stream} (hF:fo s_1=some r) :
  FnM Tryz.prog 5 [(.ref (au 0) 0 0)] [(.cells 2 [(vL eI s_1.L),(vI s_1.f_at)])] (vS r.1) [some (.cells 2 [(vL eI r.2.L),(vI r.2.f_at)])]:=by
 refine FnM.of_wH ⟨Tryz.prog,17,[],[]⟩ rfl Tryz.func5 rfl rfl (lb_ rfl) (by kernel_rfl) ?_
 unfold fo at hF
 refine ai (aa (vS (⟨#[]⟩:ByteArray)) (af (ai (aa (.ref (au 0) 0 0) ?_))))
 obtain ⟨r_2,hr_3,hF⟩:=bind_some hF
 refine aZ 0 [0] il ft (jO hr_3) rfl hb13 rfl (by kernel_rfl) (by kernel_rfl) (by kernel_rfl) (by kernel_rfl) (by kernel_rfl) (by kernel_rfl) (by kernel_rfl) (by decide) (by kernel_rfl) wz (.d (.agg (Layout.enc r_2.1))) (by kernel_rfl) ([((au 0),some (.cells 2 [(vL eI r_2.2.L),(vI r_2.2.f_at)]))]:Hp) (by kernel_rfl) ?_
 obtain ⟨r_5,hr_6,hF⟩:=bind_some hF
 refine aI (nH hr_6) rfl hb8 rfl rfl rfl rfl wz (aa (vS r_5) (af (ak (ai (aa (.ref (au 0) 0 0) (gu (([0,0,1,2]:List Int).map eI) iq tF rfl rfl rfl rfl rfl wz ?_))))))
 obtain ⟨r_7,hr_8,hF⟩:=bind_some hF
 refine aZ 0 [0] il ft (eu hr_8) rfl ET rfl (by kernel_rfl) (by kernel_rfl) (by kernel_rfl) (by kernel_rfl) (by kernel_rfl) (by kernel_rfl) (by kernel_rfl) (by decide) (by kernel_rfl) wz (vI r_7.1) (by kernel_rfl) ([((au 0),some (.cells 2 [(vL eI r_7.2.L),(vI r_7.2.f_at)]))]:Hp) (by kernel_rfl) (aa (vI 0) (af ?_))
 obtain ⟨o_18,hj_19,hF⟩:=bind_some hF
 obtain ⟨hn_14,hj_19⟩:=bH hj_19
 refine fO (λ(s_15:ByteArray×(List Int)×Int)=>[(3,(vS s_15.1))]) (λ(s_15:ByteArray×(List Int)×Int)=>[((au 0),some (.cells 2 [(vL eI s_15.2.1),(vI s_15.2.2)]))]) (λ(k_10:Nat)=>(λ(s_15:ByteArray×(List Int)×Int)=>[(0,(.ref (au 0) 0 0)),(3,(vS s_15.1)),(9,(vI r_7.1)),(10,(vI (k_10:Int)))])) (λk x s=>dY k x s) o_18 (List.range (r_7.1).toNat) (r_5,r_7.2.L,r_7.2.f_at) hj_19 rfl (aK rfl) ?_ ?_
 ·rintro ⟨k_10,l_11,s_15⟩ ⟨hL_17,hD_13⟩
  dsimp only at hL_17 hD_13
  cases l_11 with
  | nil =>
   obtain rfl:=ae hL_17
   refine ai (aa (vB (decide ((k_10:Int)<r_7.1))) (af ?_))
   refine ak (aA rfl (AP hD_13) (bE ?_))
   exact bn (s_15) rfl rfl (aK rfl)
  | cons x_12 l_11 =>
   obtain ⟨c_,hc_16,hL_17⟩:=bind_some hL_17
   refine ai (aa (vB (decide ((k_10:Int)<r_7.1))) (af ?_))
   refine ak (aC rfl (yH hD_13) (ax ?_))
   unfold dY at hc_16
   refine ak (aR (av (aa (.ref (au 0) 0 0) (aa (vS s_15.1) ?_))))
   obtain ⟨r_20,hr_21,hc_16⟩:=bind_some hc_16
   refine aZ 0 [0] il ft (qM hr_21) rfl hb21 rfl (by kernel_rfl) (by kernel_rfl) (by kernel_rfl) (by kernel_rfl) (by kernel_rfl) (by kernel_rfl) (by kernel_rfl) (by decide) (by kernel_rfl) wz (vS r_20.1) (by kernel_rfl) ([((au 0),some (.cells 2 [(vL eI r_20.2.L),(vI r_20.2.f_at)]))]:Hp) (by kernel_rfl) (aa (vS r_20.1) (af (av (gW (Ae hD_13 hn_14) wz rfl (aa (vI ((k_10+1:Nat):Int)) (af ?_))))))
   obtain rfl:=ae hc_16
   exact bD (k_10+1,l_11,(r_20.1,r_20.2.L,r_20.2.f_at)) ⟨hL_17,bv hD_13⟩ (ls_ _) rfl (aK rfl)
 ·rintro s_15 ho_ sl_ H_ hp_ hq_
  subst ho_
  refine aS _ hp_ hq_ (ai (aa (vS s_15.1) (aa (vS s_15.1) (af ?_))))
  obtain rfl:=ae hF
  exact ay (qz (.inr rfl) [(vS s_15.1)] _ [0] [au 0] ⟨rfl,trivial⟩ (.cons (fB rfl rfl) (.nil)) (by kernel_rfl) ⟨(by kernel_rfl),trivial⟩ (by decide) (by kernel_rfl))
theorem ug {s_1:ByteArray} {r:Bool} (hF:ni s_1=some r) :
  FnM Tryz.prog 44 [(vS s_1)] [] (vB r) []:=by
 refine FnM.of_wH ⟨Tryz.prog,48,[],[]⟩ rfl Tryz.func44 rfl rfl (lb_ rfl) (by kernel_rfl) ?_
 unfold ni at hF
 refine ai (aa (vB false) (af (ak (ai (aa (vI 0) (af ?_))))))
 obtain ⟨o_10,hj_11,hF⟩:=bind_some hF
 obtain ⟨nq_33,hj_11⟩:=gU hj_11
 refine kC (λ(s_7:Int)=>[(0,(vS s_1))]) (λ(s_7:Int)=>[]) (λ(k_2:Nat)=>(λ(s_7:Int)=>[(0,(vS s_1)),(3,(vI s_7))])) (λs=>iO s_1 s) o_10 nq_33 0 hj_11 rfl (aK rfl) ?_ ?_
 ·rintro ⟨k_2,s_7⟩ hL_9
  dsimp only at hL_9
  cases k_2 with
  | zero=>cases hL_9
  | succ k_2 =>
   obtain ⟨c_,hc_8,hL_9⟩:=bind_some hL_9
   unfold iO at hc_8
   refine ak (ai (aa (vI s_7) (aa (vS s_1) (iX un9 rfl wz (aa (vB (decide (s_7<(s_1.size:Int)))) (af ?_))))))
   rcases aj hc_8 with⟨hc_12,hc_8⟩|⟨hc_12,hc_8⟩
   ·refine aC rfl hc_12 (ax (ak (aR (ai (aa (vS s_1) (aa (vI s_7) ?_))))))
    obtain ⟨b_13,hy_14,hc_8⟩:=bind_some hc_8
    refine qK un9 rfl rfl hy_14 wz (aa (.d (.int .u8 (b_13.toNat:Int))) (af (ak ?_)))
    obtain ⟨v_15,h_16,hc_8⟩:=bind_some hc_8
    refine aU [(0,(vS s_1)),(3,(vI s_7)),(40,(vB v_15))] [] ?_ ?_
    ·refine av (aa (.d (.int .u8 (b_13.toNat:Int))) (aa (vB (decide ((b_13.toNat:Int)>=97))) ?_))
     rcases aj h_16 with⟨hc_17,h_16⟩|⟨hc_17,h_16⟩
     ·refine aD rfl hc_17 wz (aH (.d (.int .u8 (b_13.toNat:Int))) wa rfl (aH (vB (decide ((b_13.toNat:Int)<=122))) wa rfl (aa (vB (decide ((b_13.toNat:Int)<=122))) ?_)))
      rcases aj h_16 with⟨hc_18,h_16⟩|⟨hc_18,h_16⟩
      ·refine aD rfl hc_18 wz (ah (ah (ah (dC (wn rfl rfl) (dC (wn rfl rfl) (dC (wn rfl rfl) (dC (wn rfl rfl) (dC (wn rfl rfl) (dC (wn rfl rfl) (dC (wn rfl rfl) (dC (wn rfl rfl) (dC (wn rfl rfl) (dC (wn rfl rfl) (dC (wn rfl rfl) (dC (wn rfl rfl) (dC (wn rfl rfl) (dC (wn rfl rfl) (ah (aa (vB true) (aa (vB false) (af ?_)))))))))))))))))))))
       obtain rfl:=ae h_16
       exact cu
      ·refine aD rfl hc_18 wz (aH (vI s_7) wa rfl (aH (vB (decide (s_7>0))) wa rfl ?_))
       rcases aj h_16 with⟨hc_19,h_16⟩|⟨hc_19,h_16⟩
       ·refine aD rfl hc_19 wa (aH (.d (.int .u8 (b_13.toNat:Int))) wa rfl (aH (vB (decide ((b_13.toNat:Int)>=48))) wa rfl ?_))
        rcases aj h_16 with⟨hc_20,h_16⟩|⟨hc_20,h_16⟩
        ·refine aD rfl hc_20 wa (aH (.d (.int .u8 (b_13.toNat:Int))) wa rfl (aH (vB (decide ((b_13.toNat:Int)<=57))) wa rfl (aH (vB (decide ((b_13.toNat:Int)<=57))) wa rfl ?_)))
         rcases aj h_16 with⟨hc_21,h_16⟩|⟨hc_21,h_16⟩
         ·refine aD rfl hc_21 wa (ah (ah (aH (vB true) wa rfl (aH (vB true) wa rfl (ah (ah (aH (vB true) wa rfl (aH (vB true) wa rfl (aa (vB true) (aa (vB false) (af ?_)))))))))))
          obtain rfl:=ae h_16
          exact cu
         ·refine aD rfl hc_21 wa (aH (.d (.int .u8 (b_13.toNat:Int))) wa rfl (aH (vB ((b_13.toNat:Int)==45)) wa rfl (aH (vB ((b_13.toNat:Int)==45)) wa rfl ?_)))
          rcases aj h_16 with⟨hc_22,h_16⟩|⟨hc_22,h_16⟩
          ·refine aD rfl hc_22 wa (ah (ah (aH (vB true) wa rfl (aH (vB true) wa rfl (aa (vB true) (aa (vB false) (af ?_)))))))
           obtain rfl:=ae h_16
           exact cu
          ·refine aD rfl hc_22 wa (aH (.d (.int .u8 (b_13.toNat:Int))) wa rfl (aH (vB ((b_13.toNat:Int)==95)) wa rfl (aH (vB ((b_13.toNat:Int)==95)) wa rfl (aH (vB ((b_13.toNat:Int)==95)) wa rfl (aa (vB ((b_13.toNat:Int)==95)) (aa (vB (!((b_13.toNat:Int)==95))) (af ?_)))))))
           obtain rfl:=ae h_16
           exact cu
        ·refine aD rfl hc_20 wa (ah (ah (aH (vB false) wa rfl (aH (vB false) wa rfl (aH (.d (.int .u8 (b_13.toNat:Int))) wa rfl (aH (vB ((b_13.toNat:Int)==45)) wa rfl (aH (vB ((b_13.toNat:Int)==45)) wa rfl ?_)))))))
         rcases aj h_16 with⟨hc_23,h_16⟩|⟨hc_23,h_16⟩
         ·refine aD rfl hc_23 wa (ah (ah (aH (vB true) wa rfl (aH (vB true) wa rfl (aa (vB true) (aa (vB false) (af ?_)))))))
          obtain rfl:=ae h_16
          exact cu
         ·refine aD rfl hc_23 wa (aH (.d (.int .u8 (b_13.toNat:Int))) wa rfl (aH (vB ((b_13.toNat:Int)==95)) wa rfl (aH (vB ((b_13.toNat:Int)==95)) wa rfl (aH (vB ((b_13.toNat:Int)==95)) wa rfl (aa (vB ((b_13.toNat:Int)==95)) (aa (vB (!((b_13.toNat:Int)==95))) (af ?_)))))))
          obtain rfl:=ae h_16
          exact cu
       ·refine aD rfl hc_19 wa (ah (ah (ah (dC (wn rfl rfl) (dC (wn rfl rfl) (ah (ah (dC (wn rfl rfl) (dC (wn rfl rfl) (ah (ah (dC (wn rfl rfl) (dC (wn rfl rfl) (ah (aH (vB false) wa rfl (aa (vB false) (aa (vB true) (af ?_))))))))))))))))))
        obtain rfl:=ae h_16
        exact cu
     ·refine aD rfl hc_17 wz (ah (ah (aa (vB false) (aa (vB false) (aH (vI s_7) wa rfl (aH (vB (decide (s_7>0))) wa rfl ?_))))))
      rcases aj h_16 with⟨hc_24,h_16⟩|⟨hc_24,h_16⟩
      ·refine aD rfl hc_24 wa (aH (.d (.int .u8 (b_13.toNat:Int))) wa rfl (aH (vB (decide ((b_13.toNat:Int)>=48))) wa rfl ?_))
       rcases aj h_16 with⟨hc_25,h_16⟩|⟨hc_25,h_16⟩
       ·refine aD rfl hc_25 wa (aH (.d (.int .u8 (b_13.toNat:Int))) wa rfl (aH (vB (decide ((b_13.toNat:Int)<=57))) wa rfl (aH (vB (decide ((b_13.toNat:Int)<=57))) wa rfl ?_)))
        rcases aj h_16 with⟨hc_26,h_16⟩|⟨hc_26,h_16⟩
        ·refine aD rfl hc_26 wa (ah (ah (aH (vB true) wa rfl (aH (vB true) wa rfl (ah (ah (aH (vB true) wa rfl (aH (vB true) wa rfl (aa (vB true) (aa (vB false) (af ?_)))))))))))
         obtain rfl:=ae h_16
         exact cu
        ·refine aD rfl hc_26 wa (aH (.d (.int .u8 (b_13.toNat:Int))) wa rfl (aH (vB ((b_13.toNat:Int)==45)) wa rfl (aH (vB ((b_13.toNat:Int)==45)) wa rfl ?_)))
         rcases aj h_16 with⟨hc_27,h_16⟩|⟨hc_27,h_16⟩
         ·refine aD rfl hc_27 wa (ah (ah (aH (vB true) wa rfl (aH (vB true) wa rfl (aa (vB true) (aa (vB false) (af ?_)))))))
          obtain rfl:=ae h_16
          exact cu
         ·refine aD rfl hc_27 wa (aH (.d (.int .u8 (b_13.toNat:Int))) wa rfl (aH (vB ((b_13.toNat:Int)==95)) wa rfl (aH (vB ((b_13.toNat:Int)==95)) wa rfl (aH (vB ((b_13.toNat:Int)==95)) wa rfl (aa (vB ((b_13.toNat:Int)==95)) (aa (vB (!((b_13.toNat:Int)==95))) (af ?_)))))))
          obtain rfl:=ae h_16
          exact cu
       ·refine aD rfl hc_25 wa (ah (ah (aH (vB false) wa rfl (aH (vB false) wa rfl (aH (.d (.int .u8 (b_13.toNat:Int))) wa rfl (aH (vB ((b_13.toNat:Int)==45)) wa rfl (aH (vB ((b_13.toNat:Int)==45)) wa rfl ?_)))))))
        rcases aj h_16 with⟨hc_28,h_16⟩|⟨hc_28,h_16⟩
        ·refine aD rfl hc_28 wa (ah (ah (aH (vB true) wa rfl (aH (vB true) wa rfl (aa (vB true) (aa (vB false) (af ?_)))))))
         obtain rfl:=ae h_16
         exact cu
        ·refine aD rfl hc_28 wa (aH (.d (.int .u8 (b_13.toNat:Int))) wa rfl (aH (vB ((b_13.toNat:Int)==95)) wa rfl (aH (vB ((b_13.toNat:Int)==95)) wa rfl (aH (vB ((b_13.toNat:Int)==95)) wa rfl (aa (vB ((b_13.toNat:Int)==95)) (aa (vB (!((b_13.toNat:Int)==95))) (af ?_)))))))
         obtain rfl:=ae h_16
         exact cu
      ·refine aD rfl hc_24 wa (ah (ah (ah (dC (wn rfl rfl) (dC (wn rfl rfl) (ah (ah (dC (wn rfl rfl) (dC (wn rfl rfl) (ah (ah (dC (wn rfl rfl) (dC (wn rfl rfl) (ah (aH (vB false) wa rfl (aa (vB false) (aa (vB true) (af ?_))))))))))))))))))
       obtain rfl:=ae h_16
       exact cu
    ·rintro ⟨⟩ _ sl_ H_ hp_ hq_
     refine aS _ hp_ hq_ ?_
     rcases aj hc_8 with⟨hc_29,hc_8⟩|⟨hc_29,hc_8⟩
     ·refine aC rfl hc_29 (ai (aa (vB false) (af ?_)))
      obtain rfl:=ae hc_8
      obtain rfl:=ae hL_9
      obtain rfl:=ae hF
      exact ay (aN [(vB false)] ⟨rfl,trivial⟩)
     ·refine aA rfl hc_29 (ax (av (aa (vI s_7) (aa (vI (w64 (s_7+1))) (aa (vI (w64 (s_7+1))) (af ?_))))))
      obtain rfl:=ae hc_8
      exact bD (k_2,(w64 (s_7+1))) hL_9 (ls_ _) rfl (aK rfl)
   ·refine aA rfl hc_12 (bE ?_)
    obtain rfl:=ae hc_8
    obtain rfl:=ae hL_9
    exact bn (s_7) rfl rfl (aK rfl)
 ·rintro s_7 ho_ sl_ H_ hp_ hq_
  subst ho_
  refine aS _ hp_ hq_ (ak ?_)
  obtain ⟨v_30,h_31,hF⟩:=bind_some hF
  refine aU [(2,(vB v_30))] [] ?_ ?_
  ·refine av (aa (vS s_1) (aa (vB (sNe s_1 (⟨#[]⟩:ByteArray))) ?_))
   rcases aj h_31 with⟨hc_32,h_31⟩|⟨hc_32,h_31⟩
   ·refine aD rfl hc_32 wz (aH (vS s_1) wa rfl (iX un9 rfl wa (aH (vB (decide ((s_1.size:Int)<=40))) wa rfl (aa (vB (decide ((s_1.size:Int)<=40))) (aa (vB (decide ((s_1.size:Int)<=40))) (af ?_))))))
    obtain rfl:=ae h_31
    exact cu
   ·refine aD rfl hc_32 wz (ah (ah (ah (aa (vB false) (aa (vB false) (af ?_))))))
    obtain rfl:=ae h_31
    exact cu
  ·rintro ⟨⟩ _ sl_ H_ hp_ hq_
   refine aS _ hp_ hq_ ?_
   obtain rfl:=ae hF
   exact ay (aN [(vB v_30)] ⟨rfl,trivial⟩)
theorem iy {n_1:Int} {low_2:Int} {high_3:Int} {r:Bool} (hF:fJ n_1 low_2 high_3=some r) :
  FnM Tryz.prog 48 [(vI n_1),(vI low_2),(vI high_3)] [] (vB r) []:=by
 refine FnM.of_wH ⟨Tryz.prog,15,[],[]⟩ rfl Tryz.func48 rfl rfl (lb_ rfl) (by kernel_rfl) ?_
 unfold fJ at hF
 refine ai (aa (vB false) (af (ak ?_)))
 obtain ⟨v_4,h_5,hF⟩:=bind_some hF
 refine aU [(6,(vB v_4))] [] ?_ ?_
 ·refine av (aa (vI n_1) (aa (vI low_2) (aa (vB (decide (n_1<low_2))) ?_)))
  rcases aj h_5 with⟨hc_6,h_5⟩|⟨hc_6,h_5⟩
  ·refine aD rfl hc_6 wz (ah (ah (ah (aa (vB true) (aa (vB true) (af ?_))))))
   obtain rfl:=ae h_5
   exact cu
  ·refine aD rfl hc_6 wz (aH (vI n_1) wa rfl (aH (vI high_3) wa rfl (aH (vB (decide (n_1>high_3))) wa rfl (aa (vB (decide (n_1>high_3))) (aa (vB (decide (n_1>high_3))) (af ?_))))))
   obtain rfl:=ae h_5
   exact cu
 ·rintro ⟨⟩ _ sl_ H_ hp_ hq_
  refine aS _ hp_ hq_ ?_
  obtain rfl:=ae hF
  exact ay (aN [(vB v_4)] ⟨rfl,trivial⟩)
theorem vN {n_1:Int} {r:Bool} (hF:jR n_1=some r) :
  FnM Tryz.prog 62 [(vI n_1)] [] (vB r) []:=by
 refine FnM.of_wH ⟨Tryz.prog,6,[],[]⟩ rfl Tryz.func62 rfl rfl (lb_ rfl) (by kernel_rfl) ?_
 unfold jR at hF
 refine ai (aa (vB false) (af (ai (aa (vI n_1) ?_))))
 obtain ⟨r_2,hr_3,hF⟩:=bind_some hF
 refine aI (iy hr_3) rfl hb48 rfl rfl rfl rfl wz (aa (vB (!r_2)) (aa (vB (!r_2)) (af ?_)))
 obtain rfl:=ae hF
 exact ay (aN [(vB (!r_2))] ⟨rfl,trivial⟩)
theorem qW {l_1:(List Int)} {r:Int} (hF:gK l_1=some r) :
  FnM Tryz.prog 45 [(vL eI l_1)] [] (vI r) []:=by
 refine FnM.of_wH ⟨Tryz.prog,15,[],[]⟩ rfl Tryz.func45 rfl rfl (lb_ rfl) (by kernel_rfl) ?_
 unfold gK at hF
 refine ai (aa (vI 0) (af (ak (ai (aa (vL eI l_1) (dH sO rfl wz (aa (vI 0) (af ?_))))))))
 obtain ⟨o_10,hj_11,hF⟩:=bind_some hF
 obtain ⟨hn_6,hj_11⟩:=bH hj_11
 refine fO (λ(s_7:Unit)=>[]) (λ(s_7:Unit)=>[]) (λ(k_2:Nat)=>(λ(s_7:Unit)=>[(5,(vL eI l_1)),(6,(vI (l_1.length:Int))),(7,(vI (k_2:Int)))])) (λk x s=>gP k x s) o_10 l_1 () hj_11 rfl (aK rfl) ?_ ?_
 ·rintro ⟨k_2,l_3,s_7⟩ ⟨hL_9,hD_5⟩
  dsimp only at hL_9 hD_5
  cases l_3 with
  | nil =>
   obtain rfl:=ae hL_9
   refine ai (aa (vB (decide ((k_2:Int)<(l_1.length:Int)))) (af ?_))
   refine ak (aA rfl (drop_nil hD_5) (bE ?_))
   exact bn (s_7) rfl rfl (aK rfl)
  | cons x_4 l_3 =>
   obtain ⟨c_,hc_8,hL_9⟩:=bind_some hL_9
   refine ai (aa (vB (decide ((k_2:Int)<(l_1.length:Int)))) (af ?_))
   refine ak (aC rfl (bN hD_5) (ax ?_))
   unfold gP at hc_8
   refine ak (aR (ai (eH iq rfl rfl (dz hD_5) rfl wz (bT sz3 ag3 rfl (vI x_4) rfl wz (aa (vI x_4) (af (ai (aa (vI x_4) ?_))))))))
   obtain ⟨r_12,hr_13,hc_8⟩:=bind_some hc_8
   refine aI (vN hr_13) rfl hb62 rfl rfl rfl rfl wz (aa (vB (!r_12)) (af ?_))
   rcases aj hc_8 with⟨hc_14,hc_8⟩|⟨hc_14,hc_8⟩
   ·refine aC rfl hc_14 (ai (aa (vI 1) (af ?_)))
    obtain rfl:=ae hc_8
    obtain rfl:=ae hL_9
    obtain rfl:=ae hF
    exact ay (aN [(vI 1)] ⟨rfl,trivial⟩)
   ·refine aA rfl hc_14 (ax (av (gW (bX hD_5 hn_6) wz rfl (aa (vI ((k_2+1:Nat):Int)) (af ?_)))))
    obtain rfl:=ae hc_8
    exact bD (k_2+1,l_3,()) ⟨hL_9,bv hD_5⟩ (ls_ _) rfl (aK rfl)
 ·rintro s_7 ho_ sl_ H_ hp_ hq_
  subst ho_
  refine aS _ hp_ hq_ (ai (aa (vI 0) (af ?_)))
  obtain rfl:=ae hF
  exact ay (aN [(vI 0)] ⟨rfl,trivial⟩)
theorem mP {r_1:Rect} {r:Int} (hF:fP r_1=some r) :
  FnM Tryz.prog 46 [(.d (.agg (Rect.enc r_1)))] [] (vI r) []:=by
 refine FnM.of_wH ⟨Tryz.prog,25,[],[]⟩ rfl Tryz.func46 rfl rfl (lb_ rfl) (by kernel_rfl) ?_
 unfold fP at hF
 refine ai (o9 0 (.inl rfl) (Rect.v r_1) rfl rfl wz (λn_2=>aa (vI 0) (af (ak (ak ?_)))))
 obtain ⟨v_3,h_4,hF⟩:=bind_some hF
 refine aU [(1,(.ref n_2 0 0)),(10,(vB v_3))] [(n_2,some (.cells 4 (Rect.v r_1)))] ?_ ?_
 ·refine av (aF kU rfl 0 rfl wz (aJ 0 0 il ft sz3 ag3 rfl rfl (vI r_1.X) rfl wz ?_))
  obtain ⟨r_5,hr_6,h_4⟩:=bind_some h_4
  refine aI (iy hr_6) rfl hb48 rfl rfl rfl rfl wz ?_
  rcases aj h_4 with⟨hc_7,h_4⟩|⟨hc_7,h_4⟩
  ·refine aD rfl hc_7 wz (ah (ah (ah (aa (vB true) (af ?_)))))
   obtain rfl:=ae h_4
   exact cu
  ·refine aD rfl hc_7 wz (aF jI rfl 1 rfl wa (aJ 0 0 il ft sz3 ag3 rfl rfl (vI r_1.Y) rfl wa ?_))
   obtain ⟨r_8,hr_9,h_4⟩:=bind_some h_4
   refine aI (iy hr_9) rfl hb48 rfl rfl rfl rfl wa (aa (vB r_8) (af ?_))
   obtain rfl:=ae h_4
   exact cu
 ·rintro ⟨⟩ _ sl_ H_ hp_ hq_
  refine aS _ hp_ hq_ ?_
  rcases aj hF with⟨hc_10,hF⟩|⟨hc_10,hF⟩
  ·refine aC rfl hc_10 (ai (aa (vI 1) (af ?_)))
   obtain rfl:=ae hF
   exact ay (aN [(vI 1)] ⟨rfl,trivial⟩)
  ·refine aA rfl hc_10 (ax (ak (ak ?_)))
   obtain ⟨v_11,h_12,hF⟩:=bind_some hF
   refine aU [(24,(vB v_11))] [(n_2,some (.cells 4 (Rect.v r_1)))] ?_ ?_
   ·refine av (aF oM rfl 2 rfl wz (aJ 0 0 il ft sz3 ag3 rfl rfl (vI r_1.W) rfl wz (aF kU rfl 0 rfl wz (aJ 0 0 il ft sz3 ag3 rfl rfl (vI r_1.X) rfl wz (aa (vI (w64 (100000-r_1.X))) ?_)))))
    obtain ⟨r_13,hr_14,h_12⟩:=bind_some h_12
    refine aI (iy hr_14) rfl hb48 rfl rfl rfl rfl wz ?_
    rcases aj h_12 with⟨hc_15,h_12⟩|⟨hc_15,h_12⟩
    ·refine aD rfl hc_15 wz (ah (ah (ah (ah (ah (ah (aa (vB true) (af ?_))))))))
     obtain rfl:=ae h_12
     exact cu
    ·refine aD rfl hc_15 wz (aF mg rfl 3 rfl wa (aJ 0 0 il ft sz3 ag3 rfl rfl (vI r_1.H) rfl wa (aF jI rfl 1 rfl wa (aJ 0 0 il ft sz3 ag3 rfl rfl (vI r_1.Y) rfl wa (aH (vI (w64 (100000-r_1.Y))) wa rfl ?_)))))
     obtain ⟨r_16,hr_17,h_12⟩:=bind_some h_12
     refine aI (iy hr_17) rfl hb48 rfl rfl rfl rfl wa (aa (vB r_16) (af ?_))
     obtain rfl:=ae h_12
     exact cu
   ·rintro ⟨⟩ _ sl_ H_ hp_ hq_
    refine aS _ hp_ hq_ ?_
    rcases aj hF with⟨hc_18,hF⟩|⟨hc_18,hF⟩
    ·refine aC rfl hc_18 (ai (aa (vI 1) (af ?_)))
     obtain rfl:=ae hF
     exact ay (aN [(vI 1)] ⟨rfl,trivial⟩)
    ·refine aA rfl hc_18 (ax (ai (aa (vI 0) (af ?_))))
     obtain rfl:=ae hF
     exact ay (aN [(vI 0)] ⟨rfl,trivial⟩)
theorem vW {r_1:Rect} {wv_2:Int} {h_3:Int} {r:Bool} (hF:jK r_1 wv_2 h_3=some r) :
  FnM Tryz.prog 47 [(.d (.agg (Rect.enc r_1))),(vI wv_2),(vI h_3)] [] (vB r) []:=by
 refine FnM.of_wH ⟨Tryz.prog,33,[],[]⟩ rfl Tryz.func47 rfl rfl (lb_ rfl) (by kernel_rfl) ?_
 unfold jK at hF
 refine ai (o9 0 (.inl rfl) (Rect.v r_1) rfl rfl wz (λn_4=>aa (vB false) (af (ak ?_))))
 obtain ⟨v_5,h_6,hF⟩:=bind_some hF
 refine aU [(6,(vB v_5))] [(n_4,some (.cells 4 (Rect.v r_1)))] ?_ ?_
 ·refine av (aF kU rfl 0 rfl wz (aJ 0 0 il ft sz3 ag3 rfl rfl (vI r_1.X) rfl wz (aa (vB (decide (r_1.X>=0))) ?_)))
  rcases aj h_6 with⟨hc_7,h_6⟩|⟨hc_7,h_6⟩
  ·refine aD rfl hc_7 wz (aF jI rfl 1 rfl wa (aJ 0 0 il ft sz3 ag3 rfl rfl (vI r_1.Y) rfl wa (aH (vB (decide (r_1.Y>=0))) wa rfl (aa (vB (decide (r_1.Y>=0))) ?_))))
   rcases aj h_6 with⟨hc_8,h_6⟩|⟨hc_8,h_6⟩
   ·refine aD rfl hc_8 wz (aF kU rfl 0 rfl wa (aJ 0 0 il ft sz3 ag3 rfl rfl (vI r_1.X) rfl wa (aF oM rfl 2 rfl wa (aJ 0 0 il ft sz3 ag3 rfl rfl (vI r_1.W) rfl wa (aH (vI (w64 (r_1.X+r_1.W))) wa rfl (aH (vI wv_2) wa rfl (aH (vB (decide ((w64 (r_1.X+r_1.W))<=wv_2))) wa rfl (aa (vB (decide ((w64 (r_1.X+r_1.W))<=wv_2))) ?_))))))))
    rcases aj h_6 with⟨hc_9,h_6⟩|⟨hc_9,h_6⟩
    ·refine aD rfl hc_9 wz (aF jI rfl 1 rfl wa (aJ 0 0 il ft sz3 ag3 rfl rfl (vI r_1.Y) rfl wa (aF mg rfl 3 rfl wa (aJ 0 0 il ft sz3 ag3 rfl rfl (vI r_1.H) rfl wa (aH (vI (w64 (r_1.Y+r_1.H))) wa rfl (aH (vI h_3) wa rfl (aH (vB (decide ((w64 (r_1.Y+r_1.H))<=h_3))) wa rfl (aa (vB (decide ((w64 (r_1.Y+r_1.H))<=h_3))) (aa (vB (decide ((w64 (r_1.Y+r_1.H))<=h_3))) (af ?_))))))))))
     obtain rfl:=ae h_6
     exact cu
    ·refine aD rfl hc_9 wz (ah (ah (ah (ah (ah (ah (ah (aa (vB false) (aa (vB false) (af ?_))))))))))
     obtain rfl:=ae h_6
     exact cu
   ·refine aD rfl hc_8 wz (ah (ah (ah (ah (ah (ah (ah (aa (vB false) (aa (vB false) (ah (ah (ah (ah (ah (ah (ah (aa (vB false) (aa (vB false) (af ?_)))))))))))))))))))
    obtain rfl:=ae h_6
    exact cu
  ·refine aD rfl hc_7 wz (ah (ah (ah (aa (vB false) (aa (vB false) (ah (ah (ah (ah (ah (ah (ah (aa (vB false) (aa (vB false) (ah (ah (ah (ah (ah (ah (ah (aa (vB false) (aa (vB false) ?_)))))))))))))))))))))))
   refine af ?_
   obtain rfl:=ae h_6
   exact cu
 ·rintro ⟨⟩ _ sl_ H_ hp_ hq_
  refine aS _ hp_ hq_ ?_
  obtain rfl:=ae hF
  exact ay (aN [(vB v_5)] ⟨rfl,trivial⟩)
theorem ll {l_1:Layout} {r:Int} (hF:dI l_1=some r) :
  FnM Tryz.prog 22 [(.d (.agg (Layout.enc l_1)))] [] (vI r) []:=by
 refine FnM.of_wH ⟨Tryz.prog,68,[],[]⟩ rfl Tryz.func22 rfl rfl (lb_ rfl) (by kernel_rfl) ?_
 unfold dI at hF
 refine ai (o9 0 (.inl rfl) (Layout.v l_1) rfl rfl wz (λn_2=>aa (vI 0) (af (ak (ai (aF pY rfl 0 rfl wz (aJ 0 0 il ft sz9 ag9 rfl rfl (vS l_1.Key) rfl wz ?_)))))))
 obtain ⟨r_3,hr_4,hF⟩:=bind_some hF
 refine aI (ug hr_4) rfl hb44 rfl rfl rfl rfl wz (aa (vB (!r_3)) (af ?_))
 rcases aj hF with⟨hc_5,hF⟩|⟨hc_5,hF⟩
 ·refine aC rfl hc_5 (ai (aa (vI 5) (af ?_)))
  obtain rfl:=ae hF
  exact ay (aN [(vI 5)] ⟨rfl,trivial⟩)
 ·refine aA rfl hc_5 (ax (ak (ai (aF mq rfl 1 rfl wz (aJ 0 0 il ft sz3 ag3 rfl rfl (vI l_1.W) rfl wz (aF lC rfl 2 rfl wz (aJ 0 0 il ft sz3 ag3 rfl rfl (vI l_1.H) rfl wz (gu (([l_1.W,l_1.H]:List Int).map eI) iq tF rfl rfl rfl rfl rfl wz ?_))))))))
  obtain ⟨r_6,hr_7,hF⟩:=bind_some hF
  refine aI (qW hr_7) rfl hb45 rfl rfl rfl rfl wz (aa (vI r_6) (af (ai (aa (vI r_6) (aa (vB (r_6 != 0)) (af ?_))))))
  rcases aj hF with⟨hc_8,hF⟩|⟨hc_8,hF⟩
  ·refine aC rfl hc_8 (ai (aa (vI r_6) (aa (vI r_6) (af ?_))))
   obtain rfl:=ae hF
   exact ay (aN [(vI r_6)] ⟨rfl,trivial⟩)
  ·refine aA rfl hc_8 (ax (ak (ai (aF iQ rfl 3 rfl wz (aJ 0 0 il ft qc uI rfl rfl (vL Zone.enc l_1.Zones) rfl wz (dH uV rfl wz (aa (vB (decide ((l_1.Zones.length:Int)>30))) (af ?_))))))))
   rcases aj hF with⟨hc_9,hF⟩|⟨hc_9,hF⟩
   ·refine aC rfl hc_9 (ai (aa (vI 2) (af ?_)))
    obtain rfl:=ae hF
    exact ay (aN [(vI 2)] ⟨rfl,trivial⟩)
   ·refine aA rfl hc_9 (ax (ak (ai (aF iQ rfl 3 rfl wz (aJ 0 0 il ft qc uI rfl rfl (vL Zone.enc l_1.Zones) rfl wz (dH uV rfl wz (aa (vI 0) (af ?_))))))))
    obtain ⟨o_18,hj_19,hF⟩:=bind_some hF
    obtain ⟨hn_14,hj_19⟩:=bH hj_19
    refine fO (λ(s_15:Unit)=>[]) (λ(s_15:Unit)=>[(n_2,some (.cells 4 (Layout.v l_1)))]) (λ(k_10:Nat)=>(λ(s_15:Unit)=>[(1,(.ref n_2 0 0)),(25,(vL Zone.enc l_1.Zones)),(26,(vI (l_1.Zones.length:Int))),(27,(vI (k_10:Int)))])) (λk x s=>eG l_1 k x s) o_18 l_1.Zones () hj_19 rfl (aK rfl) ?_ ?_
    ·rintro ⟨k_10,l_11,s_15⟩ ⟨hL_17,hD_13⟩
     dsimp only at hL_17 hD_13
     cases l_11 with
     | nil =>
      obtain rfl:=ae hL_17
      refine ai (aa (vB (decide ((k_10:Int)<(l_1.Zones.length:Int)))) (af ?_))
      refine ak (aA rfl (drop_nil hD_13) (bE ?_))
      exact bn (s_15) rfl rfl (aK rfl)
     | cons x_12 l_11 =>
      obtain ⟨c_,hc_16,hL_17⟩:=bind_some hL_17
      refine ai (aa (vB (decide ((k_10:Int)<(l_1.Zones.length:Int)))) (af ?_))
      refine ak (aC rfl (bN hD_13) (ax ?_))
      unfold eG at hc_16
      refine ak (aR (ai (aa (vI (k_10:Int)) (eH xA rfl rfl (dz hD_13) rfl wz (bT pO ES rfl (.d (.agg (Zone.enc x_12))) rfl wz (dM 0 (.inl rfl) z49 rfl wz (λn_20=>aa (vI (k_10:Int)) (bR 0 il ft 1 pO rfl rfl (Zone.v x_12) rfl wz (af (ak (ai (aF qE rfl 0 rfl wz (aJ 0 1 il ft sz9 ag9 rfl rfl (vS x_12.Key) rfl wz ?_)))))))))))))
      obtain ⟨r_21,hr_22,hc_16⟩:=bind_some hc_16
      refine aI (ug hr_22) rfl hb44 rfl rfl rfl rfl wz (aa (vB (!r_21)) (af ?_))
      rcases aj hc_16 with⟨hc_23,hc_16⟩|⟨hc_23,hc_16⟩
      ·refine aC rfl hc_23 (ai (aa (vI 5) (af ?_)))
       obtain rfl:=ae hc_16
       obtain rfl:=ae hL_17
       obtain rfl:=ae hF
       exact ay (aN [(vI 5)] ⟨rfl,trivial⟩)
      ·refine aA rfl hc_23 (ax (ak (ai (aF jJ rfl 1 rfl wz (aJ 0 1 il ft nC xx rfl rfl (.d (.agg (Rect.enc x_12.On))) rfl wz ?_)))))
       obtain ⟨r_24,hr_25,hc_16⟩:=bind_some hc_16
       refine aI (mP hr_25) rfl hb46 rfl rfl rfl rfl wz (aa (vI r_24) (af (ai (aa (vI r_24) (aa (vB (r_24 != 0)) (af ?_))))))
       rcases aj hc_16 with⟨hc_26,hc_16⟩|⟨hc_26,hc_16⟩
       ·refine aC rfl hc_26 (ai (aa (vI r_24) (aa (vI r_24) (af ?_))))
        obtain rfl:=ae hc_16
        obtain rfl:=ae hL_17
        obtain rfl:=ae hF
        exact ay (aN [(vI r_24)] ⟨rfl,trivial⟩)
       ·refine aA rfl hc_26 (ax (ak (ai (aF jJ rfl 1 rfl wz (aJ 0 1 il ft nC xx rfl rfl (.d (.agg (Rect.enc x_12.On))) rfl wz (aF mq rfl 1 rfl wz (aJ 0 0 il ft sz3 ag3 rfl rfl (vI l_1.W) rfl wz (aF lC rfl 2 rfl wz (aJ 0 0 il ft sz3 ag3 rfl rfl (vI l_1.H) rfl wz ?_)))))))))
        obtain ⟨r_27,hr_28,hc_16⟩:=bind_some hc_16
        refine aI (vW hr_28) rfl hb47 rfl rfl rfl rfl wz (aa (vB (!r_27)) (af ?_))
        rcases aj hc_16 with⟨hc_29,hc_16⟩|⟨hc_29,hc_16⟩
        ·refine aC rfl hc_29 (ai (aa (vI 3) (af ?_)))
         obtain rfl:=ae hc_16
         obtain rfl:=ae hL_17
         obtain rfl:=ae hF
         exact ay (aN [(vI 3)] ⟨rfl,trivial⟩)
        ·refine aA rfl hc_29 (ax (ak (ai (aF BA rfl 5 rfl wz (aJ 0 1 il ft sz3 ag3 rfl rfl (vI x_12.Order) rfl wz ?_)))))
         obtain ⟨r_30,hr_31,hc_16⟩:=bind_some hc_16
         refine aI (iy hr_31) rfl hb48 rfl rfl rfl rfl wz (af ?_)
         rcases aj hc_16 with⟨hc_32,hc_16⟩|⟨hc_32,hc_16⟩
         ·refine aC rfl hc_32 (ai (aa (vI 1) (af ?_)))
          obtain rfl:=ae hc_16
          obtain rfl:=ae hL_17
          obtain rfl:=ae hF
          exact ay (aN [(vI 1)] ⟨rfl,trivial⟩)
         ·refine aA rfl hc_32 (ax (ak ?_))
          obtain ⟨v_33,h_34,hc_16⟩:=bind_some hc_16
          refine aU [(1,(.ref n_2 0 0)),(25,(vL Zone.enc l_1.Zones)),(26,(vI (l_1.Zones.length:Int))),(27,(vI (k_10:Int))),(66,(vB v_33))] [(n_2,some (.cells 4 (Layout.v l_1))),(n_20,some (.cells 6 (Zone.v x_12)))] ?_ ?_
          ·refine bJ (aa (vI (k_10:Int)) (aa (vB (decide ((k_10:Int)>0))) ?_))
           rcases aj h_34 with⟨hc_35,h_34⟩|⟨hc_35,h_34⟩
           ·refine aD rfl hc_35 wz (aF qE rfl 0 rfl wa (aJ 4 1 (.inr (by kernel_rfl)) (λ_ _ ag=>trivial) sz9 ag9 rfl rfl (vS x_12.Key) rfl wa (aF iQ rfl 3 rfl wa (aJ 6 0 (.inr (by kernel_rfl)) (λ_ _ ag=>⟨.inl ⟨rfl,rfl⟩,trivial⟩) qc uI rfl rfl (vL Zone.enc l_1.Zones) rfl wa (aH (vI (k_10:Int)) wa rfl (aH (vI (w64 ((k_10:Int)-1))) wa rfl ?_))))))
            obtain ⟨y_36,hy_37,h_34⟩:=bind_some h_34
            refine eH xA rfl rfl hy_37 rfl wa (AJ qE rfl (Zone.enc y_36) rfl rfl wa (bT sz9 ag9 rfl (vS y_36.Key) rfl wa (aH (vB (sLe x_12.Key y_36.Key)) wa rfl (aa (vB (sLe x_12.Key y_36.Key)) (af ?_)))))
            obtain rfl:=ae h_34
            exact cu
           ·refine aD rfl hc_35 wz (ah (ah (ah (ah (ah (ah (ah (ah (ah (ah (aa (vB false) (af ?_))))))))))))
            obtain rfl:=ae h_34
            exact cu
          ·rintro ⟨⟩ _ sl_ H_ hp_ hq_
           refine aS _ hp_ hq_ ?_
           rcases aj hc_16 with⟨hc_38,hc_16⟩|⟨hc_38,hc_16⟩
           ·refine aC rfl hc_38 (ai (aa (vI 7) (af ?_)))
            obtain rfl:=ae hc_16
            obtain rfl:=ae hL_17
            obtain rfl:=ae hF
            exact ay (aN [(vI 7)] ⟨rfl,trivial⟩)
           ·refine aA rfl hc_38 (ax (av (gW (bX hD_13 hn_14) wz rfl (aa (vI ((k_10+1:Nat):Int)) (af ?_)))))
            obtain rfl:=ae hc_16
            exact bD (k_10+1,l_11,()) ⟨hL_17,bv hD_13⟩ (ls_ _) rfl (aK rfl)
    ·rintro s_15 ho_ sl_ H_ hp_ hq_
     subst ho_
     refine aS _ hp_ hq_ (ai (aa (vI 0) (af ?_)))
     obtain rfl:=ae hF
     exact ay (aN [(vI 0)] ⟨rfl,trivial⟩)
end Go.Proofs.YtacmlgpnplklaaaGreatDoor.Law

