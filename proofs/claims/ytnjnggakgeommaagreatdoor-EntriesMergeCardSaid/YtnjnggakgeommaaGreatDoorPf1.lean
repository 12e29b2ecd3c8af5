/-
 The machine computes these plain functions (written by a program of ours).
-/
import Derived.Test.YtnjnggakgeommaaGreatDoorFacts
import Derived.Test.YtnjnggakgeommaaGreatDoorDefs
open Go Go.Eng Go.Proofs
namespace Go.Proofs.YtnjnggakgeommaaGreatDoor.Law
set_option maxRecDepth 100000
set_option linter.unusedVariables false
set_option maxHeartbeats 1000000
theorem p9 {x_1:Int} {n_2:Int} {r:Int} (hF:mo x_1 n_2=some r) :
  FnM Tryz.prog 85 [(vI x_1),(vI n_2)] [] (vI r) []:=by
 refine FnM.of_wH ⟨Tryz.prog,16,[],[]⟩ rfl Tryz.func85 rfl rfl (lb_ rfl) (by kernel_rfl) ?_
 unfold mo at hF
 refine ah (aa (ae (vI 0) wz rfl (ak (ah (ah (aa (ae (vI n_2) wz rfl (ae (vB (decide (n_2<1))) wz rfl (ak ?_)))))))))
 rcases au hF with⟨hc_3,hF⟩|⟨hc_3,hF⟩
 ·refine aG rfl hc_3 (ah (aa (ae (vI 0) wz rfl (ak ?_))))
  obtain rfl:=aj hF
  exact aA (bv (.inr rfl) [(vI 0)] ⟨rfl,trivial⟩ rfl rfl rfl)
 ·refine aC rfl hc_3 (ay (ah (aa (ae (vI x_1) wz rfl (ae (vI n_2) wz rfl ?_)))))
  obtain ⟨q_4,hz_5,hF⟩:=bind_some hF
  refine EX rfl rfl hz_5 wz (ae (vI q_4) wz rfl (ak (ah (ah (aa (ae (vI q_4) wz rfl (ae (vB (decide (q_4<0))) wz rfl (ak ?_))))))))
  obtain ⟨v_6,h_7,hF⟩:=bind_some hF
  refine aJ (β:=Unit) (λ_=>([(0,(vI v_6))]:SL_)) (λ_=>([]:Hp)) (λ_=>True) ?_ ?_
  ·rcases au h_7 with⟨hc_8,h_7⟩|⟨hc_8,h_7⟩
   ·refine aG rfl hc_8 (aa (ae (vI q_4) wz rfl (ae (vI n_2) wz rfl (ae (vI (w64 (q_4+n_2))) wz rfl (ae (vI (w64 (q_4+n_2))) wz rfl (ak ?_))))))
    obtain rfl:=aj h_7
    exact cu
   ·refine aC rfl hc_8 (ay ?_)
    obtain rfl:=aj h_7
    exact cu
  ·rintro ⟨⟩ _ sl_ H_ hp_ hq_
   refine aZ _ hp_ hq_ (ah (aa (ae (vI v_6) wz rfl (ae (vI v_6) wz rfl (ak ?_)))))
   obtain rfl:=aj hF
   exact aA (bv (.inr rfl) [(vI v_6)] ⟨rfl,trivial⟩ rfl rfl rfl)
theorem dh {s_1:Stream} {n_2:Int} {r:Int×Stream} (hF:bS s_1 n_2=some r) :
  FnM Tryz.prog 39 [(.ref (av 0) 0 0),(vI n_2)] [(.cells 2 [(vL eI s_1.L),(vI s_1.f_at)])] (vI r.1) [some (.cells 2 [(vL eI r.2.L),(vI r.2.f_at)])]:=by
 refine FnM.of_wH ⟨Tryz.prog,64,[],[]⟩ rfl Tryz.func39 rfl rfl (lb_ rfl) (by kernel_rfl) ?_
 unfold bS at hF
 refine ah (aa (ae (vI 0) wz rfl (ak (ah (aa (ae (.ref (av 0) 0 0) wz rfl (ae (.ref (av 0) 0 0) wz rfl (aD xg rfl 1 rfl wz (aB 0 0 il ft sz3 ag3 rfl rfl (vI s_1.f_at) rfl wz (ae (vI (w64 (s_1.f_at+1))) wz rfl (ae (.ref (av 0) 0 0) wz rfl (aD xg rfl 1 rfl wz (gz 0 il ft 0 sz3 rfl rfl [(vL eI s_1.L),(vI (w64 (s_1.f_at+1)))] rfl wz (ak (ah (ah (aa (ae (.ref (av 0) 0 0) wz rfl (ae (.ref (av 0) 0 0) wz rfl (aD Af rfl 0 rfl wz (aB 0 0 il ft mK pV rfl rfl (vL eI s_1.L) rfl wz (dP qj rfl wz (ae (vB ((s_1.L.length:Int)==0)) wz rfl ?_)))))))))))))))))))))))
 refine ak ?_
 rcases au hF with⟨hc_3,hF⟩|⟨hc_3,hF⟩
 ·refine aG rfl hc_3 (ah (aa (ae (.ref (av 0) 0 0) wz rfl (ae (.ref (av 0) 0 0) wz rfl (aD xg rfl 1 rfl wz (aB 0 0 il ft sz3 ag3 rfl rfl (vI (w64 (s_1.f_at+1))) rfl wz (ae (vI (w64 ((w64 (s_1.f_at+1))*7919))) wz rfl (ae (vI n_2) wz rfl ?_))))))))
  obtain ⟨r_4,hr_5,hF⟩:=bind_some hF
  refine aF (p9 hr_5) rfl hb85 rfl rfl rfl rfl wz (ae (vI r_4) wz rfl (ak ?_))
  obtain rfl:=aj hF
  exact aA (uD (.inr rfl) [(vI r_4)] _ [0] [av 0] ⟨rfl,trivial⟩ (.cons (iw rfl rfl) (.nil)) (by kernel_rfl) ⟨(by kernel_rfl),trivial⟩ (by decide) (by kernel_rfl))
 ·refine aC rfl hc_3 (ay (ah (fC (ae (.ref (av 0) 0 0) wz rfl (ae (.ref (av 0) 0 0) wz rfl (aD xg rfl 1 rfl wz (aB 3 0 (.inr (by kernel_rfl)) (λ_ _ ag=>trivial) sz3 ag3 rfl rfl (vI (w64 (s_1.f_at+1))) rfl wz (ae (vI (w64 ((w64 (s_1.f_at+1))-1))) wz rfl (ae (.ref (av 0) 0 0) wz rfl (ae (.ref (av 0) 0 0) wz rfl (aD Af rfl 0 rfl wz (aB 8 0 (.inr (by kernel_rfl)) (λ_ _ ag=>⟨.inl ⟨rfl,rfl⟩,trivial⟩) mK pV rfl rfl (vL eI s_1.L) rfl wz (dP qj rfl wz ?_)))))))))))))
  obtain ⟨q_6,hz_7,hF⟩:=bind_some hF
  refine EX rfl rfl hz_7 wz (ae (vI q_6) wz rfl (ak (ah (fC (ae (.ref (av 0) 0 0) wz rfl (ae (.ref (av 0) 0 0) wz rfl (aD xg rfl 1 rfl wz (aB 3 0 (.inr (by kernel_rfl)) (λ_ _ ag=>trivial) sz3 ag3 rfl rfl (vI (w64 (s_1.f_at+1))) rfl wz (ae (vI (w64 ((w64 (s_1.f_at+1))-1))) wz rfl (ae (.ref (av 0) 0 0) wz rfl (ae (.ref (av 0) 0 0) wz rfl (aD Af rfl 0 rfl wz (aB 8 0 (.inr (by kernel_rfl)) (λ_ _ ag=>⟨.inl ⟨rfl,rfl⟩,trivial⟩) mK pV rfl rfl (vL eI s_1.L) rfl wz (dP qj rfl wz ?_))))))))))))))
  obtain ⟨q_8,hz_9,hF⟩:=bind_some hF
  refine h_quo rfl rfl hz_9 wz (ae (vI q_8) wz rfl (ak (aZ (H0:=([((av 0),some (.cells 2 [(vL eI s_1.L),(vI (w64 (s_1.f_at+1)))]))]:Hp)) ([(0,(.ref (av 0) 0 0)),(1,(vI n_2)),(5,(vI q_6)),(6,(vI q_8))]:SL_) (by kernel_rfl) (CW (by kernel_rfl)) (ah (aa (ae (.ref (av 0) 0 0) wz rfl (ae (.ref (av 0) 0 0) wz rfl (aD Af rfl 0 rfl wz (aB 0 0 il ft mK pV rfl rfl (vL eI s_1.L) rfl wz (ae (vI q_6) wz rfl ?_))))))))))
  obtain ⟨y_10,hy_11,hF⟩:=bind_some hF
  refine iH kw rfl rfl hy_11 rfl wz (eO sz3 ag3 rfl (vI y_10) rfl wz ?_)
  obtain ⟨r_12,hr_13,hF⟩:=bind_some hF
  refine aF (p9 hr_13) rfl hb85 rfl rfl rfl rfl wz (ae (vI q_8) wz rfl (ae (vI q_6) wz rfl (ae (vI (w64 (7919+q_6))) wz rfl (ae (vI (w64 (q_8*(w64 (7919+q_6))))) wz rfl (ae (vI (w64 (r_12+(w64 (q_8*(w64 (7919+q_6))))))) wz rfl (ae (vI n_2) wz rfl ?_))))))
  obtain ⟨r_14,hr_15,hF⟩:=bind_some hF
  refine aF (p9 hr_15) rfl hb85 rfl rfl rfl rfl wz (ae (vI r_14) wz rfl (ak ?_))
  obtain rfl:=aj hF
  exact aA (uD (.inr rfl) [(vI r_14)] _ [0] [av 0] ⟨rfl,trivial⟩ (.cons (iw rfl rfl) (.nil)) (by kernel_rfl) ⟨(by kernel_rfl),trivial⟩ (by decide) (by kernel_rfl))
theorem di {s_1:Stream} {n_2:Int} {r:Bool×Stream} (hF:bB s_1 n_2=some r) :
  FnM Tryz.prog 8 [(.ref (av 0) 0 0),(vI n_2)] [(.cells 2 [(vL eI s_1.L),(vI s_1.f_at)])] (vB r.1) [some (.cells 2 [(vL eI r.2.L),(vI r.2.f_at)])]:=by
 refine FnM.of_wH ⟨Tryz.prog,9,[],[]⟩ rfl Tryz.func8 rfl rfl (lb_ rfl) (by kernel_rfl) ?_
 unfold bB at hF
 refine ah (aa (ae (vB false) wz rfl (ak (ah (aa (ae (.ref (av 0) 0 0) wz rfl (ae (vI n_2) wz rfl ?_)))))))
 obtain ⟨r_3,hr_4,hF⟩:=bind_some hF
 refine aY 0 [0] il ft (dh hr_4) rfl zJ rfl (by kernel_rfl) (by kernel_rfl) (by kernel_rfl) (by kernel_rfl) (by kernel_rfl) (by kernel_rfl) (by kernel_rfl) (by decide) (by kernel_rfl) wz (vI r_3.1) (by kernel_rfl) ([((av 0),some (.cells 2 [(vL eI r_3.2.L),(vI r_3.2.f_at)]))]:Hp) (by kernel_rfl) (ae (vB (r_3.1==0)) wz rfl (ae (vB (r_3.1==0)) wz rfl (ak ?_)))
 obtain rfl:=aj hF
 exact aA (uD (.inr rfl) [(vB (r_3.1==0))] _ [0] [av 0] ⟨rfl,trivial⟩ (.cons (iw rfl rfl) (.nil)) (by kernel_rfl) ⟨(by kernel_rfl),trivial⟩ (by decide) (by kernel_rfl))
theorem gH {s_1:Stream} {l_2:(List ByteArray)} {r:ByteArray×Stream} (hF:eB s_1 l_2=some r) :
  FnM Tryz.prog 40 [(.ref (av 0) 0 0),(vL eS l_2)] [(.cells 2 [(vL eI s_1.L),(vI s_1.f_at)])] (vS r.1) [some (.cells 2 [(vL eI r.2.L),(vI r.2.f_at)])]:=by
 refine FnM.of_wH ⟨Tryz.prog,12,[],[]⟩ rfl Tryz.func40 rfl rfl (lb_ rfl) (by kernel_rfl) ?_
 unfold eB at hF
 refine ah (aa (ae (vS (⟨#[]⟩:ByteArray)) wz rfl (ak (ah (aa (ae (vL eS l_2) wz rfl (ae (.ref (av 0) 0 0) wz rfl (ae (vL eS l_2) wz rfl (dP uN rfl wz ?_)))))))))
 obtain ⟨r_3,hr_4,hF⟩:=bind_some hF
 refine aY 0 [0] il ft (dh hr_4) rfl zJ rfl (by kernel_rfl) (by kernel_rfl) (by kernel_rfl) (by kernel_rfl) (by kernel_rfl) (by kernel_rfl) (by kernel_rfl) (by decide) (by kernel_rfl) wz (vI r_3.1) (by kernel_rfl) ([((av 0),some (.cells 2 [(vL eI r_3.2.L),(vI r_3.2.f_at)]))]:Hp) (by kernel_rfl) ?_
 obtain ⟨y_6,hy_7,hF⟩:=bind_some hF
 refine iH kv rfl rfl hy_7 rfl wz (eO sz9 ag9 rfl (vS y_6) rfl wz (ae (vS y_6) wz rfl (ak ?_)))
 obtain rfl:=aj hF
 exact aA (uD (.inr rfl) [(vS y_6)] _ [0] [av 0] ⟨rfl,trivial⟩ (.cons (iw rfl rfl) (.nil)) (by kernel_rfl) ⟨(by kernel_rfl),trivial⟩ (by decide) (by kernel_rfl))
theorem jX {s_1:Stream} {low_2:Int} {high_3:Int} {r:Int×Stream} (hF:fJ s_1 low_2 high_3=some r) :
  FnM Tryz.prog 10 [(.ref (av 0) 0 0),(vI low_2),(vI high_3)] [(.cells 2 [(vL eI s_1.L),(vI s_1.f_at)])] (vI r.1) [some (.cells 2 [(vL eI r.2.L),(vI r.2.f_at)])]:=by
 refine FnM.of_wH ⟨Tryz.prog,19,[],[]⟩ rfl Tryz.func10 rfl rfl (lb_ rfl) (by kernel_rfl) ?_
 unfold fJ at hF
 refine ah (aa (ae (vI 0) wz rfl (ak (ah (ah (aa (ae (vI high_3) wz rfl (ae (vI low_2) wz rfl (ae (vB (decide (high_3<low_2))) wz rfl (ak ?_))))))))))
 rcases au hF with⟨hc_4,hF⟩|⟨hc_4,hF⟩
 ·refine aG rfl hc_4 (ah (aa (ae (vI low_2) wz rfl (ae (vI low_2) wz rfl (ak ?_)))))
  obtain rfl:=aj hF
  exact aA (uD (.inr rfl) [(vI low_2)] _ [0] [av 0] ⟨rfl,trivial⟩ (.cons (iw rfl rfl) (.nil)) (by kernel_rfl) ⟨(by kernel_rfl),trivial⟩ (by decide) (by kernel_rfl))
 ·refine aC rfl hc_4 (ay (ah (aa (ae (vI low_2) wz rfl (ae (.ref (av 0) 0 0) wz rfl (ae (vI high_3) wz rfl (ae (vI low_2) wz rfl (ae (vI (w64 (high_3-low_2))) wz rfl (ae (vI (w64 ((w64 (high_3-low_2))+1))) wz rfl ?_)))))))))
  obtain ⟨r_5,hr_6,hF⟩:=bind_some hF
  refine aY 0 [0] il ft (dh hr_6) rfl zJ rfl (by kernel_rfl) (by kernel_rfl) (by kernel_rfl) (by kernel_rfl) (by kernel_rfl) (by kernel_rfl) (by kernel_rfl) (by decide) (by kernel_rfl) wz (vI r_5.1) (by kernel_rfl) ([((av 0),some (.cells 2 [(vL eI r_5.2.L),(vI r_5.2.f_at)]))]:Hp) (by kernel_rfl) (ae (vI (w64 (low_2+r_5.1))) wz rfl (ae (vI (w64 (low_2+r_5.1))) wz rfl (ak ?_)))
  obtain rfl:=aj hF
  exact aA (uD (.inr rfl) [(vI (w64 (low_2+r_5.1)))] _ [0] [av 0] ⟨rfl,trivial⟩ (.cons (iw rfl rfl) (.nil)) (by kernel_rfl) ⟨(by kernel_rfl),trivial⟩ (by decide) (by kernel_rfl))
theorem cK {s_1:Stream} {l_2:(List Int)} {r:Int×Stream} (hF:bQ s_1 l_2=some r) :
  FnM Tryz.prog 65 [(.ref (av 0) 0 0),(vL eI l_2)] [(.cells 2 [(vL eI s_1.L),(vI s_1.f_at)])] (vI r.1) [some (.cells 2 [(vL eI r.2.L),(vI r.2.f_at)])]:=by
 refine FnM.of_wH ⟨Tryz.prog,12,[],[]⟩ rfl Tryz.func65 rfl rfl (lb_ rfl) (by kernel_rfl) ?_
 unfold bQ at hF
 refine ah (aa (ae (vI 0) wz rfl (ak (ah (aa (ae (vL eI l_2) wz rfl (ae (.ref (av 0) 0 0) wz rfl (ae (vL eI l_2) wz rfl (dP qj rfl wz ?_)))))))))
 obtain ⟨r_3,hr_4,hF⟩:=bind_some hF
 refine aY 0 [0] il ft (dh hr_4) rfl zJ rfl (by kernel_rfl) (by kernel_rfl) (by kernel_rfl) (by kernel_rfl) (by kernel_rfl) (by kernel_rfl) (by kernel_rfl) (by decide) (by kernel_rfl) wz (vI r_3.1) (by kernel_rfl) ([((av 0),some (.cells 2 [(vL eI r_3.2.L),(vI r_3.2.f_at)]))]:Hp) (by kernel_rfl) ?_
 obtain ⟨y_6,hy_7,hF⟩:=bind_some hF
 refine iH kw rfl rfl hy_7 rfl wz (eO sz3 ag3 rfl (vI y_6) rfl wz (ae (vI y_6) wz rfl (ak ?_)))
 obtain rfl:=aj hF
 exact aA (uD (.inr rfl) [(vI y_6)] _ [0] [av 0] ⟨rfl,trivial⟩ (.cons (iw rfl rfl) (.nil)) (by kernel_rfl) ⟨(by kernel_rfl),trivial⟩ (by decide) (by kernel_rfl))
theorem l5 {s_1:Stream} {r:(List Entry)×Stream} (hF:eF s_1=some r) :
  FnM Tryz.prog 21 [(.ref (av 0) 0 0)] [(.cells 2 [(vL eI s_1.L),(vI s_1.f_at)])] (gV (av 1) 13 r.1) (([(.cells 2 [(vL eI r.2.L),(vI r.2.f_at)])]:List Box).map some++gO 13 Entry.enc r.1):=by
 refine FnM.of_wH ⟨Tryz.prog,89,[],[]⟩ rfl Tryz.func21 rfl rfl (lb_ rfl) (by kernel_rfl) ?_
 unfold eF at hF
 refine ah (aa (ae .nil wz rfl (ak (ah (aa (ae .nil wz rfl (ak (ah (ah (aa (dY (([(⟨#[101,97]⟩:ByteArray),(⟨#[101,98]⟩:ByteArray),(⟨#[101,99]⟩:ByteArray),(⟨#[101,100]⟩:ByteArray)]:List ByteArray).map eS) kv pg rfl rfl rfl rfl rfl wz (dP uN rfl wz (ae (vI 0) wz rfl (ak (nu (λn_8 => ?_))))))))))))))))
 obtain ⟨o_13,hj_14,hF⟩:=bind_some hF
 obtain ⟨hn_6,hj_14⟩:=bJ hj_14
 refine aJ (β:=((List Entry)×(List Int)×Int)×Nm) (λp=>(λ(s_7:(List Entry)×(List Int)×Int) (n_10:Nm)=>([(3,(gV n_10 13 s_7.1))]:SL_)) p.1 p.2) (λp=>(λ(s_7:(List Entry)×(List Int)×Int) (n_10:Nm)=>([((av 0),some (.cells 2 [(vL eI s_7.2.1),(vI s_7.2.2)])),(n_10,gB 13 Entry.enc s_7.1)]:Hp)) p.1 p.2) (λp=>o_13 = .go p.1) ?_ ?_
 ·refine aK (bX (β:=Nat×(List ByteArray)×((List Entry)×(List Int)×Int)×Nm) (λp=>(λ(k_2:Nat) (l_3:List ByteArray) (s_7:(List Entry)×(List Int)×Int) (n_10:Nm)=>([(0,(.ref (av 0) 0 0)),(3,(gV n_10 13 s_7.1)),(11,(vL eS ([(⟨#[101,97]⟩:ByteArray),(⟨#[101,98]⟩:ByteArray),(⟨#[101,99]⟩:ByteArray),(⟨#[101,100]⟩:ByteArray)]:List ByteArray))),(12,(vI (([(⟨#[101,97]⟩:ByteArray),(⟨#[101,98]⟩:ByteArray),(⟨#[101,99]⟩:ByteArray),(⟨#[101,100]⟩:ByteArray)]:List ByteArray).length:Int))),(13,(vI (k_2:Int)))]:SL_)) p.1 p.2.1 p.2.2.1 p.2.2.2) (λp=>(λ(k_2:Nat) (l_3:List ByteArray) (s_7:(List Entry)×(List Int)×Int) (n_10:Nm)=>([((av 0),some (.cells 2 [(vL eI s_7.2.1),(vI s_7.2.2)])),(n_10,gB 13 Entry.enc s_7.1)]:Hp)) p.1 p.2.1 p.2.2.1 p.2.2.2) (λp=>dR (λk x s=>dK k x s) p.2.1 p.1 p.2.2.1=some o_13/\(([(⟨#[101,97]⟩:ByteArray),(⟨#[101,98]⟩:ByteArray),(⟨#[101,99]⟩:ByteArray),(⟨#[101,100]⟩:ByteArray)]:List ByteArray)).drop p.1=p.2.1) (λp=>p.2.1.length) (0,([(⟨#[101,97]⟩:ByteArray),(⟨#[101,98]⟩:ByteArray),(⟨#[101,99]⟩:ByteArray),(⟨#[101,100]⟩:ByteArray)]:List ByteArray),(([]:List Entry),s_1.L,s_1.f_at),n_8) ⟨hj_14,rfl⟩ rfl (aN rfl) ?_)
  rintro ⟨k_2,l_3,s_7,n_10⟩ ⟨hL_12,hD_5⟩
  dsimp only at hL_12 hD_5
  cases l_3 with
  | nil =>
   obtain rfl:=aj hL_12
   refine ah (aa (ae (vB (decide ((k_2:Int)<(([(⟨#[101,97]⟩:ByteArray),(⟨#[101,98]⟩:ByteArray),(⟨#[101,99]⟩:ByteArray),(⟨#[101,100]⟩:ByteArray)]:List ByteArray).length:Int)))) wz rfl (ak ?_)))
   refine ah (aC rfl (drop_nil hD_5) (bT ?_))
   exact cB (s_7,n_10) rfl rfl (aN rfl)
  | cons x_4 l_3 =>
   obtain ⟨c_,hc_11,hL_12⟩:=bind_some hL_12
   refine ah (aa (ae (vB (decide ((k_2:Int)<(([(⟨#[101,97]⟩:ByteArray),(⟨#[101,98]⟩:ByteArray),(⟨#[101,99]⟩:ByteArray),(⟨#[101,100]⟩:ByteArray)]:List ByteArray).length:Int)))) wz rfl (ak ?_)))
   refine ah (aG rfl (dA hD_5) (ay ?_))
   unfold dK at hc_11
   refine ah (aK (ah (aa (iH kv rfl rfl (dU hD_5) rfl wz (eO sz9 ag9 rfl (vS x_4) rfl wz (ae (vS x_4) wz rfl (ak (ah (ah (aa (ae (.ref (av 0) 0 0) wz rfl ?_)))))))))))
   obtain ⟨r_15,hr_16,hc_11⟩:=bind_some hc_11
   refine aY 0 [0] il ft (di hr_16) rfl hb8 rfl (by kernel_rfl) (by kernel_rfl) (by kernel_rfl) (by kernel_rfl) (by kernel_rfl) (by kernel_rfl) (by kernel_rfl) (by decide) (by kernel_rfl) wz (vB r_15.1) (by kernel_rfl) ([((av 0),some (.cells 2 [(vL eI r_15.2.L),(vI r_15.2.f_at)])),(n_10,gB 13 Entry.enc s_7.1)]:Hp) (by kernel_rfl) (ak ?_)
   rcases au hc_11 with⟨hc_18,hc_11⟩|⟨hc_18,hc_11⟩
   ·refine aG rfl hc_18 (bT (aa (gX (dD hD_5 hn_6) wz rfl (ae (vI ((k_2+1:Nat):Int)) wz rfl (ak ?_)))))
    obtain rfl:=aj hc_11
    exact bO (k_2+1,l_3,(s_7.1,r_15.2.L,r_15.2.f_at),n_10) ⟨hL_12,bg hD_5⟩ (ls_ _) rfl (aN rfl)
   ·refine aC rfl hc_18 (ay (ah (aa (ae (vS x_4) wz rfl (ae (.ref (av 0) 0 0) wz rfl (dY (([(⟨#[105,97]⟩:ByteArray),(⟨#[105,98]⟩:ByteArray),(⟨#[105,99]⟩:ByteArray)]:List ByteArray).map eS) kv pg rfl rfl rfl rfl rfl wz ?_))))))
    obtain ⟨r_19,hr_20,hc_11⟩:=bind_some hc_11
    refine aY 0 [0] il ft (gH hr_20) rfl FE rfl (by kernel_rfl) (by kernel_rfl) (by kernel_rfl) (by kernel_rfl) (by kernel_rfl) (by kernel_rfl) (by kernel_rfl) (by decide) (by kernel_rfl) wz (vS r_19.1) (by kernel_rfl) ([((av 0),some (.cells 2 [(vL eI r_19.2.L),(vI r_19.2.f_at)])),(n_10,gB 13 Entry.enc s_7.1)]:Hp) (by kernel_rfl) (ae (.ref (av 0) 0 0) wz rfl ?_)
    obtain ⟨r_22,hr_23,hc_11⟩:=bind_some hc_11
    refine aY 0 [0] il ft (jX hr_23) rfl hb10 rfl (by kernel_rfl) (by kernel_rfl) (by kernel_rfl) (by kernel_rfl) (by kernel_rfl) (by kernel_rfl) (by kernel_rfl) (by decide) (by kernel_rfl) wz (vI r_22.1) (by kernel_rfl) ([((av 0),some (.cells 2 [(vL eI r_22.2.L),(vI r_22.2.f_at)])),(n_10,gB 13 Entry.enc s_7.1)]:Hp) (by kernel_rfl) (ae (.ref (av 0) 0 0) wz rfl (dY (([0,0,1,3]:List Int).map eI) kw rJ rfl rfl rfl rfl rfl wz ?_))
    obtain ⟨r_25,hr_26,hc_11⟩:=bind_some hc_11
    refine aY 0 [0] il ft (cK hr_26) rfl z8 rfl (by kernel_rfl) (by kernel_rfl) (by kernel_rfl) (by kernel_rfl) (by kernel_rfl) (by kernel_rfl) (by kernel_rfl) (by decide) (by kernel_rfl) wz (vI r_25.1) (by kernel_rfl) ([((av 0),some (.cells 2 [(vL eI r_25.2.L),(vI r_25.2.f_at)])),(n_10,gB 13 Entry.enc s_7.1)]:Hp) (by kernel_rfl) (ae (.ref (av 0) 0 0) wz rfl (dY (([1,1,2,3,7]:List Int).map eI) kw rJ rfl rfl rfl rfl rfl wz ?_))
    obtain ⟨r_28,hr_29,hc_11⟩:=bind_some hc_11
    refine aY 0 [0] il ft (cK hr_29) rfl z8 rfl (by kernel_rfl) (by kernel_rfl) (by kernel_rfl) (by kernel_rfl) (by kernel_rfl) (by kernel_rfl) (by kernel_rfl) (by decide) (by kernel_rfl) wz (vI r_28.1) (by kernel_rfl) ([((av 0),some (.cells 2 [(vL eI r_28.2.L),(vI r_28.2.f_at)])),(n_10,gB 13 Entry.enc s_7.1)]:Hp) (by kernel_rfl) (ae (.ref (av 0) 0 0) wz rfl (dY (([127,127,31,96,1,2]:List Int).map eI) kw rJ rfl rfl rfl rfl rfl wz ?_))
    obtain ⟨r_31,hr_32,hc_11⟩:=bind_some hc_11
    refine aY 0 [0] il ft (cK hr_32) rfl z8 rfl (by kernel_rfl) (by kernel_rfl) (by kernel_rfl) (by kernel_rfl) (by kernel_rfl) (by kernel_rfl) (by kernel_rfl) (by decide) (by kernel_rfl) wz (vI r_31.1) (by kernel_rfl) ([((av 0),some (.cells 2 [(vL eI r_31.2.L),(vI r_31.2.f_at)])),(n_10,gB 13 Entry.enc s_7.1)]:Hp) (by kernel_rfl) (ae (.ref (av 0) 0 0) wz rfl (dY (([0,0,60,600,1380]:List Int).map eI) kw rJ rfl rfl rfl rfl rfl wz ?_))
    obtain ⟨r_34,hr_35,hc_11⟩:=bind_some hc_11
    refine aY 0 [0] il ft (cK hr_35) rfl z8 rfl (by kernel_rfl) (by kernel_rfl) (by kernel_rfl) (by kernel_rfl) (by kernel_rfl) (by kernel_rfl) (by kernel_rfl) (by decide) (by kernel_rfl) wz (vI r_34.1) (by kernel_rfl) ([((av 0),some (.cells 2 [(vL eI r_34.2.L),(vI r_34.2.f_at)])),(n_10,gB 13 Entry.enc s_7.1)]:Hp) (by kernel_rfl) (ae (.ref (av 0) 0 0) wz rfl (dY (([0,60,120,600,720,1439]:List Int).map eI) kw rJ rfl rfl rfl rfl rfl wz ?_))
    obtain ⟨r_37,hr_38,hc_11⟩:=bind_some hc_11
    refine aY 0 [0] il ft (cK hr_38) rfl z8 rfl (by kernel_rfl) (by kernel_rfl) (by kernel_rfl) (by kernel_rfl) (by kernel_rfl) (by kernel_rfl) (by kernel_rfl) (by decide) (by kernel_rfl) wz (vI r_37.1) (by kernel_rfl) ([((av 0),some (.cells 2 [(vL eI r_37.2.L),(vI r_37.2.f_at)])),(n_10,gB 13 Entry.enc s_7.1)]:Hp) (by kernel_rfl) (ae (.ref (av 0) 0 0) wz rfl (dY (([0,0,1,5]:List Int).map eI) kw rJ rfl rfl rfl rfl rfl wz ?_))
    obtain ⟨r_40,hr_41,hc_11⟩:=bind_some hc_11
    refine aY 0 [0] il ft (cK hr_41) rfl z8 rfl (by kernel_rfl) (by kernel_rfl) (by kernel_rfl) (by kernel_rfl) (by kernel_rfl) (by kernel_rfl) (by kernel_rfl) (by decide) (by kernel_rfl) wz (vI r_40.1) (by kernel_rfl) ([((av 0),some (.cells 2 [(vL eI r_40.2.L),(vI r_40.2.f_at)])),(n_10,gB 13 Entry.enc s_7.1)]:Hp) (by kernel_rfl) (ae (.ref (av 0) 0 0) wz rfl ?_)
    obtain ⟨r_43,hr_44,hc_11⟩:=bind_some hc_11
    refine aY 0 [0] il ft (di hr_44) rfl hb8 rfl (by kernel_rfl) (by kernel_rfl) (by kernel_rfl) (by kernel_rfl) (by kernel_rfl) (by kernel_rfl) (by kernel_rfl) (by decide) (by kernel_rfl) wz (vB r_43.1) (by kernel_rfl) ([((av 0),some (.cells 2 [(vL eI r_43.2.L),(vI r_43.2.f_at)])),(n_10,gB 13 Entry.enc s_7.1)]:Hp) (by kernel_rfl) (ae (.agg [(vS x_4),(vS r_19.1),(vI r_22.1),(vI r_25.1),(vI 0),(vI r_28.1),(vI r_31.1),.nil,(vI r_34.1),(vI r_37.1),(vI r_40.1),.nil,(vB r_43.1)]) wz (by kernel_rfl) (fP 0 (.inl rfl) z35 rfl wz (λn_46=>gz 0 il ft 2 fu rfl rfl [(vS x_4),(vS r_19.1),(vI r_22.1),(vI r_25.1),(vI 0),(vI r_28.1),(vI r_31.1),.nil,(vI r_34.1),(vI r_37.1),(vI r_40.1),.nil,(vB r_43.1)] rfl wz (ak (aZ (H0:=([((av 0),some (.cells 2 [(vL eI r_43.2.L),(vI r_43.2.f_at)])),(n_10,gB 13 Entry.enc s_7.1),(n_46,some (.cells 13 [(vS x_4),(vS r_19.1),(vI r_22.1),(vI r_25.1),(vI 0),(vI r_28.1),(vI r_31.1),.nil,(vI r_34.1),(vI r_37.1),(vI r_40.1),.nil,(vB r_43.1)]))]:Hp)) ([(0,(.ref (av 0) 0 0)),(3,(gV n_10 13 s_7.1)),(6,(.ref n_46 0 0)),(11,(vL eS ([(⟨#[101,97]⟩:ByteArray),(⟨#[101,98]⟩:ByteArray),(⟨#[101,99]⟩:ByteArray),(⟨#[101,100]⟩:ByteArray)]:List ByteArray))),(12,(vI (([(⟨#[101,97]⟩:ByteArray),(⟨#[101,98]⟩:ByteArray),(⟨#[101,99]⟩:ByteArray),(⟨#[101,100]⟩:ByteArray)]:List ByteArray).length:Int))),(13,(vI (k_2:Int)))]:SL_) (by kernel_rfl) (CW (by kernel_rfl)) (ah (fC (aD mZ rfl 3 rfl wz (aB 1 2 (.inr (by kernel_rfl)) (λ_ _ ag=>trivial) sz3 ag3 rfl rfl (vI r_25.1) rfl wz (ae (.ref (av 0) 0 0) wz rfl (dY (([0,1,5,10,30]:List Int).map eI) kw rJ rfl rfl rfl rfl rfl wz ?_)))))))))))
    obtain ⟨r_47,hr_48,hc_11⟩:=bind_some hc_11
    refine aY 4 [0] (.inr (by kernel_rfl)) (λ_ _ ag=>by exact⟨.inr (.inl (dis1 (ag_ne ag (i:=0) (j:=2) rfl rfl (by decide)))),trivial⟩) (cK hr_48) rfl z8 rfl (by kernel_rfl) (by kernel_rfl) (by kernel_rfl) (by kernel_rfl) (by kernel_rfl) (by kernel_rfl) (by kernel_rfl) (by decide) (by kernel_rfl) wz (vI r_47.1) (by kernel_rfl) ([((av 0),some (.cells 2 [(vL eI r_47.2.L),(vI r_47.2.f_at)])),(n_10,gB 13 Entry.enc s_7.1),(n_46,some (.cells 13 [(vS x_4),(vS r_19.1),(vI r_22.1),(vI r_25.1),(vI 0),(vI r_28.1),(vI r_31.1),.nil,(vI r_34.1),(vI r_37.1),(vI r_40.1),.nil,(vB r_43.1)]))]:Hp) (by kernel_rfl) (ae (vI (w64 (r_25.1+r_47.1))) wz rfl (aD lZ rfl 4 rfl wz (gz 7 (.inr (by kernel_rfl)) (λ_ _ ag=>⟨.inr (.inr (by kernel_rfl)),⟨.inr (.inr (by kernel_rfl)),trivial⟩⟩) 2 sz3 rfl rfl [(vS x_4),(vS r_19.1),(vI r_22.1),(vI r_25.1),(vI (w64 (r_25.1+r_47.1))),(vI r_28.1),(vI r_31.1),.nil,(vI r_34.1),(vI r_37.1),(vI r_40.1),.nil,(vB r_43.1)] rfl wz (ak (ah (ah (aa (dY (([1,2,8]:List Int).map eI) kw rJ rfl rfl rfl rfl rfl wz (dP qj rfl wz (ae (vI 0) wz rfl (ak (nu (λn_56 => ?_)))))))))))))
    obtain ⟨o_61,hj_62,hc_11⟩:=bind_some hc_11
    obtain ⟨hn_54,hj_62⟩:=bJ hj_62
    refine aJ (β:=((List Int)×(List Int)×Int)×Nm) (λp=>(λ(s_55:(List Int)×(List Int)×Int) (n_58:Nm)=>([(0,(.ref (av 0) 0 0)),(3,(gV n_10 13 s_7.1)),(6,(.ref n_46 0 0)),(11,(vL eS ([(⟨#[101,97]⟩:ByteArray),(⟨#[101,98]⟩:ByteArray),(⟨#[101,99]⟩:ByteArray),(⟨#[101,100]⟩:ByteArray)]:List ByteArray))),(12,(vI (([(⟨#[101,97]⟩:ByteArray),(⟨#[101,98]⟩:ByteArray),(⟨#[101,99]⟩:ByteArray),(⟨#[101,100]⟩:ByteArray)]:List ByteArray).length:Int))),(13,(vI (k_2:Int)))]:SL_)) p.1 p.2) (λp=>(λ(s_55:(List Int)×(List Int)×Int) (n_58:Nm)=>([((av 0),some (.cells 2 [(vL eI s_55.2.1),(vI s_55.2.2)])),(n_10,gB 13 Entry.enc s_7.1),(n_46,some (.cells 13 [(vS x_4),(vS r_19.1),(vI r_22.1),(vI r_25.1),(vI (w64 (r_25.1+r_47.1))),(vI r_28.1),(vI r_31.1),(gV n_58 1 s_55.1),(vI r_34.1),(vI r_37.1),(vI r_40.1),.nil,(vB r_43.1)])),(n_58,gB 1 eI s_55.1)]:Hp)) p.1 p.2) (λp=>o_61 = .go p.1) ?_ ?_
    ·refine aK (bX (β:=Nat×(List Int)×((List Int)×(List Int)×Int)×Nm) (λp=>(λ(k_50:Nat) (l_51:List Int) (s_55:(List Int)×(List Int)×Int) (n_58:Nm)=>([(0,(.ref (av 0) 0 0)),(3,(gV n_10 13 s_7.1)),(6,(.ref n_46 0 0)),(11,(vL eS ([(⟨#[101,97]⟩:ByteArray),(⟨#[101,98]⟩:ByteArray),(⟨#[101,99]⟩:ByteArray),(⟨#[101,100]⟩:ByteArray)]:List ByteArray))),(12,(vI (([(⟨#[101,97]⟩:ByteArray),(⟨#[101,98]⟩:ByteArray),(⟨#[101,99]⟩:ByteArray),(⟨#[101,100]⟩:ByteArray)]:List ByteArray).length:Int))),(13,(vI (k_2:Int))),(53,(vL eI ([1,2,8]:List Int))),(54,(vI (([1,2,8]:List Int).length:Int))),(55,(vI (k_50:Int)))]:SL_)) p.1 p.2.1 p.2.2.1 p.2.2.2) (λp=>(λ(k_50:Nat) (l_51:List Int) (s_55:(List Int)×(List Int)×Int) (n_58:Nm)=>([((av 0),some (.cells 2 [(vL eI s_55.2.1),(vI s_55.2.2)])),(n_10,gB 13 Entry.enc s_7.1),(n_46,some (.cells 13 [(vS x_4),(vS r_19.1),(vI r_22.1),(vI r_25.1),(vI (w64 (r_25.1+r_47.1))),(vI r_28.1),(vI r_31.1),(gV n_58 1 s_55.1),(vI r_34.1),(vI r_37.1),(vI r_40.1),.nil,(vB r_43.1)])),(n_58,gB 1 eI s_55.1)]:Hp)) p.1 p.2.1 p.2.2.1 p.2.2.2) (λp=>dR (λk x s=>eT k x s) p.2.1 p.1 p.2.2.1=some o_61/\(([1,2,8]:List Int)).drop p.1=p.2.1) (λp=>p.2.1.length) (0,([1,2,8]:List Int),(([]:List Int),r_47.2.L,r_47.2.f_at),n_56) ⟨hj_62,rfl⟩ rfl (aN rfl) ?_)
     rintro ⟨k_50,l_51,s_55,n_58⟩ ⟨hL_60,hD_53⟩
     dsimp only at hL_60 hD_53
     cases l_51 with
     | nil =>
      obtain rfl:=aj hL_60
      refine ah (aa (ae (vB (decide ((k_50:Int)<(([1,2,8]:List Int).length:Int)))) wz rfl (ak ?_)))
      refine ah (aC rfl (drop_nil hD_53) (bT ?_))
      exact cB (s_55,n_58) rfl rfl (aN rfl)
     | cons x_52 l_51 =>
      obtain ⟨c_,hc_59,hL_60⟩:=bind_some hL_60
      refine ah (aa (ae (vB (decide ((k_50:Int)<(([1,2,8]:List Int).length:Int)))) wz rfl (ak ?_)))
      refine ah (aG rfl (dA hD_53) (ay ?_))
      unfold eT at hc_59
      refine ah (aK (ah (aa (iH kw rfl rfl (dU hD_53) rfl wz (eO sz3 ag3 rfl (vI x_52) rfl wz (ae (vI x_52) wz rfl (ak (ah (aa (ae (.ref (av 0) 0 0) wz rfl ?_))))))))))
      obtain ⟨r_63,hr_64,hc_59⟩:=bind_some hc_59
      refine aY 0 [0] il ft (di hr_64) rfl hb8 rfl (by kernel_rfl) (by kernel_rfl) (by kernel_rfl) (by kernel_rfl) (by kernel_rfl) (by kernel_rfl) (by kernel_rfl) (by decide) (by kernel_rfl) wz (vB r_63.1) (by kernel_rfl) ([((av 0),some (.cells 2 [(vL eI r_63.2.L),(vI r_63.2.f_at)])),(n_10,gB 13 Entry.enc s_7.1),(n_46,some (.cells 13 [(vS x_4),(vS r_19.1),(vI r_22.1),(vI r_25.1),(vI (w64 (r_25.1+r_47.1))),(vI r_28.1),(vI r_31.1),(gV n_58 1 s_55.1),(vI r_34.1),(vI r_37.1),(vI r_40.1),.nil,(vB r_43.1)])),(n_58,gB 1 eI s_55.1)]:Hp) (by kernel_rfl) (ak ?_)
      obtain ⟨v_66,h_67,hc_59⟩:=bind_some hc_59
      refine aJ (β:=Nm) (λ(n_68:Nm)=>([(0,(.ref (av 0) 0 0)),(3,(gV n_10 13 s_7.1)),(6,(.ref n_46 0 0)),(11,(vL eS ([(⟨#[101,97]⟩:ByteArray),(⟨#[101,98]⟩:ByteArray),(⟨#[101,99]⟩:ByteArray),(⟨#[101,100]⟩:ByteArray)]:List ByteArray))),(12,(vI (([(⟨#[101,97]⟩:ByteArray),(⟨#[101,98]⟩:ByteArray),(⟨#[101,99]⟩:ByteArray),(⟨#[101,100]⟩:ByteArray)]:List ByteArray).length:Int))),(13,(vI (k_2:Int))),(53,(vL eI ([1,2,8]:List Int))),(54,(vI (([1,2,8]:List Int).length:Int))),(55,(vI (k_50:Int)))]:SL_)) (λ(n_68:Nm)=>([((av 0),some (.cells 2 [(vL eI r_63.2.L),(vI r_63.2.f_at)])),(n_10,gB 13 Entry.enc s_7.1),(n_46,some (.cells 13 [(vS x_4),(vS r_19.1),(vI r_22.1),(vI r_25.1),(vI (w64 (r_25.1+r_47.1))),(vI r_28.1),(vI r_31.1),(gV n_68 1 v_66),(vI r_34.1),(vI r_37.1),(vI r_40.1),.nil,(vB r_43.1)])),(n_68,gB 1 eI v_66)]:Hp)) (λ_=>True) ?_ ?_
      ·rcases au h_67 with⟨hc_69,h_67⟩|⟨hc_69,h_67⟩
       ·refine aG rfl hc_69 (aa (aD iU rfl 7 rfl wz (aB 0 2 il ft mK pV rfl rfl (gV n_58 1 s_55.1) rfl wz (ae (vI x_52) wz rfl (dY (([x_52]:List Int).map eI) kw rJ rfl rfl rfl rfl rfl wz ?_)))))
        obtain ⟨a_70,hz_71,h_67⟩:=bind_some h_67
        refine mY 0 il ft (i:=3) Bv Bv sz3 z3 rfl (by decide) by3 (by decide) (λ_=>rfl) rfl rfl rfl hz_71 wz (λn_72=>aD iU rfl 7 rfl wz (gz 0 il ft 2 mK rfl rfl [(vS x_4),(vS r_19.1),(vI r_22.1),(vI r_25.1),(vI (w64 (r_25.1+r_47.1))),(vI r_28.1),(vI r_31.1),(gV n_72 1 a_70),(vI r_34.1),(vI r_37.1),(vI r_40.1),.nil,(vB r_43.1)] (stC_g rfl) wz (ak ?_)))
        obtain rfl:=aj h_67
        exact cB n_72 trivial rfl (aN rfl)
       ·refine aC rfl hc_69 (ay ?_)
        obtain rfl:=aj h_67
        exact cB n_58 trivial rfl (aN rfl)
      ·rintro n_68 _ sl_ H_ hp_ hq_
       refine aZ _ hp_ hq_ (aa (gX (dD hD_53 hn_54) wz rfl (ae (vI ((k_50+1:Nat):Int)) wz rfl (ak ?_))))
       obtain rfl:=aj hc_59
       exact bO (k_50+1,l_51,(v_66,r_63.2.L,r_63.2.f_at),n_68) ⟨hL_60,bg hD_53⟩ (ls_ _) rfl (aN rfl)
    ·rintro ⟨s_55,n_58⟩ ho_ sl_ H_ hp_ hq_
     subst ho_
     refine aZ _ hp_ hq_ (ah (ah (aa (dY (([(⟨#[99,105,116,121]⟩:ByteArray),(⟨#[109,97,108,108]⟩:ByteArray)]:List ByteArray).map eS) kv pg rfl rfl rfl rfl rfl wz (dP uN rfl wz (ae (vI 0) wz rfl (ak (nu (λn_79 => ?_)))))))))
     obtain ⟨o_84,hj_85,hc_11⟩:=bind_some hc_11
     obtain ⟨hn_77,hj_85⟩:=bJ hj_85
     refine aJ (β:=((List ByteArray)×(List Int)×Int)×Nm) (λp=>(λ(s_78:(List ByteArray)×(List Int)×Int) (n_81:Nm)=>([(0,(.ref (av 0) 0 0)),(3,(gV n_10 13 s_7.1)),(6,(.ref n_46 0 0)),(11,(vL eS ([(⟨#[101,97]⟩:ByteArray),(⟨#[101,98]⟩:ByteArray),(⟨#[101,99]⟩:ByteArray),(⟨#[101,100]⟩:ByteArray)]:List ByteArray))),(12,(vI (([(⟨#[101,97]⟩:ByteArray),(⟨#[101,98]⟩:ByteArray),(⟨#[101,99]⟩:ByteArray),(⟨#[101,100]⟩:ByteArray)]:List ByteArray).length:Int))),(13,(vI (k_2:Int)))]:SL_)) p.1 p.2) (λp=>(λ(s_78:(List ByteArray)×(List Int)×Int) (n_81:Nm)=>([((av 0),some (.cells 2 [(vL eI s_78.2.1),(vI s_78.2.2)])),(n_10,gB 13 Entry.enc s_7.1),(n_46,some (.cells 13 [(vS x_4),(vS r_19.1),(vI r_22.1),(vI r_25.1),(vI (w64 (r_25.1+r_47.1))),(vI r_28.1),(vI r_31.1),(gV n_58 1 s_55.1),(vI r_34.1),(vI r_37.1),(vI r_40.1),(gV n_81 1 s_78.1),(vB r_43.1)])),(n_58,gB 1 eI s_55.1),(n_81,gB 1 eS s_78.1)]:Hp)) p.1 p.2) (λp=>o_84 = .go p.1) ?_ ?_
     ·refine aK (bX (β:=Nat×(List ByteArray)×((List ByteArray)×(List Int)×Int)×Nm) (λp=>(λ(k_73:Nat) (l_74:List ByteArray) (s_78:(List ByteArray)×(List Int)×Int) (n_81:Nm)=>([(0,(.ref (av 0) 0 0)),(3,(gV n_10 13 s_7.1)),(6,(.ref n_46 0 0)),(11,(vL eS ([(⟨#[101,97]⟩:ByteArray),(⟨#[101,98]⟩:ByteArray),(⟨#[101,99]⟩:ByteArray),(⟨#[101,100]⟩:ByteArray)]:List ByteArray))),(12,(vI (([(⟨#[101,97]⟩:ByteArray),(⟨#[101,98]⟩:ByteArray),(⟨#[101,99]⟩:ByteArray),(⟨#[101,100]⟩:ByteArray)]:List ByteArray).length:Int))),(13,(vI (k_2:Int))),(68,(vL eS ([(⟨#[99,105,116,121]⟩:ByteArray),(⟨#[109,97,108,108]⟩:ByteArray)]:List ByteArray))),(69,(vI (([(⟨#[99,105,116,121]⟩:ByteArray),(⟨#[109,97,108,108]⟩:ByteArray)]:List ByteArray).length:Int))),(70,(vI (k_73:Int)))]:SL_)) p.1 p.2.1 p.2.2.1 p.2.2.2) (λp=>(λ(k_73:Nat) (l_74:List ByteArray) (s_78:(List ByteArray)×(List Int)×Int) (n_81:Nm)=>([((av 0),some (.cells 2 [(vL eI s_78.2.1),(vI s_78.2.2)])),(n_10,gB 13 Entry.enc s_7.1),(n_46,some (.cells 13 [(vS x_4),(vS r_19.1),(vI r_22.1),(vI r_25.1),(vI (w64 (r_25.1+r_47.1))),(vI r_28.1),(vI r_31.1),(gV n_58 1 s_55.1),(vI r_34.1),(vI r_37.1),(vI r_40.1),(gV n_81 1 s_78.1),(vB r_43.1)])),(n_58,gB 1 eI s_55.1),(n_81,gB 1 eS s_78.1)]:Hp)) p.1 p.2.1 p.2.2.1 p.2.2.2) (λp=>dR (λk x s=>eU k x s) p.2.1 p.1 p.2.2.1=some o_84/\(([(⟨#[99,105,116,121]⟩:ByteArray),(⟨#[109,97,108,108]⟩:ByteArray)]:List ByteArray)).drop p.1=p.2.1) (λp=>p.2.1.length) (0,([(⟨#[99,105,116,121]⟩:ByteArray),(⟨#[109,97,108,108]⟩:ByteArray)]:List ByteArray),(([]:List ByteArray),s_55.2.1,s_55.2.2),n_79) ⟨hj_85,rfl⟩ rfl (aN rfl) ?_)
      rintro ⟨k_73,l_74,s_78,n_81⟩ ⟨hL_83,hD_76⟩
      dsimp only at hL_83 hD_76
      cases l_74 with
      | nil =>
       obtain rfl:=aj hL_83
       refine ah (aa (ae (vB (decide ((k_73:Int)<(([(⟨#[99,105,116,121]⟩:ByteArray),(⟨#[109,97,108,108]⟩:ByteArray)]:List ByteArray).length:Int)))) wz rfl (ak ?_)))
       refine ah (aC rfl (drop_nil hD_76) (bT ?_))
       exact cB (s_78,n_81) rfl rfl (aN rfl)
      | cons x_75 l_74 =>
       obtain ⟨c_,hc_82,hL_83⟩:=bind_some hL_83
       refine ah (aa (ae (vB (decide ((k_73:Int)<(([(⟨#[99,105,116,121]⟩:ByteArray),(⟨#[109,97,108,108]⟩:ByteArray)]:List ByteArray).length:Int)))) wz rfl (ak ?_)))
       refine ah (aG rfl (dA hD_76) (ay ?_))
       unfold eU at hc_82
       refine ah (aK (ah (aa (iH kv rfl rfl (dU hD_76) rfl wz (eO sz9 ag9 rfl (vS x_75) rfl wz (ae (vS x_75) wz rfl (ak (ah (aa (ae (.ref (av 0) 0 0) wz rfl ?_))))))))))
       obtain ⟨r_86,hr_87,hc_82⟩:=bind_some hc_82
       refine aY 0 [0] il ft (di hr_87) rfl hb8 rfl (by kernel_rfl) (by kernel_rfl) (by kernel_rfl) (by kernel_rfl) (by kernel_rfl) (by kernel_rfl) (by kernel_rfl) (by decide) (by kernel_rfl) wz (vB r_86.1) (by kernel_rfl) ([((av 0),some (.cells 2 [(vL eI r_86.2.L),(vI r_86.2.f_at)])),(n_10,gB 13 Entry.enc s_7.1),(n_46,some (.cells 13 [(vS x_4),(vS r_19.1),(vI r_22.1),(vI r_25.1),(vI (w64 (r_25.1+r_47.1))),(vI r_28.1),(vI r_31.1),(gV n_58 1 s_55.1),(vI r_34.1),(vI r_37.1),(vI r_40.1),(gV n_81 1 s_78.1),(vB r_43.1)])),(n_58,gB 1 eI s_55.1),(n_81,gB 1 eS s_78.1)]:Hp) (by kernel_rfl) (ak ?_)
       obtain ⟨v_89,h_90,hc_82⟩:=bind_some hc_82
       refine aJ (β:=Nm) (λ(n_91:Nm)=>([(0,(.ref (av 0) 0 0)),(3,(gV n_10 13 s_7.1)),(6,(.ref n_46 0 0)),(11,(vL eS ([(⟨#[101,97]⟩:ByteArray),(⟨#[101,98]⟩:ByteArray),(⟨#[101,99]⟩:ByteArray),(⟨#[101,100]⟩:ByteArray)]:List ByteArray))),(12,(vI (([(⟨#[101,97]⟩:ByteArray),(⟨#[101,98]⟩:ByteArray),(⟨#[101,99]⟩:ByteArray),(⟨#[101,100]⟩:ByteArray)]:List ByteArray).length:Int))),(13,(vI (k_2:Int))),(68,(vL eS ([(⟨#[99,105,116,121]⟩:ByteArray),(⟨#[109,97,108,108]⟩:ByteArray)]:List ByteArray))),(69,(vI (([(⟨#[99,105,116,121]⟩:ByteArray),(⟨#[109,97,108,108]⟩:ByteArray)]:List ByteArray).length:Int))),(70,(vI (k_73:Int)))]:SL_)) (λ(n_91:Nm)=>([((av 0),some (.cells 2 [(vL eI r_86.2.L),(vI r_86.2.f_at)])),(n_10,gB 13 Entry.enc s_7.1),(n_46,some (.cells 13 [(vS x_4),(vS r_19.1),(vI r_22.1),(vI r_25.1),(vI (w64 (r_25.1+r_47.1))),(vI r_28.1),(vI r_31.1),(gV n_58 1 s_55.1),(vI r_34.1),(vI r_37.1),(vI r_40.1),(gV n_91 1 v_89),(vB r_43.1)])),(n_58,gB 1 eI s_55.1),(n_91,gB 1 eS v_89)]:Hp)) (λ_=>True) ?_ ?_
       ·rcases au h_90 with⟨hc_92,h_90⟩|⟨hc_92,h_90⟩
        ·refine aG rfl hc_92 (aa (aD iW rfl 11 rfl wz (aB 0 2 il ft o6 sK rfl rfl (gV n_81 1 s_78.1) rfl wz (ae (vS x_75) wz rfl (dY (([x_75]:List ByteArray).map eS) kv pg rfl rfl rfl rfl rfl wz ?_)))))
         obtain ⟨a_93,hz_94,h_90⟩:=bind_some h_90
         refine mY 0 il ft (i:=4) AC AC sz9 z9 rfl (by decide) by9 (by decide) (λ_=>rfl) rfl rfl rfl hz_94 wz (λn_95=>aD iW rfl 11 rfl wz (gz 0 il ft 2 o6 rfl rfl [(vS x_4),(vS r_19.1),(vI r_22.1),(vI r_25.1),(vI (w64 (r_25.1+r_47.1))),(vI r_28.1),(vI r_31.1),(gV n_58 1 s_55.1),(vI r_34.1),(vI r_37.1),(vI r_40.1),(gV n_95 1 a_93),(vB r_43.1)] (stC_g rfl) wz (ak ?_)))
         obtain rfl:=aj h_90
         exact cB n_95 trivial rfl (aN rfl)
        ·refine aC rfl hc_92 (ay ?_)
         obtain rfl:=aj h_90
         exact cB n_81 trivial rfl (aN rfl)
       ·rintro n_91 _ sl_ H_ hp_ hq_
        refine aZ _ hp_ hq_ (aa (gX (dD hD_76 hn_77) wz rfl (ae (vI ((k_73+1:Nat):Int)) wz rfl (ak ?_))))
        obtain rfl:=aj hc_82
        exact bO (k_73+1,l_74,(v_89,r_86.2.L,r_86.2.f_at),n_91) ⟨hL_83,bg hD_76⟩ (ls_ _) rfl (aN rfl)
     ·rintro ⟨s_78,n_81⟩ ho_ sl_ H_ hp_ hq_
      subst ho_
      refine aZ _ hp_ hq_ (gW 3 rfl (gW 4 rfl (wH_coc2 3 4 2 [(vS x_4),(vS r_19.1),(vI r_22.1),(vI r_25.1),(vI (w64 (r_25.1+r_47.1))),(vI r_28.1),(vI r_31.1),(vL eI s_55.1),(vI r_34.1),(vI r_37.1),(vI r_40.1),(vL eS s_78.1),(vB r_43.1)] rfl rfl rfl (λS hS hS2=>jv (rfl) (jv (rfl) (jv (rfl) (jv (rfl) (jv (rfl) (jv (rfl) (jv (rfl) (jv (hS) (jv (rfl) (jv (rfl) (jv (rfl) (jv (hS2) (jv (rfl) (rfl)))))))))))))) (aa (ae (gV n_10 13 s_7.1) wz rfl (aB 0 2 il ft fu jK rfl rfl (.d (.agg (Entry.enc (⟨x_4,r_19.1,r_22.1,r_25.1,(w64 (r_25.1+r_47.1)),r_28.1,r_31.1,s_55.1,r_34.1,r_37.1,r_40.1,s_78.1,r_43.1⟩:Entry)))) rfl wz (dY (([(⟨x_4,r_19.1,r_22.1,r_25.1,(w64 (r_25.1+r_47.1)),r_28.1,r_31.1,s_55.1,r_34.1,r_37.1,r_40.1,s_78.1,r_43.1⟩:Entry)]:List Entry).map Entry.enc) lg EF rfl rfl rfl rfl rfl wz ?_)))))))
      obtain ⟨a_96,hz_97,hc_11⟩:=bind_some hc_11
      refine mY 0 il ft (i:=1) uS uS fu z35 rfl (by decide) DX (by decide) (λ_=>rfl) rfl rfl rfl hz_97 wz (λn_98=>ae (gV n_98 13 a_96) wz rfl (ak (aa (gX (dD hD_5 hn_6) wz rfl (ae (vI ((k_2+1:Nat):Int)) wz rfl (ak ?_))))))
      obtain rfl:=aj hc_11
      exact bO (k_2+1,l_3,(a_96,s_78.2.1,s_78.2.2),n_98) ⟨hL_12,bg hD_5⟩ (ls_ _) rfl (aN rfl)
 ·rintro ⟨s_7,n_10⟩ ho_ sl_ H_ hp_ hq_
  subst ho_
  refine aZ _ hp_ hq_ (ah (aa (ae (gV n_10 13 s_7.1) wz rfl (ae (gV n_10 13 s_7.1) wz rfl (ak ?_)))))
  obtain rfl:=aj hF
  exact aA (Cf (outs:=([(.cells 2 [(vL eI s_7.2.1),(vI s_7.2.2)])]:List Box)) (.inr rfl) 1 rfl rfl rfl (by kernel_rfl) (by kernel_rfl))
theorem dH {s_1:Stream} {low_2:Int} {high_3:Int} {r:Int×Stream} (hF:bZ s_1 low_2 high_3=some r) :
  FnM Tryz.prog 41 [(.ref (av 0) 0 0),(vI low_2),(vI high_3)] [(.cells 2 [(vL eI s_1.L),(vI s_1.f_at)])] (vI r.1) [some (.cells 2 [(vL eI r.2.L),(vI r.2.f_at)])]:=by
 refine FnM.of_wH ⟨Tryz.prog,22,[],[]⟩ rfl Tryz.func41 rfl rfl (lb_ rfl) (by kernel_rfl) ?_
 unfold bZ at hF
 refine ah (aa (ae (vI 0) wz rfl (ak (ah (ah (aa (ae (.ref (av 0) 0 0) wz rfl ?_)))))))
 obtain ⟨r_4,hr_5,hF⟩:=bind_some hF
 refine aY 0 [0] il ft (di hr_5) rfl hb8 rfl (by kernel_rfl) (by kernel_rfl) (by kernel_rfl) (by kernel_rfl) (by kernel_rfl) (by kernel_rfl) (by kernel_rfl) (by decide) (by kernel_rfl) wz (vB r_4.1) (by kernel_rfl) ([((av 0),some (.cells 2 [(vL eI r_4.2.L),(vI r_4.2.f_at)]))]:Hp) (by kernel_rfl) (ak ?_)
 rcases au hF with⟨hc_7,hF⟩|⟨hc_7,hF⟩
 ·refine aG rfl hc_7 (ah (aa (ae (.ref (av 0) 0 0) wz rfl (ae (vI low_2) wz rfl (ae (vI (w64 (low_2-1))) wz rfl (ae (vI high_3) wz rfl (ae (vI (w64 (high_3+1))) wz rfl (ae (vI low_2) wz rfl (ae (vI high_3) wz rfl (dY (([(w64 (low_2-1)),(w64 (high_3+1)),low_2,high_3,(-1099511627776),1099511627776]:List Int).map eI) kw rJ rfl rfl rfl rfl rfl wz ?_))))))))))
  obtain ⟨r_8,hr_9,hF⟩:=bind_some hF
  refine aY 0 [0] il ft (cK hr_9) rfl z8 rfl (by kernel_rfl) (by kernel_rfl) (by kernel_rfl) (by kernel_rfl) (by kernel_rfl) (by kernel_rfl) (by kernel_rfl) (by decide) (by kernel_rfl) wz (vI r_8.1) (by kernel_rfl) ([((av 0),some (.cells 2 [(vL eI r_8.2.L),(vI r_8.2.f_at)]))]:Hp) (by kernel_rfl) (ae (vI r_8.1) wz rfl (ak ?_))
  obtain rfl:=aj hF
  exact aA (uD (.inr rfl) [(vI r_8.1)] _ [0] [av 0] ⟨rfl,trivial⟩ (.cons (iw rfl rfl) (.nil)) (by kernel_rfl) ⟨(by kernel_rfl),trivial⟩ (by decide) (by kernel_rfl))
 ·refine aC rfl hc_7 (ay (ah (aa (ae (.ref (av 0) 0 0) wz rfl (ae (vI low_2) wz rfl (ae (vI high_3) wz rfl ?_))))))
  obtain ⟨r_11,hr_12,hF⟩:=bind_some hF
  refine aY 0 [0] il ft (jX hr_12) rfl hb10 rfl (by kernel_rfl) (by kernel_rfl) (by kernel_rfl) (by kernel_rfl) (by kernel_rfl) (by kernel_rfl) (by kernel_rfl) (by decide) (by kernel_rfl) wz (vI r_11.1) (by kernel_rfl) ([((av 0),some (.cells 2 [(vL eI r_11.2.L),(vI r_11.2.f_at)]))]:Hp) (by kernel_rfl) (ae (vI r_11.1) wz rfl (ak ?_))
  obtain rfl:=aj hF
  exact aA (uD (.inr rfl) [(vI r_11.1)] _ [0] [av 0] ⟨rfl,trivial⟩ (.cons (iw rfl rfl) (.nil)) (by kernel_rfl) ⟨(by kernel_rfl),trivial⟩ (by decide) (by kernel_rfl))
theorem nz {s_1:(List Int)} {r:(List Int)} (hF:bK s_1=some r) :
  FnM Tryz.prog 42 [(vL eI s_1)] [] (vL eI r) []:=by
 refine FnM.of_wH ⟨Tryz.prog,8,[],[]⟩ rfl Tryz.func42 rfl rfl (lb_ rfl) (by kernel_rfl) ?_
 unfold bK at hF
 refine ah (aa (ae .nil wz rfl (ak (ah (ah (aa (ae (vL eI s_1) wz rfl (wu qj rfl wz (λb_2 hb_3=>ak ?_)))))))))
 cases b_2 with
 | true =>
  refine aG rfl rfl ?_
  obtain rfl:=hb_3 rfl
  replace hF:=qB hF
  refine ah (aa (ae .nil wz rfl (ak ?_)))
  obtain rfl:=aj hF
  exact aA (bv (.inr rfl) [.nil] ⟨rfl,trivial⟩ rfl rfl rfl)
 | false =>
  refine aC rfl rfl (ay (ah (aa (Aa kw rJ rfl wz (ae (vL eI s_1) wz rfl ?_)))))
  obtain ⟨a_4,hz_5,hF⟩:=bind_some hF
  refine zt 0 (.inl rfl) Bv Bv sz3 z3 rfl (by decide) by3 (by decide) (λ_=>rfl) rfl rfl hz_5 wz (λn_6=>ae (gV n_6 1 a_4) wz rfl (ak (gW 0 rfl (gu 2 0 rfl rfl (gu 7 0 rfl rfl ?_)))))
  obtain rfl:=aj hF
  exact aA (bv (.inr rfl) [(vL eI a_4)] ⟨rfl,trivial⟩ rfl rfl rfl)
theorem mX {s_1:(List Int)} {r:(List Int)} (hF:bK s_1=some r) :
  FnM Tryz.prog 42 [(vL eI s_1)] [] (gV (av 0) 1 r) (([]:List Box).map some++gO 1 eI r):=by
 refine FnM.of_wH ⟨Tryz.prog,8,[],[]⟩ rfl Tryz.func42 rfl rfl (lb_ rfl) (by kernel_rfl) ?_
 unfold bK at hF
 refine ah (aa (ae .nil wz rfl (ak (ah (ah (aa (ae (vL eI s_1) wz rfl (wu qj rfl wz (λb_2 hb_3=>ak ?_)))))))))
 cases b_2 with
 | true =>
  refine aG rfl rfl ?_
  obtain rfl:=hb_3 rfl
  replace hF:=qB hF
  refine ah (aa (ae .nil wz rfl (ak (nu (λn_4 => ?_)))))
  obtain rfl:=aj hF
  exact aA (Cf (outs:=([]:List Box)) (.inr rfl) 0 rfl rfl rfl (by kernel_rfl) (by kernel_rfl))
 | false =>
  refine aC rfl rfl (ay (ah (aa (Aa kw rJ rfl wz (ae (vL eI s_1) wz rfl ?_)))))
  obtain ⟨a_5,hz_6,hF⟩:=bind_some hF
  refine zt 0 (.inl rfl) Bv Bv sz3 z3 rfl (by decide) by3 (by decide) (λ_=>rfl) rfl rfl hz_6 wz (λn_7=>ae (gV n_7 1 a_5) wz rfl (ak ?_))
  obtain rfl:=aj hF
  exact aA (Cf (outs:=([]:List Box)) (.inr rfl) 0 rfl rfl rfl (by kernel_rfl) (by kernel_rfl))
theorem kY {s_1:Stream} {r:(List Entry)×Stream} (hF:fH s_1=some r) :
  FnM Tryz.prog 6 [(.ref (av 0) 0 0)] [(.cells 2 [(vL eI s_1.L),(vI s_1.f_at)])] (vL Entry.enc r.1) [some (.cells 2 [(vL eI r.2.L),(vI r.2.f_at)])]:=by
 refine FnM.of_wH ⟨Tryz.prog,107,[],[]⟩ rfl Tryz.func6 rfl rfl (lb_ rfl) (by kernel_rfl) ?_
 unfold fH at hF
 refine ah (aa (ae .nil wz rfl (ak (ah (aa (ae (.ref (av 0) 0 0) wz rfl ?_))))))
 obtain ⟨r_2,hr_3,hF⟩:=bind_some hF
 refine uf [0] (l5 hr_3) rfl hb21 rfl (by kernel_rfl) (by kernel_rfl) (by kernel_rfl) (by kernel_rfl) (by kernel_rfl) rfl (by decide) (by kernel_rfl) wz ([((av 0),some (.cells 2 [(vL eI r_2.2.L),(vI r_2.2.f_at)]))]:Hp) (λ_=>by kernel_rfl) (λn_5=>ae (gV n_5 13 r_2.1) wz rfl (ak (ah (ah ?_))))
 obtain ⟨v_6,h_7,hF⟩:=bind_some hF
 refine aJ (β:=Unit) (λ_=>([(0,(.ref (av 0) 0 0)),(3,(gV n_5 13 r_2.1)),(13,(vB v_6.1))]:SL_)) (λ_=>([((av 0),some (.cells 2 [(vL eI v_6.2.1),(vI v_6.2.2)])),(n_5,gB 13 Entry.enc r_2.1)]:Hp)) (λ_=>True) ?_ ?_
 ·refine aa (ae (gV n_5 13 r_2.1) wz rfl (wE nY rfl wz (ae (vB (decide ((r_2.1.length:Int)>0))) wz rfl ?_)))
  rcases au h_7 with⟨hc_8,h_7⟩|⟨hc_8,h_7⟩
  ·refine ax rfl hc_8 wz (ae (.ref (av 0) 0 0) wa rfl ?_)
   obtain ⟨r_9,hr_10,h_7⟩:=bind_some h_7
   refine aY 0 [0] il ft (di hr_10) rfl hb8 rfl (by kernel_rfl) (by kernel_rfl) (by kernel_rfl) (by kernel_rfl) (by kernel_rfl) (by kernel_rfl) (by kernel_rfl) (by decide) (by kernel_rfl) wa (vB r_9.1) (by kernel_rfl) ([((av 0),some (.cells 2 [(vL eI r_9.2.L),(vI r_9.2.f_at)])),(n_5,gB 13 Entry.enc r_2.1)]:Hp) (by kernel_rfl) (ae (vB r_9.1) wz rfl (ak ?_))
   obtain rfl:=aj h_7
   exact cu
  ·refine ax rfl hc_8 wz (af wa (af wa (ae (vB false) wz rfl (ak ?_))))
   obtain rfl:=aj h_7
   exact cu
 ·rintro ⟨⟩ _ sl_ H_ hp_ hq_
  refine aZ _ hp_ hq_ ?_
  obtain ⟨v_12,h_13,hF⟩:=bind_some hF
  refine aJ (β:=Unit) (λ_=>([(3,(gV n_5 13 v_12.1))]:SL_)) (λ_=>([((av 0),some (.cells 2 [(vL eI v_12.2.1),(vI v_12.2.2)])),(n_5,gB 13 Entry.enc v_12.1)]:Hp)) (λ_=>True) ?_ ?_
  ·rcases au h_13 with⟨hc_14,h_13⟩|⟨hc_14,h_13⟩
   ·refine aG rfl hc_14 (ah (aa (ae (gV n_5 13 r_2.1) wz rfl (ae (.ref (av 0) 0 0) wz rfl (ae (gV n_5 13 r_2.1) wz rfl (wE nY rfl wz ?_))))))
    obtain ⟨r_15,hr_16,h_13⟩:=bind_some h_13
    refine aY 0 [0] il ft (dh hr_16) rfl zJ rfl (by kernel_rfl) (by kernel_rfl) (by kernel_rfl) (by kernel_rfl) (by kernel_rfl) (by kernel_rfl) (by kernel_rfl) (by decide) (by kernel_rfl) wz (vI r_15.1) (by kernel_rfl) ([((av 0),some (.cells 2 [(vL eI r_15.2.L),(vI r_15.2.f_at)])),(n_5,gB 13 Entry.enc r_2.1)]:Hp) (by kernel_rfl) ?_
    obtain ⟨_,hi_18,h_13⟩:=bind_some h_13
    refine oC lg rfl rfl (lG hi_18) (jJ hi_18) wz (ae (.ref n_5 (0+(r_15.1).toNat) 0) wz rfl (ak (ah (aa (ae (.ref (av 0) 0 0) wz rfl ?_)))))
    obtain ⟨r_19,hr_20,h_13⟩:=bind_some h_13
    refine aY 0 [0] il ft (dh hr_20) rfl zJ rfl (by kernel_rfl) (by kernel_rfl) (by kernel_rfl) (by kernel_rfl) (by kernel_rfl) (by kernel_rfl) (by kernel_rfl) (by decide) (by kernel_rfl) wz (vI r_19.1) (by kernel_rfl) ([((av 0),some (.cells 2 [(vL eI r_19.2.L),(vI r_19.2.f_at)])),(n_5,gB 13 Entry.enc r_2.1)]:Hp) (by kernel_rfl) (ak (aK (ah (aa (ae (vB (r_19.1==0)) wz rfl (ae (vB (r_19.1==0)) wz rfl (ak ?_)))))))
    rcases au h_13 with⟨hc_22,h_13⟩|⟨hc_22,h_13⟩
    ·refine aG rfl hc_22 (aa (ae (.ref n_5 (0+(r_15.1).toNat) 0) wz rfl (ae (.ref n_5 (0+(r_15.1).toNat) 0) wz rfl (ae (.ref (av 0) 0 0) wz rfl (ae (.ref n_5 (0+(r_15.1).toNat) 0) wz rfl (ae (.ref n_5 (0+(r_15.1).toNat) 0) wz rfl (aD jd rfl 0 rfl wz ?_)))))))
     obtain ⟨e_23,hy_24,h_13⟩:=bind_some h_13
     refine mf 0 1 il ft sz9 ag9 rfl rfl hy_24 (vS e_23.Key) rfl wz (dY (([e_23.Key,(⟨#[]⟩:ByteArray),(⟨#[65]⟩:ByteArray),(⟨#[101,97]⟩:ByteArray)]:List ByteArray).map eS) kv pg rfl rfl rfl rfl rfl wz ?_)
     obtain ⟨r_25,hr_26,h_13⟩:=bind_some h_13
     refine aY 0 [0] il ft (gH hr_26) rfl FE rfl (by kernel_rfl) (by kernel_rfl) (by kernel_rfl) (by kernel_rfl) (by kernel_rfl) (by kernel_rfl) (by kernel_rfl) (by decide) (by kernel_rfl) wz (vS r_25.1) (by kernel_rfl) ([((av 0),some (.cells 2 [(vL eI r_25.2.L),(vI r_25.2.f_at)])),(n_5,gB 13 Entry.enc r_2.1)]:Hp) (by kernel_rfl) (ae (.ref (av 0) 0 0) wz rfl (dY (([(⟨#[105,97]⟩:ByteArray),(⟨#[]⟩:ByteArray),(⟨#[66]⟩:ByteArray)]:List ByteArray).map eS) kv pg rfl rfl rfl rfl rfl wz ?_))
     obtain ⟨r_28,hr_29,h_13⟩:=bind_some h_13
     refine aY 0 [0] il ft (gH hr_29) rfl FE rfl (by kernel_rfl) (by kernel_rfl) (by kernel_rfl) (by kernel_rfl) (by kernel_rfl) (by kernel_rfl) (by kernel_rfl) (by decide) (by kernel_rfl) wz (vS r_28.1) (by kernel_rfl) ([((av 0),some (.cells 2 [(vL eI r_28.2.L),(vI r_28.2.f_at)])),(n_5,gB 13 Entry.enc r_2.1)]:Hp) (by kernel_rfl) (ae (.ref n_5 (0+(r_15.1).toNat) 0) wz rfl (aD jd rfl 0 rfl wz ?_))
     obtain ⟨e_31,hy_32,h_13⟩:=bind_some h_13
     refine jl 0 il ft 1 sz9 rfl rfl hy_32 (⟨r_25.1,e_31.Item,e_31.Version,e_31.First,e_31.Last,e_31.Every,e_31.Days,e_31.Except,e_31.From,e_31.To,e_31.Prio,e_31.Tags,e_31.Gone⟩:Entry) rfl wz (dZ (v':=(gV n_5 13 (r_2.1.set (0+(r_15.1).toNat) (⟨r_25.1,e_31.Item,e_31.Version,e_31.First,e_31.Last,e_31.Every,e_31.Days,e_31.Except,e_31.From,e_31.To,e_31.Prio,e_31.Tags,e_31.Gone⟩:Entry)))) 3 rfl (bE (by simp)) (dZ (v':=(gV n_5 13 (r_2.1.set (0+(r_15.1).toNat) (⟨r_25.1,e_31.Item,e_31.Version,e_31.First,e_31.Last,e_31.Every,e_31.Days,e_31.Except,e_31.From,e_31.To,e_31.Prio,e_31.Tags,e_31.Gone⟩:Entry)))) 14 rfl (bE (by simp)) (dZ (v':=(gV n_5 13 (r_2.1.set (0+(r_15.1).toNat) (⟨r_25.1,e_31.Item,e_31.Version,e_31.First,e_31.Last,e_31.Every,e_31.Days,e_31.Except,e_31.From,e_31.To,e_31.Prio,e_31.Tags,e_31.Gone⟩:Entry)))) 16 rfl (bE (by simp)) (ae (.ref n_5 (0+(r_15.1).toNat) 0) wz rfl (aD ut rfl 1 rfl wz ?_)))))
     obtain ⟨e_33,hy_34,h_13⟩:=bind_some h_13
     refine jl 0 il ft 1 sz9 rfl rfl hy_34 (⟨e_33.Key,r_28.1,e_33.Version,e_33.First,e_33.Last,e_33.Every,e_33.Days,e_33.Except,e_33.From,e_33.To,e_33.Prio,e_33.Tags,e_33.Gone⟩:Entry) rfl wz (dZ (v':=(gV n_5 13 ((r_2.1.set (0+(r_15.1).toNat) (⟨r_25.1,e_31.Item,e_31.Version,e_31.First,e_31.Last,e_31.Every,e_31.Days,e_31.Except,e_31.From,e_31.To,e_31.Prio,e_31.Tags,e_31.Gone⟩:Entry)).set (0+(r_15.1).toNat) (⟨e_33.Key,r_28.1,e_33.Version,e_33.First,e_33.Last,e_33.Every,e_33.Days,e_33.Except,e_33.From,e_33.To,e_33.Prio,e_33.Tags,e_33.Gone⟩:Entry)))) 3 rfl (bE (by simp)) (dZ (v':=(gV n_5 13 ((r_2.1.set (0+(r_15.1).toNat) (⟨r_25.1,e_31.Item,e_31.Version,e_31.First,e_31.Last,e_31.Every,e_31.Days,e_31.Except,e_31.From,e_31.To,e_31.Prio,e_31.Tags,e_31.Gone⟩:Entry)).set (0+(r_15.1).toNat) (⟨e_33.Key,r_28.1,e_33.Version,e_33.First,e_33.Last,e_33.Every,e_33.Days,e_33.Except,e_33.From,e_33.To,e_33.Prio,e_33.Tags,e_33.Gone⟩:Entry)))) 14 rfl (bE (by simp)) (dZ (v':=(gV n_5 13 ((r_2.1.set (0+(r_15.1).toNat) (⟨r_25.1,e_31.Item,e_31.Version,e_31.First,e_31.Last,e_31.Every,e_31.Days,e_31.Except,e_31.From,e_31.To,e_31.Prio,e_31.Tags,e_31.Gone⟩:Entry)).set (0+(r_15.1).toNat) (⟨e_33.Key,r_28.1,e_33.Version,e_33.First,e_33.Last,e_33.Every,e_33.Days,e_33.Except,e_33.From,e_33.To,e_33.Prio,e_33.Tags,e_33.Gone⟩:Entry)))) 16 rfl (bE (by simp)) (ak ?_))))
     obtain rfl:=aj h_13
     exact cu
    ·refine aC rfl hc_22 (ah (aa (ae (vB (r_19.1==1)) wz rfl (ae (vB (r_19.1==1)) wz rfl (ak ?_)))))
     rcases au h_13 with⟨hc_35,h_13⟩|⟨hc_35,h_13⟩
     ·refine aG rfl hc_35 (aa (ae (.ref n_5 (0+(r_15.1).toNat) 0) wz rfl (ae (.ref n_5 (0+(r_15.1).toNat) 0) wz rfl (ae (.ref (av 0) 0 0) wz rfl ?_))))
      obtain ⟨r_36,hr_37,h_13⟩:=bind_some h_13
      refine aY 0 [0] il ft (dH hr_37) rfl zz rfl (by kernel_rfl) (by kernel_rfl) (by kernel_rfl) (by kernel_rfl) (by kernel_rfl) (by kernel_rfl) (by kernel_rfl) (by decide) (by kernel_rfl) wz (vI r_36.1) (by kernel_rfl) ([((av 0),some (.cells 2 [(vL eI r_36.2.L),(vI r_36.2.f_at)])),(n_5,gB 13 Entry.enc r_2.1)]:Hp) (by kernel_rfl) (ae (.ref (av 0) 0 0) wz rfl ?_)
      obtain ⟨r_39,hr_40,h_13⟩:=bind_some h_13
      refine aY 0 [0] il ft (dH hr_40) rfl zz rfl (by kernel_rfl) (by kernel_rfl) (by kernel_rfl) (by kernel_rfl) (by kernel_rfl) (by kernel_rfl) (by kernel_rfl) (by decide) (by kernel_rfl) wz (vI r_39.1) (by kernel_rfl) ([((av 0),some (.cells 2 [(vL eI r_39.2.L),(vI r_39.2.f_at)])),(n_5,gB 13 Entry.enc r_2.1)]:Hp) (by kernel_rfl) (ae (.ref n_5 (0+(r_15.1).toNat) 0) wz rfl (aD mZ rfl 3 rfl wz ?_))
      obtain ⟨e_42,hy_43,h_13⟩:=bind_some h_13
      refine jl 0 il ft 1 sz3 rfl rfl hy_43 (⟨e_42.Key,e_42.Item,e_42.Version,r_36.1,e_42.Last,e_42.Every,e_42.Days,e_42.Except,e_42.From,e_42.To,e_42.Prio,e_42.Tags,e_42.Gone⟩:Entry) rfl wz (dZ (v':=(gV n_5 13 (r_2.1.set (0+(r_15.1).toNat) (⟨e_42.Key,e_42.Item,e_42.Version,r_36.1,e_42.Last,e_42.Every,e_42.Days,e_42.Except,e_42.From,e_42.To,e_42.Prio,e_42.Tags,e_42.Gone⟩:Entry)))) 3 rfl (bE (by simp)) (dZ (v':=(gV n_5 13 (r_2.1.set (0+(r_15.1).toNat) (⟨e_42.Key,e_42.Item,e_42.Version,r_36.1,e_42.Last,e_42.Every,e_42.Days,e_42.Except,e_42.From,e_42.To,e_42.Prio,e_42.Tags,e_42.Gone⟩:Entry)))) 14 rfl (bE (by simp)) (dZ (v':=(gV n_5 13 (r_2.1.set (0+(r_15.1).toNat) (⟨e_42.Key,e_42.Item,e_42.Version,r_36.1,e_42.Last,e_42.Every,e_42.Days,e_42.Except,e_42.From,e_42.To,e_42.Prio,e_42.Tags,e_42.Gone⟩:Entry)))) 16 rfl (bE (by simp)) (ae (.ref n_5 (0+(r_15.1).toNat) 0) wz rfl (aD lZ rfl 4 rfl wz ?_)))))
      obtain ⟨e_44,hy_45,h_13⟩:=bind_some h_13
      refine jl 0 il ft 1 sz3 rfl rfl hy_45 (⟨e_44.Key,e_44.Item,e_44.Version,e_44.First,r_39.1,e_44.Every,e_44.Days,e_44.Except,e_44.From,e_44.To,e_44.Prio,e_44.Tags,e_44.Gone⟩:Entry) rfl wz (dZ (v':=(gV n_5 13 ((r_2.1.set (0+(r_15.1).toNat) (⟨e_42.Key,e_42.Item,e_42.Version,r_36.1,e_42.Last,e_42.Every,e_42.Days,e_42.Except,e_42.From,e_42.To,e_42.Prio,e_42.Tags,e_42.Gone⟩:Entry)).set (0+(r_15.1).toNat) (⟨e_44.Key,e_44.Item,e_44.Version,e_44.First,r_39.1,e_44.Every,e_44.Days,e_44.Except,e_44.From,e_44.To,e_44.Prio,e_44.Tags,e_44.Gone⟩:Entry)))) 3 rfl (bE (by simp)) (dZ (v':=(gV n_5 13 ((r_2.1.set (0+(r_15.1).toNat) (⟨e_42.Key,e_42.Item,e_42.Version,r_36.1,e_42.Last,e_42.Every,e_42.Days,e_42.Except,e_42.From,e_42.To,e_42.Prio,e_42.Tags,e_42.Gone⟩:Entry)).set (0+(r_15.1).toNat) (⟨e_44.Key,e_44.Item,e_44.Version,e_44.First,r_39.1,e_44.Every,e_44.Days,e_44.Except,e_44.From,e_44.To,e_44.Prio,e_44.Tags,e_44.Gone⟩:Entry)))) 14 rfl (bE (by simp)) (dZ (v':=(gV n_5 13 ((r_2.1.set (0+(r_15.1).toNat) (⟨e_42.Key,e_42.Item,e_42.Version,r_36.1,e_42.Last,e_42.Every,e_42.Days,e_42.Except,e_42.From,e_42.To,e_42.Prio,e_42.Tags,e_42.Gone⟩:Entry)).set (0+(r_15.1).toNat) (⟨e_44.Key,e_44.Item,e_44.Version,e_44.First,r_39.1,e_44.Every,e_44.Days,e_44.Except,e_44.From,e_44.To,e_44.Prio,e_44.Tags,e_44.Gone⟩:Entry)))) 16 rfl (bE (by simp)) (ak ?_))))
      obtain rfl:=aj h_13
      exact cu
     ·refine aC rfl hc_35 (ah (aa (ae (vB (r_19.1==2)) wz rfl (ae (vB (r_19.1==2)) wz rfl (ak ?_)))))
      rcases au h_13 with⟨hc_46,h_13⟩|⟨hc_46,h_13⟩
      ·refine aG rfl hc_46 (aa (ae (.ref n_5 (0+(r_15.1).toNat) 0) wz rfl (ae (.ref n_5 (0+(r_15.1).toNat) 0) wz rfl (ae (.ref (av 0) 0 0) wz rfl ?_))))
       obtain ⟨r_47,hr_48,h_13⟩:=bind_some h_13
       refine aY 0 [0] il ft (dH hr_48) rfl zz rfl (by kernel_rfl) (by kernel_rfl) (by kernel_rfl) (by kernel_rfl) (by kernel_rfl) (by kernel_rfl) (by kernel_rfl) (by decide) (by kernel_rfl) wz (vI r_47.1) (by kernel_rfl) ([((av 0),some (.cells 2 [(vL eI r_47.2.L),(vI r_47.2.f_at)])),(n_5,gB 13 Entry.enc r_2.1)]:Hp) (by kernel_rfl) (ae (.ref (av 0) 0 0) wz rfl ?_)
       obtain ⟨r_50,hr_51,h_13⟩:=bind_some h_13
       refine aY 0 [0] il ft (dH hr_51) rfl zz rfl (by kernel_rfl) (by kernel_rfl) (by kernel_rfl) (by kernel_rfl) (by kernel_rfl) (by kernel_rfl) (by kernel_rfl) (by decide) (by kernel_rfl) wz (vI r_50.1) (by kernel_rfl) ([((av 0),some (.cells 2 [(vL eI r_50.2.L),(vI r_50.2.f_at)])),(n_5,gB 13 Entry.enc r_2.1)]:Hp) (by kernel_rfl) (ae (.ref n_5 (0+(r_15.1).toNat) 0) wz rfl (aD rE rfl 5 rfl wz ?_))
       obtain ⟨e_53,hy_54,h_13⟩:=bind_some h_13
       refine jl 0 il ft 1 sz3 rfl rfl hy_54 (⟨e_53.Key,e_53.Item,e_53.Version,e_53.First,e_53.Last,r_47.1,e_53.Days,e_53.Except,e_53.From,e_53.To,e_53.Prio,e_53.Tags,e_53.Gone⟩:Entry) rfl wz (dZ (v':=(gV n_5 13 (r_2.1.set (0+(r_15.1).toNat) (⟨e_53.Key,e_53.Item,e_53.Version,e_53.First,e_53.Last,r_47.1,e_53.Days,e_53.Except,e_53.From,e_53.To,e_53.Prio,e_53.Tags,e_53.Gone⟩:Entry)))) 3 rfl (bE (by simp)) (dZ (v':=(gV n_5 13 (r_2.1.set (0+(r_15.1).toNat) (⟨e_53.Key,e_53.Item,e_53.Version,e_53.First,e_53.Last,r_47.1,e_53.Days,e_53.Except,e_53.From,e_53.To,e_53.Prio,e_53.Tags,e_53.Gone⟩:Entry)))) 14 rfl (bE (by simp)) (dZ (v':=(gV n_5 13 (r_2.1.set (0+(r_15.1).toNat) (⟨e_53.Key,e_53.Item,e_53.Version,e_53.First,e_53.Last,r_47.1,e_53.Days,e_53.Except,e_53.From,e_53.To,e_53.Prio,e_53.Tags,e_53.Gone⟩:Entry)))) 16 rfl (bE (by simp)) (ae (.ref n_5 (0+(r_15.1).toNat) 0) wz rfl (aD rR rfl 6 rfl wz ?_)))))
       obtain ⟨e_55,hy_56,h_13⟩:=bind_some h_13
       refine jl 0 il ft 1 sz3 rfl rfl hy_56 (⟨e_55.Key,e_55.Item,e_55.Version,e_55.First,e_55.Last,e_55.Every,r_50.1,e_55.Except,e_55.From,e_55.To,e_55.Prio,e_55.Tags,e_55.Gone⟩:Entry) rfl wz (dZ (v':=(gV n_5 13 ((r_2.1.set (0+(r_15.1).toNat) (⟨e_53.Key,e_53.Item,e_53.Version,e_53.First,e_53.Last,r_47.1,e_53.Days,e_53.Except,e_53.From,e_53.To,e_53.Prio,e_53.Tags,e_53.Gone⟩:Entry)).set (0+(r_15.1).toNat) (⟨e_55.Key,e_55.Item,e_55.Version,e_55.First,e_55.Last,e_55.Every,r_50.1,e_55.Except,e_55.From,e_55.To,e_55.Prio,e_55.Tags,e_55.Gone⟩:Entry)))) 3 rfl (bE (by simp)) (dZ (v':=(gV n_5 13 ((r_2.1.set (0+(r_15.1).toNat) (⟨e_53.Key,e_53.Item,e_53.Version,e_53.First,e_53.Last,r_47.1,e_53.Days,e_53.Except,e_53.From,e_53.To,e_53.Prio,e_53.Tags,e_53.Gone⟩:Entry)).set (0+(r_15.1).toNat) (⟨e_55.Key,e_55.Item,e_55.Version,e_55.First,e_55.Last,e_55.Every,r_50.1,e_55.Except,e_55.From,e_55.To,e_55.Prio,e_55.Tags,e_55.Gone⟩:Entry)))) 14 rfl (bE (by simp)) (dZ (v':=(gV n_5 13 ((r_2.1.set (0+(r_15.1).toNat) (⟨e_53.Key,e_53.Item,e_53.Version,e_53.First,e_53.Last,r_47.1,e_53.Days,e_53.Except,e_53.From,e_53.To,e_53.Prio,e_53.Tags,e_53.Gone⟩:Entry)).set (0+(r_15.1).toNat) (⟨e_55.Key,e_55.Item,e_55.Version,e_55.First,e_55.Last,e_55.Every,r_50.1,e_55.Except,e_55.From,e_55.To,e_55.Prio,e_55.Tags,e_55.Gone⟩:Entry)))) 16 rfl (bE (by simp)) (ak ?_))))
       obtain rfl:=aj h_13
       exact cu
      ·refine aC rfl hc_46 (ah (aa (ae (vB (r_19.1==3)) wz rfl (ae (vB (r_19.1==3)) wz rfl (ak ?_)))))
       rcases au h_13 with⟨hc_57,h_13⟩|⟨hc_57,h_13⟩
       ·refine aG rfl hc_57 (aa (ae (.ref n_5 (0+(r_15.1).toNat) 0) wz rfl (ae (.ref n_5 (0+(r_15.1).toNat) 0) wz rfl (ae (.ref n_5 (0+(r_15.1).toNat) 0) wz rfl (aD iU rfl 7 rfl wz ?_)))))
        obtain ⟨e_58,hy_59,h_13⟩:=bind_some h_13
        refine mf 0 1 il ft mK pV rfl rfl hy_59 (vL eI e_58.Except) rfl wz ?_
        obtain ⟨r_60,hr_61,h_13⟩:=bind_some h_13
        refine uf [] (mX hr_61) rfl hb42 rfl (by kernel_rfl) (by kernel_rfl) (by kernel_rfl) (by kernel_rfl) (by kernel_rfl) rfl (by decide) (by kernel_rfl) wz ([((av 0),some (.cells 2 [(vL eI r_19.2.L),(vI r_19.2.f_at)])),(n_5,gB 13 Entry.enc r_2.1)]:Hp) (λ_=>by kernel_rfl) (λn_63=>ae (.ref (av 0) 0 0) wz rfl ?_)
        obtain ⟨r_64,hr_65,h_13⟩:=bind_some h_13
        refine aY 0 [0] il ft (dH hr_65) rfl zz rfl (by kernel_rfl) (by kernel_rfl) (by kernel_rfl) (by kernel_rfl) (by kernel_rfl) (by kernel_rfl) (by kernel_rfl) (by decide) (by kernel_rfl) wz (vI r_64.1) (by kernel_rfl) ([((av 0),some (.cells 2 [(vL eI r_64.2.L),(vI r_64.2.f_at)])),(n_5,gB 13 Entry.enc r_2.1),(n_63,gB 1 eI r_60)]:Hp) (by kernel_rfl) (dY (([r_64.1]:List Int).map eI) kw rJ rfl rfl rfl rfl rfl wz ?_)
        obtain ⟨a_67,hz_68,h_13⟩:=bind_some h_13
        refine mY 0 il ft (i:=2) Bv Bv sz3 z3 rfl (by decide) by3 (by decide) (λ_=>rfl) rfl rfl rfl hz_68 wz (λn_69=>ae (.ref n_5 (0+(r_15.1).toNat) 0) wz rfl (aD iU rfl 7 rfl wz (CY (λhw=>gW 2 rfl hw) (by kernel_rfl) (CY (λhw=>gu 91 2 rfl rfl hw) (by kernel_rfl) ?_))))
        obtain ⟨e_70,hy_71,h_13⟩:=bind_some h_13
        refine jl 0 il ft 1 mK rfl rfl hy_71 (⟨e_70.Key,e_70.Item,e_70.Version,e_70.First,e_70.Last,e_70.Every,e_70.Days,a_67,e_70.From,e_70.To,e_70.Prio,e_70.Tags,e_70.Gone⟩:Entry) rfl wz (dZ (v':=(gV n_5 13 (r_2.1.set (0+(r_15.1).toNat) (⟨e_70.Key,e_70.Item,e_70.Version,e_70.First,e_70.Last,e_70.Every,e_70.Days,a_67,e_70.From,e_70.To,e_70.Prio,e_70.Tags,e_70.Gone⟩:Entry)))) 3 rfl (bE (by simp)) (dZ (v':=(gV n_5 13 (r_2.1.set (0+(r_15.1).toNat) (⟨e_70.Key,e_70.Item,e_70.Version,e_70.First,e_70.Last,e_70.Every,e_70.Days,a_67,e_70.From,e_70.To,e_70.Prio,e_70.Tags,e_70.Gone⟩:Entry)))) 14 rfl (bE (by simp)) (dZ (v':=(gV n_5 13 (r_2.1.set (0+(r_15.1).toNat) (⟨e_70.Key,e_70.Item,e_70.Version,e_70.First,e_70.Last,e_70.Every,e_70.Days,a_67,e_70.From,e_70.To,e_70.Prio,e_70.Tags,e_70.Gone⟩:Entry)))) 16 rfl (bE (by simp)) (ak ?_))))
        obtain rfl:=aj h_13
        exact cu
       ·refine aC rfl hc_57 (ah (aa (ae (vB (r_19.1==4)) wz rfl (ae (vB (r_19.1==4)) wz rfl (ak ?_)))))
        rcases au h_13 with⟨hc_72,h_13⟩|⟨hc_72,h_13⟩
        ·refine aG rfl hc_72 (aa (ae (.ref n_5 (0+(r_15.1).toNat) 0) wz rfl (ae (.ref n_5 (0+(r_15.1).toNat) 0) wz rfl (ae (.ref (av 0) 0 0) wz rfl ?_))))
         obtain ⟨r_73,hr_74,h_13⟩:=bind_some h_13
         refine aY 0 [0] il ft (dH hr_74) rfl zz rfl (by kernel_rfl) (by kernel_rfl) (by kernel_rfl) (by kernel_rfl) (by kernel_rfl) (by kernel_rfl) (by kernel_rfl) (by decide) (by kernel_rfl) wz (vI r_73.1) (by kernel_rfl) ([((av 0),some (.cells 2 [(vL eI r_73.2.L),(vI r_73.2.f_at)])),(n_5,gB 13 Entry.enc r_2.1)]:Hp) (by kernel_rfl) (ae (.ref (av 0) 0 0) wz rfl ?_)
         obtain ⟨r_76,hr_77,h_13⟩:=bind_some h_13
         refine aY 0 [0] il ft (dH hr_77) rfl zz rfl (by kernel_rfl) (by kernel_rfl) (by kernel_rfl) (by kernel_rfl) (by kernel_rfl) (by kernel_rfl) (by kernel_rfl) (by decide) (by kernel_rfl) wz (vI r_76.1) (by kernel_rfl) ([((av 0),some (.cells 2 [(vL eI r_76.2.L),(vI r_76.2.f_at)])),(n_5,gB 13 Entry.enc r_2.1)]:Hp) (by kernel_rfl) (ae (.ref n_5 (0+(r_15.1).toNat) 0) wz rfl (aD pQ rfl 8 rfl wz ?_))
         obtain ⟨e_79,hy_80,h_13⟩:=bind_some h_13
         refine jl 0 il ft 1 sz3 rfl rfl hy_80 (⟨e_79.Key,e_79.Item,e_79.Version,e_79.First,e_79.Last,e_79.Every,e_79.Days,e_79.Except,r_73.1,e_79.To,e_79.Prio,e_79.Tags,e_79.Gone⟩:Entry) rfl wz (dZ (v':=(gV n_5 13 (r_2.1.set (0+(r_15.1).toNat) (⟨e_79.Key,e_79.Item,e_79.Version,e_79.First,e_79.Last,e_79.Every,e_79.Days,e_79.Except,r_73.1,e_79.To,e_79.Prio,e_79.Tags,e_79.Gone⟩:Entry)))) 3 rfl (bE (by simp)) (dZ (v':=(gV n_5 13 (r_2.1.set (0+(r_15.1).toNat) (⟨e_79.Key,e_79.Item,e_79.Version,e_79.First,e_79.Last,e_79.Every,e_79.Days,e_79.Except,r_73.1,e_79.To,e_79.Prio,e_79.Tags,e_79.Gone⟩:Entry)))) 14 rfl (bE (by simp)) (dZ (v':=(gV n_5 13 (r_2.1.set (0+(r_15.1).toNat) (⟨e_79.Key,e_79.Item,e_79.Version,e_79.First,e_79.Last,e_79.Every,e_79.Days,e_79.Except,r_73.1,e_79.To,e_79.Prio,e_79.Tags,e_79.Gone⟩:Entry)))) 16 rfl (bE (by simp)) (ae (.ref n_5 (0+(r_15.1).toNat) 0) wz rfl (aD rA rfl 9 rfl wz ?_)))))
         obtain ⟨e_81,hy_82,h_13⟩:=bind_some h_13
         refine jl 0 il ft 1 sz3 rfl rfl hy_82 (⟨e_81.Key,e_81.Item,e_81.Version,e_81.First,e_81.Last,e_81.Every,e_81.Days,e_81.Except,e_81.From,r_76.1,e_81.Prio,e_81.Tags,e_81.Gone⟩:Entry) rfl wz (dZ (v':=(gV n_5 13 ((r_2.1.set (0+(r_15.1).toNat) (⟨e_79.Key,e_79.Item,e_79.Version,e_79.First,e_79.Last,e_79.Every,e_79.Days,e_79.Except,r_73.1,e_79.To,e_79.Prio,e_79.Tags,e_79.Gone⟩:Entry)).set (0+(r_15.1).toNat) (⟨e_81.Key,e_81.Item,e_81.Version,e_81.First,e_81.Last,e_81.Every,e_81.Days,e_81.Except,e_81.From,r_76.1,e_81.Prio,e_81.Tags,e_81.Gone⟩:Entry)))) 3 rfl (bE (by simp)) (dZ (v':=(gV n_5 13 ((r_2.1.set (0+(r_15.1).toNat) (⟨e_79.Key,e_79.Item,e_79.Version,e_79.First,e_79.Last,e_79.Every,e_79.Days,e_79.Except,r_73.1,e_79.To,e_79.Prio,e_79.Tags,e_79.Gone⟩:Entry)).set (0+(r_15.1).toNat) (⟨e_81.Key,e_81.Item,e_81.Version,e_81.First,e_81.Last,e_81.Every,e_81.Days,e_81.Except,e_81.From,r_76.1,e_81.Prio,e_81.Tags,e_81.Gone⟩:Entry)))) 14 rfl (bE (by simp)) (dZ (v':=(gV n_5 13 ((r_2.1.set (0+(r_15.1).toNat) (⟨e_79.Key,e_79.Item,e_79.Version,e_79.First,e_79.Last,e_79.Every,e_79.Days,e_79.Except,r_73.1,e_79.To,e_79.Prio,e_79.Tags,e_79.Gone⟩:Entry)).set (0+(r_15.1).toNat) (⟨e_81.Key,e_81.Item,e_81.Version,e_81.First,e_81.Last,e_81.Every,e_81.Days,e_81.Except,e_81.From,r_76.1,e_81.Prio,e_81.Tags,e_81.Gone⟩:Entry)))) 16 rfl (bE (by simp)) (ak ?_))))
         obtain rfl:=aj h_13
         exact cu
        ·refine aC rfl hc_72 (fC (ae (.ref n_5 (0+(r_15.1).toNat) 0) wz rfl (ae (.ref n_5 (0+(r_15.1).toNat) 0) wz rfl (dY (([(⟨#[109,97,108,108]⟩:ByteArray),(⟨#[99,105,116,121]⟩:ByteArray)]:List ByteArray).map eS) kv pg rfl rfl rfl rfl rfl wz (dY (([(⟨#[]⟩:ByteArray)]:List ByteArray).map eS) kv pg rfl rfl rfl rfl rfl wz (dY (([(⟨#[97]⟩:ByteArray),(⟨#[97]⟩:ByteArray)]:List ByteArray).map eS) kv pg rfl rfl rfl rfl rfl wz (dY (([([(⟨#[109,97,108,108]⟩:ByteArray),(⟨#[99,105,116,121]⟩:ByteArray)]:List ByteArray),([(⟨#[]⟩:ByteArray)]:List ByteArray),([(⟨#[97]⟩:ByteArray),(⟨#[97]⟩:ByteArray)]:List ByteArray)]:List (List ByteArray)).map (eL eS)) EA ez79 rfl rfl rfl rfl rfl wz (ae (.ref (av 0) 0 0) wz rfl ?_))))))))
         obtain ⟨r_83,hr_84,h_13⟩:=bind_some h_13
         refine aY 7 [0] (.inr (by kernel_rfl)) (λ_ _ ag=>by exact trivial) (dh hr_84) rfl zJ rfl (by kernel_rfl) (by kernel_rfl) (by kernel_rfl) (by kernel_rfl) (by kernel_rfl) (by kernel_rfl) (by kernel_rfl) (by decide) (by kernel_rfl) wz (vI r_83.1) (by kernel_rfl) ([((av 0),some (.cells 2 [(vL eI r_83.2.L),(vI r_83.2.f_at)])),(n_5,gB 13 Entry.enc r_2.1)]:Hp) (by kernel_rfl) ?_
         obtain ⟨y_86,hy_87,h_13⟩:=bind_some h_13
         refine iH EA rfl rfl hy_87 rfl wz (eO o6 sK rfl (vL eS y_86) rfl wz (ae (.ref (av 0) 0 0) wz rfl ?_))
         obtain ⟨r_88,hr_89,h_13⟩:=bind_some h_13
         refine aY 11 [0] (.inr (by kernel_rfl)) (λ_ _ ag=>by exact⟨.inr (.inr (by kernel_rfl)),trivial⟩) (dH hr_89) rfl zz rfl (by kernel_rfl) (by kernel_rfl) (by kernel_rfl) (by kernel_rfl) (by kernel_rfl) (by kernel_rfl) (by kernel_rfl) (by decide) (by kernel_rfl) wz (vI r_88.1) (by kernel_rfl) ([((av 0),some (.cells 2 [(vL eI r_88.2.L),(vI r_88.2.f_at)])),(n_5,gB 13 Entry.enc r_2.1)]:Hp) (by kernel_rfl) (ae (.ref n_5 (0+(r_15.1).toNat) 0) wz rfl (aD iW rfl 11 rfl wz ?_))
         obtain ⟨e_91,hy_92,h_13⟩:=bind_some h_13
         refine jl 14 (.inr (by kernel_rfl)) (λ_ _ ag=>⟨.inr (.inr (by kernel_rfl)),⟨.inr (.inr (by kernel_rfl)),trivial⟩⟩) 1 o6 rfl rfl hy_92 (⟨e_91.Key,e_91.Item,e_91.Version,e_91.First,e_91.Last,e_91.Every,e_91.Days,e_91.Except,e_91.From,e_91.To,e_91.Prio,y_86,e_91.Gone⟩:Entry) rfl wz (dZ (v':=(gV n_5 13 (r_2.1.set (0+(r_15.1).toNat) (⟨e_91.Key,e_91.Item,e_91.Version,e_91.First,e_91.Last,e_91.Every,e_91.Days,e_91.Except,e_91.From,e_91.To,e_91.Prio,y_86,e_91.Gone⟩:Entry)))) 3 rfl (bE (by simp)) (dZ (v':=(gV n_5 13 (r_2.1.set (0+(r_15.1).toNat) (⟨e_91.Key,e_91.Item,e_91.Version,e_91.First,e_91.Last,e_91.Every,e_91.Days,e_91.Except,e_91.From,e_91.To,e_91.Prio,y_86,e_91.Gone⟩:Entry)))) 14 rfl (bE (by simp)) (dZ (v':=(gV n_5 13 (r_2.1.set (0+(r_15.1).toNat) (⟨e_91.Key,e_91.Item,e_91.Version,e_91.First,e_91.Last,e_91.Every,e_91.Days,e_91.Except,e_91.From,e_91.To,e_91.Prio,y_86,e_91.Gone⟩:Entry)))) 16 rfl (bE (by simp)) (ae (.ref n_5 (0+(r_15.1).toNat) 0) wz rfl (aD qI rfl 10 rfl wz ?_)))))
         obtain ⟨e_93,hy_94,h_13⟩:=bind_some h_13
         refine jl 17 (.inr (by kernel_rfl)) (λ_ _ ag=>⟨.inr (.inr (by kernel_rfl)),⟨.inr (.inr (by kernel_rfl)),⟨.inr (.inr (by kernel_rfl)),trivial⟩⟩⟩) 1 sz3 rfl rfl hy_94 (⟨e_93.Key,e_93.Item,e_93.Version,e_93.First,e_93.Last,e_93.Every,e_93.Days,e_93.Except,e_93.From,e_93.To,r_88.1,e_93.Tags,e_93.Gone⟩:Entry) rfl wz (dZ (v':=(gV n_5 13 ((r_2.1.set (0+(r_15.1).toNat) (⟨e_91.Key,e_91.Item,e_91.Version,e_91.First,e_91.Last,e_91.Every,e_91.Days,e_91.Except,e_91.From,e_91.To,e_91.Prio,y_86,e_91.Gone⟩:Entry)).set (0+(r_15.1).toNat) (⟨e_93.Key,e_93.Item,e_93.Version,e_93.First,e_93.Last,e_93.Every,e_93.Days,e_93.Except,e_93.From,e_93.To,r_88.1,e_93.Tags,e_93.Gone⟩:Entry)))) 3 rfl (bE (by simp)) (dZ (v':=(gV n_5 13 ((r_2.1.set (0+(r_15.1).toNat) (⟨e_91.Key,e_91.Item,e_91.Version,e_91.First,e_91.Last,e_91.Every,e_91.Days,e_91.Except,e_91.From,e_91.To,e_91.Prio,y_86,e_91.Gone⟩:Entry)).set (0+(r_15.1).toNat) (⟨e_93.Key,e_93.Item,e_93.Version,e_93.First,e_93.Last,e_93.Every,e_93.Days,e_93.Except,e_93.From,e_93.To,r_88.1,e_93.Tags,e_93.Gone⟩:Entry)))) 14 rfl (bE (by simp)) (dZ (v':=(gV n_5 13 ((r_2.1.set (0+(r_15.1).toNat) (⟨e_91.Key,e_91.Item,e_91.Version,e_91.First,e_91.Last,e_91.Every,e_91.Days,e_91.Except,e_91.From,e_91.To,e_91.Prio,y_86,e_91.Gone⟩:Entry)).set (0+(r_15.1).toNat) (⟨e_93.Key,e_93.Item,e_93.Version,e_93.First,e_93.Last,e_93.Every,e_93.Days,e_93.Except,e_93.From,e_93.To,r_88.1,e_93.Tags,e_93.Gone⟩:Entry)))) 16 rfl (bE (by simp)) (ak ?_))))
         obtain rfl:=aj h_13
         exact cu
   ·refine aC rfl hc_14 (ay ?_)
    obtain rfl:=aj h_13
    exact cu
  ·rintro ⟨⟩ _ sl_ H_ hp_ hq_
   refine aZ _ hp_ hq_ (ah (aa (ae (gV n_5 13 v_12.1) wz rfl (ae (gV n_5 13 v_12.1) wz rfl (ak (gW 1 rfl (gu 2 1 rfl rfl (gu 3 1 rfl rfl (gu 106 1 rfl rfl ?_)))))))))
   obtain rfl:=aj hF
   exact aA (uD (.inr rfl) [(vL Entry.enc v_12.1)] _ [0] [av 0] ⟨rfl,trivial⟩ (.cons (iw rfl rfl) (.nil)) (by kernel_rfl) ⟨(by kernel_rfl),trivial⟩ (by decide) (by kernel_rfl))
theorem ni {s_1:Stream} {r:Player×Stream} (hF:eX s_1=some r) :
  FnM Tryz.prog 43 [(.ref (av 0) 0 0)] [(.cells 2 [(vL eI s_1.L),(vI s_1.f_at)])] (.d (.agg (Player.enc r.1))) [some (.cells 2 [(vL eI r.2.L),(vI r.2.f_at)])]:=by
 refine FnM.of_wH ⟨Tryz.prog,14,[],[]⟩ rfl Tryz.func43 rfl rfl (lb_ rfl) (by kernel_rfl) ?_
 unfold eX at hF
 refine ah (aa (fP 0 (.inl rfl) z30 rfl wz (λn_2=>ak (ah (aa (ae (.ref (av 0) 0 0) wz rfl (dY (([0,0,60,(-90),1440]:List Int).map eI) kw rJ rfl rfl rfl rfl rfl wz ?_)))))))
 obtain ⟨r_3,hr_4,hF⟩:=bind_some hF
 refine aY 0 [0] il ft (cK hr_4) rfl z8 rfl (by kernel_rfl) (by kernel_rfl) (by kernel_rfl) (by kernel_rfl) (by kernel_rfl) (by kernel_rfl) (by kernel_rfl) (by decide) (by kernel_rfl) wz (vI r_3.1) (by kernel_rfl) ([((av 0),some (.cells 2 [(vL eI r_3.2.L),(vI r_3.2.f_at)])),(n_2,some (.cells 4 [(vS (⟨#[]⟩:ByteArray)),(vS (⟨#[]⟩:ByteArray)),(vI 0),.nil]))]:Hp) (by kernel_rfl) (dY (([(⟨#[99,105,116,121]⟩:ByteArray)]:List ByteArray).map eS) kv pg rfl rfl rfl rfl rfl wz (dY (([(⟨#[99,105,116,121]⟩:ByteArray),(⟨#[109,97,108,108]⟩:ByteArray)]:List ByteArray).map eS) kv pg rfl rfl rfl rfl rfl wz (dY (([([]:List ByteArray),([(⟨#[99,105,116,121]⟩:ByteArray)]:List ByteArray),([(⟨#[99,105,116,121]⟩:ByteArray),(⟨#[109,97,108,108]⟩:ByteArray)]:List ByteArray)]:List (List ByteArray)).map (eL eS)) EA ez79 rfl rfl rfl rfl rfl wz (ae (.ref (av 0) 0 0) wz rfl ?_))))
 obtain ⟨r_6,hr_7,hF⟩:=bind_some hF
 refine aY 0 [0] il ft (dh hr_7) rfl zJ rfl (by kernel_rfl) (by kernel_rfl) (by kernel_rfl) (by kernel_rfl) (by kernel_rfl) (by kernel_rfl) (by kernel_rfl) (by decide) (by kernel_rfl) wz (vI r_6.1) (by kernel_rfl) ([((av 0),some (.cells 2 [(vL eI r_6.2.L),(vI r_6.2.f_at)])),(n_2,some (.cells 4 [(vS (⟨#[]⟩:ByteArray)),(vS (⟨#[]⟩:ByteArray)),(vI 0),.nil]))]:Hp) (by kernel_rfl) ?_
 obtain ⟨y_9,hy_10,hF⟩:=bind_some hF
 refine iH EA rfl rfl hy_10 rfl wz (eO o6 sK rfl (vL eS y_9) rfl wz (ae (.d (.agg (Player.enc (⟨(⟨#[112]⟩:ByteArray),(⟨#[115,97]⟩:ByteArray),r_3.1,y_9⟩:Player)))) wz (by kernel_rfl) (gz 0 il ft 1 x9 rfl rfl [(vS (⟨#[112]⟩:ByteArray)),(vS (⟨#[115,97]⟩:ByteArray)),(vI r_3.1),(vL eS y_9)] rfl wz (ak ?_))))
 obtain rfl:=aj hF
 exact aA (uD (.inr rfl) [(.d (.agg (Player.enc (⟨(⟨#[112]⟩:ByteArray),(⟨#[115,97]⟩:ByteArray),r_3.1,y_9⟩:Player))))] _ [0] [av 0] ⟨⟨1,_,_,_,_,_,_,_,rfl,rfl,x9,ET,rfl⟩,trivial⟩ (.cons (iw rfl rfl) (.nil)) (by kernel_rfl) ⟨(by kernel_rfl),trivial⟩ (by decide) (by kernel_rfl))
end Go.Proofs.YtnjnggakgeommaaGreatDoor.Law

