/-
 The machine computes these plain functions (written by a program of ours).
-/
import Derived.Test.YtigdobmllbakiabGreatDoorFacts
import Derived.Test.YtigdobmllbakiabGreatDoorDefs
import Derived.Test.YtigdobmllbakiabGreatDoorShelf
open Go Go.Eng Go.Proofs
namespace Go.Proofs.YtigdobmllbakiabGreatDoor.Law
set_option maxRecDepth 100000
set_option linter.unusedVariables false
set_option maxHeartbeats 1000000
theorem qE {x_1:Int} {n_2:Int} {r:Int} (hF:nk x_1 n_2=some r) :
  FnM Tryz.prog 41 [(vI x_1),(vI n_2)] [] (vI r) []:=by
 refine FnM.of_wH ⟨Tryz.prog,16,[],[]⟩ rfl Tryz.func41 rfl rfl (lb_ rfl) (by kernel_rfl) ?_
 unfold nk at hF
 refine aj (aa (vI 0) (ah (au (aj (aa (vI n_2) (aa (vB (decide (n_2<1))) (ah ?_)))))))
 rcases ak hF with⟨hc_3,hF⟩|⟨hc_3,hF⟩
 ·refine aD rfl hc_3 (aj (aa (vI 0) (ah ?_)))
  obtain rfl:=ae hF
  exact aB (aM [(vI 0)] ⟨rfl,trivial⟩)
 ·refine aF rfl hc_3 (aC (aj (aa (vI x_1) (aa (vI n_2) ?_))))
  obtain ⟨q_4,hz_5,hF⟩:=bind_some hF
  refine IL rfl rfl hz_5 wz (aa (vI q_4) (ah (au (aj (aa (vI q_4) (aa (vB (decide (q_4<0))) (ah ?_)))))))
  obtain ⟨v_6,h_7,hF⟩:=bind_some hF
  refine aW [(0,(vI v_6))] [] ?_ ?_
  ·rcases ak h_7 with⟨hc_8,h_7⟩|⟨hc_8,h_7⟩
   ·refine aD rfl hc_8 (ax (aa (vI q_4) (aa (vI n_2) (aa (vI (w64 (q_4+n_2))) (aa (vI (w64 (q_4+n_2))) (ah ?_))))))
    obtain rfl:=ae h_7
    exact cu
   ·refine aF rfl hc_8 (aC ?_)
    obtain rfl:=ae h_7
    exact cu
  ·rintro ⟨⟩ _ sl_ H_ hp_ hq_
   refine aU _ hp_ hq_ (aj (aa (vI v_6) (aa (vI v_6) (ah ?_))))
   obtain rfl:=ae hF
   exact aB (aM [(vI v_6)] ⟨rfl,trivial⟩)
theorem dn {s_1:Stream} {n_2:Int} {r:Int×Stream} (hF:bW s_1 n_2=some r) :
  FnM Tryz.prog 16 [(.ref (av 0) 0 0),(vI n_2)] [(.cells 2 [(vL eI s_1.L),(vI s_1.f_at)])] (vI r.1) [some (.cells 2 [(vL eI r.2.L),(vI r.2.f_at)])]:=by
 refine FnM.of_wH ⟨Tryz.prog,64,[],[]⟩ rfl Tryz.func16 rfl rfl (lb_ rfl) (by kernel_rfl) ?_
 unfold bW at hF
 refine aj (aa (vI 0) (ah (aj (aa (.ref (av 0) 0 0) (aa (.ref (av 0) 0 0) (aL yA rfl 1 rfl wz (aK 0 0 il ft sz3 ag3 rfl rfl (vI s_1.f_at) rfl wz (aa (vI (w64 (s_1.f_at+1))) (aa (.ref (av 0) 0 0) (aL yA rfl 1 rfl wz (gK 0 il ft 0 sz3 rfl rfl [(vL eI s_1.L),(vI (w64 (s_1.f_at+1)))] rfl wz (ah (au (aj (aa (.ref (av 0) 0 0) (aa (.ref (av 0) 0 0) (aL BD rfl 0 rfl wz (aK 0 0 il ft nY rV rfl rfl (vL eI s_1.L) rfl wz (dE pE rfl wz (aa (vB ((s_1.L.length:Int)==0)) (ah ?_)))))))))))))))))))))
 rcases ak hF with⟨hc_3,hF⟩|⟨hc_3,hF⟩
 ·refine aD rfl hc_3 (aj (aa (.ref (av 0) 0 0) (aa (.ref (av 0) 0 0) (aL yA rfl 1 rfl wz (aK 0 0 il ft sz3 ag3 rfl rfl (vI (w64 (s_1.f_at+1))) rfl wz (aa (vI (w64 ((w64 (s_1.f_at+1))*7919))) (aa (vI n_2) ?_)))))))
  obtain ⟨r_4,hr_5,hF⟩:=bind_some hF
  refine aA (qE hr_5) rfl hb41 rfl rfl rfl rfl wz (aa (vI r_4) (ah ?_))
  obtain rfl:=ae hF
  exact aB (rU (.inr rfl) [(vI r_4)] _ [0] [av 0] ⟨rfl,trivial⟩ (.cons (gZ rfl rfl) (.nil)) (by kernel_rfl) ⟨(by kernel_rfl),trivial⟩ (by decide) (by kernel_rfl))
 ·refine aF rfl hc_3 (aC (au (eB (aa (.ref (av 0) 0 0) (aa (.ref (av 0) 0 0) (aL yA rfl 1 rfl wz (aK 3 0 (.inr (by kernel_rfl)) (λ_ _ ag=>trivial) sz3 ag3 rfl rfl (vI (w64 (s_1.f_at+1))) rfl wz (aa (vI (w64 ((w64 (s_1.f_at+1))-1))) (aa (.ref (av 0) 0 0) (aa (.ref (av 0) 0 0) (aL BD rfl 0 rfl wz (aK 8 0 (.inr (by kernel_rfl)) (λ_ _ ag=>⟨.inl ⟨rfl,rfl⟩,trivial⟩) nY rV rfl rfl (vL eI s_1.L) rfl wz (dE pE rfl wz ?_)))))))))))))
  obtain ⟨q_6,hz_7,hF⟩:=bind_some hF
  refine IL rfl rfl hz_7 wz (aa (vI q_6) (ah (au (eB (aa (.ref (av 0) 0 0) (aa (.ref (av 0) 0 0) (aL yA rfl 1 rfl wz (aK 3 0 (.inr (by kernel_rfl)) (λ_ _ ag=>trivial) sz3 ag3 rfl rfl (vI (w64 (s_1.f_at+1))) rfl wz (aa (vI (w64 ((w64 (s_1.f_at+1))-1))) (aa (.ref (av 0) 0 0) (aa (.ref (av 0) 0 0) (aL BD rfl 0 rfl wz (aK 8 0 (.inr (by kernel_rfl)) (λ_ _ ag=>⟨.inl ⟨rfl,rfl⟩,trivial⟩) nY rV rfl rfl (vL eI s_1.L) rfl wz (dE pE rfl wz ?_))))))))))))))
  obtain ⟨q_8,hz_9,hF⟩:=bind_some hF
  refine h_quo rfl rfl hz_9 wz (aa (vI q_8) (ah (aU (H0:=([((av 0),some (.cells 2 [(vL eI s_1.L),(vI (w64 (s_1.f_at+1)))]))]:Hp)) ([(0,(.ref (av 0) 0 0)),(1,(vI n_2)),(5,(vI q_6)),(6,(vI q_8))]:SL_) (by kernel_rfl) (pJ (by kernel_rfl)) (aj (aa (.ref (av 0) 0 0) (aa (.ref (av 0) 0 0) (aL BD rfl 0 rfl wz (aK 0 0 il ft nY rV rfl rfl (vL eI s_1.L) rfl wz (aa (vI q_6) ?_)))))))))
  obtain ⟨y_10,hy_11,hF⟩:=bind_some hF
  refine dJ eX rfl rfl hy_11 rfl wz (bD sz3 ag3 rfl (vI y_10) rfl wz ?_)
  obtain ⟨r_12,hr_13,hF⟩:=bind_some hF
  refine aA (qE hr_13) rfl hb41 rfl rfl rfl rfl wz (aa (vI q_8) (aa (vI q_6) (aa (vI (w64 (7919+q_6))) (aa (vI (w64 (q_8*(w64 (7919+q_6))))) (aa (vI (w64 (r_12+(w64 (q_8*(w64 (7919+q_6))))))) (aa (vI n_2) ?_))))))
  obtain ⟨r_14,hr_15,hF⟩:=bind_some hF
  refine aA (qE hr_15) rfl hb41 rfl rfl rfl rfl wz (aa (vI r_14) (ah ?_))
  obtain rfl:=ae hF
  exact aB (rU (.inr rfl) [(vI r_14)] _ [0] [av 0] ⟨rfl,trivial⟩ (.cons (gZ rfl rfl) (.nil)) (by kernel_rfl) ⟨(by kernel_rfl),trivial⟩ (by decide) (by kernel_rfl))
theorem bU {s_1:Stream} {n_2:Int} {r:Bool×Stream} (hF:bT s_1 n_2=some r) :
  FnM Tryz.prog 15 [(.ref (av 0) 0 0),(vI n_2)] [(.cells 2 [(vL eI s_1.L),(vI s_1.f_at)])] (vB r.1) [some (.cells 2 [(vL eI r.2.L),(vI r.2.f_at)])]:=by
 refine FnM.of_wH ⟨Tryz.prog,9,[],[]⟩ rfl Tryz.func15 rfl rfl (lb_ rfl) (by kernel_rfl) ?_
 unfold bT at hF
 refine aj (aa (vB false) (ah (aj (aa (.ref (av 0) 0 0) (aa (vI n_2) ?_)))))
 obtain ⟨r_3,hr_4,hF⟩:=bind_some hF
 refine aQ 0 [0] il ft (dn hr_4) rfl zS rfl (by kernel_rfl) (by kernel_rfl) (by kernel_rfl) (by kernel_rfl) (by kernel_rfl) (by kernel_rfl) (by kernel_rfl) (by decide) (by kernel_rfl) wz (vI r_3.1) (by kernel_rfl) ([((av 0),some (.cells 2 [(vL eI r_3.2.L),(vI r_3.2.f_at)]))]:Hp) (by kernel_rfl) (aa (vB (r_3.1==0)) (aa (vB (r_3.1==0)) (ah ?_)))
 obtain rfl:=ae hF
 exact aB (rU (.inr rfl) [(vB (r_3.1==0))] _ [0] [av 0] ⟨rfl,trivial⟩ (.cons (gZ rfl rfl) (.nil)) (by kernel_rfl) ⟨(by kernel_rfl),trivial⟩ (by decide) (by kernel_rfl))
theorem fI {s_1:Stream} {l_2:(List ByteArray)} {r:ByteArray×Stream} (hF:eH s_1 l_2=some r) :
  FnM Tryz.prog 17 [(.ref (av 0) 0 0),(vL eS l_2)] [(.cells 2 [(vL eI s_1.L),(vI s_1.f_at)])] (vS r.1) [some (.cells 2 [(vL eI r.2.L),(vI r.2.f_at)])]:=by
 refine FnM.of_wH ⟨Tryz.prog,12,[],[]⟩ rfl Tryz.func17 rfl rfl (lb_ rfl) (by kernel_rfl) ?_
 unfold eH at hF
 refine aj (aa (vS (⟨#[]⟩:ByteArray)) (ah (aj (aa (vL eS l_2) (aa (.ref (av 0) 0 0) (aa (vL eS l_2) (dE lS rfl wz ?_)))))))
 obtain ⟨r_3,hr_4,hF⟩:=bind_some hF
 refine aQ 0 [0] il ft (dn hr_4) rfl zS rfl (by kernel_rfl) (by kernel_rfl) (by kernel_rfl) (by kernel_rfl) (by kernel_rfl) (by kernel_rfl) (by kernel_rfl) (by decide) (by kernel_rfl) wz (vI r_3.1) (by kernel_rfl) ([((av 0),some (.cells 2 [(vL eI r_3.2.L),(vI r_3.2.f_at)]))]:Hp) (by kernel_rfl) ?_
 obtain ⟨y_6,hy_7,hF⟩:=bind_some hF
 refine dJ fF rfl rfl hy_7 rfl wz (bD sz9 ag9 rfl (vS y_6) rfl wz (aa (vS y_6) (ah ?_)))
 obtain rfl:=ae hF
 exact aB (rU (.inr rfl) [(vS y_6)] _ [0] [av 0] ⟨rfl,trivial⟩ (.cons (gZ rfl rfl) (.nil)) (by kernel_rfl) ⟨(by kernel_rfl),trivial⟩ (by decide) (by kernel_rfl))
theorem ko {s_1:Stream} {low_2:Int} {high_3:Int} {r:Int×Stream} (hF:gQ s_1 low_2 high_3=some r) :
  FnM Tryz.prog 40 [(.ref (av 0) 0 0),(vI low_2),(vI high_3)] [(.cells 2 [(vL eI s_1.L),(vI s_1.f_at)])] (vI r.1) [some (.cells 2 [(vL eI r.2.L),(vI r.2.f_at)])]:=by
 refine FnM.of_wH ⟨Tryz.prog,19,[],[]⟩ rfl Tryz.func40 rfl rfl (lb_ rfl) (by kernel_rfl) ?_
 unfold gQ at hF
 refine aj (aa (vI 0) (ah (au (aj (aa (vI high_3) (aa (vI low_2) (aa (vB (decide (high_3<low_2))) (ah ?_))))))))
 rcases ak hF with⟨hc_4,hF⟩|⟨hc_4,hF⟩
 ·refine aD rfl hc_4 (aj (aa (vI low_2) (aa (vI low_2) (ah ?_))))
  obtain rfl:=ae hF
  exact aB (rU (.inr rfl) [(vI low_2)] _ [0] [av 0] ⟨rfl,trivial⟩ (.cons (gZ rfl rfl) (.nil)) (by kernel_rfl) ⟨(by kernel_rfl),trivial⟩ (by decide) (by kernel_rfl))
 ·refine aF rfl hc_4 (aC (aj (aa (vI low_2) (aa (.ref (av 0) 0 0) (aa (vI high_3) (aa (vI low_2) (aa (vI (w64 (high_3-low_2))) (aa (vI (w64 ((w64 (high_3-low_2))+1))) ?_))))))))
  obtain ⟨r_5,hr_6,hF⟩:=bind_some hF
  refine aQ 0 [0] il ft (dn hr_6) rfl zS rfl (by kernel_rfl) (by kernel_rfl) (by kernel_rfl) (by kernel_rfl) (by kernel_rfl) (by kernel_rfl) (by kernel_rfl) (by decide) (by kernel_rfl) wz (vI r_5.1) (by kernel_rfl) ([((av 0),some (.cells 2 [(vL eI r_5.2.L),(vI r_5.2.f_at)]))]:Hp) (by kernel_rfl) (aa (vI (w64 (low_2+r_5.1))) (aa (vI (w64 (low_2+r_5.1))) (ah ?_)))
  obtain rfl:=ae hF
  exact aB (rU (.inr rfl) [(vI (w64 (low_2+r_5.1)))] _ [0] [av 0] ⟨rfl,trivial⟩ (.cons (gZ rfl rfl) (.nil)) (by kernel_rfl) ⟨(by kernel_rfl),trivial⟩ (by decide) (by kernel_rfl))
theorem aZ {s_1:Stream} {l_2:(List Int)} {r:Int×Stream} (hF:cZ s_1 l_2=some r) :
  FnM Tryz.prog 20 [(.ref (av 0) 0 0),(vL eI l_2)] [(.cells 2 [(vL eI s_1.L),(vI s_1.f_at)])] (vI r.1) [some (.cells 2 [(vL eI r.2.L),(vI r.2.f_at)])]:=by
 refine FnM.of_wH ⟨Tryz.prog,12,[],[]⟩ rfl Tryz.func20 rfl rfl (lb_ rfl) (by kernel_rfl) ?_
 unfold cZ at hF
 refine aj (aa (vI 0) (ah (aj (aa (vL eI l_2) (aa (.ref (av 0) 0 0) (aa (vL eI l_2) (dE pE rfl wz ?_)))))))
 obtain ⟨r_3,hr_4,hF⟩:=bind_some hF
 refine aQ 0 [0] il ft (dn hr_4) rfl zS rfl (by kernel_rfl) (by kernel_rfl) (by kernel_rfl) (by kernel_rfl) (by kernel_rfl) (by kernel_rfl) (by kernel_rfl) (by decide) (by kernel_rfl) wz (vI r_3.1) (by kernel_rfl) ([((av 0),some (.cells 2 [(vL eI r_3.2.L),(vI r_3.2.f_at)]))]:Hp) (by kernel_rfl) ?_
 obtain ⟨y_6,hy_7,hF⟩:=bind_some hF
 refine dJ eX rfl rfl hy_7 rfl wz (bD sz3 ag3 rfl (vI y_6) rfl wz (aa (vI y_6) (ah ?_)))
 obtain rfl:=ae hF
 exact aB (rU (.inr rfl) [(vI y_6)] _ [0] [av 0] ⟨rfl,trivial⟩ (.cons (gZ rfl rfl) (.nil)) (by kernel_rfl) ⟨(by kernel_rfl),trivial⟩ (by decide) (by kernel_rfl))
theorem nL {s_1:Stream} {r:(List Entry)×Stream} (hF:bC s_1=some r) :
  FnM Tryz.prog 14 [(.ref (av 0) 0 0)] [(.cells 2 [(vL eI s_1.L),(vI s_1.f_at)])] (vL Entry.enc r.1) [some (.cells 2 [(vL eI r.2.L),(vI r.2.f_at)])]:=by
 refine FnM.of_wH ⟨Tryz.prog,89,[],[]⟩ rfl Tryz.func14 rfl rfl (lb_ rfl) (by kernel_rfl) ?_
 unfold bC at hF
 refine aj (aa .nil (ah (aj (aa .nil (ah (au (aj (dw (([(⟨#[101,97]⟩:ByteArray),(⟨#[101,98]⟩:ByteArray),(⟨#[101,99]⟩:ByteArray),(⟨#[101,100]⟩:ByteArray)]:List ByteArray).map eS) fF nK rfl rfl rfl rfl rfl wz (dE lS rfl wz (aa (vI 0) (ah (jZ (λn_8 => ?_)))))))))))))
 obtain ⟨o_13,hj_14,hF⟩:=bind_some hF
 obtain ⟨hn_6,hj_14⟩:=bI hj_14
 refine iq (σ:=(List Entry)×(List Int)×Int) (N:=Nm) (λp=>(λ(s_7:(List Entry)×(List Int)×Int) (n_10:Nm)=>([(3,(gV n_10 13 s_7.1))]:SL_)) p.1 p.2) (λp=>(λ(s_7:(List Entry)×(List Int)×Int) (n_10:Nm)=>([((av 0),some (.cells 2 [(vL eI s_7.2.1),(vI s_7.2.2)])),(n_10,gB 13 Entry.enc s_7.1)]:Hp)) p.1 p.2) (λ(k_2:Nat)=>(λp=>(λ(s_7:(List Entry)×(List Int)×Int) (n_10:Nm)=>([(0,(.ref (av 0) 0 0)),(3,(gV n_10 13 s_7.1)),(11,(vL eS ([(⟨#[101,97]⟩:ByteArray),(⟨#[101,98]⟩:ByteArray),(⟨#[101,99]⟩:ByteArray),(⟨#[101,100]⟩:ByteArray)]:List ByteArray))),(12,(vI (([(⟨#[101,97]⟩:ByteArray),(⟨#[101,98]⟩:ByteArray),(⟨#[101,99]⟩:ByteArray),(⟨#[101,100]⟩:ByteArray)]:List ByteArray).length:Int))),(13,(vI (k_2:Int)))]:SL_)) p.1 p.2)) (λk x s=>bf k x s) o_13 ([(⟨#[101,97]⟩:ByteArray),(⟨#[101,98]⟩:ByteArray),(⟨#[101,99]⟩:ByteArray),(⟨#[101,100]⟩:ByteArray)]:List ByteArray) ((([]:List Entry),s_1.L,s_1.f_at),n_8) hj_14 rfl (aN rfl) ?_ ?_
 ·rintro ⟨k_2,l_3,s_7,n_10⟩ ⟨hL_12,hD_5⟩
  dsimp only at hL_12 hD_5
  cases l_3 with
  | nil =>
   obtain rfl:=ae hL_12
   refine aj (aa (vB (decide ((k_2:Int)<(([(⟨#[101,97]⟩:ByteArray),(⟨#[101,98]⟩:ByteArray),(⟨#[101,99]⟩:ByteArray),(⟨#[101,100]⟩:ByteArray)]:List ByteArray).length:Int)))) (ah ?_))
   refine au (aF rfl (drop_nil hD_5) (bM ?_))
   exact bG (s_7,n_10) rfl rfl (aN rfl)
  | cons x_4 l_3 =>
   obtain ⟨c_,hc_11,hL_12⟩:=bind_some hL_12
   refine aj (aa (vB (decide ((k_2:Int)<(([(⟨#[101,97]⟩:ByteArray),(⟨#[101,98]⟩:ByteArray),(⟨#[101,99]⟩:ByteArray),(⟨#[101,100]⟩:ByteArray)]:List ByteArray).length:Int)))) (ah ?_))
   refine au (aD rfl (bQ hD_5) (aC ?_))
   unfold bf at hc_11
   refine au (bg (aj (dJ fF rfl rfl (dB hD_5) rfl wz (bD sz9 ag9 rfl (vS x_4) rfl wz (aa (vS x_4) (ah (au (aj (aa (.ref (av 0) 0 0) ?_)))))))))
   obtain ⟨r_15,hr_16,hc_11⟩:=bind_some hc_11
   refine aQ 0 [0] il ft (bU hr_16) rfl yu rfl (by kernel_rfl) (by kernel_rfl) (by kernel_rfl) (by kernel_rfl) (by kernel_rfl) (by kernel_rfl) (by kernel_rfl) (by decide) (by kernel_rfl) wz (vB r_15.1) (by kernel_rfl) ([((av 0),some (.cells 2 [(vL eI r_15.2.L),(vI r_15.2.f_at)])),(n_10,gB 13 Entry.enc s_7.1)]:Hp) (by kernel_rfl) (ah ?_)
   rcases ak hc_11 with⟨hc_18,hc_11⟩|⟨hc_18,hc_11⟩
   ·refine aD rfl hc_18 (bM (ax (gM (bZ hD_5 hn_6) wz rfl (aa (vI ((k_2+1:Nat):Int)) (ah ?_)))))
    obtain rfl:=ae hc_11
    exact bK (k_2+1,l_3,(s_7.1,r_15.2.L,r_15.2.f_at),n_10) ⟨hL_12,bv hD_5⟩ (ls_ _) rfl (aN rfl)
   ·refine aF rfl hc_18 (aC (aj (aa (vS x_4) (aa (.ref (av 0) 0 0) (dw (([(⟨#[105,97]⟩:ByteArray),(⟨#[105,98]⟩:ByteArray),(⟨#[105,99]⟩:ByteArray)]:List ByteArray).map eS) fF nK rfl rfl rfl rfl rfl wz ?_)))))
    obtain ⟨r_19,hr_20,hc_11⟩:=bind_some hc_11
    refine aQ 0 [0] il ft (fI hr_20) rfl FH rfl (by kernel_rfl) (by kernel_rfl) (by kernel_rfl) (by kernel_rfl) (by kernel_rfl) (by kernel_rfl) (by kernel_rfl) (by decide) (by kernel_rfl) wz (vS r_19.1) (by kernel_rfl) ([((av 0),some (.cells 2 [(vL eI r_19.2.L),(vI r_19.2.f_at)])),(n_10,gB 13 Entry.enc s_7.1)]:Hp) (by kernel_rfl) (aa (.ref (av 0) 0 0) ?_)
    obtain ⟨r_22,hr_23,hc_11⟩:=bind_some hc_11
    refine aQ 0 [0] il ft (ko hr_23) rfl hb40 rfl (by kernel_rfl) (by kernel_rfl) (by kernel_rfl) (by kernel_rfl) (by kernel_rfl) (by kernel_rfl) (by kernel_rfl) (by decide) (by kernel_rfl) wz (vI r_22.1) (by kernel_rfl) ([((av 0),some (.cells 2 [(vL eI r_22.2.L),(vI r_22.2.f_at)])),(n_10,gB 13 Entry.enc s_7.1)]:Hp) (by kernel_rfl) (aa (.ref (av 0) 0 0) (dw (([0,0,1,3]:List Int).map eI) eX lq rfl rfl rfl rfl rfl wz ?_))
    obtain ⟨r_25,hr_26,hc_11⟩:=bind_some hc_11
    refine aQ 0 [0] il ft (aZ hr_26) rfl rT rfl (by kernel_rfl) (by kernel_rfl) (by kernel_rfl) (by kernel_rfl) (by kernel_rfl) (by kernel_rfl) (by kernel_rfl) (by decide) (by kernel_rfl) wz (vI r_25.1) (by kernel_rfl) ([((av 0),some (.cells 2 [(vL eI r_25.2.L),(vI r_25.2.f_at)])),(n_10,gB 13 Entry.enc s_7.1)]:Hp) (by kernel_rfl) (aa (.ref (av 0) 0 0) (dw (([1,1,2,3,7]:List Int).map eI) eX lq rfl rfl rfl rfl rfl wz ?_))
    obtain ⟨r_28,hr_29,hc_11⟩:=bind_some hc_11
    refine aQ 0 [0] il ft (aZ hr_29) rfl rT rfl (by kernel_rfl) (by kernel_rfl) (by kernel_rfl) (by kernel_rfl) (by kernel_rfl) (by kernel_rfl) (by kernel_rfl) (by decide) (by kernel_rfl) wz (vI r_28.1) (by kernel_rfl) ([((av 0),some (.cells 2 [(vL eI r_28.2.L),(vI r_28.2.f_at)])),(n_10,gB 13 Entry.enc s_7.1)]:Hp) (by kernel_rfl) (aa (.ref (av 0) 0 0) (dw (([127,127,31,96,1,2]:List Int).map eI) eX lq rfl rfl rfl rfl rfl wz ?_))
    obtain ⟨r_31,hr_32,hc_11⟩:=bind_some hc_11
    refine aQ 0 [0] il ft (aZ hr_32) rfl rT rfl (by kernel_rfl) (by kernel_rfl) (by kernel_rfl) (by kernel_rfl) (by kernel_rfl) (by kernel_rfl) (by kernel_rfl) (by decide) (by kernel_rfl) wz (vI r_31.1) (by kernel_rfl) ([((av 0),some (.cells 2 [(vL eI r_31.2.L),(vI r_31.2.f_at)])),(n_10,gB 13 Entry.enc s_7.1)]:Hp) (by kernel_rfl) (aa (.ref (av 0) 0 0) (dw (([0,0,60,600,1380]:List Int).map eI) eX lq rfl rfl rfl rfl rfl wz ?_))
    obtain ⟨r_34,hr_35,hc_11⟩:=bind_some hc_11
    refine aQ 0 [0] il ft (aZ hr_35) rfl rT rfl (by kernel_rfl) (by kernel_rfl) (by kernel_rfl) (by kernel_rfl) (by kernel_rfl) (by kernel_rfl) (by kernel_rfl) (by decide) (by kernel_rfl) wz (vI r_34.1) (by kernel_rfl) ([((av 0),some (.cells 2 [(vL eI r_34.2.L),(vI r_34.2.f_at)])),(n_10,gB 13 Entry.enc s_7.1)]:Hp) (by kernel_rfl) (aa (.ref (av 0) 0 0) (dw (([0,60,120,600,720,1439]:List Int).map eI) eX lq rfl rfl rfl rfl rfl wz ?_))
    obtain ⟨r_37,hr_38,hc_11⟩:=bind_some hc_11
    refine aQ 0 [0] il ft (aZ hr_38) rfl rT rfl (by kernel_rfl) (by kernel_rfl) (by kernel_rfl) (by kernel_rfl) (by kernel_rfl) (by kernel_rfl) (by kernel_rfl) (by decide) (by kernel_rfl) wz (vI r_37.1) (by kernel_rfl) ([((av 0),some (.cells 2 [(vL eI r_37.2.L),(vI r_37.2.f_at)])),(n_10,gB 13 Entry.enc s_7.1)]:Hp) (by kernel_rfl) (aa (.ref (av 0) 0 0) (dw (([0,0,1,5]:List Int).map eI) eX lq rfl rfl rfl rfl rfl wz ?_))
    obtain ⟨r_40,hr_41,hc_11⟩:=bind_some hc_11
    refine aQ 0 [0] il ft (aZ hr_41) rfl rT rfl (by kernel_rfl) (by kernel_rfl) (by kernel_rfl) (by kernel_rfl) (by kernel_rfl) (by kernel_rfl) (by kernel_rfl) (by decide) (by kernel_rfl) wz (vI r_40.1) (by kernel_rfl) ([((av 0),some (.cells 2 [(vL eI r_40.2.L),(vI r_40.2.f_at)])),(n_10,gB 13 Entry.enc s_7.1)]:Hp) (by kernel_rfl) (aa (.ref (av 0) 0 0) ?_)
    obtain ⟨r_43,hr_44,hc_11⟩:=bind_some hc_11
    refine aQ 0 [0] il ft (bU hr_44) rfl yu rfl (by kernel_rfl) (by kernel_rfl) (by kernel_rfl) (by kernel_rfl) (by kernel_rfl) (by kernel_rfl) (by kernel_rfl) (by decide) (by kernel_rfl) wz (vB r_43.1) (by kernel_rfl) ([((av 0),some (.cells 2 [(vL eI r_43.2.L),(vI r_43.2.f_at)])),(n_10,gB 13 Entry.enc s_7.1)]:Hp) (by kernel_rfl) (aG (.agg [(vS x_4),(vS r_19.1),(vI r_22.1),(vI r_25.1),(vI 0),(vI r_28.1),(vI r_31.1),.nil,(vI r_34.1),(vI r_37.1),(vI r_40.1),.nil,(vB r_43.1)]) wz (by kernel_rfl) (gY 0 (.inl rfl) z39 rfl wz (λn_46=>gK 0 il ft 2 iw rfl rfl [(vS x_4),(vS r_19.1),(vI r_22.1),(vI r_25.1),(vI 0),(vI r_28.1),(vI r_31.1),.nil,(vI r_34.1),(vI r_37.1),(vI r_40.1),.nil,(vB r_43.1)] rfl wz (ah (aU (H0:=([((av 0),some (.cells 2 [(vL eI r_43.2.L),(vI r_43.2.f_at)])),(n_10,gB 13 Entry.enc s_7.1),(n_46,some (.cells 13 [(vS x_4),(vS r_19.1),(vI r_22.1),(vI r_25.1),(vI 0),(vI r_28.1),(vI r_31.1),.nil,(vI r_34.1),(vI r_37.1),(vI r_40.1),.nil,(vB r_43.1)]))]:Hp)) ([(0,(.ref (av 0) 0 0)),(3,(gV n_10 13 s_7.1)),(6,(.ref n_46 0 0)),(11,(vL eS ([(⟨#[101,97]⟩:ByteArray),(⟨#[101,98]⟩:ByteArray),(⟨#[101,99]⟩:ByteArray),(⟨#[101,100]⟩:ByteArray)]:List ByteArray))),(12,(vI (([(⟨#[101,97]⟩:ByteArray),(⟨#[101,98]⟩:ByteArray),(⟨#[101,99]⟩:ByteArray),(⟨#[101,100]⟩:ByteArray)]:List ByteArray).length:Int))),(13,(vI (k_2:Int)))]:SL_) (by kernel_rfl) (pJ (by kernel_rfl)) (au (eB (aL ou rfl 3 rfl wz (aK 1 2 (.inr (by kernel_rfl)) (λ_ _ ag=>trivial) sz3 ag3 rfl rfl (vI r_25.1) rfl wz (aa (.ref (av 0) 0 0) (dw (([0,1,5,10,30]:List Int).map eI) eX lq rfl rfl rfl rfl rfl wz ?_)))))))))))
    obtain ⟨r_47,hr_48,hc_11⟩:=bind_some hc_11
    refine aQ 4 [0] (.inr (by kernel_rfl)) (λ_ _ ag=>by exact⟨.inr (.inl (dis1 (EU ag (i:=0) (j:=2) rfl rfl (by decide)))),trivial⟩) (aZ hr_48) rfl rT rfl (by kernel_rfl) (by kernel_rfl) (by kernel_rfl) (by kernel_rfl) (by kernel_rfl) (by kernel_rfl) (by kernel_rfl) (by decide) (by kernel_rfl) wz (vI r_47.1) (by kernel_rfl) ([((av 0),some (.cells 2 [(vL eI r_47.2.L),(vI r_47.2.f_at)])),(n_10,gB 13 Entry.enc s_7.1),(n_46,some (.cells 13 [(vS x_4),(vS r_19.1),(vI r_22.1),(vI r_25.1),(vI 0),(vI r_28.1),(vI r_31.1),.nil,(vI r_34.1),(vI r_37.1),(vI r_40.1),.nil,(vB r_43.1)]))]:Hp) (by kernel_rfl) (aa (vI (w64 (r_25.1+r_47.1))) (aL nH rfl 4 rfl wz (gK 7 (.inr (by kernel_rfl)) (λ_ _ ag=>⟨.inr (.inr (by kernel_rfl)),⟨.inr (.inr (by kernel_rfl)),trivial⟩⟩) 2 sz3 rfl rfl [(vS x_4),(vS r_19.1),(vI r_22.1),(vI r_25.1),(vI (w64 (r_25.1+r_47.1))),(vI r_28.1),(vI r_31.1),.nil,(vI r_34.1),(vI r_37.1),(vI r_40.1),.nil,(vB r_43.1)] rfl wz (ah (au (aj (dw (([1,2,8]:List Int).map eI) eX lq rfl rfl rfl rfl rfl wz (dE pE rfl wz (aa (vI 0) (ah (jZ (λn_56 => ?_))))))))))))
    obtain ⟨o_61,hj_62,hc_11⟩:=bind_some hc_11
    obtain ⟨hn_54,hj_62⟩:=bI hj_62
    refine iq (σ:=(List Int)×(List Int)×Int) (N:=Nm) (λp=>(λ(s_55:(List Int)×(List Int)×Int) (n_58:Nm)=>([(0,(.ref (av 0) 0 0)),(3,(gV n_10 13 s_7.1)),(6,(.ref n_46 0 0)),(11,(vL eS ([(⟨#[101,97]⟩:ByteArray),(⟨#[101,98]⟩:ByteArray),(⟨#[101,99]⟩:ByteArray),(⟨#[101,100]⟩:ByteArray)]:List ByteArray))),(12,(vI (([(⟨#[101,97]⟩:ByteArray),(⟨#[101,98]⟩:ByteArray),(⟨#[101,99]⟩:ByteArray),(⟨#[101,100]⟩:ByteArray)]:List ByteArray).length:Int))),(13,(vI (k_2:Int)))]:SL_)) p.1 p.2) (λp=>(λ(s_55:(List Int)×(List Int)×Int) (n_58:Nm)=>([((av 0),some (.cells 2 [(vL eI s_55.2.1),(vI s_55.2.2)])),(n_10,gB 13 Entry.enc s_7.1),(n_46,some (.cells 13 [(vS x_4),(vS r_19.1),(vI r_22.1),(vI r_25.1),(vI (w64 (r_25.1+r_47.1))),(vI r_28.1),(vI r_31.1),(gV n_58 1 s_55.1),(vI r_34.1),(vI r_37.1),(vI r_40.1),.nil,(vB r_43.1)])),(n_58,gB 1 eI s_55.1)]:Hp)) p.1 p.2) (λ(k_50:Nat)=>(λp=>(λ(s_55:(List Int)×(List Int)×Int) (n_58:Nm)=>([(0,(.ref (av 0) 0 0)),(3,(gV n_10 13 s_7.1)),(6,(.ref n_46 0 0)),(11,(vL eS ([(⟨#[101,97]⟩:ByteArray),(⟨#[101,98]⟩:ByteArray),(⟨#[101,99]⟩:ByteArray),(⟨#[101,100]⟩:ByteArray)]:List ByteArray))),(12,(vI (([(⟨#[101,97]⟩:ByteArray),(⟨#[101,98]⟩:ByteArray),(⟨#[101,99]⟩:ByteArray),(⟨#[101,100]⟩:ByteArray)]:List ByteArray).length:Int))),(13,(vI (k_2:Int))),(53,(vL eI ([1,2,8]:List Int))),(54,(vI (([1,2,8]:List Int).length:Int))),(55,(vI (k_50:Int)))]:SL_)) p.1 p.2)) (λk x s=>bN k x s) o_61 ([1,2,8]:List Int) ((([]:List Int),r_47.2.L,r_47.2.f_at),n_56) hj_62 rfl (aN rfl) ?_ ?_
    ·rintro ⟨k_50,l_51,s_55,n_58⟩ ⟨hL_60,hD_53⟩
     dsimp only at hL_60 hD_53
     cases l_51 with
     | nil =>
      obtain rfl:=ae hL_60
      refine aj (aa (vB (decide ((k_50:Int)<(([1,2,8]:List Int).length:Int)))) (ah ?_))
      refine au (aF rfl (drop_nil hD_53) (bM ?_))
      exact bG (s_55,n_58) rfl rfl (aN rfl)
     | cons x_52 l_51 =>
      obtain ⟨c_,hc_59,hL_60⟩:=bind_some hL_60
      refine aj (aa (vB (decide ((k_50:Int)<(([1,2,8]:List Int).length:Int)))) (ah ?_))
      refine au (aD rfl (bQ hD_53) (aC ?_))
      unfold bN at hc_59
      refine au (bg (aj (dJ eX rfl rfl (dB hD_53) rfl wz (bD sz3 ag3 rfl (vI x_52) rfl wz (aa (vI x_52) (ah (aj (aa (.ref (av 0) 0 0) ?_))))))))
      obtain ⟨r_63,hr_64,hc_59⟩:=bind_some hc_59
      refine aQ 0 [0] il ft (bU hr_64) rfl yu rfl (by kernel_rfl) (by kernel_rfl) (by kernel_rfl) (by kernel_rfl) (by kernel_rfl) (by kernel_rfl) (by kernel_rfl) (by decide) (by kernel_rfl) wz (vB r_63.1) (by kernel_rfl) ([((av 0),some (.cells 2 [(vL eI r_63.2.L),(vI r_63.2.f_at)])),(n_10,gB 13 Entry.enc s_7.1),(n_46,some (.cells 13 [(vS x_4),(vS r_19.1),(vI r_22.1),(vI r_25.1),(vI (w64 (r_25.1+r_47.1))),(vI r_28.1),(vI r_31.1),(gV n_58 1 s_55.1),(vI r_34.1),(vI r_37.1),(vI r_40.1),.nil,(vB r_43.1)])),(n_58,gB 1 eI s_55.1)]:Hp) (by kernel_rfl) (ah ?_)
      obtain ⟨v_66,h_67,hc_59⟩:=bind_some hc_59
      refine jD (β:=Nm) (λ(n_68:Nm)=>([(0,(.ref (av 0) 0 0)),(3,(gV n_10 13 s_7.1)),(6,(.ref n_46 0 0)),(11,(vL eS ([(⟨#[101,97]⟩:ByteArray),(⟨#[101,98]⟩:ByteArray),(⟨#[101,99]⟩:ByteArray),(⟨#[101,100]⟩:ByteArray)]:List ByteArray))),(12,(vI (([(⟨#[101,97]⟩:ByteArray),(⟨#[101,98]⟩:ByteArray),(⟨#[101,99]⟩:ByteArray),(⟨#[101,100]⟩:ByteArray)]:List ByteArray).length:Int))),(13,(vI (k_2:Int))),(53,(vL eI ([1,2,8]:List Int))),(54,(vI (([1,2,8]:List Int).length:Int))),(55,(vI (k_50:Int)))]:SL_)) (λ(n_68:Nm)=>([((av 0),some (.cells 2 [(vL eI r_63.2.L),(vI r_63.2.f_at)])),(n_10,gB 13 Entry.enc s_7.1),(n_46,some (.cells 13 [(vS x_4),(vS r_19.1),(vI r_22.1),(vI r_25.1),(vI (w64 (r_25.1+r_47.1))),(vI r_28.1),(vI r_31.1),(gV n_68 1 v_66),(vI r_34.1),(vI r_37.1),(vI r_40.1),.nil,(vB r_43.1)])),(n_68,gB 1 eI v_66)]:Hp)) (λ_=>True) ?_ ?_
      ·rcases ak h_67 with⟨hc_69,h_67⟩|⟨hc_69,h_67⟩
       ·refine aD rfl hc_69 (ax (aL jv rfl 7 rfl wz (aK 0 2 il ft nY rV rfl rfl (gV n_58 1 s_55.1) rfl wz (aa (vI x_52) (dw (([x_52]:List Int).map eI) eX lq rfl rfl rfl rfl rfl wz ?_)))))
        obtain ⟨a_70,hz_71,h_67⟩:=bind_some h_67
        refine jX 0 il ft (i:=3) xw xw sz3 z3 rfl (by decide) by3 (by decide) (λ_=>rfl) rfl rfl rfl hz_71 wz (λn_72=>aL jv rfl 7 rfl wz (gK 0 il ft 2 nY rfl rfl [(vS x_4),(vS r_19.1),(vI r_22.1),(vI r_25.1),(vI (w64 (r_25.1+r_47.1))),(vI r_28.1),(vI r_31.1),(gV n_72 1 a_70),(vI r_34.1),(vI r_37.1),(vI r_40.1),.nil,(vB r_43.1)] (Du rfl) wz (ah ?_)))
        obtain rfl:=ae h_67
        exact bG n_72 trivial rfl (aN rfl)
       ·refine aF rfl hc_69 (aC ?_)
        obtain rfl:=ae h_67
        exact bG n_58 trivial rfl (aN rfl)
      ·rintro n_68 _ sl_ H_ hp_ hq_
       refine aU _ hp_ hq_ (ax (gM (bZ hD_53 hn_54) wz rfl (aa (vI ((k_50+1:Nat):Int)) (ah ?_))))
       obtain rfl:=ae hc_59
       exact bK (k_50+1,l_51,(v_66,r_63.2.L,r_63.2.f_at),n_68) ⟨hL_60,bv hD_53⟩ (ls_ _) rfl (aN rfl)
    ·rintro ⟨s_55,n_58⟩ ho_ sl_ H_ hp_ hq_
     subst ho_
     refine aU _ hp_ hq_ (au (aj (dw (([(⟨#[99,105,116,121]⟩:ByteArray),(⟨#[109,97,108,108]⟩:ByteArray)]:List ByteArray).map eS) fF nK rfl rfl rfl rfl rfl wz (dE lS rfl wz (aa (vI 0) (ah (jZ (λn_79 => ?_))))))))
     obtain ⟨o_84,hj_85,hc_11⟩:=bind_some hc_11
     obtain ⟨hn_77,hj_85⟩:=bI hj_85
     refine iq (σ:=(List ByteArray)×(List Int)×Int) (N:=Nm) (λp=>(λ(s_78:(List ByteArray)×(List Int)×Int) (n_81:Nm)=>([(0,(.ref (av 0) 0 0)),(3,(gV n_10 13 s_7.1)),(6,(.ref n_46 0 0)),(11,(vL eS ([(⟨#[101,97]⟩:ByteArray),(⟨#[101,98]⟩:ByteArray),(⟨#[101,99]⟩:ByteArray),(⟨#[101,100]⟩:ByteArray)]:List ByteArray))),(12,(vI (([(⟨#[101,97]⟩:ByteArray),(⟨#[101,98]⟩:ByteArray),(⟨#[101,99]⟩:ByteArray),(⟨#[101,100]⟩:ByteArray)]:List ByteArray).length:Int))),(13,(vI (k_2:Int)))]:SL_)) p.1 p.2) (λp=>(λ(s_78:(List ByteArray)×(List Int)×Int) (n_81:Nm)=>([((av 0),some (.cells 2 [(vL eI s_78.2.1),(vI s_78.2.2)])),(n_10,gB 13 Entry.enc s_7.1),(n_46,some (.cells 13 [(vS x_4),(vS r_19.1),(vI r_22.1),(vI r_25.1),(vI (w64 (r_25.1+r_47.1))),(vI r_28.1),(vI r_31.1),(gV n_58 1 s_55.1),(vI r_34.1),(vI r_37.1),(vI r_40.1),(gV n_81 1 s_78.1),(vB r_43.1)])),(n_58,gB 1 eI s_55.1),(n_81,gB 1 eS s_78.1)]:Hp)) p.1 p.2) (λ(k_73:Nat)=>(λp=>(λ(s_78:(List ByteArray)×(List Int)×Int) (n_81:Nm)=>([(0,(.ref (av 0) 0 0)),(3,(gV n_10 13 s_7.1)),(6,(.ref n_46 0 0)),(11,(vL eS ([(⟨#[101,97]⟩:ByteArray),(⟨#[101,98]⟩:ByteArray),(⟨#[101,99]⟩:ByteArray),(⟨#[101,100]⟩:ByteArray)]:List ByteArray))),(12,(vI (([(⟨#[101,97]⟩:ByteArray),(⟨#[101,98]⟩:ByteArray),(⟨#[101,99]⟩:ByteArray),(⟨#[101,100]⟩:ByteArray)]:List ByteArray).length:Int))),(13,(vI (k_2:Int))),(68,(vL eS ([(⟨#[99,105,116,121]⟩:ByteArray),(⟨#[109,97,108,108]⟩:ByteArray)]:List ByteArray))),(69,(vI (([(⟨#[99,105,116,121]⟩:ByteArray),(⟨#[109,97,108,108]⟩:ByteArray)]:List ByteArray).length:Int))),(70,(vI (k_73:Int)))]:SL_)) p.1 p.2)) (λk x s=>bP k x s) o_84 ([(⟨#[99,105,116,121]⟩:ByteArray),(⟨#[109,97,108,108]⟩:ByteArray)]:List ByteArray) ((([]:List ByteArray),s_55.2.1,s_55.2.2),n_79) hj_85 rfl (aN rfl) ?_ ?_
     ·rintro ⟨k_73,l_74,s_78,n_81⟩ ⟨hL_83,hD_76⟩
      dsimp only at hL_83 hD_76
      cases l_74 with
      | nil =>
       obtain rfl:=ae hL_83
       refine aj (aa (vB (decide ((k_73:Int)<(([(⟨#[99,105,116,121]⟩:ByteArray),(⟨#[109,97,108,108]⟩:ByteArray)]:List ByteArray).length:Int)))) (ah ?_))
       refine au (aF rfl (drop_nil hD_76) (bM ?_))
       exact bG (s_78,n_81) rfl rfl (aN rfl)
      | cons x_75 l_74 =>
       obtain ⟨c_,hc_82,hL_83⟩:=bind_some hL_83
       refine aj (aa (vB (decide ((k_73:Int)<(([(⟨#[99,105,116,121]⟩:ByteArray),(⟨#[109,97,108,108]⟩:ByteArray)]:List ByteArray).length:Int)))) (ah ?_))
       refine au (aD rfl (bQ hD_76) (aC ?_))
       unfold bP at hc_82
       refine au (bg (aj (dJ fF rfl rfl (dB hD_76) rfl wz (bD sz9 ag9 rfl (vS x_75) rfl wz (aa (vS x_75) (ah (aj (aa (.ref (av 0) 0 0) ?_))))))))
       obtain ⟨r_86,hr_87,hc_82⟩:=bind_some hc_82
       refine aQ 0 [0] il ft (bU hr_87) rfl yu rfl (by kernel_rfl) (by kernel_rfl) (by kernel_rfl) (by kernel_rfl) (by kernel_rfl) (by kernel_rfl) (by kernel_rfl) (by decide) (by kernel_rfl) wz (vB r_86.1) (by kernel_rfl) ([((av 0),some (.cells 2 [(vL eI r_86.2.L),(vI r_86.2.f_at)])),(n_10,gB 13 Entry.enc s_7.1),(n_46,some (.cells 13 [(vS x_4),(vS r_19.1),(vI r_22.1),(vI r_25.1),(vI (w64 (r_25.1+r_47.1))),(vI r_28.1),(vI r_31.1),(gV n_58 1 s_55.1),(vI r_34.1),(vI r_37.1),(vI r_40.1),(gV n_81 1 s_78.1),(vB r_43.1)])),(n_58,gB 1 eI s_55.1),(n_81,gB 1 eS s_78.1)]:Hp) (by kernel_rfl) (ah ?_)
       obtain ⟨v_89,h_90,hc_82⟩:=bind_some hc_82
       refine jD (β:=Nm) (λ(n_91:Nm)=>([(0,(.ref (av 0) 0 0)),(3,(gV n_10 13 s_7.1)),(6,(.ref n_46 0 0)),(11,(vL eS ([(⟨#[101,97]⟩:ByteArray),(⟨#[101,98]⟩:ByteArray),(⟨#[101,99]⟩:ByteArray),(⟨#[101,100]⟩:ByteArray)]:List ByteArray))),(12,(vI (([(⟨#[101,97]⟩:ByteArray),(⟨#[101,98]⟩:ByteArray),(⟨#[101,99]⟩:ByteArray),(⟨#[101,100]⟩:ByteArray)]:List ByteArray).length:Int))),(13,(vI (k_2:Int))),(68,(vL eS ([(⟨#[99,105,116,121]⟩:ByteArray),(⟨#[109,97,108,108]⟩:ByteArray)]:List ByteArray))),(69,(vI (([(⟨#[99,105,116,121]⟩:ByteArray),(⟨#[109,97,108,108]⟩:ByteArray)]:List ByteArray).length:Int))),(70,(vI (k_73:Int)))]:SL_)) (λ(n_91:Nm)=>([((av 0),some (.cells 2 [(vL eI r_86.2.L),(vI r_86.2.f_at)])),(n_10,gB 13 Entry.enc s_7.1),(n_46,some (.cells 13 [(vS x_4),(vS r_19.1),(vI r_22.1),(vI r_25.1),(vI (w64 (r_25.1+r_47.1))),(vI r_28.1),(vI r_31.1),(gV n_58 1 s_55.1),(vI r_34.1),(vI r_37.1),(vI r_40.1),(gV n_91 1 v_89),(vB r_43.1)])),(n_58,gB 1 eI s_55.1),(n_91,gB 1 eS v_89)]:Hp)) (λ_=>True) ?_ ?_
       ·rcases ak h_90 with⟨hc_92,h_90⟩|⟨hc_92,h_90⟩
        ·refine aD rfl hc_92 (ax (aL jG rfl 11 rfl wz (aK 0 2 il ft uD Bd rfl rfl (gV n_81 1 s_78.1) rfl wz (aa (vS x_75) (dw (([x_75]:List ByteArray).map eS) fF nK rfl rfl rfl rfl rfl wz ?_)))))
         obtain ⟨a_93,hz_94,h_90⟩:=bind_some h_90
         refine jX 0 il ft (i:=4) tY tY sz9 z9 rfl (by decide) by9 (by decide) (λ_=>rfl) rfl rfl rfl hz_94 wz (λn_95=>aL jG rfl 11 rfl wz (gK 0 il ft 2 uD rfl rfl [(vS x_4),(vS r_19.1),(vI r_22.1),(vI r_25.1),(vI (w64 (r_25.1+r_47.1))),(vI r_28.1),(vI r_31.1),(gV n_58 1 s_55.1),(vI r_34.1),(vI r_37.1),(vI r_40.1),(gV n_95 1 a_93),(vB r_43.1)] (Du rfl) wz (ah ?_)))
         obtain rfl:=ae h_90
         exact bG n_95 trivial rfl (aN rfl)
        ·refine aF rfl hc_92 (aC ?_)
         obtain rfl:=ae h_90
         exact bG n_81 trivial rfl (aN rfl)
       ·rintro n_91 _ sl_ H_ hp_ hq_
        refine aU _ hp_ hq_ (ax (gM (bZ hD_76 hn_77) wz rfl (aa (vI ((k_73+1:Nat):Int)) (ah ?_))))
        obtain rfl:=ae hc_82
        exact bK (k_73+1,l_74,(v_89,r_86.2.L,r_86.2.f_at),n_91) ⟨hL_83,bv hD_76⟩ (ls_ _) rfl (aN rfl)
     ·rintro ⟨s_78,n_81⟩ ho_ sl_ H_ hp_ hq_
      subst ho_
      refine aU _ hp_ hq_ (gD 3 rfl (gD 4 rfl (E9 3 4 2 [(vS x_4),(vS r_19.1),(vI r_22.1),(vI r_25.1),(vI (w64 (r_25.1+r_47.1))),(vI r_28.1),(vI r_31.1),(vL eI s_55.1),(vI r_34.1),(vI r_37.1),(vI r_40.1),(vL eS s_78.1),(vB r_43.1)] rfl rfl rfl (λS hS hS2=>dS (rfl) (dS (rfl) (dS (rfl) (dS (rfl) (dS (rfl) (dS (rfl) (dS (rfl) (dS (hS) (dS (rfl) (dS (rfl) (dS (rfl) (dS (hS2) (dS (rfl) (rfl)))))))))))))) (ax (aa (gV n_10 13 s_7.1) (aK 0 2 il ft iw lN rfl rfl (.d (.agg (Entry.enc (⟨x_4,r_19.1,r_22.1,r_25.1,(w64 (r_25.1+r_47.1)),r_28.1,r_31.1,s_55.1,r_34.1,r_37.1,r_40.1,s_78.1,r_43.1⟩:Entry)))) rfl wz (dw (([(⟨x_4,r_19.1,r_22.1,r_25.1,(w64 (r_25.1+r_47.1)),r_28.1,r_31.1,s_55.1,r_34.1,r_37.1,r_40.1,s_78.1,r_43.1⟩:Entry)]:List Entry).map Entry.enc) vF G7 rfl rfl rfl rfl rfl wz ?_)))))))
      obtain ⟨a_96,hz_97,hc_11⟩:=bind_some hc_11
      refine jX 0 il ft (i:=1) BU BU iw z39 rfl (by decide) by39 (by decide) (λ_=>rfl) rfl rfl rfl hz_97 wz (λn_98=>aa (gV n_98 13 a_96) (ah (ax (gM (bZ hD_5 hn_6) wz rfl (aa (vI ((k_2+1:Nat):Int)) (ah ?_))))))
      obtain rfl:=ae hc_11
      exact bK (k_2+1,l_3,(a_96,s_78.2.1,s_78.2.2),n_98) ⟨hL_12,bv hD_5⟩ (ls_ _) rfl (aN rfl)
 ·rintro ⟨s_7,n_10⟩ ho_ sl_ H_ hp_ hq_
  subst ho_
  refine aU _ hp_ hq_ (aj (aa (gV n_10 13 s_7.1) (aa (gV n_10 13 s_7.1) (ah (gD 1 rfl (iK 2 1 rfl rfl (iK 3 1 rfl rfl (iK 88 1 rfl rfl ?_))))))))
  obtain rfl:=ae hF
  exact aB (rU (.inr rfl) [(vL Entry.enc s_7.1)] _ [0] [av 0] ⟨rfl,trivial⟩ (.cons (gZ rfl rfl) (.nil)) (by kernel_rfl) ⟨(by kernel_rfl),trivial⟩ (by decide) (by kernel_rfl))
theorem mV {s_1:Stream} {r:(List Entry)×Stream} (hF:bC s_1=some r) :
  FnM Tryz.prog 14 [(.ref (av 0) 0 0)] [(.cells 2 [(vL eI s_1.L),(vI s_1.f_at)])] (gV (av 1) 13 r.1) (([(.cells 2 [(vL eI r.2.L),(vI r.2.f_at)])]:List Box).map some++gO 13 Entry.enc r.1):=by
 refine FnM.of_wH ⟨Tryz.prog,89,[],[]⟩ rfl Tryz.func14 rfl rfl (lb_ rfl) (by kernel_rfl) ?_
 unfold bC at hF
 refine aj (aa .nil (ah (aj (aa .nil (ah (au (aj (dw (([(⟨#[101,97]⟩:ByteArray),(⟨#[101,98]⟩:ByteArray),(⟨#[101,99]⟩:ByteArray),(⟨#[101,100]⟩:ByteArray)]:List ByteArray).map eS) fF nK rfl rfl rfl rfl rfl wz (dE lS rfl wz (aa (vI 0) (ah (jZ (λn_8 => ?_)))))))))))))
 obtain ⟨o_13,hj_14,hF⟩:=bind_some hF
 obtain ⟨hn_6,hj_14⟩:=bI hj_14
 refine iq (σ:=(List Entry)×(List Int)×Int) (N:=Nm) (λp=>(λ(s_7:(List Entry)×(List Int)×Int) (n_10:Nm)=>([(3,(gV n_10 13 s_7.1))]:SL_)) p.1 p.2) (λp=>(λ(s_7:(List Entry)×(List Int)×Int) (n_10:Nm)=>([((av 0),some (.cells 2 [(vL eI s_7.2.1),(vI s_7.2.2)])),(n_10,gB 13 Entry.enc s_7.1)]:Hp)) p.1 p.2) (λ(k_2:Nat)=>(λp=>(λ(s_7:(List Entry)×(List Int)×Int) (n_10:Nm)=>([(0,(.ref (av 0) 0 0)),(3,(gV n_10 13 s_7.1)),(11,(vL eS ([(⟨#[101,97]⟩:ByteArray),(⟨#[101,98]⟩:ByteArray),(⟨#[101,99]⟩:ByteArray),(⟨#[101,100]⟩:ByteArray)]:List ByteArray))),(12,(vI (([(⟨#[101,97]⟩:ByteArray),(⟨#[101,98]⟩:ByteArray),(⟨#[101,99]⟩:ByteArray),(⟨#[101,100]⟩:ByteArray)]:List ByteArray).length:Int))),(13,(vI (k_2:Int)))]:SL_)) p.1 p.2)) (λk x s=>bf k x s) o_13 ([(⟨#[101,97]⟩:ByteArray),(⟨#[101,98]⟩:ByteArray),(⟨#[101,99]⟩:ByteArray),(⟨#[101,100]⟩:ByteArray)]:List ByteArray) ((([]:List Entry),s_1.L,s_1.f_at),n_8) hj_14 rfl (aN rfl) ?_ ?_
 ·rintro ⟨k_2,l_3,s_7,n_10⟩ ⟨hL_12,hD_5⟩
  dsimp only at hL_12 hD_5
  cases l_3 with
  | nil =>
   obtain rfl:=ae hL_12
   refine aj (aa (vB (decide ((k_2:Int)<(([(⟨#[101,97]⟩:ByteArray),(⟨#[101,98]⟩:ByteArray),(⟨#[101,99]⟩:ByteArray),(⟨#[101,100]⟩:ByteArray)]:List ByteArray).length:Int)))) (ah ?_))
   refine au (aF rfl (drop_nil hD_5) (bM ?_))
   exact bG (s_7,n_10) rfl rfl (aN rfl)
  | cons x_4 l_3 =>
   obtain ⟨c_,hc_11,hL_12⟩:=bind_some hL_12
   refine aj (aa (vB (decide ((k_2:Int)<(([(⟨#[101,97]⟩:ByteArray),(⟨#[101,98]⟩:ByteArray),(⟨#[101,99]⟩:ByteArray),(⟨#[101,100]⟩:ByteArray)]:List ByteArray).length:Int)))) (ah ?_))
   refine au (aD rfl (bQ hD_5) (aC ?_))
   unfold bf at hc_11
   refine au (bg (aj (dJ fF rfl rfl (dB hD_5) rfl wz (bD sz9 ag9 rfl (vS x_4) rfl wz (aa (vS x_4) (ah (au (aj (aa (.ref (av 0) 0 0) ?_)))))))))
   obtain ⟨r_15,hr_16,hc_11⟩:=bind_some hc_11
   refine aQ 0 [0] il ft (bU hr_16) rfl yu rfl (by kernel_rfl) (by kernel_rfl) (by kernel_rfl) (by kernel_rfl) (by kernel_rfl) (by kernel_rfl) (by kernel_rfl) (by decide) (by kernel_rfl) wz (vB r_15.1) (by kernel_rfl) ([((av 0),some (.cells 2 [(vL eI r_15.2.L),(vI r_15.2.f_at)])),(n_10,gB 13 Entry.enc s_7.1)]:Hp) (by kernel_rfl) (ah ?_)
   rcases ak hc_11 with⟨hc_18,hc_11⟩|⟨hc_18,hc_11⟩
   ·refine aD rfl hc_18 (bM (ax (gM (bZ hD_5 hn_6) wz rfl (aa (vI ((k_2+1:Nat):Int)) (ah ?_)))))
    obtain rfl:=ae hc_11
    exact bK (k_2+1,l_3,(s_7.1,r_15.2.L,r_15.2.f_at),n_10) ⟨hL_12,bv hD_5⟩ (ls_ _) rfl (aN rfl)
   ·refine aF rfl hc_18 (aC (aj (aa (vS x_4) (aa (.ref (av 0) 0 0) (dw (([(⟨#[105,97]⟩:ByteArray),(⟨#[105,98]⟩:ByteArray),(⟨#[105,99]⟩:ByteArray)]:List ByteArray).map eS) fF nK rfl rfl rfl rfl rfl wz ?_)))))
    obtain ⟨r_19,hr_20,hc_11⟩:=bind_some hc_11
    refine aQ 0 [0] il ft (fI hr_20) rfl FH rfl (by kernel_rfl) (by kernel_rfl) (by kernel_rfl) (by kernel_rfl) (by kernel_rfl) (by kernel_rfl) (by kernel_rfl) (by decide) (by kernel_rfl) wz (vS r_19.1) (by kernel_rfl) ([((av 0),some (.cells 2 [(vL eI r_19.2.L),(vI r_19.2.f_at)])),(n_10,gB 13 Entry.enc s_7.1)]:Hp) (by kernel_rfl) (aa (.ref (av 0) 0 0) ?_)
    obtain ⟨r_22,hr_23,hc_11⟩:=bind_some hc_11
    refine aQ 0 [0] il ft (ko hr_23) rfl hb40 rfl (by kernel_rfl) (by kernel_rfl) (by kernel_rfl) (by kernel_rfl) (by kernel_rfl) (by kernel_rfl) (by kernel_rfl) (by decide) (by kernel_rfl) wz (vI r_22.1) (by kernel_rfl) ([((av 0),some (.cells 2 [(vL eI r_22.2.L),(vI r_22.2.f_at)])),(n_10,gB 13 Entry.enc s_7.1)]:Hp) (by kernel_rfl) (aa (.ref (av 0) 0 0) (dw (([0,0,1,3]:List Int).map eI) eX lq rfl rfl rfl rfl rfl wz ?_))
    obtain ⟨r_25,hr_26,hc_11⟩:=bind_some hc_11
    refine aQ 0 [0] il ft (aZ hr_26) rfl rT rfl (by kernel_rfl) (by kernel_rfl) (by kernel_rfl) (by kernel_rfl) (by kernel_rfl) (by kernel_rfl) (by kernel_rfl) (by decide) (by kernel_rfl) wz (vI r_25.1) (by kernel_rfl) ([((av 0),some (.cells 2 [(vL eI r_25.2.L),(vI r_25.2.f_at)])),(n_10,gB 13 Entry.enc s_7.1)]:Hp) (by kernel_rfl) (aa (.ref (av 0) 0 0) (dw (([1,1,2,3,7]:List Int).map eI) eX lq rfl rfl rfl rfl rfl wz ?_))
    obtain ⟨r_28,hr_29,hc_11⟩:=bind_some hc_11
    refine aQ 0 [0] il ft (aZ hr_29) rfl rT rfl (by kernel_rfl) (by kernel_rfl) (by kernel_rfl) (by kernel_rfl) (by kernel_rfl) (by kernel_rfl) (by kernel_rfl) (by decide) (by kernel_rfl) wz (vI r_28.1) (by kernel_rfl) ([((av 0),some (.cells 2 [(vL eI r_28.2.L),(vI r_28.2.f_at)])),(n_10,gB 13 Entry.enc s_7.1)]:Hp) (by kernel_rfl) (aa (.ref (av 0) 0 0) (dw (([127,127,31,96,1,2]:List Int).map eI) eX lq rfl rfl rfl rfl rfl wz ?_))
    obtain ⟨r_31,hr_32,hc_11⟩:=bind_some hc_11
    refine aQ 0 [0] il ft (aZ hr_32) rfl rT rfl (by kernel_rfl) (by kernel_rfl) (by kernel_rfl) (by kernel_rfl) (by kernel_rfl) (by kernel_rfl) (by kernel_rfl) (by decide) (by kernel_rfl) wz (vI r_31.1) (by kernel_rfl) ([((av 0),some (.cells 2 [(vL eI r_31.2.L),(vI r_31.2.f_at)])),(n_10,gB 13 Entry.enc s_7.1)]:Hp) (by kernel_rfl) (aa (.ref (av 0) 0 0) (dw (([0,0,60,600,1380]:List Int).map eI) eX lq rfl rfl rfl rfl rfl wz ?_))
    obtain ⟨r_34,hr_35,hc_11⟩:=bind_some hc_11
    refine aQ 0 [0] il ft (aZ hr_35) rfl rT rfl (by kernel_rfl) (by kernel_rfl) (by kernel_rfl) (by kernel_rfl) (by kernel_rfl) (by kernel_rfl) (by kernel_rfl) (by decide) (by kernel_rfl) wz (vI r_34.1) (by kernel_rfl) ([((av 0),some (.cells 2 [(vL eI r_34.2.L),(vI r_34.2.f_at)])),(n_10,gB 13 Entry.enc s_7.1)]:Hp) (by kernel_rfl) (aa (.ref (av 0) 0 0) (dw (([0,60,120,600,720,1439]:List Int).map eI) eX lq rfl rfl rfl rfl rfl wz ?_))
    obtain ⟨r_37,hr_38,hc_11⟩:=bind_some hc_11
    refine aQ 0 [0] il ft (aZ hr_38) rfl rT rfl (by kernel_rfl) (by kernel_rfl) (by kernel_rfl) (by kernel_rfl) (by kernel_rfl) (by kernel_rfl) (by kernel_rfl) (by decide) (by kernel_rfl) wz (vI r_37.1) (by kernel_rfl) ([((av 0),some (.cells 2 [(vL eI r_37.2.L),(vI r_37.2.f_at)])),(n_10,gB 13 Entry.enc s_7.1)]:Hp) (by kernel_rfl) (aa (.ref (av 0) 0 0) (dw (([0,0,1,5]:List Int).map eI) eX lq rfl rfl rfl rfl rfl wz ?_))
    obtain ⟨r_40,hr_41,hc_11⟩:=bind_some hc_11
    refine aQ 0 [0] il ft (aZ hr_41) rfl rT rfl (by kernel_rfl) (by kernel_rfl) (by kernel_rfl) (by kernel_rfl) (by kernel_rfl) (by kernel_rfl) (by kernel_rfl) (by decide) (by kernel_rfl) wz (vI r_40.1) (by kernel_rfl) ([((av 0),some (.cells 2 [(vL eI r_40.2.L),(vI r_40.2.f_at)])),(n_10,gB 13 Entry.enc s_7.1)]:Hp) (by kernel_rfl) (aa (.ref (av 0) 0 0) ?_)
    obtain ⟨r_43,hr_44,hc_11⟩:=bind_some hc_11
    refine aQ 0 [0] il ft (bU hr_44) rfl yu rfl (by kernel_rfl) (by kernel_rfl) (by kernel_rfl) (by kernel_rfl) (by kernel_rfl) (by kernel_rfl) (by kernel_rfl) (by decide) (by kernel_rfl) wz (vB r_43.1) (by kernel_rfl) ([((av 0),some (.cells 2 [(vL eI r_43.2.L),(vI r_43.2.f_at)])),(n_10,gB 13 Entry.enc s_7.1)]:Hp) (by kernel_rfl) (aG (.agg [(vS x_4),(vS r_19.1),(vI r_22.1),(vI r_25.1),(vI 0),(vI r_28.1),(vI r_31.1),.nil,(vI r_34.1),(vI r_37.1),(vI r_40.1),.nil,(vB r_43.1)]) wz (by kernel_rfl) (gY 0 (.inl rfl) z39 rfl wz (λn_46=>gK 0 il ft 2 iw rfl rfl [(vS x_4),(vS r_19.1),(vI r_22.1),(vI r_25.1),(vI 0),(vI r_28.1),(vI r_31.1),.nil,(vI r_34.1),(vI r_37.1),(vI r_40.1),.nil,(vB r_43.1)] rfl wz (ah (aU (H0:=([((av 0),some (.cells 2 [(vL eI r_43.2.L),(vI r_43.2.f_at)])),(n_10,gB 13 Entry.enc s_7.1),(n_46,some (.cells 13 [(vS x_4),(vS r_19.1),(vI r_22.1),(vI r_25.1),(vI 0),(vI r_28.1),(vI r_31.1),.nil,(vI r_34.1),(vI r_37.1),(vI r_40.1),.nil,(vB r_43.1)]))]:Hp)) ([(0,(.ref (av 0) 0 0)),(3,(gV n_10 13 s_7.1)),(6,(.ref n_46 0 0)),(11,(vL eS ([(⟨#[101,97]⟩:ByteArray),(⟨#[101,98]⟩:ByteArray),(⟨#[101,99]⟩:ByteArray),(⟨#[101,100]⟩:ByteArray)]:List ByteArray))),(12,(vI (([(⟨#[101,97]⟩:ByteArray),(⟨#[101,98]⟩:ByteArray),(⟨#[101,99]⟩:ByteArray),(⟨#[101,100]⟩:ByteArray)]:List ByteArray).length:Int))),(13,(vI (k_2:Int)))]:SL_) (by kernel_rfl) (pJ (by kernel_rfl)) (au (eB (aL ou rfl 3 rfl wz (aK 1 2 (.inr (by kernel_rfl)) (λ_ _ ag=>trivial) sz3 ag3 rfl rfl (vI r_25.1) rfl wz (aa (.ref (av 0) 0 0) (dw (([0,1,5,10,30]:List Int).map eI) eX lq rfl rfl rfl rfl rfl wz ?_)))))))))))
    obtain ⟨r_47,hr_48,hc_11⟩:=bind_some hc_11
    refine aQ 4 [0] (.inr (by kernel_rfl)) (λ_ _ ag=>by exact⟨.inr (.inl (dis1 (EU ag (i:=0) (j:=2) rfl rfl (by decide)))),trivial⟩) (aZ hr_48) rfl rT rfl (by kernel_rfl) (by kernel_rfl) (by kernel_rfl) (by kernel_rfl) (by kernel_rfl) (by kernel_rfl) (by kernel_rfl) (by decide) (by kernel_rfl) wz (vI r_47.1) (by kernel_rfl) ([((av 0),some (.cells 2 [(vL eI r_47.2.L),(vI r_47.2.f_at)])),(n_10,gB 13 Entry.enc s_7.1),(n_46,some (.cells 13 [(vS x_4),(vS r_19.1),(vI r_22.1),(vI r_25.1),(vI 0),(vI r_28.1),(vI r_31.1),.nil,(vI r_34.1),(vI r_37.1),(vI r_40.1),.nil,(vB r_43.1)]))]:Hp) (by kernel_rfl) (aa (vI (w64 (r_25.1+r_47.1))) (aL nH rfl 4 rfl wz (gK 7 (.inr (by kernel_rfl)) (λ_ _ ag=>⟨.inr (.inr (by kernel_rfl)),⟨.inr (.inr (by kernel_rfl)),trivial⟩⟩) 2 sz3 rfl rfl [(vS x_4),(vS r_19.1),(vI r_22.1),(vI r_25.1),(vI (w64 (r_25.1+r_47.1))),(vI r_28.1),(vI r_31.1),.nil,(vI r_34.1),(vI r_37.1),(vI r_40.1),.nil,(vB r_43.1)] rfl wz (ah (au (aj (dw (([1,2,8]:List Int).map eI) eX lq rfl rfl rfl rfl rfl wz (dE pE rfl wz (aa (vI 0) (ah (jZ (λn_56 => ?_))))))))))))
    obtain ⟨o_61,hj_62,hc_11⟩:=bind_some hc_11
    obtain ⟨hn_54,hj_62⟩:=bI hj_62
    refine iq (σ:=(List Int)×(List Int)×Int) (N:=Nm) (λp=>(λ(s_55:(List Int)×(List Int)×Int) (n_58:Nm)=>([(0,(.ref (av 0) 0 0)),(3,(gV n_10 13 s_7.1)),(6,(.ref n_46 0 0)),(11,(vL eS ([(⟨#[101,97]⟩:ByteArray),(⟨#[101,98]⟩:ByteArray),(⟨#[101,99]⟩:ByteArray),(⟨#[101,100]⟩:ByteArray)]:List ByteArray))),(12,(vI (([(⟨#[101,97]⟩:ByteArray),(⟨#[101,98]⟩:ByteArray),(⟨#[101,99]⟩:ByteArray),(⟨#[101,100]⟩:ByteArray)]:List ByteArray).length:Int))),(13,(vI (k_2:Int)))]:SL_)) p.1 p.2) (λp=>(λ(s_55:(List Int)×(List Int)×Int) (n_58:Nm)=>([((av 0),some (.cells 2 [(vL eI s_55.2.1),(vI s_55.2.2)])),(n_10,gB 13 Entry.enc s_7.1),(n_46,some (.cells 13 [(vS x_4),(vS r_19.1),(vI r_22.1),(vI r_25.1),(vI (w64 (r_25.1+r_47.1))),(vI r_28.1),(vI r_31.1),(gV n_58 1 s_55.1),(vI r_34.1),(vI r_37.1),(vI r_40.1),.nil,(vB r_43.1)])),(n_58,gB 1 eI s_55.1)]:Hp)) p.1 p.2) (λ(k_50:Nat)=>(λp=>(λ(s_55:(List Int)×(List Int)×Int) (n_58:Nm)=>([(0,(.ref (av 0) 0 0)),(3,(gV n_10 13 s_7.1)),(6,(.ref n_46 0 0)),(11,(vL eS ([(⟨#[101,97]⟩:ByteArray),(⟨#[101,98]⟩:ByteArray),(⟨#[101,99]⟩:ByteArray),(⟨#[101,100]⟩:ByteArray)]:List ByteArray))),(12,(vI (([(⟨#[101,97]⟩:ByteArray),(⟨#[101,98]⟩:ByteArray),(⟨#[101,99]⟩:ByteArray),(⟨#[101,100]⟩:ByteArray)]:List ByteArray).length:Int))),(13,(vI (k_2:Int))),(53,(vL eI ([1,2,8]:List Int))),(54,(vI (([1,2,8]:List Int).length:Int))),(55,(vI (k_50:Int)))]:SL_)) p.1 p.2)) (λk x s=>bN k x s) o_61 ([1,2,8]:List Int) ((([]:List Int),r_47.2.L,r_47.2.f_at),n_56) hj_62 rfl (aN rfl) ?_ ?_
    ·rintro ⟨k_50,l_51,s_55,n_58⟩ ⟨hL_60,hD_53⟩
     dsimp only at hL_60 hD_53
     cases l_51 with
     | nil =>
      obtain rfl:=ae hL_60
      refine aj (aa (vB (decide ((k_50:Int)<(([1,2,8]:List Int).length:Int)))) (ah ?_))
      refine au (aF rfl (drop_nil hD_53) (bM ?_))
      exact bG (s_55,n_58) rfl rfl (aN rfl)
     | cons x_52 l_51 =>
      obtain ⟨c_,hc_59,hL_60⟩:=bind_some hL_60
      refine aj (aa (vB (decide ((k_50:Int)<(([1,2,8]:List Int).length:Int)))) (ah ?_))
      refine au (aD rfl (bQ hD_53) (aC ?_))
      unfold bN at hc_59
      refine au (bg (aj (dJ eX rfl rfl (dB hD_53) rfl wz (bD sz3 ag3 rfl (vI x_52) rfl wz (aa (vI x_52) (ah (aj (aa (.ref (av 0) 0 0) ?_))))))))
      obtain ⟨r_63,hr_64,hc_59⟩:=bind_some hc_59
      refine aQ 0 [0] il ft (bU hr_64) rfl yu rfl (by kernel_rfl) (by kernel_rfl) (by kernel_rfl) (by kernel_rfl) (by kernel_rfl) (by kernel_rfl) (by kernel_rfl) (by decide) (by kernel_rfl) wz (vB r_63.1) (by kernel_rfl) ([((av 0),some (.cells 2 [(vL eI r_63.2.L),(vI r_63.2.f_at)])),(n_10,gB 13 Entry.enc s_7.1),(n_46,some (.cells 13 [(vS x_4),(vS r_19.1),(vI r_22.1),(vI r_25.1),(vI (w64 (r_25.1+r_47.1))),(vI r_28.1),(vI r_31.1),(gV n_58 1 s_55.1),(vI r_34.1),(vI r_37.1),(vI r_40.1),.nil,(vB r_43.1)])),(n_58,gB 1 eI s_55.1)]:Hp) (by kernel_rfl) (ah ?_)
      obtain ⟨v_66,h_67,hc_59⟩:=bind_some hc_59
      refine jD (β:=Nm) (λ(n_68:Nm)=>([(0,(.ref (av 0) 0 0)),(3,(gV n_10 13 s_7.1)),(6,(.ref n_46 0 0)),(11,(vL eS ([(⟨#[101,97]⟩:ByteArray),(⟨#[101,98]⟩:ByteArray),(⟨#[101,99]⟩:ByteArray),(⟨#[101,100]⟩:ByteArray)]:List ByteArray))),(12,(vI (([(⟨#[101,97]⟩:ByteArray),(⟨#[101,98]⟩:ByteArray),(⟨#[101,99]⟩:ByteArray),(⟨#[101,100]⟩:ByteArray)]:List ByteArray).length:Int))),(13,(vI (k_2:Int))),(53,(vL eI ([1,2,8]:List Int))),(54,(vI (([1,2,8]:List Int).length:Int))),(55,(vI (k_50:Int)))]:SL_)) (λ(n_68:Nm)=>([((av 0),some (.cells 2 [(vL eI r_63.2.L),(vI r_63.2.f_at)])),(n_10,gB 13 Entry.enc s_7.1),(n_46,some (.cells 13 [(vS x_4),(vS r_19.1),(vI r_22.1),(vI r_25.1),(vI (w64 (r_25.1+r_47.1))),(vI r_28.1),(vI r_31.1),(gV n_68 1 v_66),(vI r_34.1),(vI r_37.1),(vI r_40.1),.nil,(vB r_43.1)])),(n_68,gB 1 eI v_66)]:Hp)) (λ_=>True) ?_ ?_
      ·rcases ak h_67 with⟨hc_69,h_67⟩|⟨hc_69,h_67⟩
       ·refine aD rfl hc_69 (ax (aL jv rfl 7 rfl wz (aK 0 2 il ft nY rV rfl rfl (gV n_58 1 s_55.1) rfl wz (aa (vI x_52) (dw (([x_52]:List Int).map eI) eX lq rfl rfl rfl rfl rfl wz ?_)))))
        obtain ⟨a_70,hz_71,h_67⟩:=bind_some h_67
        refine jX 0 il ft (i:=3) xw xw sz3 z3 rfl (by decide) by3 (by decide) (λ_=>rfl) rfl rfl rfl hz_71 wz (λn_72=>aL jv rfl 7 rfl wz (gK 0 il ft 2 nY rfl rfl [(vS x_4),(vS r_19.1),(vI r_22.1),(vI r_25.1),(vI (w64 (r_25.1+r_47.1))),(vI r_28.1),(vI r_31.1),(gV n_72 1 a_70),(vI r_34.1),(vI r_37.1),(vI r_40.1),.nil,(vB r_43.1)] (Du rfl) wz (ah ?_)))
        obtain rfl:=ae h_67
        exact bG n_72 trivial rfl (aN rfl)
       ·refine aF rfl hc_69 (aC ?_)
        obtain rfl:=ae h_67
        exact bG n_58 trivial rfl (aN rfl)
      ·rintro n_68 _ sl_ H_ hp_ hq_
       refine aU _ hp_ hq_ (ax (gM (bZ hD_53 hn_54) wz rfl (aa (vI ((k_50+1:Nat):Int)) (ah ?_))))
       obtain rfl:=ae hc_59
       exact bK (k_50+1,l_51,(v_66,r_63.2.L,r_63.2.f_at),n_68) ⟨hL_60,bv hD_53⟩ (ls_ _) rfl (aN rfl)
    ·rintro ⟨s_55,n_58⟩ ho_ sl_ H_ hp_ hq_
     subst ho_
     refine aU _ hp_ hq_ (au (aj (dw (([(⟨#[99,105,116,121]⟩:ByteArray),(⟨#[109,97,108,108]⟩:ByteArray)]:List ByteArray).map eS) fF nK rfl rfl rfl rfl rfl wz (dE lS rfl wz (aa (vI 0) (ah (jZ (λn_79 => ?_))))))))
     obtain ⟨o_84,hj_85,hc_11⟩:=bind_some hc_11
     obtain ⟨hn_77,hj_85⟩:=bI hj_85
     refine iq (σ:=(List ByteArray)×(List Int)×Int) (N:=Nm) (λp=>(λ(s_78:(List ByteArray)×(List Int)×Int) (n_81:Nm)=>([(0,(.ref (av 0) 0 0)),(3,(gV n_10 13 s_7.1)),(6,(.ref n_46 0 0)),(11,(vL eS ([(⟨#[101,97]⟩:ByteArray),(⟨#[101,98]⟩:ByteArray),(⟨#[101,99]⟩:ByteArray),(⟨#[101,100]⟩:ByteArray)]:List ByteArray))),(12,(vI (([(⟨#[101,97]⟩:ByteArray),(⟨#[101,98]⟩:ByteArray),(⟨#[101,99]⟩:ByteArray),(⟨#[101,100]⟩:ByteArray)]:List ByteArray).length:Int))),(13,(vI (k_2:Int)))]:SL_)) p.1 p.2) (λp=>(λ(s_78:(List ByteArray)×(List Int)×Int) (n_81:Nm)=>([((av 0),some (.cells 2 [(vL eI s_78.2.1),(vI s_78.2.2)])),(n_10,gB 13 Entry.enc s_7.1),(n_46,some (.cells 13 [(vS x_4),(vS r_19.1),(vI r_22.1),(vI r_25.1),(vI (w64 (r_25.1+r_47.1))),(vI r_28.1),(vI r_31.1),(gV n_58 1 s_55.1),(vI r_34.1),(vI r_37.1),(vI r_40.1),(gV n_81 1 s_78.1),(vB r_43.1)])),(n_58,gB 1 eI s_55.1),(n_81,gB 1 eS s_78.1)]:Hp)) p.1 p.2) (λ(k_73:Nat)=>(λp=>(λ(s_78:(List ByteArray)×(List Int)×Int) (n_81:Nm)=>([(0,(.ref (av 0) 0 0)),(3,(gV n_10 13 s_7.1)),(6,(.ref n_46 0 0)),(11,(vL eS ([(⟨#[101,97]⟩:ByteArray),(⟨#[101,98]⟩:ByteArray),(⟨#[101,99]⟩:ByteArray),(⟨#[101,100]⟩:ByteArray)]:List ByteArray))),(12,(vI (([(⟨#[101,97]⟩:ByteArray),(⟨#[101,98]⟩:ByteArray),(⟨#[101,99]⟩:ByteArray),(⟨#[101,100]⟩:ByteArray)]:List ByteArray).length:Int))),(13,(vI (k_2:Int))),(68,(vL eS ([(⟨#[99,105,116,121]⟩:ByteArray),(⟨#[109,97,108,108]⟩:ByteArray)]:List ByteArray))),(69,(vI (([(⟨#[99,105,116,121]⟩:ByteArray),(⟨#[109,97,108,108]⟩:ByteArray)]:List ByteArray).length:Int))),(70,(vI (k_73:Int)))]:SL_)) p.1 p.2)) (λk x s=>bP k x s) o_84 ([(⟨#[99,105,116,121]⟩:ByteArray),(⟨#[109,97,108,108]⟩:ByteArray)]:List ByteArray) ((([]:List ByteArray),s_55.2.1,s_55.2.2),n_79) hj_85 rfl (aN rfl) ?_ ?_
     ·rintro ⟨k_73,l_74,s_78,n_81⟩ ⟨hL_83,hD_76⟩
      dsimp only at hL_83 hD_76
      cases l_74 with
      | nil =>
       obtain rfl:=ae hL_83
       refine aj (aa (vB (decide ((k_73:Int)<(([(⟨#[99,105,116,121]⟩:ByteArray),(⟨#[109,97,108,108]⟩:ByteArray)]:List ByteArray).length:Int)))) (ah ?_))
       refine au (aF rfl (drop_nil hD_76) (bM ?_))
       exact bG (s_78,n_81) rfl rfl (aN rfl)
      | cons x_75 l_74 =>
       obtain ⟨c_,hc_82,hL_83⟩:=bind_some hL_83
       refine aj (aa (vB (decide ((k_73:Int)<(([(⟨#[99,105,116,121]⟩:ByteArray),(⟨#[109,97,108,108]⟩:ByteArray)]:List ByteArray).length:Int)))) (ah ?_))
       refine au (aD rfl (bQ hD_76) (aC ?_))
       unfold bP at hc_82
       refine au (bg (aj (dJ fF rfl rfl (dB hD_76) rfl wz (bD sz9 ag9 rfl (vS x_75) rfl wz (aa (vS x_75) (ah (aj (aa (.ref (av 0) 0 0) ?_))))))))
       obtain ⟨r_86,hr_87,hc_82⟩:=bind_some hc_82
       refine aQ 0 [0] il ft (bU hr_87) rfl yu rfl (by kernel_rfl) (by kernel_rfl) (by kernel_rfl) (by kernel_rfl) (by kernel_rfl) (by kernel_rfl) (by kernel_rfl) (by decide) (by kernel_rfl) wz (vB r_86.1) (by kernel_rfl) ([((av 0),some (.cells 2 [(vL eI r_86.2.L),(vI r_86.2.f_at)])),(n_10,gB 13 Entry.enc s_7.1),(n_46,some (.cells 13 [(vS x_4),(vS r_19.1),(vI r_22.1),(vI r_25.1),(vI (w64 (r_25.1+r_47.1))),(vI r_28.1),(vI r_31.1),(gV n_58 1 s_55.1),(vI r_34.1),(vI r_37.1),(vI r_40.1),(gV n_81 1 s_78.1),(vB r_43.1)])),(n_58,gB 1 eI s_55.1),(n_81,gB 1 eS s_78.1)]:Hp) (by kernel_rfl) (ah ?_)
       obtain ⟨v_89,h_90,hc_82⟩:=bind_some hc_82
       refine jD (β:=Nm) (λ(n_91:Nm)=>([(0,(.ref (av 0) 0 0)),(3,(gV n_10 13 s_7.1)),(6,(.ref n_46 0 0)),(11,(vL eS ([(⟨#[101,97]⟩:ByteArray),(⟨#[101,98]⟩:ByteArray),(⟨#[101,99]⟩:ByteArray),(⟨#[101,100]⟩:ByteArray)]:List ByteArray))),(12,(vI (([(⟨#[101,97]⟩:ByteArray),(⟨#[101,98]⟩:ByteArray),(⟨#[101,99]⟩:ByteArray),(⟨#[101,100]⟩:ByteArray)]:List ByteArray).length:Int))),(13,(vI (k_2:Int))),(68,(vL eS ([(⟨#[99,105,116,121]⟩:ByteArray),(⟨#[109,97,108,108]⟩:ByteArray)]:List ByteArray))),(69,(vI (([(⟨#[99,105,116,121]⟩:ByteArray),(⟨#[109,97,108,108]⟩:ByteArray)]:List ByteArray).length:Int))),(70,(vI (k_73:Int)))]:SL_)) (λ(n_91:Nm)=>([((av 0),some (.cells 2 [(vL eI r_86.2.L),(vI r_86.2.f_at)])),(n_10,gB 13 Entry.enc s_7.1),(n_46,some (.cells 13 [(vS x_4),(vS r_19.1),(vI r_22.1),(vI r_25.1),(vI (w64 (r_25.1+r_47.1))),(vI r_28.1),(vI r_31.1),(gV n_58 1 s_55.1),(vI r_34.1),(vI r_37.1),(vI r_40.1),(gV n_91 1 v_89),(vB r_43.1)])),(n_58,gB 1 eI s_55.1),(n_91,gB 1 eS v_89)]:Hp)) (λ_=>True) ?_ ?_
       ·rcases ak h_90 with⟨hc_92,h_90⟩|⟨hc_92,h_90⟩
        ·refine aD rfl hc_92 (ax (aL jG rfl 11 rfl wz (aK 0 2 il ft uD Bd rfl rfl (gV n_81 1 s_78.1) rfl wz (aa (vS x_75) (dw (([x_75]:List ByteArray).map eS) fF nK rfl rfl rfl rfl rfl wz ?_)))))
         obtain ⟨a_93,hz_94,h_90⟩:=bind_some h_90
         refine jX 0 il ft (i:=4) tY tY sz9 z9 rfl (by decide) by9 (by decide) (λ_=>rfl) rfl rfl rfl hz_94 wz (λn_95=>aL jG rfl 11 rfl wz (gK 0 il ft 2 uD rfl rfl [(vS x_4),(vS r_19.1),(vI r_22.1),(vI r_25.1),(vI (w64 (r_25.1+r_47.1))),(vI r_28.1),(vI r_31.1),(gV n_58 1 s_55.1),(vI r_34.1),(vI r_37.1),(vI r_40.1),(gV n_95 1 a_93),(vB r_43.1)] (Du rfl) wz (ah ?_)))
         obtain rfl:=ae h_90
         exact bG n_95 trivial rfl (aN rfl)
        ·refine aF rfl hc_92 (aC ?_)
         obtain rfl:=ae h_90
         exact bG n_81 trivial rfl (aN rfl)
       ·rintro n_91 _ sl_ H_ hp_ hq_
        refine aU _ hp_ hq_ (ax (gM (bZ hD_76 hn_77) wz rfl (aa (vI ((k_73+1:Nat):Int)) (ah ?_))))
        obtain rfl:=ae hc_82
        exact bK (k_73+1,l_74,(v_89,r_86.2.L,r_86.2.f_at),n_91) ⟨hL_83,bv hD_76⟩ (ls_ _) rfl (aN rfl)
     ·rintro ⟨s_78,n_81⟩ ho_ sl_ H_ hp_ hq_
      subst ho_
      refine aU _ hp_ hq_ (gD 3 rfl (gD 4 rfl (E9 3 4 2 [(vS x_4),(vS r_19.1),(vI r_22.1),(vI r_25.1),(vI (w64 (r_25.1+r_47.1))),(vI r_28.1),(vI r_31.1),(vL eI s_55.1),(vI r_34.1),(vI r_37.1),(vI r_40.1),(vL eS s_78.1),(vB r_43.1)] rfl rfl rfl (λS hS hS2=>dS (rfl) (dS (rfl) (dS (rfl) (dS (rfl) (dS (rfl) (dS (rfl) (dS (rfl) (dS (hS) (dS (rfl) (dS (rfl) (dS (rfl) (dS (hS2) (dS (rfl) (rfl)))))))))))))) (ax (aa (gV n_10 13 s_7.1) (aK 0 2 il ft iw lN rfl rfl (.d (.agg (Entry.enc (⟨x_4,r_19.1,r_22.1,r_25.1,(w64 (r_25.1+r_47.1)),r_28.1,r_31.1,s_55.1,r_34.1,r_37.1,r_40.1,s_78.1,r_43.1⟩:Entry)))) rfl wz (dw (([(⟨x_4,r_19.1,r_22.1,r_25.1,(w64 (r_25.1+r_47.1)),r_28.1,r_31.1,s_55.1,r_34.1,r_37.1,r_40.1,s_78.1,r_43.1⟩:Entry)]:List Entry).map Entry.enc) vF G7 rfl rfl rfl rfl rfl wz ?_)))))))
      obtain ⟨a_96,hz_97,hc_11⟩:=bind_some hc_11
      refine jX 0 il ft (i:=1) BU BU iw z39 rfl (by decide) by39 (by decide) (λ_=>rfl) rfl rfl rfl hz_97 wz (λn_98=>aa (gV n_98 13 a_96) (ah (ax (gM (bZ hD_5 hn_6) wz rfl (aa (vI ((k_2+1:Nat):Int)) (ah ?_))))))
      obtain rfl:=ae hc_11
      exact bK (k_2+1,l_3,(a_96,s_78.2.1,s_78.2.2),n_98) ⟨hL_12,bv hD_5⟩ (ls_ _) rfl (aN rfl)
 ·rintro ⟨s_7,n_10⟩ ho_ sl_ H_ hp_ hq_
  subst ho_
  refine aU _ hp_ hq_ (aj (aa (gV n_10 13 s_7.1) (aa (gV n_10 13 s_7.1) (ah ?_))))
  obtain rfl:=ae hF
  exact aB (GM (outs:=([(.cells 2 [(vL eI s_7.2.1),(vI s_7.2.2)])]:List Box)) (.inr rfl) 1 rfl rfl rfl (by kernel_rfl) (by kernel_rfl))
theorem ed {s_1:Stream} {low_2:Int} {high_3:Int} {r:Int×Stream} (hF:dQ s_1 low_2 high_3=some r) :
  FnM Tryz.prog 18 [(.ref (av 0) 0 0),(vI low_2),(vI high_3)] [(.cells 2 [(vL eI s_1.L),(vI s_1.f_at)])] (vI r.1) [some (.cells 2 [(vL eI r.2.L),(vI r.2.f_at)])]:=by
 refine FnM.of_wH ⟨Tryz.prog,22,[],[]⟩ rfl Tryz.func18 rfl rfl (lb_ rfl) (by kernel_rfl) ?_
 unfold dQ at hF
 refine aj (aa (vI 0) (ah (au (aj (aa (.ref (av 0) 0 0) ?_)))))
 obtain ⟨r_4,hr_5,hF⟩:=bind_some hF
 refine aQ 0 [0] il ft (bU hr_5) rfl yu rfl (by kernel_rfl) (by kernel_rfl) (by kernel_rfl) (by kernel_rfl) (by kernel_rfl) (by kernel_rfl) (by kernel_rfl) (by decide) (by kernel_rfl) wz (vB r_4.1) (by kernel_rfl) ([((av 0),some (.cells 2 [(vL eI r_4.2.L),(vI r_4.2.f_at)]))]:Hp) (by kernel_rfl) (ah ?_)
 rcases ak hF with⟨hc_7,hF⟩|⟨hc_7,hF⟩
 ·refine aD rfl hc_7 (aj (aa (.ref (av 0) 0 0) (aa (vI low_2) (aa (vI (w64 (low_2-1))) (aa (vI high_3) (aa (vI (w64 (high_3+1))) (aa (vI low_2) (aa (vI high_3) (dw (([(w64 (low_2-1)),(w64 (high_3+1)),low_2,high_3,(-1099511627776),1099511627776]:List Int).map eI) eX lq rfl rfl rfl rfl rfl wz ?_)))))))))
  obtain ⟨r_8,hr_9,hF⟩:=bind_some hF
  refine aQ 0 [0] il ft (aZ hr_9) rfl rT rfl (by kernel_rfl) (by kernel_rfl) (by kernel_rfl) (by kernel_rfl) (by kernel_rfl) (by kernel_rfl) (by kernel_rfl) (by decide) (by kernel_rfl) wz (vI r_8.1) (by kernel_rfl) ([((av 0),some (.cells 2 [(vL eI r_8.2.L),(vI r_8.2.f_at)]))]:Hp) (by kernel_rfl) (aa (vI r_8.1) (ah ?_))
  obtain rfl:=ae hF
  exact aB (rU (.inr rfl) [(vI r_8.1)] _ [0] [av 0] ⟨rfl,trivial⟩ (.cons (gZ rfl rfl) (.nil)) (by kernel_rfl) ⟨(by kernel_rfl),trivial⟩ (by decide) (by kernel_rfl))
 ·refine aF rfl hc_7 (aC (aj (aa (.ref (av 0) 0 0) (aa (vI low_2) (aa (vI high_3) ?_)))))
  obtain ⟨r_11,hr_12,hF⟩:=bind_some hF
  refine aQ 0 [0] il ft (ko hr_12) rfl hb40 rfl (by kernel_rfl) (by kernel_rfl) (by kernel_rfl) (by kernel_rfl) (by kernel_rfl) (by kernel_rfl) (by kernel_rfl) (by decide) (by kernel_rfl) wz (vI r_11.1) (by kernel_rfl) ([((av 0),some (.cells 2 [(vL eI r_11.2.L),(vI r_11.2.f_at)]))]:Hp) (by kernel_rfl) (aa (vI r_11.1) (ah ?_))
  obtain rfl:=ae hF
  exact aB (rU (.inr rfl) [(vI r_11.1)] _ [0] [av 0] ⟨rfl,trivial⟩ (.cons (gZ rfl rfl) (.nil)) (by kernel_rfl) ⟨(by kernel_rfl),trivial⟩ (by decide) (by kernel_rfl))
theorem og {s_1:(List Int)} {r:(List Int)} (hF:fE s_1=some r) :
  FnM Tryz.prog 19 [(vL eI s_1)] [] (gV (av 0) 1 r) (([]:List Box).map some++gO 1 eI r):=by
 refine FnM.of_wH ⟨Tryz.prog,8,[],[]⟩ rfl Tryz.func19 rfl rfl (lb_ rfl) (by kernel_rfl) ?_
 unfold fE at hF
 refine aj (aa .nil (ah (au (aj (aa (vL eI s_1) (h_nileq pE rfl wz (λb_2 hb_3=>ah ?_)))))))
 cases b_2 with
 | true =>
  refine aD rfl rfl ?_
  obtain rfl:=hb_3 rfl
  replace hF:=FY hF
  refine aj (aa .nil (ah (jZ (λn_4 => ?_))))
  obtain rfl:=ae hF
  exact aB (GM (outs:=([]:List Box)) (.inr rfl) 0 rfl rfl rfl (by kernel_rfl) (by kernel_rfl))
 | false =>
  refine aF rfl rfl (aC (aj (h_lit0 eX lq rfl wz (aa (vL eI s_1) ?_))))
  obtain ⟨a_5,hz_6,hF⟩:=bind_some hF
  refine h_appn 0 (.inl rfl) xw xw sz3 z3 rfl (by decide) by3 (by decide) (λ_=>rfl) rfl rfl hz_6 wz (λn_7=>aa (gV n_7 1 a_5) (ah ?_))
  obtain rfl:=ae hF
  exact aB (GM (outs:=([]:List Box)) (.inr rfl) 0 rfl rfl rfl (by kernel_rfl) (by kernel_rfl))
theorem qQ {s_1:Stream} {r:(List Entry)×Stream} (hF:iy s_1=some r) :
  FnM Tryz.prog 4 [(.ref (av 0) 0 0)] [(.cells 2 [(vL eI s_1.L),(vI s_1.f_at)])] (vL Entry.enc r.1) [some (.cells 2 [(vL eI r.2.L),(vI r.2.f_at)])]:=by
 refine FnM.of_wH ⟨Tryz.prog,107,[],[]⟩ rfl Tryz.func4 rfl rfl (lb_ rfl) (by kernel_rfl) ?_
 unfold iy at hF
 refine aj (aa .nil (ah (aj (aa (.ref (av 0) 0 0) ?_))))
 obtain ⟨r_2,hr_3,hF⟩:=bind_some hF
 refine Bp [0] (mV hr_3) rfl hb14 rfl (by kernel_rfl) (by kernel_rfl) (by kernel_rfl) (by kernel_rfl) (by kernel_rfl) rfl (by decide) (by kernel_rfl) wz ([((av 0),some (.cells 2 [(vL eI r_2.2.L),(vI r_2.2.f_at)]))]:Hp) (λ_=>by kernel_rfl) (λn_5=>aa (gV n_5 13 r_2.1) (ah (au (au ?_))))
 obtain ⟨v_6,h_7,hF⟩:=bind_some hF
 refine aW [(0,(.ref (av 0) 0 0)),(3,(gV n_5 13 r_2.1)),(13,(vB v_6.1))] [((av 0),some (.cells 2 [(vL eI v_6.2.1),(vI v_6.2.2)])),(n_5,gB 13 Entry.enc r_2.1)] ?_ ?_
 ·refine ax (aa (gV n_5 13 r_2.1) (Et yf rfl wz (aa (vB (decide ((r_2.1.length:Int)>0))) ?_)))
  rcases ak h_7 with⟨hc_8,h_7⟩|⟨hc_8,h_7⟩
  ·refine ay rfl hc_8 wz (aG (.ref (av 0) 0 0) wa rfl ?_)
   obtain ⟨r_9,hr_10,h_7⟩:=bind_some h_7
   refine aQ 0 [0] il ft (bU hr_10) rfl yu rfl (by kernel_rfl) (by kernel_rfl) (by kernel_rfl) (by kernel_rfl) (by kernel_rfl) (by kernel_rfl) (by kernel_rfl) (by decide) (by kernel_rfl) wa (vB r_9.1) (by kernel_rfl) ([((av 0),some (.cells 2 [(vL eI r_9.2.L),(vI r_9.2.f_at)])),(n_5,gB 13 Entry.enc r_2.1)]:Hp) (by kernel_rfl) (aa (vB r_9.1) (ah ?_))
   obtain rfl:=ae h_7
   exact cu
  ·refine ay rfl hc_8 wz (af (af (aa (vB false) (ah ?_))))
   obtain rfl:=ae h_7
   exact cu
 ·rintro ⟨⟩ _ sl_ H_ hp_ hq_
  refine aU _ hp_ hq_ ?_
  obtain ⟨v_12,h_13,hF⟩:=bind_some hF
  refine aW [(3,(gV n_5 13 v_12.1))] [((av 0),some (.cells 2 [(vL eI v_12.2.1),(vI v_12.2.2)])),(n_5,gB 13 Entry.enc v_12.1)] ?_ ?_
  ·rcases ak h_13 with⟨hc_14,h_13⟩|⟨hc_14,h_13⟩
   ·refine aD rfl hc_14 (aj (aa (gV n_5 13 r_2.1) (aa (.ref (av 0) 0 0) (aa (gV n_5 13 r_2.1) (Et yf rfl wz ?_)))))
    obtain ⟨r_15,hr_16,h_13⟩:=bind_some h_13
    refine aQ 0 [0] il ft (dn hr_16) rfl zS rfl (by kernel_rfl) (by kernel_rfl) (by kernel_rfl) (by kernel_rfl) (by kernel_rfl) (by kernel_rfl) (by kernel_rfl) (by decide) (by kernel_rfl) wz (vI r_15.1) (by kernel_rfl) ([((av 0),some (.cells 2 [(vL eI r_15.2.L),(vI r_15.2.f_at)])),(n_5,gB 13 Entry.enc r_2.1)]:Hp) (by kernel_rfl) ?_
    obtain ⟨_,hi_18,h_13⟩:=bind_some h_13
    refine DN vF rfl rfl (Ia hi_18) (Eb hi_18) wz (aa (.ref n_5 (0+(r_15.1).toNat) 0) (ah (aj (aa (.ref (av 0) 0 0) ?_))))
    obtain ⟨r_19,hr_20,h_13⟩:=bind_some h_13
    refine aQ 0 [0] il ft (dn hr_20) rfl zS rfl (by kernel_rfl) (by kernel_rfl) (by kernel_rfl) (by kernel_rfl) (by kernel_rfl) (by kernel_rfl) (by kernel_rfl) (by decide) (by kernel_rfl) wz (vI r_19.1) (by kernel_rfl) ([((av 0),some (.cells 2 [(vL eI r_19.2.L),(vI r_19.2.f_at)])),(n_5,gB 13 Entry.enc r_2.1)]:Hp) (by kernel_rfl) (ah (bg (aj (aa (vB (r_19.1==0)) (aa (vB (r_19.1==0)) (ah ?_))))))
    rcases ak h_13 with⟨hc_22,h_13⟩|⟨hc_22,h_13⟩
    ·refine aD rfl hc_22 (ax (aa (.ref n_5 (0+(r_15.1).toNat) 0) (aa (.ref n_5 (0+(r_15.1).toNat) 0) (aa (.ref (av 0) 0 0) (aa (.ref n_5 (0+(r_15.1).toNat) 0) (aa (.ref n_5 (0+(r_15.1).toNat) 0) (aL nX rfl 0 rfl wz ?_)))))))
     obtain ⟨e_23,hy_24,h_13⟩:=bind_some h_13
     refine DL 0 1 il ft sz9 ag9 rfl rfl hy_24 (vS e_23.Key) rfl wz (dw (([e_23.Key,(⟨#[]⟩:ByteArray),(⟨#[65]⟩:ByteArray),(⟨#[101,97]⟩:ByteArray)]:List ByteArray).map eS) fF nK rfl rfl rfl rfl rfl wz ?_)
     obtain ⟨r_25,hr_26,h_13⟩:=bind_some h_13
     refine aQ 0 [0] il ft (fI hr_26) rfl FH rfl (by kernel_rfl) (by kernel_rfl) (by kernel_rfl) (by kernel_rfl) (by kernel_rfl) (by kernel_rfl) (by kernel_rfl) (by decide) (by kernel_rfl) wz (vS r_25.1) (by kernel_rfl) ([((av 0),some (.cells 2 [(vL eI r_25.2.L),(vI r_25.2.f_at)])),(n_5,gB 13 Entry.enc r_2.1)]:Hp) (by kernel_rfl) (aa (.ref (av 0) 0 0) (dw (([(⟨#[105,97]⟩:ByteArray),(⟨#[]⟩:ByteArray),(⟨#[66]⟩:ByteArray)]:List ByteArray).map eS) fF nK rfl rfl rfl rfl rfl wz ?_))
     obtain ⟨r_28,hr_29,h_13⟩:=bind_some h_13
     refine aQ 0 [0] il ft (fI hr_29) rfl FH rfl (by kernel_rfl) (by kernel_rfl) (by kernel_rfl) (by kernel_rfl) (by kernel_rfl) (by kernel_rfl) (by kernel_rfl) (by decide) (by kernel_rfl) wz (vS r_28.1) (by kernel_rfl) ([((av 0),some (.cells 2 [(vL eI r_28.2.L),(vI r_28.2.f_at)])),(n_5,gB 13 Entry.enc r_2.1)]:Hp) (by kernel_rfl) (aa (.ref n_5 (0+(r_15.1).toNat) 0) (aL nX rfl 0 rfl wz ?_))
     obtain ⟨e_31,hy_32,h_13⟩:=bind_some h_13
     refine l5 0 il ft 1 sz9 rfl rfl hy_32 (⟨r_25.1,e_31.Item,e_31.Version,e_31.First,e_31.Last,e_31.Every,e_31.Days,e_31.Except,e_31.From,e_31.To,e_31.Prio,e_31.Tags,e_31.Gone⟩:Entry) rfl wz (jg (v':=(gV n_5 13 (r_2.1.set (0+(r_15.1).toNat) (⟨r_25.1,e_31.Item,e_31.Version,e_31.First,e_31.Last,e_31.Every,e_31.Days,e_31.Except,e_31.From,e_31.To,e_31.Prio,e_31.Tags,e_31.Gone⟩:Entry)))) 3 rfl (dH (by simp)) (jg (v':=(gV n_5 13 (r_2.1.set (0+(r_15.1).toNat) (⟨r_25.1,e_31.Item,e_31.Version,e_31.First,e_31.Last,e_31.Every,e_31.Days,e_31.Except,e_31.From,e_31.To,e_31.Prio,e_31.Tags,e_31.Gone⟩:Entry)))) 14 rfl (dH (by simp)) (jg (v':=(gV n_5 13 (r_2.1.set (0+(r_15.1).toNat) (⟨r_25.1,e_31.Item,e_31.Version,e_31.First,e_31.Last,e_31.Every,e_31.Days,e_31.Except,e_31.From,e_31.To,e_31.Prio,e_31.Tags,e_31.Gone⟩:Entry)))) 16 rfl (dH (by simp)) (aa (.ref n_5 (0+(r_15.1).toNat) 0) (aL yU rfl 1 rfl wz ?_)))))
     obtain ⟨e_33,hy_34,h_13⟩:=bind_some h_13
     refine l5 0 il ft 1 sz9 rfl rfl hy_34 (⟨e_33.Key,r_28.1,e_33.Version,e_33.First,e_33.Last,e_33.Every,e_33.Days,e_33.Except,e_33.From,e_33.To,e_33.Prio,e_33.Tags,e_33.Gone⟩:Entry) rfl wz (jg (v':=(gV n_5 13 ((r_2.1.set (0+(r_15.1).toNat) (⟨r_25.1,e_31.Item,e_31.Version,e_31.First,e_31.Last,e_31.Every,e_31.Days,e_31.Except,e_31.From,e_31.To,e_31.Prio,e_31.Tags,e_31.Gone⟩:Entry)).set (0+(r_15.1).toNat) (⟨e_33.Key,r_28.1,e_33.Version,e_33.First,e_33.Last,e_33.Every,e_33.Days,e_33.Except,e_33.From,e_33.To,e_33.Prio,e_33.Tags,e_33.Gone⟩:Entry)))) 3 rfl (dH (by simp)) (jg (v':=(gV n_5 13 ((r_2.1.set (0+(r_15.1).toNat) (⟨r_25.1,e_31.Item,e_31.Version,e_31.First,e_31.Last,e_31.Every,e_31.Days,e_31.Except,e_31.From,e_31.To,e_31.Prio,e_31.Tags,e_31.Gone⟩:Entry)).set (0+(r_15.1).toNat) (⟨e_33.Key,r_28.1,e_33.Version,e_33.First,e_33.Last,e_33.Every,e_33.Days,e_33.Except,e_33.From,e_33.To,e_33.Prio,e_33.Tags,e_33.Gone⟩:Entry)))) 14 rfl (dH (by simp)) (jg (v':=(gV n_5 13 ((r_2.1.set (0+(r_15.1).toNat) (⟨r_25.1,e_31.Item,e_31.Version,e_31.First,e_31.Last,e_31.Every,e_31.Days,e_31.Except,e_31.From,e_31.To,e_31.Prio,e_31.Tags,e_31.Gone⟩:Entry)).set (0+(r_15.1).toNat) (⟨e_33.Key,r_28.1,e_33.Version,e_33.First,e_33.Last,e_33.Every,e_33.Days,e_33.Except,e_33.From,e_33.To,e_33.Prio,e_33.Tags,e_33.Gone⟩:Entry)))) 16 rfl (dH (by simp)) (ah ?_))))
     obtain rfl:=ae h_13
     exact cu
    ·refine aF rfl hc_22 (aj (aa (vB (r_19.1==1)) (aa (vB (r_19.1==1)) (ah ?_))))
     rcases ak h_13 with⟨hc_35,h_13⟩|⟨hc_35,h_13⟩
     ·refine aD rfl hc_35 (ax (aa (.ref n_5 (0+(r_15.1).toNat) 0) (aa (.ref n_5 (0+(r_15.1).toNat) 0) (aa (.ref (av 0) 0 0) ?_))))
      obtain ⟨r_36,hr_37,h_13⟩:=bind_some h_13
      refine aQ 0 [0] il ft (ed hr_37) rfl Ci rfl (by kernel_rfl) (by kernel_rfl) (by kernel_rfl) (by kernel_rfl) (by kernel_rfl) (by kernel_rfl) (by kernel_rfl) (by decide) (by kernel_rfl) wz (vI r_36.1) (by kernel_rfl) ([((av 0),some (.cells 2 [(vL eI r_36.2.L),(vI r_36.2.f_at)])),(n_5,gB 13 Entry.enc r_2.1)]:Hp) (by kernel_rfl) (aa (.ref (av 0) 0 0) ?_)
      obtain ⟨r_39,hr_40,h_13⟩:=bind_some h_13
      refine aQ 0 [0] il ft (ed hr_40) rfl Ci rfl (by kernel_rfl) (by kernel_rfl) (by kernel_rfl) (by kernel_rfl) (by kernel_rfl) (by kernel_rfl) (by kernel_rfl) (by decide) (by kernel_rfl) wz (vI r_39.1) (by kernel_rfl) ([((av 0),some (.cells 2 [(vL eI r_39.2.L),(vI r_39.2.f_at)])),(n_5,gB 13 Entry.enc r_2.1)]:Hp) (by kernel_rfl) (aa (.ref n_5 (0+(r_15.1).toNat) 0) (aL ou rfl 3 rfl wz ?_))
      obtain ⟨e_42,hy_43,h_13⟩:=bind_some h_13
      refine l5 0 il ft 1 sz3 rfl rfl hy_43 (⟨e_42.Key,e_42.Item,e_42.Version,r_36.1,e_42.Last,e_42.Every,e_42.Days,e_42.Except,e_42.From,e_42.To,e_42.Prio,e_42.Tags,e_42.Gone⟩:Entry) rfl wz (jg (v':=(gV n_5 13 (r_2.1.set (0+(r_15.1).toNat) (⟨e_42.Key,e_42.Item,e_42.Version,r_36.1,e_42.Last,e_42.Every,e_42.Days,e_42.Except,e_42.From,e_42.To,e_42.Prio,e_42.Tags,e_42.Gone⟩:Entry)))) 3 rfl (dH (by simp)) (jg (v':=(gV n_5 13 (r_2.1.set (0+(r_15.1).toNat) (⟨e_42.Key,e_42.Item,e_42.Version,r_36.1,e_42.Last,e_42.Every,e_42.Days,e_42.Except,e_42.From,e_42.To,e_42.Prio,e_42.Tags,e_42.Gone⟩:Entry)))) 14 rfl (dH (by simp)) (jg (v':=(gV n_5 13 (r_2.1.set (0+(r_15.1).toNat) (⟨e_42.Key,e_42.Item,e_42.Version,r_36.1,e_42.Last,e_42.Every,e_42.Days,e_42.Except,e_42.From,e_42.To,e_42.Prio,e_42.Tags,e_42.Gone⟩:Entry)))) 16 rfl (dH (by simp)) (aa (.ref n_5 (0+(r_15.1).toNat) 0) (aL nH rfl 4 rfl wz ?_)))))
      obtain ⟨e_44,hy_45,h_13⟩:=bind_some h_13
      refine l5 0 il ft 1 sz3 rfl rfl hy_45 (⟨e_44.Key,e_44.Item,e_44.Version,e_44.First,r_39.1,e_44.Every,e_44.Days,e_44.Except,e_44.From,e_44.To,e_44.Prio,e_44.Tags,e_44.Gone⟩:Entry) rfl wz (jg (v':=(gV n_5 13 ((r_2.1.set (0+(r_15.1).toNat) (⟨e_42.Key,e_42.Item,e_42.Version,r_36.1,e_42.Last,e_42.Every,e_42.Days,e_42.Except,e_42.From,e_42.To,e_42.Prio,e_42.Tags,e_42.Gone⟩:Entry)).set (0+(r_15.1).toNat) (⟨e_44.Key,e_44.Item,e_44.Version,e_44.First,r_39.1,e_44.Every,e_44.Days,e_44.Except,e_44.From,e_44.To,e_44.Prio,e_44.Tags,e_44.Gone⟩:Entry)))) 3 rfl (dH (by simp)) (jg (v':=(gV n_5 13 ((r_2.1.set (0+(r_15.1).toNat) (⟨e_42.Key,e_42.Item,e_42.Version,r_36.1,e_42.Last,e_42.Every,e_42.Days,e_42.Except,e_42.From,e_42.To,e_42.Prio,e_42.Tags,e_42.Gone⟩:Entry)).set (0+(r_15.1).toNat) (⟨e_44.Key,e_44.Item,e_44.Version,e_44.First,r_39.1,e_44.Every,e_44.Days,e_44.Except,e_44.From,e_44.To,e_44.Prio,e_44.Tags,e_44.Gone⟩:Entry)))) 14 rfl (dH (by simp)) (jg (v':=(gV n_5 13 ((r_2.1.set (0+(r_15.1).toNat) (⟨e_42.Key,e_42.Item,e_42.Version,r_36.1,e_42.Last,e_42.Every,e_42.Days,e_42.Except,e_42.From,e_42.To,e_42.Prio,e_42.Tags,e_42.Gone⟩:Entry)).set (0+(r_15.1).toNat) (⟨e_44.Key,e_44.Item,e_44.Version,e_44.First,r_39.1,e_44.Every,e_44.Days,e_44.Except,e_44.From,e_44.To,e_44.Prio,e_44.Tags,e_44.Gone⟩:Entry)))) 16 rfl (dH (by simp)) (ah ?_))))
      obtain rfl:=ae h_13
      exact cu
     ·refine aF rfl hc_35 (aj (aa (vB (r_19.1==2)) (aa (vB (r_19.1==2)) (ah ?_))))
      rcases ak h_13 with⟨hc_46,h_13⟩|⟨hc_46,h_13⟩
      ·refine aD rfl hc_46 (ax (aa (.ref n_5 (0+(r_15.1).toNat) 0) (aa (.ref n_5 (0+(r_15.1).toNat) 0) (aa (.ref (av 0) 0 0) ?_))))
       obtain ⟨r_47,hr_48,h_13⟩:=bind_some h_13
       refine aQ 0 [0] il ft (ed hr_48) rfl Ci rfl (by kernel_rfl) (by kernel_rfl) (by kernel_rfl) (by kernel_rfl) (by kernel_rfl) (by kernel_rfl) (by kernel_rfl) (by decide) (by kernel_rfl) wz (vI r_47.1) (by kernel_rfl) ([((av 0),some (.cells 2 [(vL eI r_47.2.L),(vI r_47.2.f_at)])),(n_5,gB 13 Entry.enc r_2.1)]:Hp) (by kernel_rfl) (aa (.ref (av 0) 0 0) ?_)
       obtain ⟨r_50,hr_51,h_13⟩:=bind_some h_13
       refine aQ 0 [0] il ft (ed hr_51) rfl Ci rfl (by kernel_rfl) (by kernel_rfl) (by kernel_rfl) (by kernel_rfl) (by kernel_rfl) (by kernel_rfl) (by kernel_rfl) (by decide) (by kernel_rfl) wz (vI r_50.1) (by kernel_rfl) ([((av 0),some (.cells 2 [(vL eI r_50.2.L),(vI r_50.2.f_at)])),(n_5,gB 13 Entry.enc r_2.1)]:Hp) (by kernel_rfl) (aa (.ref n_5 (0+(r_15.1).toNat) 0) (aL vN rfl 5 rfl wz ?_))
       obtain ⟨e_53,hy_54,h_13⟩:=bind_some h_13
       refine l5 0 il ft 1 sz3 rfl rfl hy_54 (⟨e_53.Key,e_53.Item,e_53.Version,e_53.First,e_53.Last,r_47.1,e_53.Days,e_53.Except,e_53.From,e_53.To,e_53.Prio,e_53.Tags,e_53.Gone⟩:Entry) rfl wz (jg (v':=(gV n_5 13 (r_2.1.set (0+(r_15.1).toNat) (⟨e_53.Key,e_53.Item,e_53.Version,e_53.First,e_53.Last,r_47.1,e_53.Days,e_53.Except,e_53.From,e_53.To,e_53.Prio,e_53.Tags,e_53.Gone⟩:Entry)))) 3 rfl (dH (by simp)) (jg (v':=(gV n_5 13 (r_2.1.set (0+(r_15.1).toNat) (⟨e_53.Key,e_53.Item,e_53.Version,e_53.First,e_53.Last,r_47.1,e_53.Days,e_53.Except,e_53.From,e_53.To,e_53.Prio,e_53.Tags,e_53.Gone⟩:Entry)))) 14 rfl (dH (by simp)) (jg (v':=(gV n_5 13 (r_2.1.set (0+(r_15.1).toNat) (⟨e_53.Key,e_53.Item,e_53.Version,e_53.First,e_53.Last,r_47.1,e_53.Days,e_53.Except,e_53.From,e_53.To,e_53.Prio,e_53.Tags,e_53.Gone⟩:Entry)))) 16 rfl (dH (by simp)) (aa (.ref n_5 (0+(r_15.1).toNat) 0) (aL ww rfl 6 rfl wz ?_)))))
       obtain ⟨e_55,hy_56,h_13⟩:=bind_some h_13
       refine l5 0 il ft 1 sz3 rfl rfl hy_56 (⟨e_55.Key,e_55.Item,e_55.Version,e_55.First,e_55.Last,e_55.Every,r_50.1,e_55.Except,e_55.From,e_55.To,e_55.Prio,e_55.Tags,e_55.Gone⟩:Entry) rfl wz (jg (v':=(gV n_5 13 ((r_2.1.set (0+(r_15.1).toNat) (⟨e_53.Key,e_53.Item,e_53.Version,e_53.First,e_53.Last,r_47.1,e_53.Days,e_53.Except,e_53.From,e_53.To,e_53.Prio,e_53.Tags,e_53.Gone⟩:Entry)).set (0+(r_15.1).toNat) (⟨e_55.Key,e_55.Item,e_55.Version,e_55.First,e_55.Last,e_55.Every,r_50.1,e_55.Except,e_55.From,e_55.To,e_55.Prio,e_55.Tags,e_55.Gone⟩:Entry)))) 3 rfl (dH (by simp)) (jg (v':=(gV n_5 13 ((r_2.1.set (0+(r_15.1).toNat) (⟨e_53.Key,e_53.Item,e_53.Version,e_53.First,e_53.Last,r_47.1,e_53.Days,e_53.Except,e_53.From,e_53.To,e_53.Prio,e_53.Tags,e_53.Gone⟩:Entry)).set (0+(r_15.1).toNat) (⟨e_55.Key,e_55.Item,e_55.Version,e_55.First,e_55.Last,e_55.Every,r_50.1,e_55.Except,e_55.From,e_55.To,e_55.Prio,e_55.Tags,e_55.Gone⟩:Entry)))) 14 rfl (dH (by simp)) (jg (v':=(gV n_5 13 ((r_2.1.set (0+(r_15.1).toNat) (⟨e_53.Key,e_53.Item,e_53.Version,e_53.First,e_53.Last,r_47.1,e_53.Days,e_53.Except,e_53.From,e_53.To,e_53.Prio,e_53.Tags,e_53.Gone⟩:Entry)).set (0+(r_15.1).toNat) (⟨e_55.Key,e_55.Item,e_55.Version,e_55.First,e_55.Last,e_55.Every,r_50.1,e_55.Except,e_55.From,e_55.To,e_55.Prio,e_55.Tags,e_55.Gone⟩:Entry)))) 16 rfl (dH (by simp)) (ah ?_))))
       obtain rfl:=ae h_13
       exact cu
      ·refine aF rfl hc_46 (aj (aa (vB (r_19.1==3)) (aa (vB (r_19.1==3)) (ah ?_))))
       rcases ak h_13 with⟨hc_57,h_13⟩|⟨hc_57,h_13⟩
       ·refine aD rfl hc_57 (ax (aa (.ref n_5 (0+(r_15.1).toNat) 0) (aa (.ref n_5 (0+(r_15.1).toNat) 0) (aa (.ref n_5 (0+(r_15.1).toNat) 0) (aL jv rfl 7 rfl wz ?_)))))
        obtain ⟨e_58,hy_59,h_13⟩:=bind_some h_13
        refine DL 0 1 il ft nY rV rfl rfl hy_59 (vL eI e_58.Except) rfl wz ?_
        obtain ⟨r_60,hr_61,h_13⟩:=bind_some h_13
        refine Bp [] (og hr_61) rfl hb19 rfl (by kernel_rfl) (by kernel_rfl) (by kernel_rfl) (by kernel_rfl) (by kernel_rfl) rfl (by decide) (by kernel_rfl) wz ([((av 0),some (.cells 2 [(vL eI r_19.2.L),(vI r_19.2.f_at)])),(n_5,gB 13 Entry.enc r_2.1)]:Hp) (λ_=>by kernel_rfl) (λn_63=>aa (.ref (av 0) 0 0) ?_)
        obtain ⟨r_64,hr_65,h_13⟩:=bind_some h_13
        refine aQ 0 [0] il ft (ed hr_65) rfl Ci rfl (by kernel_rfl) (by kernel_rfl) (by kernel_rfl) (by kernel_rfl) (by kernel_rfl) (by kernel_rfl) (by kernel_rfl) (by decide) (by kernel_rfl) wz (vI r_64.1) (by kernel_rfl) ([((av 0),some (.cells 2 [(vL eI r_64.2.L),(vI r_64.2.f_at)])),(n_5,gB 13 Entry.enc r_2.1),(n_63,gB 1 eI r_60)]:Hp) (by kernel_rfl) (dw (([r_64.1]:List Int).map eI) eX lq rfl rfl rfl rfl rfl wz ?_)
        obtain ⟨a_67,hz_68,h_13⟩:=bind_some h_13
        refine jX 0 il ft (i:=2) xw xw sz3 z3 rfl (by decide) by3 (by decide) (λ_=>rfl) rfl rfl rfl hz_68 wz (λn_69=>aa (.ref n_5 (0+(r_15.1).toNat) 0) (aL jv rfl 7 rfl wz (EO (λhw=>gD 2 rfl hw) (by kernel_rfl) (EO (λhw=>iK 91 2 rfl rfl hw) (by kernel_rfl) ?_))))
        obtain ⟨e_70,hy_71,h_13⟩:=bind_some h_13
        refine l5 0 il ft 1 nY rfl rfl hy_71 (⟨e_70.Key,e_70.Item,e_70.Version,e_70.First,e_70.Last,e_70.Every,e_70.Days,a_67,e_70.From,e_70.To,e_70.Prio,e_70.Tags,e_70.Gone⟩:Entry) rfl wz (jg (v':=(gV n_5 13 (r_2.1.set (0+(r_15.1).toNat) (⟨e_70.Key,e_70.Item,e_70.Version,e_70.First,e_70.Last,e_70.Every,e_70.Days,a_67,e_70.From,e_70.To,e_70.Prio,e_70.Tags,e_70.Gone⟩:Entry)))) 3 rfl (dH (by simp)) (jg (v':=(gV n_5 13 (r_2.1.set (0+(r_15.1).toNat) (⟨e_70.Key,e_70.Item,e_70.Version,e_70.First,e_70.Last,e_70.Every,e_70.Days,a_67,e_70.From,e_70.To,e_70.Prio,e_70.Tags,e_70.Gone⟩:Entry)))) 14 rfl (dH (by simp)) (jg (v':=(gV n_5 13 (r_2.1.set (0+(r_15.1).toNat) (⟨e_70.Key,e_70.Item,e_70.Version,e_70.First,e_70.Last,e_70.Every,e_70.Days,a_67,e_70.From,e_70.To,e_70.Prio,e_70.Tags,e_70.Gone⟩:Entry)))) 16 rfl (dH (by simp)) (ah ?_))))
        obtain rfl:=ae h_13
        exact cu
       ·refine aF rfl hc_57 (aj (aa (vB (r_19.1==4)) (aa (vB (r_19.1==4)) (ah ?_))))
        rcases ak h_13 with⟨hc_72,h_13⟩|⟨hc_72,h_13⟩
        ·refine aD rfl hc_72 (ax (aa (.ref n_5 (0+(r_15.1).toNat) 0) (aa (.ref n_5 (0+(r_15.1).toNat) 0) (aa (.ref (av 0) 0 0) ?_))))
         obtain ⟨r_73,hr_74,h_13⟩:=bind_some h_13
         refine aQ 0 [0] il ft (ed hr_74) rfl Ci rfl (by kernel_rfl) (by kernel_rfl) (by kernel_rfl) (by kernel_rfl) (by kernel_rfl) (by kernel_rfl) (by kernel_rfl) (by decide) (by kernel_rfl) wz (vI r_73.1) (by kernel_rfl) ([((av 0),some (.cells 2 [(vL eI r_73.2.L),(vI r_73.2.f_at)])),(n_5,gB 13 Entry.enc r_2.1)]:Hp) (by kernel_rfl) (aa (.ref (av 0) 0 0) ?_)
         obtain ⟨r_76,hr_77,h_13⟩:=bind_some h_13
         refine aQ 0 [0] il ft (ed hr_77) rfl Ci rfl (by kernel_rfl) (by kernel_rfl) (by kernel_rfl) (by kernel_rfl) (by kernel_rfl) (by kernel_rfl) (by kernel_rfl) (by decide) (by kernel_rfl) wz (vI r_76.1) (by kernel_rfl) ([((av 0),some (.cells 2 [(vL eI r_76.2.L),(vI r_76.2.f_at)])),(n_5,gB 13 Entry.enc r_2.1)]:Hp) (by kernel_rfl) (aa (.ref n_5 (0+(r_15.1).toNat) 0) (aL sM rfl 8 rfl wz ?_))
         obtain ⟨e_79,hy_80,h_13⟩:=bind_some h_13
         refine l5 0 il ft 1 sz3 rfl rfl hy_80 (⟨e_79.Key,e_79.Item,e_79.Version,e_79.First,e_79.Last,e_79.Every,e_79.Days,e_79.Except,r_73.1,e_79.To,e_79.Prio,e_79.Tags,e_79.Gone⟩:Entry) rfl wz (jg (v':=(gV n_5 13 (r_2.1.set (0+(r_15.1).toNat) (⟨e_79.Key,e_79.Item,e_79.Version,e_79.First,e_79.Last,e_79.Every,e_79.Days,e_79.Except,r_73.1,e_79.To,e_79.Prio,e_79.Tags,e_79.Gone⟩:Entry)))) 3 rfl (dH (by simp)) (jg (v':=(gV n_5 13 (r_2.1.set (0+(r_15.1).toNat) (⟨e_79.Key,e_79.Item,e_79.Version,e_79.First,e_79.Last,e_79.Every,e_79.Days,e_79.Except,r_73.1,e_79.To,e_79.Prio,e_79.Tags,e_79.Gone⟩:Entry)))) 14 rfl (dH (by simp)) (jg (v':=(gV n_5 13 (r_2.1.set (0+(r_15.1).toNat) (⟨e_79.Key,e_79.Item,e_79.Version,e_79.First,e_79.Last,e_79.Every,e_79.Days,e_79.Except,r_73.1,e_79.To,e_79.Prio,e_79.Tags,e_79.Gone⟩:Entry)))) 16 rfl (dH (by simp)) (aa (.ref n_5 (0+(r_15.1).toNat) 0) (aL vM rfl 9 rfl wz ?_)))))
         obtain ⟨e_81,hy_82,h_13⟩:=bind_some h_13
         refine l5 0 il ft 1 sz3 rfl rfl hy_82 (⟨e_81.Key,e_81.Item,e_81.Version,e_81.First,e_81.Last,e_81.Every,e_81.Days,e_81.Except,e_81.From,r_76.1,e_81.Prio,e_81.Tags,e_81.Gone⟩:Entry) rfl wz (jg (v':=(gV n_5 13 ((r_2.1.set (0+(r_15.1).toNat) (⟨e_79.Key,e_79.Item,e_79.Version,e_79.First,e_79.Last,e_79.Every,e_79.Days,e_79.Except,r_73.1,e_79.To,e_79.Prio,e_79.Tags,e_79.Gone⟩:Entry)).set (0+(r_15.1).toNat) (⟨e_81.Key,e_81.Item,e_81.Version,e_81.First,e_81.Last,e_81.Every,e_81.Days,e_81.Except,e_81.From,r_76.1,e_81.Prio,e_81.Tags,e_81.Gone⟩:Entry)))) 3 rfl (dH (by simp)) (jg (v':=(gV n_5 13 ((r_2.1.set (0+(r_15.1).toNat) (⟨e_79.Key,e_79.Item,e_79.Version,e_79.First,e_79.Last,e_79.Every,e_79.Days,e_79.Except,r_73.1,e_79.To,e_79.Prio,e_79.Tags,e_79.Gone⟩:Entry)).set (0+(r_15.1).toNat) (⟨e_81.Key,e_81.Item,e_81.Version,e_81.First,e_81.Last,e_81.Every,e_81.Days,e_81.Except,e_81.From,r_76.1,e_81.Prio,e_81.Tags,e_81.Gone⟩:Entry)))) 14 rfl (dH (by simp)) (jg (v':=(gV n_5 13 ((r_2.1.set (0+(r_15.1).toNat) (⟨e_79.Key,e_79.Item,e_79.Version,e_79.First,e_79.Last,e_79.Every,e_79.Days,e_79.Except,r_73.1,e_79.To,e_79.Prio,e_79.Tags,e_79.Gone⟩:Entry)).set (0+(r_15.1).toNat) (⟨e_81.Key,e_81.Item,e_81.Version,e_81.First,e_81.Last,e_81.Every,e_81.Days,e_81.Except,e_81.From,r_76.1,e_81.Prio,e_81.Tags,e_81.Gone⟩:Entry)))) 16 rfl (dH (by simp)) (ah ?_))))
         obtain rfl:=ae h_13
         exact cu
        ·refine aF rfl hc_72 (eB (aa (.ref n_5 (0+(r_15.1).toNat) 0) (aa (.ref n_5 (0+(r_15.1).toNat) 0) (dw (([(⟨#[109,97,108,108]⟩:ByteArray),(⟨#[99,105,116,121]⟩:ByteArray)]:List ByteArray).map eS) fF nK rfl rfl rfl rfl rfl wz (dw (([(⟨#[]⟩:ByteArray)]:List ByteArray).map eS) fF nK rfl rfl rfl rfl rfl wz (dw (([(⟨#[97]⟩:ByteArray),(⟨#[97]⟩:ByteArray)]:List ByteArray).map eS) fF nK rfl rfl rfl rfl rfl wz (dw (([([(⟨#[109,97,108,108]⟩:ByteArray),(⟨#[99,105,116,121]⟩:ByteArray)]:List ByteArray),([(⟨#[]⟩:ByteArray)]:List ByteArray),([(⟨#[97]⟩:ByteArray),(⟨#[97]⟩:ByteArray)]:List ByteArray)]:List (List ByteArray)).map (eL eS)) es49 ez49 rfl rfl rfl rfl rfl wz (aa (.ref (av 0) 0 0) ?_))))))))
         obtain ⟨r_83,hr_84,h_13⟩:=bind_some h_13
         refine aQ 7 [0] (.inr (by kernel_rfl)) (λ_ _ ag=>by exact trivial) (dn hr_84) rfl zS rfl (by kernel_rfl) (by kernel_rfl) (by kernel_rfl) (by kernel_rfl) (by kernel_rfl) (by kernel_rfl) (by kernel_rfl) (by decide) (by kernel_rfl) wz (vI r_83.1) (by kernel_rfl) ([((av 0),some (.cells 2 [(vL eI r_83.2.L),(vI r_83.2.f_at)])),(n_5,gB 13 Entry.enc r_2.1)]:Hp) (by kernel_rfl) ?_
         obtain ⟨y_86,hy_87,h_13⟩:=bind_some h_13
         refine dJ es49 rfl rfl hy_87 rfl wz (bD uD Bd rfl (vL eS y_86) rfl wz (aa (.ref (av 0) 0 0) ?_))
         obtain ⟨r_88,hr_89,h_13⟩:=bind_some h_13
         refine aQ 11 [0] (.inr (by kernel_rfl)) (λ_ _ ag=>by exact⟨.inr (.inr (by kernel_rfl)),trivial⟩) (ed hr_89) rfl Ci rfl (by kernel_rfl) (by kernel_rfl) (by kernel_rfl) (by kernel_rfl) (by kernel_rfl) (by kernel_rfl) (by kernel_rfl) (by decide) (by kernel_rfl) wz (vI r_88.1) (by kernel_rfl) ([((av 0),some (.cells 2 [(vL eI r_88.2.L),(vI r_88.2.f_at)])),(n_5,gB 13 Entry.enc r_2.1)]:Hp) (by kernel_rfl) (aa (.ref n_5 (0+(r_15.1).toNat) 0) (aL jG rfl 11 rfl wz ?_))
         obtain ⟨e_91,hy_92,h_13⟩:=bind_some h_13
         refine l5 14 (.inr (by kernel_rfl)) (λ_ _ ag=>⟨.inr (.inr (by kernel_rfl)),⟨.inr (.inr (by kernel_rfl)),trivial⟩⟩) 1 uD rfl rfl hy_92 (⟨e_91.Key,e_91.Item,e_91.Version,e_91.First,e_91.Last,e_91.Every,e_91.Days,e_91.Except,e_91.From,e_91.To,e_91.Prio,y_86,e_91.Gone⟩:Entry) rfl wz (jg (v':=(gV n_5 13 (r_2.1.set (0+(r_15.1).toNat) (⟨e_91.Key,e_91.Item,e_91.Version,e_91.First,e_91.Last,e_91.Every,e_91.Days,e_91.Except,e_91.From,e_91.To,e_91.Prio,y_86,e_91.Gone⟩:Entry)))) 3 rfl (dH (by simp)) (jg (v':=(gV n_5 13 (r_2.1.set (0+(r_15.1).toNat) (⟨e_91.Key,e_91.Item,e_91.Version,e_91.First,e_91.Last,e_91.Every,e_91.Days,e_91.Except,e_91.From,e_91.To,e_91.Prio,y_86,e_91.Gone⟩:Entry)))) 14 rfl (dH (by simp)) (jg (v':=(gV n_5 13 (r_2.1.set (0+(r_15.1).toNat) (⟨e_91.Key,e_91.Item,e_91.Version,e_91.First,e_91.Last,e_91.Every,e_91.Days,e_91.Except,e_91.From,e_91.To,e_91.Prio,y_86,e_91.Gone⟩:Entry)))) 16 rfl (dH (by simp)) (aa (.ref n_5 (0+(r_15.1).toNat) 0) (aL uV rfl 10 rfl wz ?_)))))
         obtain ⟨e_93,hy_94,h_13⟩:=bind_some h_13
         refine l5 17 (.inr (by kernel_rfl)) (λ_ _ ag=>⟨.inr (.inr (by kernel_rfl)),⟨.inr (.inr (by kernel_rfl)),⟨.inr (.inr (by kernel_rfl)),trivial⟩⟩⟩) 1 sz3 rfl rfl hy_94 (⟨e_93.Key,e_93.Item,e_93.Version,e_93.First,e_93.Last,e_93.Every,e_93.Days,e_93.Except,e_93.From,e_93.To,r_88.1,e_93.Tags,e_93.Gone⟩:Entry) rfl wz (jg (v':=(gV n_5 13 ((r_2.1.set (0+(r_15.1).toNat) (⟨e_91.Key,e_91.Item,e_91.Version,e_91.First,e_91.Last,e_91.Every,e_91.Days,e_91.Except,e_91.From,e_91.To,e_91.Prio,y_86,e_91.Gone⟩:Entry)).set (0+(r_15.1).toNat) (⟨e_93.Key,e_93.Item,e_93.Version,e_93.First,e_93.Last,e_93.Every,e_93.Days,e_93.Except,e_93.From,e_93.To,r_88.1,e_93.Tags,e_93.Gone⟩:Entry)))) 3 rfl (dH (by simp)) (jg (v':=(gV n_5 13 ((r_2.1.set (0+(r_15.1).toNat) (⟨e_91.Key,e_91.Item,e_91.Version,e_91.First,e_91.Last,e_91.Every,e_91.Days,e_91.Except,e_91.From,e_91.To,e_91.Prio,y_86,e_91.Gone⟩:Entry)).set (0+(r_15.1).toNat) (⟨e_93.Key,e_93.Item,e_93.Version,e_93.First,e_93.Last,e_93.Every,e_93.Days,e_93.Except,e_93.From,e_93.To,r_88.1,e_93.Tags,e_93.Gone⟩:Entry)))) 14 rfl (dH (by simp)) (jg (v':=(gV n_5 13 ((r_2.1.set (0+(r_15.1).toNat) (⟨e_91.Key,e_91.Item,e_91.Version,e_91.First,e_91.Last,e_91.Every,e_91.Days,e_91.Except,e_91.From,e_91.To,e_91.Prio,y_86,e_91.Gone⟩:Entry)).set (0+(r_15.1).toNat) (⟨e_93.Key,e_93.Item,e_93.Version,e_93.First,e_93.Last,e_93.Every,e_93.Days,e_93.Except,e_93.From,e_93.To,r_88.1,e_93.Tags,e_93.Gone⟩:Entry)))) 16 rfl (dH (by simp)) (ah ?_))))
         obtain rfl:=ae h_13
         exact cu
   ·refine aF rfl hc_14 (aC ?_)
    obtain rfl:=ae h_13
    exact cu
  ·rintro ⟨⟩ _ sl_ H_ hp_ hq_
   refine aU _ hp_ hq_ (aj (aa (gV n_5 13 v_12.1) (aa (gV n_5 13 v_12.1) (ah (gD 1 rfl (iK 2 1 rfl rfl (iK 3 1 rfl rfl (iK 106 1 rfl rfl ?_))))))))
   obtain rfl:=ae hF
   exact aB (rU (.inr rfl) [(vL Entry.enc v_12.1)] _ [0] [av 0] ⟨rfl,trivial⟩ (.cons (gZ rfl rfl) (.nil)) (by kernel_rfl) ⟨(by kernel_rfl),trivial⟩ (by decide) (by kernel_rfl))
theorem iY {x0:Int} {r:ByteArray} (hF:strconv_Itoa x0=some r) :
  FnM Tryz.prog 48 [(vI x0)] [] (vS r) [] :=
 itoa_ok Tryz.strconv_Itoa Ey hF
theorem iW {x0:(List ByteArray)} {x1:ByteArray} {r:ByteArray} (hF:strings_Join x0 x1=some r) :
  FnM Tryz.prog 49 [(vL eS x0),(vS x1)] [] (vS r) [] :=
 join_ok rfl Tryz.strings_Join_none Tryz.strings_Join hF
theorem yD {l_1:(List Int)} {r:ByteArray} (hF:lH l_1=some r) :
  FnM Tryz.prog 54 [(vL eI l_1)] [] (vS r) []:=by
 refine FnM.of_wH ⟨Tryz.prog,20,[],[]⟩ rfl Tryz.func54 rfl rfl (lb_ rfl) (by kernel_rfl) ?_
 unfold lH at hF
 refine aj (aa (vS (⟨#[]⟩:ByteArray)) (ah (aj (aa .nil (ah (au (aj (aa (vL eI l_1) (dE pE rfl wz (aa (vI 0) (ah (jZ (λn_8 => ?_)))))))))))))
 obtain ⟨o_13,hj_14,hF⟩:=bind_some hF
 obtain ⟨hn_6,hj_14⟩:=bI hj_14
 refine iq (σ:=(List ByteArray)) (N:=Nm) (λp=>(λ(s_7:List ByteArray) (n_10:Nm)=>([(3,(gV n_10 1 s_7))]:SL_)) p.1 p.2) (λp=>(λ(s_7:List ByteArray) (n_10:Nm)=>([(n_10,gB 1 eS s_7)]:Hp)) p.1 p.2) (λ(k_2:Nat)=>(λp=>(λ(s_7:List ByteArray) (n_10:Nm)=>([(3,(gV n_10 1 s_7)),(6,(vL eI l_1)),(7,(vI (l_1.length:Int))),(8,(vI (k_2:Int)))]:SL_)) p.1 p.2)) (λk x s=>iE k x s) o_13 l_1 (([]:List ByteArray),n_8) hj_14 rfl (aN rfl) ?_ ?_
 ·rintro ⟨k_2,l_3,s_7,n_10⟩ ⟨hL_12,hD_5⟩
  dsimp only at hL_12 hD_5
  cases l_3 with
  | nil =>
   obtain rfl:=ae hL_12
   refine aj (aa (vB (decide ((k_2:Int)<(l_1.length:Int)))) (ah ?_))
   refine au (aF rfl (drop_nil hD_5) (bM ?_))
   exact bG (s_7,n_10) rfl rfl (aN rfl)
  | cons x_4 l_3 =>
   obtain ⟨c_,hc_11,hL_12⟩:=bind_some hL_12
   refine aj (aa (vB (decide ((k_2:Int)<(l_1.length:Int)))) (ah ?_))
   refine au (aD rfl (bQ hD_5) (aC ?_))
   unfold iE at hc_11
   refine au (bg (aj (dJ eX rfl rfl (dB hD_5) rfl wz (bD sz3 ag3 rfl (vI x_4) rfl wz (aa (vI x_4) (ah (ax (aa (gV n_10 1 s_7) (aa (vI x_4) ?_)))))))))
   obtain ⟨r_15,hr_16,hc_11⟩:=bind_some hc_11
   refine aA (iY hr_16) rfl hb48 rfl rfl rfl rfl wz (dw (([r_15]:List ByteArray).map eS) fF nK rfl rfl rfl rfl rfl wz ?_)
   obtain ⟨a_17,hz_18,hc_11⟩:=bind_some hc_11
   refine jX 0 il ft (i:=0) tY tY sz9 z9 rfl (by decide) by9 (by decide) (λ_=>rfl) rfl rfl rfl hz_18 wz (λn_19=>aa (gV n_19 1 a_17) (ah (ax (gM (bZ hD_5 hn_6) wz rfl (aa (vI ((k_2+1:Nat):Int)) (ah ?_))))))
   obtain rfl:=ae hc_11
   exact bK (k_2+1,l_3,a_17,n_19) ⟨hL_12,bv hD_5⟩ (ls_ _) rfl (aN rfl)
 ·rintro ⟨s_7,n_10⟩ ho_ sl_ H_ hp_ hq_
  subst ho_
  refine aU _ hp_ hq_ (au (gD 0 rfl (iK 3 0 rfl rfl (ax (aa (vL eS s_7) ?_)))))
  obtain ⟨r_20,hr_21,hF⟩:=bind_some hF
  refine aA (iW hr_21) rfl Iu rfl rfl rfl rfl wz (aa (vS r_20) (ah ?_))
  obtain rfl:=ae hF
  exact aB (aM [(vS r_20)] ⟨rfl,trivial⟩)
theorem sD {l_1:(List ByteArray)} {r:ByteArray} (hF:ny l_1=some r) :
  FnM Tryz.prog 55 [(vL eS l_1)] [] (vS r) []:=by
 refine FnM.of_wH ⟨Tryz.prog,8,[],[]⟩ rfl Tryz.func55 rfl rfl (lb_ rfl) (by kernel_rfl) ?_
 unfold ny at hF
 refine aj (aa (vS (⟨#[]⟩:ByteArray)) (ah (au (aj (aa (vL eS l_1) (dE lS rfl wz (aa (vB ((l_1.length:Int)==0)) (ah ?_))))))))
 rcases ak hF with⟨hc_2,hF⟩|⟨hc_2,hF⟩
 ·refine aD rfl hc_2 (aj (aa (vS (⟨#[45]⟩:ByteArray)) (ah ?_)))
  obtain rfl:=ae hF
  exact aB (aM [(vS (⟨#[45]⟩:ByteArray))] ⟨rfl,trivial⟩)
 ·refine aF rfl hc_2 (aC (aj (aa (vL eS l_1) ?_)))
  obtain ⟨r_3,hr_4,hF⟩:=bind_some hF
  refine aA (iW hr_4) rfl Iu rfl rfl rfl rfl wz (aa (vS r_3) (ah ?_))
  obtain rfl:=ae hF
  exact aB (aM [(vS r_3)] ⟨rfl,trivial⟩)
theorem kS {e_1:Entry} {r:ByteArray} (hF:dZ e_1=some r) :
  FnM Tryz.prog 29 [(.d (.agg (Entry.enc e_1)))] [] (vS r) []:=by
 refine FnM.of_wH ⟨Tryz.prog,52,[],[]⟩ rfl Tryz.func29 rfl rfl (lb_ rfl) (by kernel_rfl) ?_
 unfold dZ at hF
 refine aj (mo 0 (.inl rfl) (Entry.v e_1) rfl rfl wz (λn_2=>aa (vS (⟨#[]⟩:ByteArray)) (ah (aj (aa .nil (ah (au (aj (aL jv rfl 7 rfl wz (aK 0 0 il ft nY rV rfl rfl (vL eI e_1.Except) rfl wz (dE pE rfl wz (aa (vI 0) (ah (jZ (λn_9 => ?_)))))))))))))))
 obtain ⟨o_14,hj_15,hF⟩:=bind_some hF
 obtain ⟨hn_7,hj_15⟩:=bI hj_15
 refine iq (σ:=(List ByteArray)) (N:=Nm) (λp=>(λ(s_8:List ByteArray) (n_11:Nm)=>([(1,(.ref n_2 0 0)),(3,(gV n_11 1 s_8))]:SL_)) p.1 p.2) (λp=>(λ(s_8:List ByteArray) (n_11:Nm)=>([(n_2,some (.cells 13 (Entry.v e_1))),(n_11,gB 1 eS s_8)]:Hp)) p.1 p.2) (λ(k_3:Nat)=>(λp=>(λ(s_8:List ByteArray) (n_11:Nm)=>([(1,(.ref n_2 0 0)),(3,(gV n_11 1 s_8)),(8,(vL eI e_1.Except)),(9,(vI (e_1.Except.length:Int))),(10,(vI (k_3:Int)))]:SL_)) p.1 p.2)) (λk x s=>jF k x s) o_14 e_1.Except (([]:List ByteArray),n_9) hj_15 rfl (aN rfl) ?_ ?_
 ·rintro ⟨k_3,l_4,s_8,n_11⟩ ⟨hL_13,hD_6⟩
  dsimp only at hL_13 hD_6
  cases l_4 with
  | nil =>
   obtain rfl:=ae hL_13
   refine aj (aa (vB (decide ((k_3:Int)<(e_1.Except.length:Int)))) (ah ?_))
   refine au (aF rfl (drop_nil hD_6) (bM ?_))
   exact bG (s_8,n_11) rfl rfl (aN rfl)
  | cons x_5 l_4 =>
   obtain ⟨c_,hc_12,hL_13⟩:=bind_some hL_13
   refine aj (aa (vB (decide ((k_3:Int)<(e_1.Except.length:Int)))) (ah ?_))
   refine au (aD rfl (bQ hD_6) (aC ?_))
   unfold jF at hc_12
   refine au (bg (aj (dJ eX rfl rfl (dB hD_6) rfl wz (bD sz3 ag3 rfl (vI x_5) rfl wz (aa (vI x_5) (ah (ax (aa (gV n_11 1 s_8) (aa (vI x_5) ?_)))))))))
   obtain ⟨r_16,hr_17,hc_12⟩:=bind_some hc_12
   refine aA (iY hr_17) rfl hb48 rfl rfl rfl rfl wz (dw (([r_16]:List ByteArray).map eS) fF nK rfl rfl rfl rfl rfl wz ?_)
   obtain ⟨a_18,hz_19,hc_12⟩:=bind_some hc_12
   refine jX 0 il ft (i:=1) tY tY sz9 z9 rfl (by decide) by9 (by decide) (λ_=>rfl) rfl rfl rfl hz_19 wz (λn_20=>aa (gV n_20 1 a_18) (ah (ax (gM (bZ hD_6 hn_7) wz rfl (aa (vI ((k_3+1:Nat):Int)) (ah ?_))))))
   obtain rfl:=ae hc_12
   exact bK (k_3+1,l_4,a_18,n_20) ⟨hL_13,bv hD_6⟩ (ls_ _) rfl (aN rfl)
 ·rintro ⟨s_8,n_11⟩ ho_ sl_ H_ hp_ hq_
  subst ho_
  refine aU _ hp_ hq_ (aj (aa (vS (⟨#[111,110]⟩:ByteArray)) (ah (au (aj (aL AA rfl 12 rfl wz (aK 0 0 il ft sz4 ag4 rfl rfl (vB e_1.Gone) rfl wz (ah ?_))))))))
  obtain ⟨v_21,h_22,hF⟩:=bind_some hF
  refine aW [(1,(.ref n_2 0 0)),(3,(gV n_11 1 s_8)),(6,(vS v_21))] [(n_2,some (.cells 13 (Entry.v e_1))),(n_11,gB 1 eS s_8)] ?_ ?_
  ·rcases ak h_22 with⟨hc_23,h_22⟩|⟨hc_23,h_22⟩
   ·refine aD rfl hc_23 (ax (aa (vS (⟨#[103,111,110,101]⟩:ByteArray)) (ah ?_)))
    obtain rfl:=ae h_22
    exact cu
   ·refine aF rfl hc_23 (aC ?_)
    obtain rfl:=ae h_22
    exact cu
  ·rintro ⟨⟩ _ sl_ H_ hp_ hq_
   refine aU _ hp_ hq_ (au (gD 1 rfl (iK 3 1 rfl rfl (eB (aL nX rfl 0 rfl wz (aK 1 0 (.inr (by kernel_rfl)) (λ_ _ ag=>trivial) sz9 ag9 rfl rfl (vS e_1.Key) rfl wz (aL yU rfl 1 rfl wz (aK 3 0 (.inr (by kernel_rfl)) (λ_ _ ag=>⟨.inl ⟨rfl,rfl⟩,trivial⟩) sz9 ag9 rfl rfl (vS e_1.Item) rfl wz (aL BQ rfl 2 rfl wz (aK 5 0 (.inr (by kernel_rfl)) (λ_ _ ag=>⟨.inl ⟨rfl,rfl⟩,⟨.inl ⟨rfl,rfl⟩,trivial⟩⟩) sz3 ag3 rfl rfl (vI e_1.Version) rfl wz (aL ou rfl 3 rfl wz (aK 7 0 (.inr (by kernel_rfl)) (λ_ _ ag=>⟨.inl ⟨rfl,rfl⟩,⟨.inl ⟨rfl,rfl⟩,⟨.inl ⟨rfl,rfl⟩,trivial⟩⟩⟩) sz3 ag3 rfl rfl (vI e_1.First) rfl wz (aL nH rfl 4 rfl wz (aK 9 0 (.inr (by kernel_rfl)) (λ_ _ ag=>⟨.inl ⟨rfl,rfl⟩,⟨.inl ⟨rfl,rfl⟩,⟨.inl ⟨rfl,rfl⟩,⟨.inl ⟨rfl,rfl⟩,trivial⟩⟩⟩⟩) sz3 ag3 rfl rfl (vI e_1.Last) rfl wz (aL vN rfl 5 rfl wz (aK 11 0 (.inr (by kernel_rfl)) (λ_ _ ag=>⟨.inl ⟨rfl,rfl⟩,⟨.inl ⟨rfl,rfl⟩,⟨.inl ⟨rfl,rfl⟩,⟨.inl ⟨rfl,rfl⟩,⟨.inl ⟨rfl,rfl⟩,trivial⟩⟩⟩⟩⟩) sz3 ag3 rfl rfl (vI e_1.Every) rfl wz (aL ww rfl 6 rfl wz (aK 13 0 (.inr (by kernel_rfl)) (λ_ _ ag=>⟨.inl ⟨rfl,rfl⟩,⟨.inl ⟨rfl,rfl⟩,⟨.inl ⟨rfl,rfl⟩,⟨.inl ⟨rfl,rfl⟩,⟨.inl ⟨rfl,rfl⟩,⟨.inl ⟨rfl,rfl⟩,trivial⟩⟩⟩⟩⟩⟩) sz3 ag3 rfl rfl (vI e_1.Days) rfl wz (aL sM rfl 8 rfl wz (aK 15 0 (.inr (by kernel_rfl)) (λ_ _ ag=>⟨.inl ⟨rfl,rfl⟩,⟨.inl ⟨rfl,rfl⟩,⟨.inl ⟨rfl,rfl⟩,⟨.inl ⟨rfl,rfl⟩,⟨.inl ⟨rfl,rfl⟩,⟨.inl ⟨rfl,rfl⟩,⟨.inl ⟨rfl,rfl⟩,trivial⟩⟩⟩⟩⟩⟩⟩) sz3 ag3 rfl rfl (vI e_1.From) rfl wz (aL vM rfl 9 rfl wz (aK 17 0 (.inr (by kernel_rfl)) (λ_ _ ag=>⟨.inl ⟨rfl,rfl⟩,⟨.inl ⟨rfl,rfl⟩,⟨.inl ⟨rfl,rfl⟩,⟨.inl ⟨rfl,rfl⟩,⟨.inl ⟨rfl,rfl⟩,⟨.inl ⟨rfl,rfl⟩,⟨.inl ⟨rfl,rfl⟩,⟨.inl ⟨rfl,rfl⟩,trivial⟩⟩⟩⟩⟩⟩⟩⟩) sz3 ag3 rfl rfl (vI e_1.To) rfl wz (aL uV rfl 10 rfl wz ?_)))))))))))))))))))))))
   refine aK 19 0 (.inr (by kernel_rfl)) (λ_ _ ag=>⟨.inl ⟨rfl,rfl⟩,⟨.inl ⟨rfl,rfl⟩,⟨.inl ⟨rfl,rfl⟩,⟨.inl ⟨rfl,rfl⟩,⟨.inl ⟨rfl,rfl⟩,⟨.inl ⟨rfl,rfl⟩,⟨.inl ⟨rfl,rfl⟩,⟨.inl ⟨rfl,rfl⟩,⟨.inl ⟨rfl,rfl⟩,trivial⟩⟩⟩⟩⟩⟩⟩⟩⟩) sz3 ag3 rfl rfl (vI e_1.Prio) rfl wz (dw (([e_1.Version,e_1.First,e_1.Last,e_1.Every,e_1.Days,e_1.From,e_1.To,e_1.Prio]:List Int).map eI) eX lq rfl rfl rfl rfl rfl wz ?_)
   obtain ⟨r_24,hr_25,hF⟩:=bind_some hF
   refine aA (yD hr_25) rfl hb54 rfl rfl rfl rfl wz (aa (vS v_21) (aa (vL eS s_8) ?_))
   obtain ⟨r_26,hr_27,hF⟩:=bind_some hF
   refine aA (sD hr_27) rfl hb55 rfl rfl rfl rfl wz (aL jG rfl 11 rfl wz (aK 26 0 (.inr (by kernel_rfl)) (λ_ _ ag=>⟨.inl ⟨rfl,rfl⟩,⟨.inl ⟨rfl,rfl⟩,⟨.inl ⟨rfl,rfl⟩,⟨.inl ⟨rfl,rfl⟩,⟨.inl ⟨rfl,rfl⟩,⟨.inl ⟨rfl,rfl⟩,⟨.inl ⟨rfl,rfl⟩,⟨.inl ⟨rfl,rfl⟩,⟨.inl ⟨rfl,rfl⟩,⟨.inl ⟨rfl,rfl⟩,trivial⟩⟩⟩⟩⟩⟩⟩⟩⟩⟩) uD Bd rfl rfl (vL eS e_1.Tags) rfl wz ?_))
   obtain ⟨r_28,hr_29,hF⟩:=bind_some hF
   refine aA (sD hr_29) rfl hb55 rfl rfl rfl rfl wz (dw (([e_1.Key,e_1.Item,r_24,v_21,r_26,r_28]:List ByteArray).map eS) fF nK rfl rfl rfl rfl rfl wz ?_)
   obtain ⟨r_30,hr_31,hF⟩:=bind_some hF
   refine aA (iW hr_31) rfl Iu rfl rfl rfl rfl wz (aa (vS r_30) (ah (aU (H0:=([(n_2,some (.cells 13 (Entry.v e_1))),(n_11,gF 1 eS s_8)]:Hp)) ([(2,(vS r_30))]:SL_) (by kernel_rfl) (pJ (by kernel_rfl)) ?_)))
   obtain rfl:=ae hF
   exact aB (aM [(vS r_30)] ⟨rfl,trivial⟩)
end Go.Proofs.YtigdobmllbakiabGreatDoor.Law

