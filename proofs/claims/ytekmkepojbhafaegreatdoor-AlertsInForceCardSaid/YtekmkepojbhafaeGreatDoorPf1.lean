/-
 The machine computes these plain functions (written by a program of ours).
-/
import Derived.Test.YtekmkepojbhafaeGreatDoorFacts
import Derived.Test.YtekmkepojbhafaeGreatDoorDefs
open Go Go.Eng Go.Proofs
namespace Go.Proofs.YtekmkepojbhafaeGreatDoor.Law
set_option maxRecDepth 100000
set_option linter.unusedVariables false
set_option maxHeartbeats 1000000
theorem sO {x_1:Int} {n_2:Int} {r:Int} (hF:o8 x_1 n_2=some r) :
  FnM Tryz.prog 49 [(vI x_1),(vI n_2)] [] (vI r) []:=by
 refine FnM.of_wH ⟨Tryz.prog,16,[],[]⟩ rfl Tryz.func49 rfl rfl (lb_ rfl) (by kernel_rfl) ?_
 unfold o8 at hF
 refine ai (aa (vI 0) (af (ak (ai (aa (vI n_2) (aa (vB (decide (n_2<1))) (af ?_)))))))
 rcases aj hF with⟨hc_3,hF⟩|⟨hc_3,hF⟩
 ·refine aB rfl hc_3 (ai (aa (vI 0) (af ?_)))
  obtain rfl:=ae hF
  exact ay (aM [(vI 0)] ⟨rfl,trivial⟩)
 ·refine aA rfl hc_3 (ax (ai (aa (vI x_1) (aa (vI n_2) ?_))))
  obtain ⟨q_4,hz_5,hF⟩:=bind_some hF
  refine h_rem rfl rfl hz_5 wz (aa (vI q_4) (af (ak (ai (aa (vI q_4) (aa (vB (decide (q_4<0))) (af ?_)))))))
  obtain ⟨v_6,h_7,hF⟩:=bind_some hF
  refine aO [(0,(vI v_6))] [] ?_ ?_
  ·rcases aj h_7 with⟨hc_8,h_7⟩|⟨hc_8,h_7⟩
   ·refine aB rfl hc_8 (au (aa (vI q_4) (aa (vI n_2) (aa (vI (w64 (q_4+n_2))) (aa (vI (w64 (q_4+n_2))) (af ?_))))))
    obtain rfl:=ae h_7
    exact cu
   ·refine aA rfl hc_8 (ax ?_)
    obtain rfl:=ae h_7
    exact cu
  ·rintro ⟨⟩ _ sl_ H_ hp_ hq_
   refine aP _ hp_ hq_ (ai (aa (vI v_6) (aa (vI v_6) (af ?_))))
   obtain rfl:=ae hF
   exact ay (aM [(vI v_6)] ⟨rfl,trivial⟩)
theorem ed {s_1:Stream} {n_2:Int} {r:Int×Stream} (hF:dC s_1 n_2=some r) :
  FnM Tryz.prog 22 [(.ref (av 0) 0 0),(vI n_2)] [(.cells 2 [(vL eI s_1.L),(vI s_1.f_at)])] (vI r.1) [some (.cells 2 [(vL eI r.2.L),(vI r.2.f_at)])]:=by
 refine FnM.of_wH ⟨Tryz.prog,64,[],[]⟩ rfl Tryz.func22 rfl rfl (lb_ rfl) (by kernel_rfl) ?_
 unfold dC at hF
 refine ai (aa (vI 0) (af (ai (aa (.ref (av 0) 0 0) (aa (.ref (av 0) 0 0) (aH zw rfl 1 rfl wz (aG 0 0 il ft sz3 ag3 rfl rfl (vI s_1.f_at) rfl wz (aa (vI (w64 (s_1.f_at+1))) (aa (.ref (av 0) 0 0) (aH zw rfl 1 rfl wz (fV 0 il ft 0 sz3 rfl rfl [(vL eI s_1.L),(vI (w64 (s_1.f_at+1)))] rfl wz (af (ak (ai (aa (.ref (av 0) 0 0) (aa (.ref (av 0) 0 0) (aH Dj rfl 0 rfl wz (aG 0 0 il ft Bj Gm rfl rfl (vL eI s_1.L) rfl wz (dB EK rfl wz (aa (vB ((s_1.L.length:Int)==0)) (af ?_)))))))))))))))))))))
 rcases aj hF with⟨hc_3,hF⟩|⟨hc_3,hF⟩
 ·refine aB rfl hc_3 (ai (aa (.ref (av 0) 0 0) (aa (.ref (av 0) 0 0) (aH zw rfl 1 rfl wz (aG 0 0 il ft sz3 ag3 rfl rfl (vI (w64 (s_1.f_at+1))) rfl wz (aa (vI (w64 ((w64 (s_1.f_at+1))*7919))) (aa (vI n_2) ?_)))))))
  obtain ⟨r_4,hr_5,hF⟩:=bind_some hF
  refine aF (sO hr_5) rfl hb49 rfl rfl rfl rfl wz (aa (vI r_4) (af ?_))
  obtain rfl:=ae hF
  exact ay (qM (.inr rfl) [(vI r_4)] _ [0] [av 0] ⟨rfl,trivial⟩ (.cons (fB rfl rfl) (.nil)) (by kernel_rfl) ⟨(by kernel_rfl),trivial⟩ (by decide) (by kernel_rfl))
 ·refine aA rfl hc_3 (ax (ak (fG (aa (.ref (av 0) 0 0) (aa (.ref (av 0) 0 0) (aH zw rfl 1 rfl wz (aG 3 0 (.inr (by kernel_rfl)) (λ_ _ ag=>trivial) sz3 ag3 rfl rfl (vI (w64 (s_1.f_at+1))) rfl wz (aa (vI (w64 ((w64 (s_1.f_at+1))-1))) (aa (.ref (av 0) 0 0) (aa (.ref (av 0) 0 0) (aH Dj rfl 0 rfl wz (aG 8 0 (.inr (by kernel_rfl)) (λ_ _ ag=>⟨.inl ⟨rfl,rfl⟩,trivial⟩) Bj Gm rfl rfl (vL eI s_1.L) rfl wz (dB EK rfl wz ?_)))))))))))))
  obtain ⟨q_6,hz_7,hF⟩:=bind_some hF
  refine h_rem rfl rfl hz_7 wz (aa (vI q_6) (af (ak (fG (aa (.ref (av 0) 0 0) (aa (.ref (av 0) 0 0) (aH zw rfl 1 rfl wz (aG 3 0 (.inr (by kernel_rfl)) (λ_ _ ag=>trivial) sz3 ag3 rfl rfl (vI (w64 (s_1.f_at+1))) rfl wz (aa (vI (w64 ((w64 (s_1.f_at+1))-1))) (aa (.ref (av 0) 0 0) (aa (.ref (av 0) 0 0) (aH Dj rfl 0 rfl wz (aG 8 0 (.inr (by kernel_rfl)) (λ_ _ ag=>⟨.inl ⟨rfl,rfl⟩,trivial⟩) Bj Gm rfl rfl (vL eI s_1.L) rfl wz (dB EK rfl wz ?_))))))))))))))
  obtain ⟨q_8,hz_9,hF⟩:=bind_some hF
  refine h_quo rfl rfl hz_9 wz (aa (vI q_8) (af (aP (H0:=([((av 0),some (.cells 2 [(vL eI s_1.L),(vI (w64 (s_1.f_at+1)))]))]:Hp)) ([(0,(.ref (av 0) 0 0)),(1,(vI n_2)),(5,(vI q_6)),(6,(vI q_8))]:SL_) (by kernel_rfl) (FU (by kernel_rfl)) (ai (aa (.ref (av 0) 0 0) (aa (.ref (av 0) 0 0) (aH Dj rfl 0 rfl wz (aG 0 0 il ft Bj Gm rfl rfl (vL eI s_1.L) rfl wz (aa (vI q_6) ?_)))))))))
  obtain ⟨y_10,hy_11,hF⟩:=bind_some hF
  refine iV pK rfl rfl hy_11 rfl wz (eP sz3 ag3 rfl (vI y_10) rfl wz ?_)
  obtain ⟨r_12,hr_13,hF⟩:=bind_some hF
  refine aF (sO hr_13) rfl hb49 rfl rfl rfl rfl wz (aa (vI q_8) (aa (vI q_6) (aa (vI (w64 (7919+q_6))) (aa (vI (w64 (q_8*(w64 (7919+q_6))))) (aa (vI (w64 (r_12+(w64 (q_8*(w64 (7919+q_6))))))) (aa (vI n_2) ?_))))))
  obtain ⟨r_14,hr_15,hF⟩:=bind_some hF
  refine aF (sO hr_15) rfl hb49 rfl rfl rfl rfl wz (aa (vI r_14) (af ?_))
  obtain rfl:=ae hF
  exact ay (qM (.inr rfl) [(vI r_14)] _ [0] [av 0] ⟨rfl,trivial⟩ (.cons (fB rfl rfl) (.nil)) (by kernel_rfl) ⟨(by kernel_rfl),trivial⟩ (by decide) (by kernel_rfl))
theorem di {s_1:Stream} {low_2:Int} {high_3:Int} {r:Int×Stream} (hF:bP s_1 low_2 high_3=some r) :
  FnM Tryz.prog 45 [(.ref (av 0) 0 0),(vI low_2),(vI high_3)] [(.cells 2 [(vL eI s_1.L),(vI s_1.f_at)])] (vI r.1) [some (.cells 2 [(vL eI r.2.L),(vI r.2.f_at)])]:=by
 refine FnM.of_wH ⟨Tryz.prog,19,[],[]⟩ rfl Tryz.func45 rfl rfl (lb_ rfl) (by kernel_rfl) ?_
 unfold bP at hF
 refine ai (aa (vI 0) (af (ak (ai (aa (vI high_3) (aa (vI low_2) (aa (vB (decide (high_3<low_2))) (af ?_))))))))
 rcases aj hF with⟨hc_4,hF⟩|⟨hc_4,hF⟩
 ·refine aB rfl hc_4 (ai (aa (vI low_2) (aa (vI low_2) (af ?_))))
  obtain rfl:=ae hF
  exact ay (qM (.inr rfl) [(vI low_2)] _ [0] [av 0] ⟨rfl,trivial⟩ (.cons (fB rfl rfl) (.nil)) (by kernel_rfl) ⟨(by kernel_rfl),trivial⟩ (by decide) (by kernel_rfl))
 ·refine aA rfl hc_4 (ax (ai (aa (vI low_2) (aa (.ref (av 0) 0 0) (aa (vI high_3) (aa (vI low_2) (aa (vI (w64 (high_3-low_2))) (aa (vI (w64 ((w64 (high_3-low_2))+1))) ?_))))))))
  obtain ⟨r_5,hr_6,hF⟩:=bind_some hF
  refine aV 0 [0] il ft (ed hr_6) rfl DV rfl (by kernel_rfl) (by kernel_rfl) (by kernel_rfl) (by kernel_rfl) (by kernel_rfl) (by kernel_rfl) (by kernel_rfl) (by decide) (by kernel_rfl) wz (vI r_5.1) (by kernel_rfl) ([((av 0),some (.cells 2 [(vL eI r_5.2.L),(vI r_5.2.f_at)]))]:Hp) (by kernel_rfl) (aa (vI (w64 (low_2+r_5.1))) (aa (vI (w64 (low_2+r_5.1))) (af ?_)))
  obtain rfl:=ae hF
  exact ay (qM (.inr rfl) [(vI (w64 (low_2+r_5.1)))] _ [0] [av 0] ⟨rfl,trivial⟩ (.cons (fB rfl rfl) (.nil)) (by kernel_rfl) ⟨(by kernel_rfl),trivial⟩ (by decide) (by kernel_rfl))
theorem fE {s_1:Stream} {l_2:(List ByteArray)} {r:ByteArray×Stream} (hF:dz s_1 l_2=some r) :
  FnM Tryz.prog 5 [(.ref (av 0) 0 0),(vL eS l_2)] [(.cells 2 [(vL eI s_1.L),(vI s_1.f_at)])] (vS r.1) [some (.cells 2 [(vL eI r.2.L),(vI r.2.f_at)])]:=by
 refine FnM.of_wH ⟨Tryz.prog,12,[],[]⟩ rfl Tryz.func5 rfl rfl (lb_ rfl) (by kernel_rfl) ?_
 unfold dz at hF
 refine ai (aa (vS (⟨#[]⟩:ByteArray)) (af (ai (aa (vL eS l_2) (aa (.ref (av 0) 0 0) (aa (vL eS l_2) (dB pG rfl wz ?_)))))))
 obtain ⟨r_3,hr_4,hF⟩:=bind_some hF
 refine aV 0 [0] il ft (ed hr_4) rfl DV rfl (by kernel_rfl) (by kernel_rfl) (by kernel_rfl) (by kernel_rfl) (by kernel_rfl) (by kernel_rfl) (by kernel_rfl) (by decide) (by kernel_rfl) wz (vI r_3.1) (by kernel_rfl) ([((av 0),some (.cells 2 [(vL eI r_3.2.L),(vI r_3.2.f_at)]))]:Hp) (by kernel_rfl) ?_
 obtain ⟨y_6,hy_7,hF⟩:=bind_some hF
 refine iV iL rfl rfl hy_7 rfl wz (eP sz9 ag9 rfl (vS y_6) rfl wz (aa (vS y_6) (af ?_)))
 obtain rfl:=ae hF
 exact ay (qM (.inr rfl) [(vS y_6)] _ [0] [av 0] ⟨rfl,trivial⟩ (.cons (fB rfl rfl) (.nil)) (by kernel_rfl) ⟨(by kernel_rfl),trivial⟩ (by decide) (by kernel_rfl))
theorem fu {s_1:Stream} {l_2:(List Int)} {r:Int×Stream} (hF:dL s_1 l_2=some r) :
  FnM Tryz.prog 6 [(.ref (av 0) 0 0),(vL eI l_2)] [(.cells 2 [(vL eI s_1.L),(vI s_1.f_at)])] (vI r.1) [some (.cells 2 [(vL eI r.2.L),(vI r.2.f_at)])]:=by
 refine FnM.of_wH ⟨Tryz.prog,12,[],[]⟩ rfl Tryz.func6 rfl rfl (lb_ rfl) (by kernel_rfl) ?_
 unfold dL at hF
 refine ai (aa (vI 0) (af (ai (aa (vL eI l_2) (aa (.ref (av 0) 0 0) (aa (vL eI l_2) (dB EK rfl wz ?_)))))))
 obtain ⟨r_3,hr_4,hF⟩:=bind_some hF
 refine aV 0 [0] il ft (ed hr_4) rfl DV rfl (by kernel_rfl) (by kernel_rfl) (by kernel_rfl) (by kernel_rfl) (by kernel_rfl) (by kernel_rfl) (by kernel_rfl) (by decide) (by kernel_rfl) wz (vI r_3.1) (by kernel_rfl) ([((av 0),some (.cells 2 [(vL eI r_3.2.L),(vI r_3.2.f_at)]))]:Hp) (by kernel_rfl) ?_
 obtain ⟨y_6,hy_7,hF⟩:=bind_some hF
 refine iV pK rfl rfl hy_7 rfl wz (eP sz3 ag3 rfl (vI y_6) rfl wz (aa (vI y_6) (af ?_)))
 obtain rfl:=ae hF
 exact ay (qM (.inr rfl) [(vI y_6)] _ [0] [av 0] ⟨rfl,trivial⟩ (.cons (fB rfl rfl) (.nil)) (by kernel_rfl) ⟨(by kernel_rfl),trivial⟩ (by decide) (by kernel_rfl))
theorem iM {s_1:Stream} {n_2:Int} {r:Bool×Stream} (hF:fq s_1 n_2=some r) :
  FnM Tryz.prog 21 [(.ref (av 0) 0 0),(vI n_2)] [(.cells 2 [(vL eI s_1.L),(vI s_1.f_at)])] (vB r.1) [some (.cells 2 [(vL eI r.2.L),(vI r.2.f_at)])]:=by
 refine FnM.of_wH ⟨Tryz.prog,9,[],[]⟩ rfl Tryz.func21 rfl rfl (lb_ rfl) (by kernel_rfl) ?_
 unfold fq at hF
 refine ai (aa (vB false) (af (ai (aa (.ref (av 0) 0 0) (aa (vI n_2) ?_)))))
 obtain ⟨r_3,hr_4,hF⟩:=bind_some hF
 refine aV 0 [0] il ft (ed hr_4) rfl DV rfl (by kernel_rfl) (by kernel_rfl) (by kernel_rfl) (by kernel_rfl) (by kernel_rfl) (by kernel_rfl) (by kernel_rfl) (by decide) (by kernel_rfl) wz (vI r_3.1) (by kernel_rfl) ([((av 0),some (.cells 2 [(vL eI r_3.2.L),(vI r_3.2.f_at)]))]:Hp) (by kernel_rfl) (aa (vB (r_3.1==0)) (aa (vB (r_3.1==0)) (af ?_)))
 obtain rfl:=ae hF
 exact ay (qM (.inr rfl) [(vB (r_3.1==0))] _ [0] [av 0] ⟨rfl,trivial⟩ (.cons (fB rfl rfl) (.nil)) (by kernel_rfl) ⟨(by kernel_rfl),trivial⟩ (by decide) (by kernel_rfl))
theorem jm {s_1:Stream} {r:Rect×Stream} (hF:cB s_1=some r) :
  FnM Tryz.prog 46 [(.ref (av 0) 0 0)] [(.cells 2 [(vL eI s_1.L),(vI s_1.f_at)])] (.d (.agg (Rect.enc r.1))) [some (.cells 2 [(vL eI r.2.L),(vI r.2.f_at)])]:=by
 refine FnM.of_wH ⟨Tryz.prog,12,[],[]⟩ rfl Tryz.func46 rfl rfl (lb_ rfl) (by kernel_rfl) ?_
 unfold cB at hF
 refine ai (fF 0 (.inl rfl) z75 rfl wz (λn_2=>af (ai (aa (.ref (av 0) 0 0) ?_))))
 obtain ⟨r_3,hr_4,hF⟩:=bind_some hF
 refine aV 0 [0] il ft (di hr_4) rfl CZ rfl (by kernel_rfl) (by kernel_rfl) (by kernel_rfl) (by kernel_rfl) (by kernel_rfl) (by kernel_rfl) (by kernel_rfl) (by decide) (by kernel_rfl) wz (vI r_3.1) (by kernel_rfl) ([((av 0),some (.cells 2 [(vL eI r_3.2.L),(vI r_3.2.f_at)])),(n_2,some (.cells 4 [(vI 0),(vI 0),(vI 0),(vI 0)]))]:Hp) (by kernel_rfl) (aa (.ref (av 0) 0 0) ?_)
 obtain ⟨r_6,hr_7,hF⟩:=bind_some hF
 refine aV 0 [0] il ft (di hr_7) rfl CZ rfl (by kernel_rfl) (by kernel_rfl) (by kernel_rfl) (by kernel_rfl) (by kernel_rfl) (by kernel_rfl) (by kernel_rfl) (by decide) (by kernel_rfl) wz (vI r_6.1) (by kernel_rfl) ([((av 0),some (.cells 2 [(vL eI r_6.2.L),(vI r_6.2.f_at)])),(n_2,some (.cells 4 [(vI 0),(vI 0),(vI 0),(vI 0)]))]:Hp) (by kernel_rfl) (aa (.ref (av 0) 0 0) ?_)
 obtain ⟨r_9,hr_10,hF⟩:=bind_some hF
 refine aV 0 [0] il ft (di hr_10) rfl CZ rfl (by kernel_rfl) (by kernel_rfl) (by kernel_rfl) (by kernel_rfl) (by kernel_rfl) (by kernel_rfl) (by kernel_rfl) (by decide) (by kernel_rfl) wz (vI r_9.1) (by kernel_rfl) ([((av 0),some (.cells 2 [(vL eI r_9.2.L),(vI r_9.2.f_at)])),(n_2,some (.cells 4 [(vI 0),(vI 0),(vI 0),(vI 0)]))]:Hp) (by kernel_rfl) (aa (.ref (av 0) 0 0) ?_)
 obtain ⟨r_12,hr_13,hF⟩:=bind_some hF
 refine aV 0 [0] il ft (di hr_13) rfl CZ rfl (by kernel_rfl) (by kernel_rfl) (by kernel_rfl) (by kernel_rfl) (by kernel_rfl) (by kernel_rfl) (by kernel_rfl) (by decide) (by kernel_rfl) wz (vI r_12.1) (by kernel_rfl) ([((av 0),some (.cells 2 [(vL eI r_12.2.L),(vI r_12.2.f_at)])),(n_2,some (.cells 4 [(vI 0),(vI 0),(vI 0),(vI 0)]))]:Hp) (by kernel_rfl) (aI (.d (.agg (Rect.enc (⟨r_3.1,r_6.1,r_9.1,r_12.1⟩:Rect)))) wz (by kernel_rfl) (fV 0 il ft 1 sI rfl rfl [(vI r_3.1),(vI r_6.1),(vI r_9.1),(vI r_12.1)] rfl wz (af ?_)))
 obtain rfl:=ae hF
 exact ay (qM (.inr rfl) [(.d (.agg (Rect.enc (⟨r_3.1,r_6.1,r_9.1,r_12.1⟩:Rect))))] _ [0] [av 0] ⟨⟨1,_,_,_,_,_,_,_,rfl,rfl,sI,Cw,rfl⟩,trivial⟩ (.cons (fB rfl rfl) (.nil)) (by kernel_rfl) ⟨(by kernel_rfl),trivial⟩ (by decide) (by kernel_rfl))
theorem xg {a_1:Alert} {b_2:Alert} {r:Int} (hF:jG a_1 b_2=some r) :
  FnM Tryz.prog 48 [(.d (.agg (Alert.enc a_1))),(.d (.agg (Alert.enc b_2)))] [] (vI r) []:=by
 refine FnM.of_wH ⟨Tryz.prog,20,[],[]⟩ rfl Tryz.func48 rfl rfl (lb_ rfl) (by kernel_rfl) ?_
 unfold jG at hF
 refine ai (gP 0 (.inl rfl) (Alert.v a_1) rfl rfl wz (λn_3=>gP 0 (.inl rfl) (Alert.v b_2) rfl rfl wz (λn_4=>aa (vI 0) (af (ak (ai (aH iw rfl 4 rfl wz (aG 0 0 il ft sz3 ag3 rfl rfl (vI a_1.At) rfl wz (aH iw rfl 4 rfl wz (aG 0 1 il ft sz3 ag3 rfl rfl (vI b_2.At) rfl wz (aa (vB (a_1.At != b_2.At)) (af ?_))))))))))))
 rcases aj hF with⟨hc_5,hF⟩|⟨hc_5,hF⟩
 ·refine aB rfl hc_5 (ai (aH iw rfl 4 rfl wz (aG 0 0 il ft sz3 ag3 rfl rfl (vI a_1.At) rfl wz (aH iw rfl 4 rfl wz (aG 0 1 il ft sz3 ag3 rfl rfl (vI b_2.At) rfl wz (aa (vI (w64 (a_1.At-b_2.At))) (aa (vI (w64 (a_1.At-b_2.At))) (af ?_))))))))
  obtain rfl:=ae hF
  exact ay (aM [(vI (w64 (a_1.At-b_2.At)))] ⟨rfl,trivial⟩)
 ·refine aA rfl hc_5 (ax (ak (ai (aH fw rfl 0 rfl wz (aG 0 0 il ft sz9 ag9 rfl rfl (vS a_1.Id) rfl wz (aH fw rfl 0 rfl wz (aG 0 1 il ft sz9 ag9 rfl rfl (vS b_2.Id) rfl wz (aa (vB (sLt a_1.Id b_2.Id)) (af ?_)))))))))
  rcases aj hF with⟨hc_6,hF⟩|⟨hc_6,hF⟩
  ·refine aB rfl hc_6 (ai (aa (vI (-1)) (af ?_)))
   obtain rfl:=ae hF
   exact ay (aM [(vI (-1))] ⟨rfl,trivial⟩)
  ·refine aA rfl hc_6 (ax (ai (aa (vI 1) (af ?_))))
   obtain rfl:=ae hF
   exact ay (aM [(vI 1)] ⟨rfl,trivial⟩)
theorem vP {x_1:Int} {r:Int} (hF:nS x_1=some r) :
  FnM Tryz.prog 87 [(.d (.int .u64 x_1))] [] (vI r) []:=by
 refine FnM.of_wH ⟨Tryz.prog,25,[],[]⟩ rfl Tryz.func87 rfl rfl (lb_ rfl) (by kernel_rfl) ?_
 unfold nS at hF
 refine ai (aa (vI 0) (af (ak (ai (aa (.d (.int .u64 x_1)) (aa (vB (decide (x_1>=4294967296))) (af ?_)))))))
 obtain ⟨v_2,h_3,hF⟩:=bind_some hF
 refine aO [(0,(.d (.int .u64 v_2.1))),(2,(vI v_2.2))] [] ?_ ?_
 ·rcases aj h_3 with⟨hc_4,h_3⟩|⟨hc_4,h_3⟩
  ·refine aB rfl hc_4 (ai (aa (.d (.int .u64 x_1)) ?_))
   obtain ⟨q_5,hz_6,h_3⟩:=bind_some h_3
   refine KE rfl rfl hz_6 wz (aa (.d (.int .u64 q_5)) (af (au (aa (vI 32) (af ?_)))))
   obtain rfl:=ae h_3
   exact cu
  ·refine aA rfl hc_4 (ax ?_)
   obtain rfl:=ae h_3
   exact cu
 ·rintro ⟨⟩ _ sl_ H_ hp_ hq_
  refine aP _ hp_ hq_ (ak (ai (aa (.d (.int .u64 v_2.1)) (aa (vB (decide (v_2.1>=65536))) (af ?_)))))
  obtain ⟨v_7,h_8,hF⟩:=bind_some hF
  refine aO [(0,(.d (.int .u64 v_7.1))),(2,(vI v_7.2))] [] ?_ ?_
  ·rcases aj h_8 with⟨hc_9,h_8⟩|⟨hc_9,h_8⟩
   ·refine aB rfl hc_9 (ai (aa (.d (.int .u64 v_2.1)) ?_))
    obtain ⟨q_10,hz_11,h_8⟩:=bind_some h_8
    refine KE rfl rfl hz_11 wz (aa (.d (.int .u64 q_10)) (af (au (aa (vI v_2.2) (aa (vI (w64 (v_2.2+16))) (aa (vI (w64 (v_2.2+16))) (af ?_)))))))
    obtain rfl:=ae h_8
    exact cu
   ·refine aA rfl hc_9 (ax ?_)
    obtain rfl:=ae h_8
    exact cu
  ·rintro ⟨⟩ _ sl_ H_ hp_ hq_
   refine aP _ hp_ hq_ (ak (ai (aa (.d (.int .u64 v_7.1)) (aa (vB (decide (v_7.1>=256))) (af ?_)))))
   obtain ⟨v_12,h_13,hF⟩:=bind_some hF
   refine aO [(0,(.d (.int .u64 v_12.1))),(2,(vI v_12.2))] [] ?_ ?_
   ·rcases aj h_13 with⟨hc_14,h_13⟩|⟨hc_14,h_13⟩
    ·refine aB rfl hc_14 (ai (aa (.d (.int .u64 v_7.1)) ?_))
     obtain ⟨q_15,hz_16,h_13⟩:=bind_some h_13
     refine KE rfl rfl hz_16 wz (aa (.d (.int .u64 q_15)) (af (au (aa (vI v_7.2) (aa (vI (w64 (v_7.2+8))) (aa (vI (w64 (v_7.2+8))) (af ?_)))))))
     obtain rfl:=ae h_13
     exact cu
    ·refine aA rfl hc_14 (ax ?_)
     obtain rfl:=ae h_13
     exact cu
   ·rintro ⟨⟩ _ sl_ H_ hp_ hq_
    refine aP _ hp_ hq_ (ai (aa (vI v_12.2) (aa (.d (.int .u64 v_12.1)) (Dl un107 un5 rfl wz ?_))))
    obtain ⟨b_17,hy_18,hF⟩:=bind_some hF
    refine qa un9 rfl rfl hy_18 wz (Dl un5 un3 rfl wz (aa (vI (w64 (v_12.2+(w64 (b_17.toNat:Int))))) (aa (vI (w64 (v_12.2+(w64 (b_17.toNat:Int))))) (af ?_))))
    obtain rfl:=ae hF
    exact ay (aM [(vI (w64 (v_12.2+(w64 (b_17.toNat:Int)))))] ⟨rfl,trivial⟩)
theorem qH {x_1:Int} {r:Int} (hF:iQ x_1=some r) :
  FnM Tryz.prog 55 [(.d (.int .u64 x_1))] [] (vI r) []:=by
 refine FnM.of_wH ⟨Tryz.prog,8,[],[]⟩ rfl Tryz.func55 rfl rfl (lb_ rfl) (by kernel_rfl) ?_
 unfold iQ at hF
 refine ai (aa (vI 0) (af (ak (aA rfl rfl (ax (ai (aa (.d (.int .u64 x_1)) ?_)))))))
 obtain ⟨r_2,hr_3,hF⟩:=bind_some hF
 refine aF (vP hr_3) rfl hb87 rfl rfl rfl rfl wz (aa (vI r_2) (af ?_))
 obtain rfl:=ae hF
 exact ay (aM [(vI r_2)] ⟨rfl,trivial⟩)
theorem jg {data_1:(List Alert)} {a_2:Int} {b_3:Int} {r:(List Alert)} (hF:dI data_1 a_2 b_3=some r) :
  FnM Tryz.prog 98 [(dV (av 0) 9 data_1),(vI a_2),(vI b_3),(.fn 48 [])] (([]:List Box)++gI 9 Alert.enc data_1) (.tup []) (([]:List Box).map some++gT data_1 (gB 9 Alert.enc r)):=by
 refine FnM.of_wHv ⟨Tryz.prog,53,[],[]⟩ rfl Tryz.func98 rfl rfl (lb_ rfl) (by kernel_rfl) ?_
 unfold dI at hF
 refine ai (aa (vI a_2) (aa (vI (w64 (a_2+1))) (aa (vI (w64 (a_2+1))) (af ?_))))
 obtain ⟨o_13,hj_14,hF⟩:=bind_some hF
 obtain ⟨nq_51,hj_14⟩:=gD hj_14
 refine jF (λ(s_10:(List Alert)×Int)=>[]) (λ(s_10:(List Alert)×Int)=>[((av 0),gB 9 Alert.enc s_10.1)]) (λ(k_5:Nat)=>(λ(s_10:(List Alert)×Int)=>[(0,(dV (av 0) 9 s_10.1)),(1,(vI a_2)),(2,(vI b_3)),(3,(.fn 48 [])),(8,(vI s_10.2))])) (λs=>cK b_3 a_2 s) o_13 nq_51 (data_1,(w64 (a_2+1))) hj_14 rfl (aL rfl) ?_ ?_
 ·rintro ⟨k_5,s_10⟩ hL_12
  dsimp only at hL_12
  cases k_5 with
  | zero=>cases hL_12
  | succ k_5 =>
   obtain ⟨c_,hc_11,hL_12⟩:=bind_some hL_12
   unfold cK at hc_11
   refine ak (ai (aa (vI s_10.2) (aa (vI b_3) (aa (vB (decide (s_10.2<b_3))) (af ?_)))))
   rcases aj hc_11 with⟨hc_15,hc_11⟩|⟨hc_15,hc_11⟩
   ·refine aB rfl hc_15 (ax (ak (aN (ai (aa (vI s_10.2) (aa (vI s_10.2) (af ?_)))))))
    obtain ⟨o_24,hj_25,hc_11⟩:=bind_some hc_11
    obtain ⟨nq_50,hj_25⟩:=gD hj_25
    refine jF (λ(s_21:(List Alert)×Int)=>[(0,(dV (av 0) 9 s_21.1)),(1,(vI a_2)),(2,(vI b_3)),(3,(.fn 48 [])),(8,(vI s_10.2))]) (λ(s_21:(List Alert)×Int)=>[((av 0),gB 9 Alert.enc s_21.1)]) (λ(k_16:Nat)=>(λ(s_21:(List Alert)×Int)=>[(0,(dV (av 0) 9 s_21.1)),(1,(vI a_2)),(2,(vI b_3)),(3,(.fn 48 [])),(8,(vI s_10.2)),(9,(vI s_21.2))])) (λs=>cO a_2 s) o_24 nq_50 (s_10.1,s_10.2) hj_25 rfl (aL rfl) ?_ ?_
    ·rintro ⟨k_16,s_21⟩ hL_23
     dsimp only at hL_23
     cases k_16 with
     | zero=>cases hL_23
     | succ k_16 =>
      obtain ⟨c_,hc_22,hL_23⟩:=bind_some hL_23
      unfold cO at hc_22
      refine ak (ak ?_)
      obtain ⟨v_26,h_27,hc_22⟩:=bind_some hc_22
      refine aO [(0,(dV (av 0) 9 s_21.1)),(1,(vI a_2)),(2,(vI b_3)),(3,(.fn 48 [])),(8,(vI s_10.2)),(9,(vI s_21.2)),(34,(vB v_26))] [((av 0),gB 9 Alert.enc s_21.1)] ?_ ?_
      ·refine fG (aa (vI s_21.2) (aa (vI a_2) (aa (vB (decide (s_21.2>a_2))) ?_)))
       rcases aj h_27 with⟨hc_28,h_27⟩|⟨hc_28,h_27⟩
       ·refine aC rfl hc_28 wz (aI (.fn 48 []) wa rfl (aI (dV (av 0) 9 s_21.1) wa rfl (aI (vI s_21.2) wa rfl ?_)))
        obtain ⟨_,hi_29,h_27⟩:=bind_some h_27
        refine mJ nM rfl rfl (nD hi_29) (ko hi_29) wa ?_
        obtain ⟨e_30,hy_31,h_27⟩:=bind_some h_27
        refine mW 8 0 (.inr (by kernel_rfl)) (λ_ _ ag=>trivial) fo iW rfl rfl hy_31 (.d (.agg (Alert.enc e_30))) rfl wa (aI (dV (av 0) 9 s_21.1) wa rfl (aI (vI s_21.2) wa rfl (aI (vI (w64 (s_21.2-1))) wa rfl ?_)))
        obtain ⟨_,hi_32,h_27⟩:=bind_some h_27
        refine mJ nM rfl rfl (nD hi_32) (ko hi_32) wa ?_
        obtain ⟨e_33,hy_34,h_27⟩:=bind_some h_27
        refine mW 13 0 (.inr (by kernel_rfl)) (λ_ _ ag=>⟨.inl ⟨rfl,rfl⟩,trivial⟩) fo iW rfl rfl hy_34 (.d (.agg (Alert.enc e_33))) rfl wa ?_
        obtain ⟨r_35,hr_36,h_27⟩:=bind_some h_27
        refine aF (xg hr_36) rfl hb48 rfl rfl rfl rfl wa (aI (vB (decide (r_35<0))) wa rfl (aa (vB (decide (r_35<0))) (af ?_)))
        obtain rfl:=ae h_27
        exact cu
       ·refine aC rfl hc_28 wz (ah (ah (ah (ah (ah (ah (ah (ah (ah (ah (ah (ah (aa (vB false) (af ?_))))))))))))))
        obtain rfl:=ae h_27
        exact cu
      ·rintro ⟨⟩ _ sl_ H_ hp_ hq_
       refine aP _ hp_ hq_ ?_
       rcases aj hc_22 with⟨hc_37,hc_22⟩|⟨hc_37,hc_22⟩
       ·refine aB rfl hc_37 (ax (ak (aN (fG (aa (dV (av 0) 9 s_21.1) (aa (vI s_21.2) (aa (dV (av 0) 9 s_21.1) (aa (vI s_21.2) (aa (vI (w64 (s_21.2-1))) (aa (dV (av 0) 9 s_21.1) (aa (vI s_21.2) (aa (vI (w64 (s_21.2-1))) ?_))))))))))))
        obtain ⟨_,hi_38,hc_22⟩:=bind_some hc_22
        refine mJ nM rfl rfl (nD hi_38) (ko hi_38) wz ?_
        obtain ⟨e_39,hy_40,hc_22⟩:=bind_some hc_22
        refine mW 9 0 (.inr (by kernel_rfl)) (λ_ _ ag=>trivial) fo iW rfl rfl hy_40 (.d (.agg (Alert.enc e_39))) rfl wz (aa (dV (av 0) 9 s_21.1) (aa (vI s_21.2) ?_))
        obtain ⟨_,hi_41,hc_22⟩:=bind_some hc_22
        refine mJ nM rfl rfl (nD hi_41) (ko hi_41) wz ?_
        obtain ⟨e_42,hy_43,hc_22⟩:=bind_some hc_22
        refine mW 13 0 (.inr (by kernel_rfl)) (λ_ _ ag=>⟨.inl ⟨rfl,rfl⟩,trivial⟩) fo iW rfl rfl hy_43 (.d (.agg (Alert.enc e_42))) rfl wz ?_
        obtain ⟨_,hi_44,hc_22⟩:=bind_some hc_22
        refine mJ nM rfl rfl (nD hi_44) (ko hi_44) wz ?_
        obtain ⟨e_45,hy_46,hc_22⟩:=bind_some hc_22
        refine l6 15 (.inr (by kernel_rfl)) (λ_ _ ag=>⟨.inr (.inr (by kernel_rfl)),⟨.inr (.inr (by kernel_rfl)),trivial⟩⟩) 0 fo rfl rfl hy_46 e_39 rfl wz (dQ (v':=(dV (av 0) 9 (s_21.1.set (0+(s_21.2).toNat) e_39))) 0 rfl (eZ (by simp)) (dQ (v':=(dV (av 0) 9 (s_21.1.set (0+(s_21.2).toNat) e_39))) 37 rfl (eZ (by simp)) (dQ (v':=(dV (av 0) 9 (s_21.1.set (0+(s_21.2).toNat) e_39))) 39 rfl (eZ (by simp)) (dQ (v':=(dV (av 0) 9 (s_21.1.set (0+(s_21.2).toNat) e_39))) 42 rfl (eZ (by simp)) (dQ (v':=(dV (av 0) 9 (s_21.1.set (0+(s_21.2).toNat) e_39))) 47 rfl (eZ (by simp)) ?_)))))
        obtain ⟨_,hi_47,hc_22⟩:=bind_some hc_22
        refine mJ nM rfl rfl (nD hi_47) (ko hi_47) wz ?_
        obtain ⟨e_48,hy_49,hc_22⟩:=bind_some hc_22
        refine l6 17 (.inr (by kernel_rfl)) (λ_ _ ag=>⟨.inr (.inr (by kernel_rfl)),⟨.inr (.inr (by kernel_rfl)),⟨.inr (.inr (by kernel_rfl)),trivial⟩⟩⟩) 0 fo rfl rfl hy_49 e_42 rfl wz (dQ (v':=(dV (av 0) 9 ((s_21.1.set (0+(s_21.2).toNat) e_39).set (0+((w64 (s_21.2-1))).toNat) e_42))) 0 rfl (eZ (by simp)) (dQ (v':=(dV (av 0) 9 ((s_21.1.set (0+(s_21.2).toNat) e_39).set (0+((w64 (s_21.2-1))).toNat) e_42))) 37 rfl (eZ (by simp)) (dQ (v':=(dV (av 0) 9 ((s_21.1.set (0+(s_21.2).toNat) e_39).set (0+((w64 (s_21.2-1))).toNat) e_42))) 39 rfl (eZ (by simp)) (dQ (v':=(dV (av 0) 9 ((s_21.1.set (0+(s_21.2).toNat) e_39).set (0+((w64 (s_21.2-1))).toNat) e_42))) 42 rfl (eZ (by simp)) (dQ (v':=(dV (av 0) 9 ((s_21.1.set (0+(s_21.2).toNat) e_39).set (0+((w64 (s_21.2-1))).toNat) e_42))) 47 rfl (eZ (by simp)) (af (au (aa (vI s_21.2) (aa (vI (w64 (s_21.2-1))) (aa (vI (w64 (s_21.2-1))) (af ?_)))))))))))
        obtain rfl:=ae hc_22
        exact bg (k_16,(((s_21.1.set (0+(s_21.2).toNat) e_39).set (0+((w64 (s_21.2-1))).toNat) e_42),(w64 (s_21.2-1)))) hL_23 (ls_ _) rfl (aL rfl)
       ·refine aA rfl hc_37 (bn ?_)
        obtain rfl:=ae hc_22
        obtain rfl:=ae hL_23
        exact aW ((s_21.1,s_21.2)) rfl rfl (aL rfl)
    ·rintro s_21 ho_ sl_ H_ hp_ hq_
     subst ho_
     refine aP _ hp_ hq_ (au (aa (vI s_10.2) (aa (vI (w64 (s_10.2+1))) (aa (vI (w64 (s_10.2+1))) (af ?_)))))
     obtain rfl:=ae hc_11
     exact bg (k_5,(s_21.1,(w64 (s_10.2+1)))) hL_12 (ls_ _) rfl (aL rfl)
   ·refine aA rfl hc_15 (bn ?_)
    obtain rfl:=ae hc_11
    obtain rfl:=ae hL_12
    exact aW ((s_10.1,s_10.2)) rfl rfl (aL rfl)
 ·rintro s_10 ho_ sl_ H_ hp_ hq_
  subst ho_
  show tH _ _ _ _ _ _ _ _
  obtain rfl:=ae hF
  exact yR (H0:=([((av 0),gB 9 Alert.enc s_10.1)]:Hp)) (sl':=envS []) hq_ (Aq (bs:=([]:List Box)) (os:=([]:List Box)) (xs:=data_1) (o:=gB 9 Alert.enc s_10.1) (.inl rfl) [] trivial rfl rfl rfl rfl rfl (by kernel_rfl) kW rfl)
theorem kM {data_1:(List Alert)} {a_2:Int} {b_3:Int} {limit_4:Int} {r:(List Alert)} (hF:eQ data_1 a_2 b_3 limit_4=some r) :
  FnM Tryz.prog 69 [(dV (av 0) 9 data_1),(vI a_2),(vI b_3),(vI limit_4),(.fn 48 [])] (([]:List Box)++gI 9 Alert.enc data_1) (.tup []) (([]:List Box).map some++gT data_1 (gB 9 Alert.enc r)):=by
 refine FnM.of_wHv ⟨Tryz.prog,148,[],[]⟩ rfl Tryz.func69 rfl rfl (lb_ rfl) (by kernel_rfl) ?_
 unfold eQ at hF
 refine ai (aa (vB true) (af (ai (aa (vB true) (af ?_)))))
 obtain ⟨o_14,hj_15,hF⟩:=bind_some hF
 obtain ⟨nq_21,hj_15⟩:=gD hj_15
 refine jF (λ(s_11:Unit)=>[]) (λ(s_11:Unit)=>[((av 0),gB 9 Alert.enc data_1)]) (λ(k_6:Nat)=>(λ(s_11:Unit)=>[(0,(dV (av 0) 9 data_1)),(1,(vI a_2)),(2,(vI b_3)),(3,(vI limit_4)),(4,(.fn 48 [])),(10,(vB true)),(11,(vB true))])) (λs=>dU b_3 a_2 data_1 limit_4 s) o_14 nq_21 () hj_15 rfl (aL rfl) ?_ ?_
 ·rintro ⟨k_6,s_11⟩ hL_13
  dsimp only at hL_13
  cases k_6 with
  | zero=>cases hL_13
  | succ k_6 =>
   obtain ⟨c_,hc_12,hL_13⟩:=bind_some hL_13
   unfold dU at hc_12
   refine aN (ai (aa (vI b_3) (aa (vI a_2) (aa (vI (w64 (b_3-a_2))) (aa (vI (w64 (b_3-a_2))) (af (ak (ai (aa (vI (w64 (b_3-a_2))) (aa (vB (decide ((w64 (b_3-a_2))<=12))) (af ?_)))))))))))
   rcases aj hc_12 with⟨hc_16,hc_12⟩|⟨hc_16,hc_12⟩
   ·refine aB rfl hc_16 (ai (aa (dV (av 0) 9 data_1) (aa (vI a_2) (aa (vI b_3) (aa (.fn 48 []) ?_)))))
    obtain ⟨r_17,hr_18,hc_12⟩:=bind_some hc_12
    obtain ⟨_,hs_19,hc_12⟩:=bind_some hc_12
    replace hs_19:=oK hs_19
    refine ny 0 [] 0 0 il ft (jg hr_18) rfl hb98 rfl rfl rfl (by kernel_rfl) rfl (.inr (.inl rfl)) rfl (by kernel_rfl) (by kernel_rfl) (by kernel_rfl) (by kernel_rfl) rfl (by decide) (by kernel_rfl) kW (uR hs_19) wz ([((av 0),gB 9 Alert.enc r_17)]:Hp) (by kernel_rfl) (dQ (v':=(dV (av 0) 9 r_17)) 0 rfl (eZ hs_19.symm) (dQ (v':=(dV (av 0) 9 r_17)) 26 rfl (eZ hs_19.symm) (af ?_)))
    obtain rfl:=ae hc_12
    obtain rfl:=ae hL_13
    obtain rfl:=ae hF
    exact ay (Aq (bs:=([]:List Box)) (os:=([]:List Box)) (xs:=data_1) (o:=gB 9 Alert.enc r_17) (.inr rfl) [] trivial rfl rfl rfl rfl rfl (by kernel_rfl) kW rfl)
   ·refine aA rfl hc_16 (ax (ak (ai (aa (vI limit_4) (aa (vB (limit_4==0)) (af ?_))))))
    rcases aj hc_12 with⟨hc_20,hc_12⟩|⟨hc_20,hc_12⟩
    ·refine aB rfl hc_20 (ai (aa (dV (av 0) 9 data_1) (aa (vI a_2) (aa (vI b_3) (aa (.fn 48 []) ?_)))))
     cases hc_12
    ·refine aA rfl hc_20 (ax (ak (ai (aa (vB true) (aa (vB false) (af (aA rfl rfl (ax (ai (aa (dV (av 0) 9 data_1) (aa (vI a_2) (aa (vI b_3) (aa (.fn 48 []) ?_)))))))))))))
     cases hc_12
 ·rintro s_11 ho_ sl_ H_ hp_ hq_
  subst ho_
  show tH _ _ _ _ _ _ _ _
  obtain rfl:=ae hF
  exact yR (H0:=([((av 0),gB 9 Alert.enc data_1)]:Hp)) (sl':=envS []) hq_ (Aq (bs:=([]:List Box)) (os:=([]:List Box)) (xs:=data_1) (o:=gB 9 Alert.enc data_1) (.inl rfl) [] trivial rfl rfl rfl rfl rfl (by kernel_rfl) kW rfl)
theorem jD {x_1:(List Alert)} {r:(List Alert)} (hF:bE x_1=some r) :
  FnM Tryz.prog 47 [(dV (av 0) 9 x_1),(.fn 48 [])] (([]:List Box)++gI 9 Alert.enc x_1) (.tup []) (([]:List Box).map some++gT x_1 (gB 9 Alert.enc r)):=by
 refine FnM.of_wHv ⟨Tryz.prog,14,[],[]⟩ rfl Tryz.func47 rfl rfl (lb_ rfl) (by kernel_rfl) ?_
 unfold bE at hF
 refine ai (aa (dV (av 0) 9 x_1) (Gq qi rfl wz (aa (vI (x_1.length:Int)) (af (au (aa (dV (av 0) 9 x_1) (aa (vI (x_1.length:Int)) (aa (vI (x_1.length:Int)) (Dl un3 un84 rfl wz ?_)))))))))
 obtain ⟨r_3,hr_4,hF⟩:=bind_some hF
 refine aF (qH hr_4) rfl hb55 rfl rfl rfl rfl wz (aa (.fn 48 []) ?_)
 obtain ⟨r_5,hr_6,hF⟩:=bind_some hF
 obtain ⟨_,hs_7,hF⟩:=bind_some hF
 replace hs_7:=oK hs_7
 refine ny 0 [] 0 0 il ft (kM hr_6) rfl hb69 rfl rfl rfl (by kernel_rfl) rfl (.inr (.inl rfl)) rfl (by kernel_rfl) (by kernel_rfl) (by kernel_rfl) (by kernel_rfl) rfl (by decide) (by kernel_rfl) kW (uR hs_7) wz ([((av 0),gB 9 Alert.enc r_5)]:Hp) (by kernel_rfl) (dQ (v':=(dV (av 0) 9 r_5)) 0 rfl (eZ hs_7.symm) (dQ (v':=(dV (av 0) 9 r_5)) 5 rfl (eZ hs_7.symm) (dQ (v':=(dV (av 0) 9 r_5)) 7 rfl (eZ hs_7.symm) (af ?_))))
 show tH _ _ _ _ _ _ _ _
 obtain rfl:=ae hF
 exact Aq (bs:=([]:List Box)) (os:=([]:List Box)) (xs:=x_1) (o:=gB 9 Alert.enc r_5) (.inl rfl) [] trivial rfl rfl rfl rfl rfl (by kernel_rfl) kW rfl
theorem pJ {s_1:Stream} {most_2:Int} {r:(List Alert)×Stream} (hF:eu s_1 most_2=some r) :
  FnM Tryz.prog 20 [(.ref (av 0) 0 0),(vI most_2)] [(.cells 2 [(vL eI s_1.L),(vI s_1.f_at)])] (gV (av 1) 9 r.1) (([(.cells 2 [(vL eI r.2.L),(vI r.2.f_at)])]:List Box).map some++gO 9 Alert.enc r.1):=by
 refine FnM.of_wH ⟨Tryz.prog,101,[],[]⟩ rfl Tryz.func20 rfl rfl (lb_ rfl) (by kernel_rfl) ?_
 unfold eu at hF
 refine ai (aa .nil (af (ai (aa .nil (af (ak (ai (eO (([(⟨#[97,97]⟩:ByteArray),(⟨#[97,98]⟩:ByteArray),(⟨#[97,99]⟩:ByteArray),(⟨#[97,100]⟩:ByteArray),(⟨#[97,101]⟩:ByteArray),(⟨#[97,102]⟩:ByteArray)]:List ByteArray).map eS) iL oM rfl rfl rfl rfl rfl wz (aa (.ref (av 0) 0 0) (aa (vI most_2) ?_))))))))))
 obtain ⟨r_3,hr_4,hF⟩:=bind_some hF
 refine aV 0 [0] il ft (di hr_4) rfl CZ rfl (by kernel_rfl) (by kernel_rfl) (by kernel_rfl) (by kernel_rfl) (by kernel_rfl) (by kernel_rfl) (by kernel_rfl) (by decide) (by kernel_rfl) wz (vI r_3.1) (by kernel_rfl) ([((av 0),some (.cells 2 [(vL eI r_3.2.L),(vI r_3.2.f_at)]))]:Hp) (by kernel_rfl) ?_
 obtain ⟨y_6,hy_7,hF⟩:=bind_some hF
 refine yM pG sz9 (λ_=>rfl) rfl rfl hy_7 wz (dB pG rfl wz (aa (vI 0) (af (qc (λn_14 => ?_)))))
 obtain ⟨o_19,hj_20,hF⟩:=bind_some hF
 obtain ⟨hn_12,hj_20⟩:=aZ hj_20
 refine iI (σ:=(List Alert)×(List Int)×Int) (N:=Nm) (λp=>(λ(s_13:(List Alert)×(List Int)×Int) (n_16:Nm)=>([(5,(gV n_16 9 s_13.1))]:SL_)) p.1 p.2) (λp=>(λ(s_13:(List Alert)×(List Int)×Int) (n_16:Nm)=>([((av 0),some (.cells 2 [(vL eI s_13.2.1),(vI s_13.2.2)])),(n_16,gB 9 Alert.enc s_13.1)]:Hp)) p.1 p.2) (λ(k_8:Nat)=>(λp=>(λ(s_13:(List Alert)×(List Int)×Int) (n_16:Nm)=>([(0,(.ref (av 0) 0 0)),(5,(gV n_16 9 s_13.1)),(15,(vL eS y_6)),(16,(vI (y_6.length:Int))),(17,(vI (k_8:Int)))]:SL_)) p.1 p.2)) (λk x s=>dG k x s) o_19 y_6 ((([]:List Alert),r_3.2.L,r_3.2.f_at),n_14) hj_20 rfl (aL rfl) ?_ ?_
 ·rintro ⟨k_8,l_9,s_13,n_16⟩ ⟨hL_18,hD_11⟩
  dsimp only at hL_18 hD_11
  cases l_9 with
  | nil =>
   obtain rfl:=ae hL_18
   refine ai (aa (vB (decide ((k_8:Int)<(y_6.length:Int)))) (af ?_))
   refine ak (aA rfl (drop_nil hD_11) (bn ?_))
   exact aW (s_13,n_16) rfl rfl (aL rfl)
  | cons x_10 l_9 =>
   obtain ⟨c_,hc_17,hL_18⟩:=bind_some hL_18
   refine ai (aa (vB (decide ((k_8:Int)<(y_6.length:Int)))) (af ?_))
   refine ak (aB rfl (bC hD_11) (ax ?_))
   unfold dG at hc_17
   refine ak (aN (ai (iV iL rfl rfl (bT hD_11) rfl wz (eP sz9 ag9 rfl (vS x_10) rfl wz (aa (vS x_10) (af (ai (aa (vS x_10) (aa (.ref (av 0) 0 0) (eO (([(⟨#[119,120]⟩:ByteArray),(⟨#[119,120]⟩:ByteArray),(⟨#[102,105,114,101]⟩:ByteArray)]:List ByteArray).map eS) iL oM rfl rfl rfl rfl rfl wz ?_))))))))))
   obtain ⟨r_21,hr_22,hc_17⟩:=bind_some hc_17
   refine aV 0 [0] il ft (fE hr_22) rfl hb5 rfl (by kernel_rfl) (by kernel_rfl) (by kernel_rfl) (by kernel_rfl) (by kernel_rfl) (by kernel_rfl) (by kernel_rfl) (by decide) (by kernel_rfl) wz (vS r_21.1) (by kernel_rfl) ([((av 0),some (.cells 2 [(vL eI r_21.2.L),(vI r_21.2.f_at)])),(n_16,gB 9 Alert.enc s_13.1)]:Hp) (by kernel_rfl) (aa (.ref (av 0) 0 0) (eO (([1,1,2,2,3]:List Int).map eI) pK xw rfl rfl rfl rfl rfl wz ?_))
   obtain ⟨r_24,hr_25,hc_17⟩:=bind_some hc_17
   refine aV 0 [0] il ft (fu hr_25) rfl hb6 rfl (by kernel_rfl) (by kernel_rfl) (by kernel_rfl) (by kernel_rfl) (by kernel_rfl) (by kernel_rfl) (by kernel_rfl) (by decide) (by kernel_rfl) wz (vI r_24.1) (by kernel_rfl) ([((av 0),some (.cells 2 [(vL eI r_24.2.L),(vI r_24.2.f_at)])),(n_16,gB 9 Alert.enc s_13.1)]:Hp) (by kernel_rfl) (aa (.ref (av 0) 0 0) ?_)
   obtain ⟨r_27,hr_28,hc_17⟩:=bind_some hc_17
   refine aV 0 [0] il ft (di hr_28) rfl CZ rfl (by kernel_rfl) (by kernel_rfl) (by kernel_rfl) (by kernel_rfl) (by kernel_rfl) (by kernel_rfl) (by kernel_rfl) (by decide) (by kernel_rfl) wz (vI r_27.1) (by kernel_rfl) ([((av 0),some (.cells 2 [(vL eI r_27.2.L),(vI r_27.2.f_at)])),(n_16,gB 9 Alert.enc s_13.1)]:Hp) (by kernel_rfl) (aa (vI (w64 (r_27.1*5))) (aa (.ref (av 0) 0 0) (eO (([1,5,5,9]:List Int).map eI) pK xw rfl rfl rfl rfl rfl wz ?_)))
   obtain ⟨r_30,hr_31,hc_17⟩:=bind_some hc_17
   refine aV 0 [0] il ft (fu hr_31) rfl hb6 rfl (by kernel_rfl) (by kernel_rfl) (by kernel_rfl) (by kernel_rfl) (by kernel_rfl) (by kernel_rfl) (by kernel_rfl) (by decide) (by kernel_rfl) wz (vI r_30.1) (by kernel_rfl) ([((av 0),some (.cells 2 [(vL eI r_30.2.L),(vI r_30.2.f_at)])),(n_16,gB 9 Alert.enc s_13.1)]:Hp) (by kernel_rfl) (aa (.ref (av 0) 0 0) (eO (([(⟨#[102,108,111,111,100]⟩:ByteArray),(⟨#[102,105,114,101,32,105,110,32,116,104,101,32,109,97,108,108]⟩:ByteArray)]:List ByteArray).map eS) iL oM rfl rfl rfl rfl rfl wz ?_))
   obtain ⟨r_33,hr_34,hc_17⟩:=bind_some hc_17
   refine aV 0 [0] il ft (fE hr_34) rfl hb5 rfl (by kernel_rfl) (by kernel_rfl) (by kernel_rfl) (by kernel_rfl) (by kernel_rfl) (by kernel_rfl) (by kernel_rfl) (by decide) (by kernel_rfl) wz (vS r_33.1) (by kernel_rfl) ([((av 0),some (.cells 2 [(vL eI r_33.2.L),(vI r_33.2.f_at)])),(n_16,gB 9 Alert.enc s_13.1)]:Hp) (by kernel_rfl) (aI (.agg [(vS x_10),(vS r_21.1),(vI r_24.1),.nil,(vI (w64 (r_27.1*5))),(vI 0),(vI r_30.1),.nil,(vS r_33.1)]) wz (by kernel_rfl) (fF 0 (.inl rfl) z51 rfl wz (λn_36=>fV 0 il ft 2 fo rfl rfl [(vS x_10),(vS r_21.1),(vI r_24.1),.nil,(vI (w64 (r_27.1*5))),(vI 0),(vI r_30.1),.nil,(vS r_33.1)] rfl wz (af (ak (fG (aH iw rfl 4 rfl wz (aG 1 2 (.inr (by kernel_rfl)) (λ_ _ ag=>trivial) sz3 ag3 rfl rfl (vI (w64 (r_27.1*5))) rfl wz (aa (.ref (av 0) 0 0) (eO (([1,10,20,50]:List Int).map eI) pK xw rfl rfl rfl rfl rfl wz ?_))))))))))
   obtain ⟨r_37,hr_38,hc_17⟩:=bind_some hc_17
   refine aV 4 [0] (.inr (by kernel_rfl)) (λ_ _ ag=>by exact⟨.inr (.inl (dis1 (Ib ag (i:=0) (j:=2) rfl rfl (by decide)))),trivial⟩) (fu hr_38) rfl hb6 rfl (by kernel_rfl) (by kernel_rfl) (by kernel_rfl) (by kernel_rfl) (by kernel_rfl) (by kernel_rfl) (by kernel_rfl) (by decide) (by kernel_rfl) wz (vI r_37.1) (by kernel_rfl) ([((av 0),some (.cells 2 [(vL eI r_37.2.L),(vI r_37.2.f_at)])),(n_16,gB 9 Alert.enc s_13.1),(n_36,some (.cells 9 [(vS x_10),(vS r_21.1),(vI r_24.1),.nil,(vI (w64 (r_27.1*5))),(vI 0),(vI r_30.1),.nil,(vS r_33.1)]))]:Hp) (by kernel_rfl) (aa (vI (w64 ((w64 (r_27.1*5))+r_37.1))) (aH xm rfl 5 rfl wz (fV 7 (.inr (by kernel_rfl)) (λ_ _ ag=>⟨.inr (.inr (by kernel_rfl)),⟨.inr (.inr (by kernel_rfl)),trivial⟩⟩) 2 sz3 rfl rfl [(vS x_10),(vS r_21.1),(vI r_24.1),.nil,(vI (w64 (r_27.1*5))),(vI (w64 ((w64 (r_27.1*5))+r_37.1))),(vI r_30.1),.nil,(vS r_33.1)] rfl wz (af (aP (H0:=([((av 0),some (.cells 2 [(vL eI r_37.2.L),(vI r_37.2.f_at)])),(n_16,gB 9 Alert.enc s_13.1),(n_36,some (.cells 9 [(vS x_10),(vS r_21.1),(vI r_24.1),.nil,(vI (w64 (r_27.1*5))),(vI (w64 ((w64 (r_27.1*5))+r_37.1))),(vI r_30.1),.nil,(vS r_33.1)]))]:Hp)) ([(0,(.ref (av 0) 0 0)),(5,(gV n_16 9 s_13.1)),(7,(vS x_10)),(8,(.ref n_36 0 0)),(15,(vL eS y_6)),(16,(vI (y_6.length:Int))),(17,(vI (k_8:Int)))]:SL_) (by kernel_rfl) (FU (by kernel_rfl)) (ak (ai (aH nQ rfl 2 rfl wz (aG 0 2 il ft sz3 ag3 rfl rfl (vI r_24.1) rfl wz (aa (vB (r_24.1 != 1)) (af ?_)))))))))))
   obtain ⟨v_42,h_43,hc_17⟩:=bind_some hc_17
   refine JL (β:=Unit) (λ_=>([(0,(.ref (av 0) 0 0)),(5,(gV n_16 9 s_13.1)),(8,(.ref n_36 0 0)),(15,(vL eS y_6)),(16,(vI (y_6.length:Int))),(17,(vI (k_8:Int)))]:SL_)) (λ_=>([((av 0),some (.cells 2 [(vL eI v_42.1),(vI v_42.2.1)])),(n_16,gB 9 Alert.enc s_13.1),(n_36,some (.cells 9 [(vS x_10),(vS r_21.1),(vI r_24.1),(vL eS v_42.2.2),(vI (w64 (r_27.1*5))),(vI (w64 ((w64 (r_27.1*5))+r_37.1))),(vI r_30.1),.nil,(vS r_33.1)]))]:Hp)) (λ_=>True) ?_ ?_
   ·rcases aj h_43 with⟨hc_44,h_43⟩|⟨hc_44,h_43⟩
    ·refine aB rfl hc_44 (ak (ai (eO (([(⟨#[97,97]⟩:ByteArray),(⟨#[97,98]⟩:ByteArray),(⟨#[97,99]⟩:ByteArray),(⟨#[97,100]⟩:ByteArray),(⟨#[122,122]⟩:ByteArray)]:List ByteArray).map eS) iL oM rfl rfl rfl rfl rfl wz (dB pG rfl wz (aa (vI 0) (af (qc (λn_51 => ?_))))))))
     obtain ⟨o_56,hj_57,h_43⟩:=bind_some h_43
     obtain ⟨hn_49,hj_57⟩:=aZ hj_57
     refine iI (σ:=(List ByteArray)×(List Int)×Int) (N:=Nm) (λp=>(λ(s_50:(List ByteArray)×(List Int)×Int) (n_53:Nm)=>([(0,(.ref (av 0) 0 0)),(5,(gV n_16 9 s_13.1)),(8,(.ref n_36 0 0)),(15,(vL eS y_6)),(16,(vI (y_6.length:Int))),(17,(vI (k_8:Int)))]:SL_)) p.1 p.2) (λp=>(λ(s_50:(List ByteArray)×(List Int)×Int) (n_53:Nm)=>([((av 0),some (.cells 2 [(vL eI s_50.2.1),(vI s_50.2.2)])),(n_16,gB 9 Alert.enc s_13.1),(n_36,some (.cells 9 [(vS x_10),(vS r_21.1),(vI r_24.1),(gV n_53 1 s_50.1),(vI (w64 (r_27.1*5))),(vI (w64 ((w64 (r_27.1*5))+r_37.1))),(vI r_30.1),.nil,(vS r_33.1)])),(n_53,gB 1 eS s_50.1)]:Hp)) p.1 p.2) (λ(k_45:Nat)=>(λp=>(λ(s_50:(List ByteArray)×(List Int)×Int) (n_53:Nm)=>([(0,(.ref (av 0) 0 0)),(5,(gV n_16 9 s_13.1)),(7,(vS x_10)),(8,(.ref n_36 0 0)),(15,(vL eS y_6)),(16,(vI (y_6.length:Int))),(17,(vI (k_8:Int))),(48,(vL eS ([(⟨#[97,97]⟩:ByteArray),(⟨#[97,98]⟩:ByteArray),(⟨#[97,99]⟩:ByteArray),(⟨#[97,100]⟩:ByteArray),(⟨#[122,122]⟩:ByteArray)]:List ByteArray))),(49,(vI (([(⟨#[97,97]⟩:ByteArray),(⟨#[97,98]⟩:ByteArray),(⟨#[97,99]⟩:ByteArray),(⟨#[97,100]⟩:ByteArray),(⟨#[122,122]⟩:ByteArray)]:List ByteArray).length:Int))),(50,(vI (k_45:Int)))]:SL_)) p.1 p.2)) (λk x s=>bU x_10 k x s) o_56 ([(⟨#[97,97]⟩:ByteArray),(⟨#[97,98]⟩:ByteArray),(⟨#[97,99]⟩:ByteArray),(⟨#[97,100]⟩:ByteArray),(⟨#[122,122]⟩:ByteArray)]:List ByteArray) ((([]:List ByteArray),r_37.2.L,r_37.2.f_at),n_51) hj_57 rfl (aL rfl) ?_ ?_
     ·rintro ⟨k_45,l_46,s_50,n_53⟩ ⟨hL_55,hD_48⟩
      dsimp only at hL_55 hD_48
      cases l_46 with
      | nil =>
       obtain rfl:=ae hL_55
       refine ai (aa (vB (decide ((k_45:Int)<(([(⟨#[97,97]⟩:ByteArray),(⟨#[97,98]⟩:ByteArray),(⟨#[97,99]⟩:ByteArray),(⟨#[97,100]⟩:ByteArray),(⟨#[122,122]⟩:ByteArray)]:List ByteArray).length:Int)))) (af ?_))
       refine ak (aA rfl (drop_nil hD_48) (bn ?_))
       exact aW (s_50,n_53) rfl rfl (aL rfl)
      | cons x_47 l_46 =>
       obtain ⟨c_,hc_54,hL_55⟩:=bind_some hL_55
       refine ai (aa (vB (decide ((k_45:Int)<(([(⟨#[97,97]⟩:ByteArray),(⟨#[97,98]⟩:ByteArray),(⟨#[97,99]⟩:ByteArray),(⟨#[97,100]⟩:ByteArray),(⟨#[122,122]⟩:ByteArray)]:List ByteArray).length:Int)))) (af ?_))
       refine ak (aB rfl (bC hD_48) (ax ?_))
       unfold bU at hc_54
       refine ak (aN (ai (iV iL rfl rfl (bT hD_48) rfl wz (eP sz9 ag9 rfl (vS x_47) rfl wz (aa (vS x_47) (af (ak ?_)))))))
       obtain ⟨v_58,h_59,hc_54⟩:=bind_some hc_54
       refine aO [(0,(.ref (av 0) 0 0)),(5,(gV n_16 9 s_13.1)),(7,(vS x_10)),(8,(.ref n_36 0 0)),(10,(vS x_47)),(15,(vL eS y_6)),(16,(vI (y_6.length:Int))),(17,(vI (k_8:Int))),(48,(vL eS ([(⟨#[97,97]⟩:ByteArray),(⟨#[97,98]⟩:ByteArray),(⟨#[97,99]⟩:ByteArray),(⟨#[97,100]⟩:ByteArray),(⟨#[122,122]⟩:ByteArray)]:List ByteArray))),(49,(vI (([(⟨#[97,97]⟩:ByteArray),(⟨#[97,98]⟩:ByteArray),(⟨#[97,99]⟩:ByteArray),(⟨#[97,100]⟩:ByteArray),(⟨#[122,122]⟩:ByteArray)]:List ByteArray).length:Int))),(50,(vI (k_45:Int))),(60,(vB v_58.1))] [((av 0),some (.cells 2 [(vL eI v_58.2.1),(vI v_58.2.2)])),(n_16,gB 9 Alert.enc s_13.1),(n_36,some (.cells 9 [(vS x_10),(vS r_21.1),(vI r_24.1),(gV n_53 1 s_50.1),(vI (w64 (r_27.1*5))),(vI (w64 ((w64 (r_27.1*5))+r_37.1))),(vI r_30.1),.nil,(vS r_33.1)])),(n_53,gB 1 eS s_50.1)] ?_ ?_
       ·refine au (aa (vS x_47) (aa (vS x_10) (aa (vB (sNe x_47 x_10)) ?_)))
        rcases aj h_59 with⟨hc_60,h_59⟩|⟨hc_60,h_59⟩
        ·refine aC rfl hc_60 wz (aI (.ref (av 0) 0 0) wa rfl ?_)
         obtain ⟨r_61,hr_62,h_59⟩:=bind_some h_59
         refine aV 0 [0] il ft (iM hr_62) rfl Ko rfl (by kernel_rfl) (by kernel_rfl) (by kernel_rfl) (by kernel_rfl) (by kernel_rfl) (by kernel_rfl) (by kernel_rfl) (by decide) (by kernel_rfl) wa (vB r_61.1) (by kernel_rfl) ([((av 0),some (.cells 2 [(vL eI r_61.2.L),(vI r_61.2.f_at)])),(n_16,gB 9 Alert.enc s_13.1),(n_36,some (.cells 9 [(vS x_10),(vS r_21.1),(vI r_24.1),(gV n_53 1 s_50.1),(vI (w64 (r_27.1*5))),(vI (w64 ((w64 (r_27.1*5))+r_37.1))),(vI r_30.1),.nil,(vS r_33.1)])),(n_53,gB 1 eS s_50.1)]:Hp) (by kernel_rfl) (aa (vB r_61.1) (af ?_))
         obtain rfl:=ae h_59
         exact cu
        ·refine aC rfl hc_60 wz (ah (ah (aa (vB false) (af ?_))))
         obtain rfl:=ae h_59
         exact cu
       ·rintro ⟨⟩ _ sl_ H_ hp_ hq_
        refine aP _ hp_ hq_ ?_
        obtain ⟨v_64,h_65,hc_54⟩:=bind_some hc_54
        refine jO (β:=Nm) (λ(n_66:Nm)=>([(0,(.ref (av 0) 0 0)),(5,(gV n_16 9 s_13.1)),(7,(vS x_10)),(8,(.ref n_36 0 0)),(15,(vL eS y_6)),(16,(vI (y_6.length:Int))),(17,(vI (k_8:Int))),(48,(vL eS ([(⟨#[97,97]⟩:ByteArray),(⟨#[97,98]⟩:ByteArray),(⟨#[97,99]⟩:ByteArray),(⟨#[97,100]⟩:ByteArray),(⟨#[122,122]⟩:ByteArray)]:List ByteArray))),(49,(vI (([(⟨#[97,97]⟩:ByteArray),(⟨#[97,98]⟩:ByteArray),(⟨#[97,99]⟩:ByteArray),(⟨#[97,100]⟩:ByteArray),(⟨#[122,122]⟩:ByteArray)]:List ByteArray).length:Int))),(50,(vI (k_45:Int)))]:SL_)) (λ(n_66:Nm)=>([((av 0),some (.cells 2 [(vL eI v_58.2.1),(vI v_58.2.2)])),(n_16,gB 9 Alert.enc s_13.1),(n_36,some (.cells 9 [(vS x_10),(vS r_21.1),(vI r_24.1),(gV n_66 1 v_64),(vI (w64 (r_27.1*5))),(vI (w64 ((w64 (r_27.1*5))+r_37.1))),(vI r_30.1),.nil,(vS r_33.1)])),(n_66,gB 1 eS v_64)]:Hp)) (λ_=>True) ?_ ?_
        ·rcases aj h_65 with⟨hc_67,h_65⟩|⟨hc_67,h_65⟩
         ·refine aB rfl hc_67 (au (aH jl rfl 3 rfl wz (aG 0 2 il ft qG tK rfl rfl (gV n_53 1 s_50.1) rfl wz (aa (vS x_47) (eO (([x_47]:List ByteArray).map eS) iL oM rfl rfl rfl rfl rfl wz ?_)))))
          obtain ⟨a_68,hz_69,h_65⟩:=bind_some h_65
          refine pF 0 il ft (i:=3) uE uE sz9 z9 rfl (by decide) by9 (by decide) (λ_=>rfl) rfl rfl rfl hz_69 wz (λn_70=>aH jl rfl 3 rfl wz (fV 0 il ft 2 qG rfl rfl [(vS x_10),(vS r_21.1),(vI r_24.1),(gV n_70 1 a_68),(vI (w64 (r_27.1*5))),(vI (w64 ((w64 (r_27.1*5))+r_37.1))),(vI r_30.1),.nil,(vS r_33.1)] (stC_g rfl) wz (af ?_)))
          obtain rfl:=ae h_65
          exact aW n_70 trivial rfl (aL rfl)
         ·refine aA rfl hc_67 (ax ?_)
          obtain rfl:=ae h_65
          exact aW n_53 trivial rfl (aL rfl)
        ·rintro n_66 _ sl_ H_ hp_ hq_
         refine aP _ hp_ hq_ (au (fQ (bL hD_48 hn_49) wz rfl (aa (vI ((k_45+1:Nat):Int)) (af ?_))))
         obtain rfl:=ae hc_54
         exact bg (k_45+1,l_46,(v_64,v_58.2.1,v_58.2.2),n_66) ⟨hL_55,aS hD_48⟩ (ls_ _) rfl (aL rfl)
     ·rintro ⟨s_50,n_53⟩ ho_ sl_ H_ hp_ hq_
      subst ho_
      refine aP _ hp_ hq_ (ai (aH jl rfl 3 rfl wz (aG 0 2 il ft qG tK rfl rfl (gV n_53 1 s_50.1) rfl wz (CB pG rfl wz (aa (vB ((s_50.1.length:Int)==0)) (af ?_))))))
      rcases aj h_43 with⟨hc_71,h_43⟩|⟨hc_71,h_43⟩
      ·refine aB rfl hc_71 (au (eO (([(⟨#[122,121]⟩:ByteArray)]:List ByteArray).map eS) iL oM rfl rfl rfl rfl rfl wz (aH jl rfl 3 rfl wz (fV 0 il ft 2 qG rfl rfl [(vS x_10),(vS r_21.1),(vI r_24.1),(vL eS ([(⟨#[122,121]⟩:ByteArray)]:List ByteArray)),(vI (w64 (r_27.1*5))),(vI (w64 ((w64 (r_27.1*5))+r_37.1))),(vI r_30.1),.nil,(vS r_33.1)] rfl wz (af ?_)))))
       intro C_ b_ Q_ key_
       obtain rfl:=ae h_43
       exact key_ () trivial _ _ rfl (aL rfl)
      ·refine aA rfl hc_71 (ax ?_)
       intro C_ b_ Q_ key_
       refine kw 3 rfl (fe 69 3 rfl rfl (wH_coc3 3 2 [false,false,false,true,false,false,false,false,false] [(vS x_10),(vS r_21.1),(vI r_24.1),(vL eS s_50.1),(vI (w64 (r_27.1*5))),(vI (w64 ((w64 (r_27.1*5))+r_37.1))),(vI r_30.1),.nil,(vS r_33.1)] rfl rfl rfl (λS hS=>ik (rfl) (ik (rfl) (ik (rfl) (ik (hS) (ik (rfl) (ik (rfl) (ik (rfl) (ik (rfl) (ik (rfl) (rfl)))))))))) ?_))
       obtain rfl:=ae h_43
       exact key_ () trivial _ _ rfl (aL rfl)
    ·refine aA rfl hc_44 (ax ?_)
     intro C_ b_ Q_ key_
     refine wH_coc1 2 [false,false,false,true,false,false,false,false,false] [(vS x_10),(vS r_21.1),(vI r_24.1),(vL eS ([]:List ByteArray)),(vI (w64 (r_27.1*5))),(vI (w64 ((w64 (r_27.1*5))+r_37.1))),(vI r_30.1),.nil,(vS r_33.1)] rfl rfl (λ_=>rfl) ?_
     obtain rfl:=ae h_43
     exact key_ () trivial _ _ rfl (aL rfl)
   ·rintro ⟨⟩ _ sl_ H_ hp_ hq_
    refine aP _ hp_ hq_ (ak (ai (aH nQ rfl 2 rfl wz (aG 0 2 il ft sz3 ag3 rfl rfl (vI r_24.1) rfl wz (aa (vB (r_24.1==3)) (af (qc (λn_74 => ?_))))))))
    obtain ⟨v_75,h_76,hc_17⟩:=bind_some hc_17
    refine jO (β:=Nm) (λ(n_77:Nm)=>([(0,(.ref (av 0) 0 0)),(5,(gV n_16 9 s_13.1)),(8,(.ref n_36 0 0)),(15,(vL eS y_6)),(16,(vI (y_6.length:Int))),(17,(vI (k_8:Int)))]:SL_)) (λ(n_77:Nm)=>([((av 0),some (.cells 2 [(vL eI v_75.2.1),(vI v_75.2.2.1)])),(n_16,gB 9 Alert.enc s_13.1),(n_36,some (.cells 9 [(vS x_10),(vS r_21.1),(vI r_24.1),(vL eS v_42.2.2),(vI (w64 (r_27.1*5))),(vI (w64 ((w64 (r_27.1*5))+r_37.1))),(vI r_30.1),(gV n_77 4 v_75.1),(vS v_75.2.2.2)])),(n_77,gB 4 Rect.enc v_75.1)]:Hp)) (λ_=>True) ?_ ?_
    ·rcases aj h_76 with⟨hc_78,h_76⟩|⟨hc_78,h_76⟩
     ·refine aB rfl hc_78 (au (aa (.ref (av 0) 0 0) (eO (([(⟨#[]⟩:ByteArray),(⟨#[111,118,101,114]⟩:ByteArray)]:List ByteArray).map eS) iL oM rfl rfl rfl rfl rfl wz ?_)))
      obtain ⟨r_79,hr_80,h_76⟩:=bind_some h_76
      refine aV 0 [0] il ft (fE hr_80) rfl hb5 rfl (by kernel_rfl) (by kernel_rfl) (by kernel_rfl) (by kernel_rfl) (by kernel_rfl) (by kernel_rfl) (by kernel_rfl) (by decide) (by kernel_rfl) wz (vS r_79.1) (by kernel_rfl) ([((av 0),some (.cells 2 [(vL eI r_79.2.L),(vI r_79.2.f_at)])),(n_16,gB 9 Alert.enc s_13.1),(n_36,some (.cells 9 [(vS x_10),(vS r_21.1),(vI r_24.1),(vL eS v_42.2.2),(vI (w64 (r_27.1*5))),(vI (w64 ((w64 (r_27.1*5))+r_37.1))),(vI r_30.1),(gV n_74 4 ([]:List Rect)),(vS r_33.1)])),(n_74,gB 4 Rect.enc ([]:List Rect))]:Hp) (by kernel_rfl) (aH sM rfl 8 rfl wz (fV 0 il ft 2 sz9 rfl rfl [(vS x_10),(vS r_21.1),(vI r_24.1),(vL eS v_42.2.2),(vI (w64 (r_27.1*5))),(vI (w64 ((w64 (r_27.1*5))+r_37.1))),(vI r_30.1),(gV n_74 4 ([]:List Rect)),(vS r_79.1)] rfl wz (af ?_)))
      obtain rfl:=ae h_76
      exact aW n_74 trivial rfl (aL rfl)
     ·refine aA rfl hc_78 (ai (aa (.ref (av 0) 0 0) ?_))
      obtain ⟨r_82,hr_83,h_76⟩:=bind_some h_76
      refine aV 0 [0] il ft (di hr_83) rfl CZ rfl (by kernel_rfl) (by kernel_rfl) (by kernel_rfl) (by kernel_rfl) (by kernel_rfl) (by kernel_rfl) (by kernel_rfl) (by decide) (by kernel_rfl) wz (vI r_82.1) (by kernel_rfl) ([((av 0),some (.cells 2 [(vL eI r_82.2.L),(vI r_82.2.f_at)])),(n_16,gB 9 Alert.enc s_13.1),(n_36,some (.cells 9 [(vS x_10),(vS r_21.1),(vI r_24.1),(vL eS v_42.2.2),(vI (w64 (r_27.1*5))),(vI (w64 ((w64 (r_27.1*5))+r_37.1))),(vI r_30.1),(gV n_74 4 ([]:List Rect)),(vS r_33.1)])),(n_74,gB 4 Rect.enc ([]:List Rect))]:Hp) (by kernel_rfl) (aa (vI 0) (af ?_))
      obtain ⟨o_95,hj_96,h_76⟩:=bind_some h_76
      obtain ⟨hn_89,hj_96⟩:=aZ hj_96
      refine iI (σ:=(List Rect)×(List Int)×Int) (N:=Nm) (λp=>(λ(s_90:(List Rect)×(List Int)×Int) (n_92:Nm)=>([(0,(.ref (av 0) 0 0)),(5,(gV n_16 9 s_13.1)),(8,(.ref n_36 0 0)),(15,(vL eS y_6)),(16,(vI (y_6.length:Int))),(17,(vI (k_8:Int)))]:SL_)) p.1 p.2) (λp=>(λ(s_90:(List Rect)×(List Int)×Int) (n_92:Nm)=>([((av 0),some (.cells 2 [(vL eI s_90.2.1),(vI s_90.2.2)])),(n_16,gB 9 Alert.enc s_13.1),(n_36,some (.cells 9 [(vS x_10),(vS r_21.1),(vI r_24.1),(vL eS v_42.2.2),(vI (w64 (r_27.1*5))),(vI (w64 ((w64 (r_27.1*5))+r_37.1))),(vI r_30.1),(gV n_92 4 s_90.1),(vS r_33.1)])),(n_92,gB 4 Rect.enc s_90.1)]:Hp)) p.1 p.2) (λ(k_85:Nat)=>(λp=>(λ(s_90:(List Rect)×(List Int)×Int) (n_92:Nm)=>([(0,(.ref (av 0) 0 0)),(5,(gV n_16 9 s_13.1)),(8,(.ref n_36 0 0)),(15,(vL eS y_6)),(16,(vI (y_6.length:Int))),(17,(vI (k_8:Int))),(82,(vI r_82.1)),(83,(vI (k_85:Int)))]:SL_)) p.1 p.2)) (λk x s=>bW k x s) o_95 (List.range (r_82.1).toNat) ((([]:List Rect),r_82.2.L,r_82.2.f_at),n_74) hj_96 rfl (aL rfl) ?_ ?_
      ·rintro ⟨k_85,l_86,s_90,n_92⟩ ⟨hL_94,hD_88⟩
       dsimp only at hL_94 hD_88
       cases l_86 with
       | nil =>
        obtain rfl:=ae hL_94
        refine ai (aa (vB (decide ((k_85:Int)<r_82.1))) (af ?_))
        refine ak (aA rfl (qC hD_88) (bn ?_))
        exact aW (s_90,n_92) rfl rfl (aL rfl)
       | cons x_87 l_86 =>
        obtain ⟨c_,hc_93,hL_94⟩:=bind_some hL_94
        refine ai (aa (vB (decide ((k_85:Int)<r_82.1))) (af ?_))
        refine ak (aB rfl (o5 hD_88) (ax ?_))
        unfold bW at hc_93
        refine ak (aN (fG (aH qd rfl 7 rfl wz (aG 1 2 (.inr (by kernel_rfl)) (λ_ _ ag=>trivial) AR Eo rfl rfl (gV n_92 4 s_90.1) rfl wz (aa (.ref (av 0) 0 0) ?_)))))
        obtain ⟨r_97,hr_98,hc_93⟩:=bind_some hc_93
        refine aV 3 [0] (.inr (by kernel_rfl)) (λ_ _ ag=>by exact⟨.inr (.inl (dis1 (Ib ag (i:=0) (j:=2) rfl rfl (by decide)))),trivial⟩) (jm hr_98) rfl hb46 rfl (by kernel_rfl) (by kernel_rfl) (by kernel_rfl) (by kernel_rfl) (by kernel_rfl) (by kernel_rfl) (by kernel_rfl) (by decide) (by kernel_rfl) wz (.d (.agg (Rect.enc r_97.1))) (by kernel_rfl) ([((av 0),some (.cells 2 [(vL eI r_97.2.L),(vI r_97.2.f_at)])),(n_16,gB 9 Alert.enc s_13.1),(n_36,some (.cells 9 [(vS x_10),(vS r_21.1),(vI r_24.1),(vL eS v_42.2.2),(vI (w64 (r_27.1*5))),(vI (w64 ((w64 (r_27.1*5))+r_37.1))),(vI r_30.1),(gV n_92 4 s_90.1),(vS r_33.1)])),(n_92,gB 4 Rect.enc s_90.1)]:Hp) (by kernel_rfl) (eO (([r_97.1]:List Rect).map Rect.enc) Iu ez49 rfl rfl rfl rfl rfl wz ?_)
        obtain ⟨a_100,hz_101,hc_93⟩:=bind_some hc_93
        refine pF 5 (.inr (by kernel_rfl)) (λ_ _ ag=>⟨.inr (.inr (by kernel_rfl)),⟨.inr (.inr (by kernel_rfl)),trivial⟩⟩) (i:=3) el49 el49 sI z75 rfl (by decide) by75 (by decide) (λ_=>rfl) rfl rfl rfl hz_101 wz (λn_102=>aH qd rfl 7 rfl wz (fV 7 (.inr (by kernel_rfl)) (λ_ _ ag=>⟨.inr (.inr (by kernel_rfl)),⟨.inr (.inr (by kernel_rfl)),⟨.inr (.inr (by kernel_rfl)),trivial⟩⟩⟩) 2 AR rfl rfl [(vS x_10),(vS r_21.1),(vI r_24.1),(vL eS v_42.2.2),(vI (w64 (r_27.1*5))),(vI (w64 ((w64 (r_27.1*5))+r_37.1))),(vI r_30.1),(gV n_102 4 a_100),(vS r_33.1)] (stC_g rfl) wz (af (au (fQ (qP hD_88 hn_89) wz rfl (aa (vI ((k_85+1:Nat):Int)) (af ?_)))))))
        obtain rfl:=ae hc_93
        exact bg (k_85+1,l_86,(a_100,r_97.2.L,r_97.2.f_at),n_102) ⟨hL_94,aS hD_88⟩ (ls_ _) rfl (aL rfl)
      ·rintro ⟨s_90,n_92⟩ ho_ sl_ H_ hp_ hq_
       subst ho_
       obtain rfl:=ae h_76
       exact aW n_92 trivial (Hz [0,1,2,3,4,5] hp_ rfl) (JI hq_ (aL rfl))
    ·rintro n_77 _ sl_ H_ hp_ hq_
     refine aP _ hp_ hq_ (kw 3 rfl (wH_coc 3 2 [(vS x_10),(vS r_21.1),(vI r_24.1),(vL eS v_42.2.2),(vI (w64 (r_27.1*5))),(vI (w64 ((w64 (r_27.1*5))+r_37.1))),(vI r_30.1),(vL Rect.enc v_75.1),(vS v_75.2.2.2)] rfl rfl (λS hS=>ik (rfl) (ik (rfl) (ik (rfl) (ik (rfl) (ik (rfl) (ik (rfl) (ik (rfl) (ik (hS) (ik (rfl) (rfl)))))))))) (au (aa (gV n_16 9 s_13.1) (aG 0 2 il ft fo iW rfl rfl (.d (.agg (Alert.enc (⟨x_10,r_21.1,r_24.1,v_42.2.2,(w64 (r_27.1*5)),(w64 ((w64 (r_27.1*5))+r_37.1)),r_30.1,v_75.1,v_75.2.2.2⟩:Alert)))) rfl wz (eO (([(⟨x_10,r_21.1,r_24.1,v_42.2.2,(w64 (r_27.1*5)),(w64 ((w64 (r_27.1*5))+r_37.1)),r_30.1,v_75.1,v_75.2.2.2⟩:Alert)]:List Alert).map Alert.enc) nM ez26 rfl rfl rfl rfl rfl wz ?_))))))
     obtain ⟨a_103,hz_104,hc_17⟩:=bind_some hc_17
     refine pF 0 il ft (i:=1) el26 el26 fo z51 rfl (by decide) by51 (by decide) (λ_=>rfl) rfl rfl rfl hz_104 wz (λn_105=>aa (gV n_105 9 a_103) (af (au (fQ (bL hD_11 hn_12) wz rfl (aa (vI ((k_8+1:Nat):Int)) (af ?_))))))
     obtain rfl:=ae hc_17
     exact bg (k_8+1,l_9,(a_103,v_75.2.1,v_75.2.2.1),n_105) ⟨hL_18,aS hD_11⟩ (ls_ _) rfl (aL rfl)
 ·rintro ⟨s_13,n_16⟩ ho_ sl_ H_ hp_ hq_
  subst ho_
  refine aP _ hp_ hq_ (ai (aa (gV n_16 9 s_13.1) ?_))
  obtain ⟨r_106,hr_107,hF⟩:=bind_some hF
  obtain ⟨_,hs_108,hF⟩:=bind_some hF
  replace hs_108:=oK hs_108
  refine ny 0 [] 1 0 il ft (jD hr_107) rfl hb47 rfl rfl rfl (by kernel_rfl) rfl (.inl rfl) rfl (by kernel_rfl) (by kernel_rfl) (by kernel_rfl) (by kernel_rfl) rfl (by decide) (by kernel_rfl) kW (uR hs_108) wz ([((av 0),some (.cells 2 [(vL eI s_13.2.1),(vI s_13.2.2)])),(n_16,gB 9 Alert.enc r_106)]:Hp) (by kernel_rfl) (dQ (v':=(gV n_16 9 r_106)) 5 rfl (dK hs_108.symm) (dQ (v':=(gV n_16 9 r_106)) 98 rfl (dK hs_108.symm) (af (ai (aa (gV n_16 9 r_106) (aa (gV n_16 9 r_106) (af ?_)))))))
  obtain rfl:=ae hF
  exact ay (finG (outs:=([(.cells 2 [(vL eI s_13.2.1),(vI s_13.2.2)])]:List Box)) (.inr rfl) 1 rfl rfl rfl (by kernel_rfl) (by kernel_rfl))
theorem fM {s_1:Stream} {low_2:Int} {high_3:Int} {r:Int×Stream} (hF:dE s_1 low_2 high_3=some r) :
  FnM Tryz.prog 23 [(.ref (av 0) 0 0),(vI low_2),(vI high_3)] [(.cells 2 [(vL eI s_1.L),(vI s_1.f_at)])] (vI r.1) [some (.cells 2 [(vL eI r.2.L),(vI r.2.f_at)])]:=by
 refine FnM.of_wH ⟨Tryz.prog,22,[],[]⟩ rfl Tryz.func23 rfl rfl (lb_ rfl) (by kernel_rfl) ?_
 unfold dE at hF
 refine ai (aa (vI 0) (af (ak (ai (aa (.ref (av 0) 0 0) ?_)))))
 obtain ⟨r_4,hr_5,hF⟩:=bind_some hF
 refine aV 0 [0] il ft (iM hr_5) rfl Ko rfl (by kernel_rfl) (by kernel_rfl) (by kernel_rfl) (by kernel_rfl) (by kernel_rfl) (by kernel_rfl) (by kernel_rfl) (by decide) (by kernel_rfl) wz (vB r_4.1) (by kernel_rfl) ([((av 0),some (.cells 2 [(vL eI r_4.2.L),(vI r_4.2.f_at)]))]:Hp) (by kernel_rfl) (af ?_)
 rcases aj hF with⟨hc_7,hF⟩|⟨hc_7,hF⟩
 ·refine aB rfl hc_7 (ai (aa (.ref (av 0) 0 0) (aa (vI low_2) (aa (vI (w64 (low_2-1))) (aa (vI high_3) (aa (vI (w64 (high_3+1))) (aa (vI low_2) (aa (vI high_3) (eO (([(w64 (low_2-1)),(w64 (high_3+1)),low_2,high_3,(-1099511627776),1099511627776]:List Int).map eI) pK xw rfl rfl rfl rfl rfl wz ?_)))))))))
  obtain ⟨r_8,hr_9,hF⟩:=bind_some hF
  refine aV 0 [0] il ft (fu hr_9) rfl hb6 rfl (by kernel_rfl) (by kernel_rfl) (by kernel_rfl) (by kernel_rfl) (by kernel_rfl) (by kernel_rfl) (by kernel_rfl) (by decide) (by kernel_rfl) wz (vI r_8.1) (by kernel_rfl) ([((av 0),some (.cells 2 [(vL eI r_8.2.L),(vI r_8.2.f_at)]))]:Hp) (by kernel_rfl) (aa (vI r_8.1) (af ?_))
  obtain rfl:=ae hF
  exact ay (qM (.inr rfl) [(vI r_8.1)] _ [0] [av 0] ⟨rfl,trivial⟩ (.cons (fB rfl rfl) (.nil)) (by kernel_rfl) ⟨(by kernel_rfl),trivial⟩ (by decide) (by kernel_rfl))
 ·refine aA rfl hc_7 (ax (ai (aa (.ref (av 0) 0 0) (aa (vI low_2) (aa (vI high_3) ?_)))))
  obtain ⟨r_11,hr_12,hF⟩:=bind_some hF
  refine aV 0 [0] il ft (di hr_12) rfl CZ rfl (by kernel_rfl) (by kernel_rfl) (by kernel_rfl) (by kernel_rfl) (by kernel_rfl) (by kernel_rfl) (by kernel_rfl) (by decide) (by kernel_rfl) wz (vI r_11.1) (by kernel_rfl) ([((av 0),some (.cells 2 [(vL eI r_11.2.L),(vI r_11.2.f_at)]))]:Hp) (by kernel_rfl) (aa (vI r_11.1) (af ?_))
  obtain rfl:=ae hF
  exact ay (qM (.inr rfl) [(vI r_11.1)] _ [0] [av 0] ⟨rfl,trivial⟩ (.cons (fB rfl rfl) (.nil)) (by kernel_rfl) ⟨(by kernel_rfl),trivial⟩ (by decide) (by kernel_rfl))
theorem wU {s_1:Stream} {r:Rect×Stream} (hF:ku s_1=some r) :
  FnM Tryz.prog 50 [(.ref (av 0) 0 0)] [(.cells 2 [(vL eI s_1.L),(vI s_1.f_at)])] (.d (.agg (Rect.enc r.1))) [some (.cells 2 [(vL eI r.2.L),(vI r.2.f_at)])]:=by
 refine FnM.of_wH ⟨Tryz.prog,32,[],[]⟩ rfl Tryz.func50 rfl rfl (lb_ rfl) (by kernel_rfl) ?_
 unfold ku at hF
 refine ai (fF 0 (.inl rfl) z75 rfl wz (λn_2=>af (ai (aa (.ref (av 0) 0 0) ?_))))
 obtain ⟨r_3,hr_4,hF⟩:=bind_some hF
 refine aV 0 [0] il ft (jm hr_4) rfl hb46 rfl (by kernel_rfl) (by kernel_rfl) (by kernel_rfl) (by kernel_rfl) (by kernel_rfl) (by kernel_rfl) (by kernel_rfl) (by decide) (by kernel_rfl) wz (.d (.agg (Rect.enc r_3.1))) (by kernel_rfl) ([((av 0),some (.cells 2 [(vL eI r_3.2.L),(vI r_3.2.f_at)])),(n_2,some (.cells 4 [(vI 0),(vI 0),(vI 0),(vI 0)]))]:Hp) (by kernel_rfl) (fF 0 (.inl rfl) z75 rfl wz (λn_6=>fV 0 il ft 2 sI rfl rfl (Rect.v r_3.1) rfl wz (af (ak (ai (aa (.ref (av 0) 0 0) ?_))))))
 obtain ⟨r_7,hr_8,hF⟩:=bind_some hF
 refine aV 0 [0] il ft (iM hr_8) rfl Ko rfl (by kernel_rfl) (by kernel_rfl) (by kernel_rfl) (by kernel_rfl) (by kernel_rfl) (by kernel_rfl) (by kernel_rfl) (by decide) (by kernel_rfl) wz (vB r_7.1) (by kernel_rfl) ([((av 0),some (.cells 2 [(vL eI r_7.2.L),(vI r_7.2.f_at)])),(n_2,some (.cells 4 [(vI 0),(vI 0),(vI 0),(vI 0)])),(n_6,some (.cells 4 (Rect.v r_3.1)))]:Hp) (by kernel_rfl) (af ?_)
 obtain ⟨v_10,h_11,hF⟩:=bind_some hF
 refine aO [(2,(.ref n_2 0 0)),(3,(.ref n_6 0 0))] [((av 0),some (.cells 2 [(vL eI v_10.1),(vI v_10.2.1)])),(n_2,some (.cells 4 [(vI 0),(vI 0),(vI 0),(vI 0)])),(n_6,some (.cells 4 [(vI v_10.2.2.1),(vI v_10.2.2.2.1),(vI v_10.2.2.2.2.1),(vI v_10.2.2.2.2.2)]))] ?_ ?_
 ·rcases aj h_11 with⟨hc_12,h_11⟩|⟨hc_12,h_11⟩
  ·refine aB rfl hc_12 (ai (aa (.ref (av 0) 0 0) ?_))
   obtain ⟨r_13,hr_14,h_11⟩:=bind_some h_11
   refine aV 0 [0] il ft (ed hr_14) rfl DV rfl (by kernel_rfl) (by kernel_rfl) (by kernel_rfl) (by kernel_rfl) (by kernel_rfl) (by kernel_rfl) (by kernel_rfl) (by decide) (by kernel_rfl) wz (vI r_13.1) (by kernel_rfl) ([((av 0),some (.cells 2 [(vL eI r_13.2.L),(vI r_13.2.f_at)])),(n_2,some (.cells 4 [(vI 0),(vI 0),(vI 0),(vI 0)])),(n_6,some (.cells 4 (Rect.v r_3.1)))]:Hp) (by kernel_rfl) (af (aN (ai (aa (vB (r_13.1==0)) (aa (vB (r_13.1==0)) (af ?_))))))
   rcases aj h_11 with⟨hc_16,h_11⟩|⟨hc_16,h_11⟩
   ·refine aB rfl hc_16 (au (aa (.ref (av 0) 0 0) ?_))
    obtain ⟨r_17,hr_18,h_11⟩:=bind_some h_11
    refine aV 0 [0] il ft (fM hr_18) rfl F5 rfl (by kernel_rfl) (by kernel_rfl) (by kernel_rfl) (by kernel_rfl) (by kernel_rfl) (by kernel_rfl) (by kernel_rfl) (by decide) (by kernel_rfl) wz (vI r_17.1) (by kernel_rfl) ([((av 0),some (.cells 2 [(vL eI r_17.2.L),(vI r_17.2.f_at)])),(n_2,some (.cells 4 [(vI 0),(vI 0),(vI 0),(vI 0)])),(n_6,some (.cells 4 (Rect.v r_3.1)))]:Hp) (by kernel_rfl) (aH uX rfl 0 rfl wz (fV 0 il ft 2 sz3 rfl rfl [(vI r_17.1),(vI r_3.1.Y),(vI r_3.1.W),(vI r_3.1.H)] rfl wz (af ?_)))
    obtain rfl:=ae h_11
    exact cu
   ·refine aA rfl hc_16 (ai (aa (vB (r_13.1==1)) (aa (vB (r_13.1==1)) (af ?_))))
    rcases aj h_11 with⟨hc_20,h_11⟩|⟨hc_20,h_11⟩
    ·refine aB rfl hc_20 (au (aa (.ref (av 0) 0 0) ?_))
     obtain ⟨r_21,hr_22,h_11⟩:=bind_some h_11
     refine aV 0 [0] il ft (fM hr_22) rfl F5 rfl (by kernel_rfl) (by kernel_rfl) (by kernel_rfl) (by kernel_rfl) (by kernel_rfl) (by kernel_rfl) (by kernel_rfl) (by decide) (by kernel_rfl) wz (vI r_21.1) (by kernel_rfl) ([((av 0),some (.cells 2 [(vL eI r_21.2.L),(vI r_21.2.f_at)])),(n_2,some (.cells 4 [(vI 0),(vI 0),(vI 0),(vI 0)])),(n_6,some (.cells 4 (Rect.v r_3.1)))]:Hp) (by kernel_rfl) (aa (.ref (av 0) 0 0) ?_)
     obtain ⟨r_24,hr_25,h_11⟩:=bind_some h_11
     refine aV 0 [0] il ft (fM hr_25) rfl F5 rfl (by kernel_rfl) (by kernel_rfl) (by kernel_rfl) (by kernel_rfl) (by kernel_rfl) (by kernel_rfl) (by kernel_rfl) (by decide) (by kernel_rfl) wz (vI r_24.1) (by kernel_rfl) ([((av 0),some (.cells 2 [(vL eI r_24.2.L),(vI r_24.2.f_at)])),(n_2,some (.cells 4 [(vI 0),(vI 0),(vI 0),(vI 0)])),(n_6,some (.cells 4 (Rect.v r_3.1)))]:Hp) (by kernel_rfl) (aH CK rfl 2 rfl wz (fV 0 il ft 2 sz3 rfl rfl [(vI r_3.1.X),(vI r_3.1.Y),(vI r_21.1),(vI r_3.1.H)] rfl wz (aH AC rfl 3 rfl wz (fV 0 il ft 2 sz3 rfl rfl [(vI r_3.1.X),(vI r_3.1.Y),(vI r_21.1),(vI r_24.1)] rfl wz (af ?_)))))
     obtain rfl:=ae h_11
     exact cu
    ·refine aA rfl hc_20 (au (aa (.ref (av 0) 0 0) (eO (([(-100000),99999]:List Int).map eI) pK xw rfl rfl rfl rfl rfl wz ?_)))
     obtain ⟨r_27,hr_28,h_11⟩:=bind_some h_11
     refine aV 0 [0] il ft (fu hr_28) rfl hb6 rfl (by kernel_rfl) (by kernel_rfl) (by kernel_rfl) (by kernel_rfl) (by kernel_rfl) (by kernel_rfl) (by kernel_rfl) (by decide) (by kernel_rfl) wz (vI r_27.1) (by kernel_rfl) ([((av 0),some (.cells 2 [(vL eI r_27.2.L),(vI r_27.2.f_at)])),(n_2,some (.cells 4 [(vI 0),(vI 0),(vI 0),(vI 0)])),(n_6,some (.cells 4 (Rect.v r_3.1)))]:Hp) (by kernel_rfl) (aa (.ref (av 0) 0 0) (eO (([1,2,200000]:List Int).map eI) pK xw rfl rfl rfl rfl rfl wz ?_))
     obtain ⟨r_30,hr_31,h_11⟩:=bind_some h_11
     refine aV 0 [0] il ft (fu hr_31) rfl hb6 rfl (by kernel_rfl) (by kernel_rfl) (by kernel_rfl) (by kernel_rfl) (by kernel_rfl) (by kernel_rfl) (by kernel_rfl) (by decide) (by kernel_rfl) wz (vI r_30.1) (by kernel_rfl) ([((av 0),some (.cells 2 [(vL eI r_30.2.L),(vI r_30.2.f_at)])),(n_2,some (.cells 4 [(vI 0),(vI 0),(vI 0),(vI 0)])),(n_6,some (.cells 4 (Rect.v r_3.1)))]:Hp) (by kernel_rfl) (aH ve rfl 1 rfl wz (fV 0 il ft 2 sz3 rfl rfl [(vI r_3.1.X),(vI r_27.1),(vI r_3.1.W),(vI r_3.1.H)] rfl wz (aH AC rfl 3 rfl wz (fV 0 il ft 2 sz3 rfl rfl [(vI r_3.1.X),(vI r_27.1),(vI r_3.1.W),(vI r_30.1)] rfl wz (af ?_)))))
     obtain rfl:=ae h_11
     exact cu
  ·refine aA rfl hc_12 (ax ?_)
   obtain rfl:=ae h_11
   exact cu
 ·rintro ⟨⟩ _ sl_ H_ hp_ hq_
  refine aP _ hp_ hq_ (ai (aG 0 2 il ft sI Cw rfl rfl (.d (.agg (Rect.enc (⟨v_10.2.2.1,v_10.2.2.2.1,v_10.2.2.2.2.1,v_10.2.2.2.2.2⟩:Rect)))) rfl wz (fV 0 il ft 1 sI rfl rfl [(vI v_10.2.2.1),(vI v_10.2.2.2.1),(vI v_10.2.2.2.2.1),(vI v_10.2.2.2.2.2)] rfl wz (af ?_))))
  obtain rfl:=ae hF
  exact ay (qM (.inr rfl) [(.d (.agg (Rect.enc (⟨v_10.2.2.1,v_10.2.2.2.1,v_10.2.2.2.2.1,v_10.2.2.2.2.2⟩:Rect))))] _ [0] [av 0] ⟨⟨1,_,_,_,_,_,_,_,rfl,rfl,sI,Cw,rfl⟩,trivial⟩ (.cons (fB rfl rfl) (.nil)) (by kernel_rfl) ⟨(by kernel_rfl),trivial⟩ (by decide) (by kernel_rfl))
theorem vN {s_1:Stream} {most_2:Int} {r:(List Rect)×Stream} (hF:jB s_1 most_2=some r) :
  FnM Tryz.prog 24 [(.ref (av 0) 0 0),(vI most_2)] [(.cells 2 [(vL eI s_1.L),(vI s_1.f_at)])] (vL Rect.enc r.1) [some (.cells 2 [(vL eI r.2.L),(vI r.2.f_at)])]:=by
 refine FnM.of_wH ⟨Tryz.prog,24,[],[]⟩ rfl Tryz.func24 rfl rfl (lb_ rfl) (by kernel_rfl) ?_
 unfold jB at hF
 refine ai (aa .nil (af (ai (aa .nil (af (ak (ai (aa (.ref (av 0) 0 0) (aa (vI most_2) ?_)))))))))
 obtain ⟨r_3,hr_4,hF⟩:=bind_some hF
 refine aV 0 [0] il ft (di hr_4) rfl CZ rfl (by kernel_rfl) (by kernel_rfl) (by kernel_rfl) (by kernel_rfl) (by kernel_rfl) (by kernel_rfl) (by kernel_rfl) (by decide) (by kernel_rfl) wz (vI r_3.1) (by kernel_rfl) ([((av 0),some (.cells 2 [(vL eI r_3.2.L),(vI r_3.2.f_at)]))]:Hp) (by kernel_rfl) (aa (vI 0) (af (qc (λn_12 => ?_))))
 obtain ⟨o_17,hj_18,hF⟩:=bind_some hF
 obtain ⟨hn_10,hj_18⟩:=aZ hj_18
 refine iI (σ:=(List Rect)×(List Int)×Int) (N:=Nm) (λp=>(λ(s_11:(List Rect)×(List Int)×Int) (n_14:Nm)=>([(5,(gV n_14 4 s_11.1))]:SL_)) p.1 p.2) (λp=>(λ(s_11:(List Rect)×(List Int)×Int) (n_14:Nm)=>([((av 0),some (.cells 2 [(vL eI s_11.2.1),(vI s_11.2.2)])),(n_14,gB 4 Rect.enc s_11.1)]:Hp)) p.1 p.2) (λ(k_6:Nat)=>(λp=>(λ(s_11:(List Rect)×(List Int)×Int) (n_14:Nm)=>([(0,(.ref (av 0) 0 0)),(5,(gV n_14 4 s_11.1)),(9,(vI r_3.1)),(10,(vI (k_6:Int)))]:SL_)) p.1 p.2)) (λk x s=>gZ k x s) o_17 (List.range (r_3.1).toNat) ((([]:List Rect),r_3.2.L,r_3.2.f_at),n_12) hj_18 rfl (aL rfl) ?_ ?_
 ·rintro ⟨k_6,l_7,s_11,n_14⟩ ⟨hL_16,hD_9⟩
  dsimp only at hL_16 hD_9
  cases l_7 with
  | nil =>
   obtain rfl:=ae hL_16
   refine ai (aa (vB (decide ((k_6:Int)<r_3.1))) (af ?_))
   refine ak (aA rfl (qC hD_9) (bn ?_))
   exact aW (s_11,n_14) rfl rfl (aL rfl)
  | cons x_8 l_7 =>
   obtain ⟨c_,hc_15,hL_16⟩:=bind_some hL_16
   refine ai (aa (vB (decide ((k_6:Int)<r_3.1))) (af ?_))
   refine ak (aB rfl (o5 hD_9) (ax ?_))
   unfold gZ at hc_15
   refine ak (aN (ai (aa (.ref (av 0) 0 0) ?_)))
   obtain ⟨r_19,hr_20,hc_15⟩:=bind_some hc_15
   refine aV 0 [0] il ft (jm hr_20) rfl hb46 rfl (by kernel_rfl) (by kernel_rfl) (by kernel_rfl) (by kernel_rfl) (by kernel_rfl) (by kernel_rfl) (by kernel_rfl) (by decide) (by kernel_rfl) wz (.d (.agg (Rect.enc r_19.1))) (by kernel_rfl) ([((av 0),some (.cells 2 [(vL eI r_19.2.L),(vI r_19.2.f_at)])),(n_14,gB 4 Rect.enc s_11.1)]:Hp) (by kernel_rfl) (fF 0 (.inl rfl) z75 rfl wz (λn_22=>fV 0 il ft 2 sI rfl rfl (Rect.v r_19.1) rfl wz (af (ak (ai (aa (.ref (av 0) 0 0) ?_))))))
   obtain ⟨r_23,hr_24,hc_15⟩:=bind_some hc_15
   refine aV 0 [0] il ft (iM hr_24) rfl Ko rfl (by kernel_rfl) (by kernel_rfl) (by kernel_rfl) (by kernel_rfl) (by kernel_rfl) (by kernel_rfl) (by kernel_rfl) (by decide) (by kernel_rfl) wz (vB r_23.1) (by kernel_rfl) ([((av 0),some (.cells 2 [(vL eI r_23.2.L),(vI r_23.2.f_at)])),(n_14,gB 4 Rect.enc s_11.1),(n_22,some (.cells 4 (Rect.v r_19.1)))]:Hp) (by kernel_rfl) (af ?_)
   obtain ⟨v_26,h_27,hc_15⟩:=bind_some hc_15
   refine aO [(0,(.ref (av 0) 0 0)),(5,(gV n_14 4 s_11.1)),(6,(.ref n_22 0 0)),(9,(vI r_3.1)),(10,(vI (k_6:Int)))] [((av 0),some (.cells 2 [(vL eI v_26.1),(vI v_26.2.1)])),(n_14,gB 4 Rect.enc s_11.1),(n_22,some (.cells 4 [(vI v_26.2.2.1),(vI v_26.2.2.2.1),(vI v_26.2.2.2.2.1),(vI v_26.2.2.2.2.2)]))] ?_ ?_
   ·rcases aj h_27 with⟨hc_28,h_27⟩|⟨hc_28,h_27⟩
    ·refine aB rfl hc_28 (au (aa (.ref (av 0) 0 0) ?_))
     obtain ⟨r_29,hr_30,h_27⟩:=bind_some h_27
     refine aV 0 [0] il ft (wU hr_30) rfl hb50 rfl (by kernel_rfl) (by kernel_rfl) (by kernel_rfl) (by kernel_rfl) (by kernel_rfl) (by kernel_rfl) (by kernel_rfl) (by decide) (by kernel_rfl) wz (.d (.agg (Rect.enc r_29.1))) (by kernel_rfl) ([((av 0),some (.cells 2 [(vL eI r_29.2.L),(vI r_29.2.f_at)])),(n_14,gB 4 Rect.enc s_11.1),(n_22,some (.cells 4 (Rect.v r_19.1)))]:Hp) (by kernel_rfl) (fV 0 il ft 2 sI rfl rfl (Rect.v r_29.1) rfl wz (af ?_))
     obtain rfl:=ae h_27
     exact cu
    ·refine aA rfl hc_28 (ax ?_)
     obtain rfl:=ae h_27
     exact cu
   ·rintro ⟨⟩ _ sl_ H_ hp_ hq_
    refine aP _ hp_ hq_ (au (aa (gV n_14 4 s_11.1) (aG 0 2 il ft sI Cw rfl rfl (.d (.agg (Rect.enc (⟨v_26.2.2.1,v_26.2.2.2.1,v_26.2.2.2.2.1,v_26.2.2.2.2.2⟩:Rect)))) rfl wz (eO (([(⟨v_26.2.2.1,v_26.2.2.2.1,v_26.2.2.2.2.1,v_26.2.2.2.2.2⟩:Rect)]:List Rect).map Rect.enc) Iu ez49 rfl rfl rfl rfl rfl wz ?_))))
    obtain ⟨a_32,hz_33,hc_15⟩:=bind_some hc_15
    refine pF 0 il ft (i:=1) el49 el49 sI z75 rfl (by decide) by75 (by decide) (λ_=>rfl) rfl rfl rfl hz_33 wz (λn_34=>aa (gV n_34 4 a_32) (af (au (fQ (qP hD_9 hn_10) wz rfl (aa (vI ((k_6+1:Nat):Int)) (af ?_))))))
    obtain rfl:=ae hc_15
    exact bg (k_6+1,l_7,(a_32,v_26.1,v_26.2.1),n_34) ⟨hL_16,aS hD_9⟩ (ls_ _) rfl (aL rfl)
 ·rintro ⟨s_11,n_14⟩ ho_ sl_ H_ hp_ hq_
  subst ho_
  refine aP _ hp_ hq_ (ai (aa (gV n_14 4 s_11.1) (aa (gV n_14 4 s_11.1) (af (kw 1 rfl (fe 4 1 rfl rfl (fe 5 1 rfl rfl (fe 23 1 rfl rfl ?_))))))))
  obtain rfl:=ae hF
  exact ay (qM (.inr rfl) [(vL Rect.enc s_11.1)] _ [0] [av 0] ⟨rfl,trivial⟩ (.cons (fB rfl rfl) (.nil)) (by kernel_rfl) ⟨(by kernel_rfl),trivial⟩ (by decide) (by kernel_rfl))
end Go.Proofs.YtekmkepojbhafaeGreatDoor.Law

