/-
 The machine computes these plain functions (written by a program of ours).
-/
import Derived.Test.YtekmkepojbhafacGreatDoorFacts
import Derived.Test.YtekmkepojbhafacGreatDoorDefs
open Go Go.Eng Go.Proofs
namespace Go.Proofs.YtekmkepojbhafacGreatDoor.Law
set_option maxRecDepth 100000
set_option linter.unusedVariables false
set_option maxHeartbeats 1000000
theorem xO {x_1:Int} {n_2:Int} {r:Int} (hF:r9 x_1 n_2=some r) :
  FnM Tryz.prog 55 [(vI x_1),(vI n_2)] [] (vI r) []:=by
 refine FnM.of_wH ⟨Tryz.prog,16,[],[]⟩ rfl Tryz.func55 rfl rfl (lb_ rfl) (by kernel_rfl) ?_
 unfold r9 at hF
 refine ai (aa (vI 0) (ah (ak (ai (aa (vI n_2) (aa (vB (decide (n_2<1))) (ah ?_)))))))
 rcases aj hF with⟨hc_3,hF⟩|⟨hc_3,hF⟩
 ·refine aB rfl hc_3 (ai (aa (vI 0) (ah ?_)))
  obtain rfl:=ae hF
  exact ay (aK [(vI 0)] ⟨rfl,trivial⟩)
 ·refine aA rfl hc_3 (av (ai (aa (vI x_1) (aa (vI n_2) ?_))))
  obtain ⟨q_4,hz_5,hF⟩:=bind_some hF
  refine OQ rfl rfl hz_5 wz (aa (vI q_4) (ah (ak (ai (aa (vI q_4) (aa (vB (decide (q_4<0))) (ah ?_)))))))
  obtain ⟨v_6,h_7,hF⟩:=bind_some hF
  refine aQ [(0,(vI v_6))] [] ?_ ?_
  ·rcases aj h_7 with⟨hc_8,h_7⟩|⟨hc_8,h_7⟩
   ·refine aB rfl hc_8 (au (aa (vI q_4) (aa (vI n_2) (aa (vI (w64 (q_4+n_2))) (aa (vI (w64 (q_4+n_2))) (ah ?_))))))
    obtain rfl:=ae h_7
    exact cu
   ·refine aA rfl hc_8 (av ?_)
    obtain rfl:=ae h_7
    exact cu
  ·rintro ⟨⟩ _ sl_ H_ hp_ hq_
   refine aO _ hp_ hq_ (ai (aa (vI v_6) (aa (vI v_6) (ah ?_))))
   obtain rfl:=ae hF
   exact ay (aK [(vI v_6)] ⟨rfl,trivial⟩)
theorem oN {s_1:Stream} {n_2:Int} {r:Int×Stream} (hF:jg s_1 n_2=some r) :
  FnM Tryz.prog 33 [(.ref (ax 0) 0 0),(vI n_2)] [(.cells 2 [(vL eI s_1.L),(vI s_1.f_at)])] (vI r.1) [some (.cells 2 [(vL eI r.2.L),(vI r.2.f_at)])]:=by
 refine FnM.of_wH ⟨Tryz.prog,64,[],[]⟩ rfl Tryz.func33 rfl rfl (lb_ rfl) (by kernel_rfl) ?_
 unfold jg at hF
 refine ai (aa (vI 0) (ah (ai (aa (.ref (ax 0) 0 0) (aa (.ref (ax 0) 0 0) (aH EZ rfl 1 rfl wz (aF 0 0 il ft sz3 ag3 rfl rfl (vI s_1.f_at) rfl wz (aa (vI (w64 (s_1.f_at+1))) (aa (.ref (ax 0) 0 0) (aH EZ rfl 1 rfl wz (fE 0 il ft 0 sz3 rfl rfl [(vL eI s_1.L),(vI (w64 (s_1.f_at+1)))] rfl wz (ah (ak (ai (aa (.ref (ax 0) 0 0) (aa (.ref (ax 0) 0 0) (aH Iu rfl 0 rfl wz (aF 0 0 il ft uB wF rfl rfl (vL eI s_1.L) rfl wz (bR u7 rfl wz (aa (vB ((s_1.L.length:Int)==0)) (ah ?_)))))))))))))))))))))
 rcases aj hF with⟨hc_3,hF⟩|⟨hc_3,hF⟩
 ·refine aB rfl hc_3 (ai (aa (.ref (ax 0) 0 0) (aa (.ref (ax 0) 0 0) (aH EZ rfl 1 rfl wz (aF 0 0 il ft sz3 ag3 rfl rfl (vI (w64 (s_1.f_at+1))) rfl wz (aa (vI (w64 ((w64 (s_1.f_at+1))*7919))) (aa (vI n_2) ?_)))))))
  obtain ⟨r_4,hr_5,hF⟩:=bind_some hF
  refine aD (xO hr_5) rfl hb55 rfl rfl rfl rfl wz (aa (vI r_4) (ah ?_))
  obtain rfl:=ae hF
  exact ay (Fz (.inr rfl) [(vI r_4)] _ [0] [ax 0] ⟨rfl,trivial⟩ (.cons (lN rfl rfl) (.nil)) (by kernel_rfl) ⟨(by kernel_rfl),trivial⟩ (by decide) (by kernel_rfl))
 ·refine aA rfl hc_3 (av (ak (bB (aa (.ref (ax 0) 0 0) (aa (.ref (ax 0) 0 0) (aH EZ rfl 1 rfl wz (aF 3 0 (.inr (by kernel_rfl)) (λ_ _ ag=>trivial) sz3 ag3 rfl rfl (vI (w64 (s_1.f_at+1))) rfl wz (aa (vI (w64 ((w64 (s_1.f_at+1))-1))) (aa (.ref (ax 0) 0 0) (aa (.ref (ax 0) 0 0) (aH Iu rfl 0 rfl wz (aF 8 0 (.inr (by kernel_rfl)) (λ_ _ ag=>⟨.inl ⟨rfl,rfl⟩,trivial⟩) uB wF rfl rfl (vL eI s_1.L) rfl wz (bR u7 rfl wz ?_)))))))))))))
  obtain ⟨q_6,hz_7,hF⟩:=bind_some hF
  refine OQ rfl rfl hz_7 wz (aa (vI q_6) (ah (ak (bB (aa (.ref (ax 0) 0 0) (aa (.ref (ax 0) 0 0) (aH EZ rfl 1 rfl wz (aF 3 0 (.inr (by kernel_rfl)) (λ_ _ ag=>trivial) sz3 ag3 rfl rfl (vI (w64 (s_1.f_at+1))) rfl wz (aa (vI (w64 ((w64 (s_1.f_at+1))-1))) (aa (.ref (ax 0) 0 0) (aa (.ref (ax 0) 0 0) (aH Iu rfl 0 rfl wz (aF 8 0 (.inr (by kernel_rfl)) (λ_ _ ag=>⟨.inl ⟨rfl,rfl⟩,trivial⟩) uB wF rfl rfl (vL eI s_1.L) rfl wz (bR u7 rfl wz ?_))))))))))))))
  obtain ⟨q_8,hz_9,hF⟩:=bind_some hF
  refine Pz rfl rfl hz_9 wz (aa (vI q_8) (ah (aO (H0:=([((ax 0),some (.cells 2 [(vL eI s_1.L),(vI (w64 (s_1.f_at+1)))]))]:Hp)) ([(0,(.ref (ax 0) 0 0)),(1,(vI n_2)),(5,(vI q_6)),(6,(vI q_8))]:SL_) (by kernel_rfl) (vW (by kernel_rfl)) (ai (aa (.ref (ax 0) 0 0) (aa (.ref (ax 0) 0 0) (aH Iu rfl 0 rfl wz (aF 0 0 il ft uB wF rfl rfl (vL eI s_1.L) rfl wz (aa (vI q_6) ?_)))))))))
  obtain ⟨y_10,hy_11,hF⟩:=bind_some hF
  refine dD gK rfl rfl hy_11 rfl wz (bE sz3 ag3 rfl (vI y_10) rfl wz ?_)
  obtain ⟨r_12,hr_13,hF⟩:=bind_some hF
  refine aD (xO hr_13) rfl hb55 rfl rfl rfl rfl wz (aa (vI q_8) (aa (vI q_6) (aa (vI (w64 (7919+q_6))) (aa (vI (w64 (q_8*(w64 (7919+q_6))))) (aa (vI (w64 (r_12+(w64 (q_8*(w64 (7919+q_6))))))) (aa (vI n_2) ?_))))))
  obtain ⟨r_14,hr_15,hF⟩:=bind_some hF
  refine aD (xO hr_15) rfl hb55 rfl rfl rfl rfl wz (aa (vI r_14) (ah ?_))
  obtain rfl:=ae hF
  exact ay (Fz (.inr rfl) [(vI r_14)] _ [0] [ax 0] ⟨rfl,trivial⟩ (.cons (lN rfl rfl) (.nil)) (by kernel_rfl) ⟨(by kernel_rfl),trivial⟩ (by decide) (by kernel_rfl))
theorem lQ {s_1:Stream} {n_2:Int} {r:Bool×Stream} (hF:fV s_1 n_2=some r) :
  FnM Tryz.prog 11 [(.ref (ax 0) 0 0),(vI n_2)] [(.cells 2 [(vL eI s_1.L),(vI s_1.f_at)])] (vB r.1) [some (.cells 2 [(vL eI r.2.L),(vI r.2.f_at)])]:=by
 refine FnM.of_wH ⟨Tryz.prog,9,[],[]⟩ rfl Tryz.func11 rfl rfl (lb_ rfl) (by kernel_rfl) ?_
 unfold fV at hF
 refine ai (aa (vB false) (ah (ai (aa (.ref (ax 0) 0 0) (aa (vI n_2) ?_)))))
 obtain ⟨r_3,hr_4,hF⟩:=bind_some hF
 refine gU 0 [0] il ft (oN hr_4) rfl hb33 rfl (by kernel_rfl) (by kernel_rfl) (by kernel_rfl) (by kernel_rfl) (by kernel_rfl) (by kernel_rfl) (by kernel_rfl) (by decide) (by kernel_rfl) wz (vI r_3.1) (by kernel_rfl) ([((ax 0),some (.cells 2 [(vL eI r_3.2.L),(vI r_3.2.f_at)]))]:Hp) (by kernel_rfl) (aa (vB (r_3.1==0)) (aa (vB (r_3.1==0)) (ah ?_)))
 obtain rfl:=ae hF
 exact ay (Fz (.inr rfl) [(vB (r_3.1==0))] _ [0] [ax 0] ⟨rfl,trivial⟩ (.cons (lN rfl rfl) (.nil)) (by kernel_rfl) ⟨(by kernel_rfl),trivial⟩ (by decide) (by kernel_rfl))
theorem fU {s_1:Stream} {l_2:(List Int)} {r:Int×Stream} (hF:eD s_1 l_2=some r) :
  FnM Tryz.prog 12 [(.ref (ax 0) 0 0),(vL eI l_2)] [(.cells 2 [(vL eI s_1.L),(vI s_1.f_at)])] (vI r.1) [some (.cells 2 [(vL eI r.2.L),(vI r.2.f_at)])]:=by
 refine FnM.of_wH ⟨Tryz.prog,12,[],[]⟩ rfl Tryz.func12 rfl rfl (lb_ rfl) (by kernel_rfl) ?_
 unfold eD at hF
 refine ai (aa (vI 0) (ah (ai (aa (vL eI l_2) (aa (.ref (ax 0) 0 0) (aa (vL eI l_2) (bR u7 rfl wz ?_)))))))
 obtain ⟨r_3,hr_4,hF⟩:=bind_some hF
 refine gU 0 [0] il ft (oN hr_4) rfl hb33 rfl (by kernel_rfl) (by kernel_rfl) (by kernel_rfl) (by kernel_rfl) (by kernel_rfl) (by kernel_rfl) (by kernel_rfl) (by decide) (by kernel_rfl) wz (vI r_3.1) (by kernel_rfl) ([((ax 0),some (.cells 2 [(vL eI r_3.2.L),(vI r_3.2.f_at)]))]:Hp) (by kernel_rfl) ?_
 obtain ⟨y_6,hy_7,hF⟩:=bind_some hF
 refine dD gK rfl rfl hy_7 rfl wz (bE sz3 ag3 rfl (vI y_6) rfl wz (aa (vI y_6) (ah ?_)))
 obtain rfl:=ae hF
 exact ay (Fz (.inr rfl) [(vI y_6)] _ [0] [ax 0] ⟨rfl,trivial⟩ (.cons (lN rfl rfl) (.nil)) (by kernel_rfl) ⟨(by kernel_rfl),trivial⟩ (by decide) (by kernel_rfl))
theorem uJ {s_1:Stream} {r:(List Spot)×Stream} (hF:ib s_1=some r) :
  FnM Tryz.prog 4 [(.ref (ax 0) 0 0)] [(.cells 2 [(vL eI s_1.L),(vI s_1.f_at)])] (vL Spot.enc r.1) [some (.cells 2 [(vL eI r.2.L),(vI r.2.f_at)])]:=by
 refine FnM.of_wH ⟨Tryz.prog,53,[],[]⟩ rfl Tryz.func4 rfl rfl (lb_ rfl) (by kernel_rfl) ?_
 unfold ib at hF
 refine ai (aa .nil (ah (ai (aa .nil (ah (ak (ai (gm (([(⟨#[115,97]⟩:ByteArray),(⟨#[115,98]⟩:ByteArray),(⟨#[115,99]⟩:ByteArray),(⟨#[115,100]⟩:ByteArray),(⟨#[115,101]⟩:ByteArray)]:List ByteArray).map eS) uP KJ rfl rfl rfl rfl rfl wz (bR Ac rfl wz (aa (vI 0) (ah (pO (λn_8 => ?_)))))))))))))
 obtain ⟨o_13,hj_14,hF⟩:=bind_some hF
 obtain ⟨hn_6,hj_14⟩:=bf hj_14
 refine iP (σ:=(List Spot)×(List Int)×Int) (N:=Nm) (λp=>(λ(s_7:(List Spot)×(List Int)×Int) (n_10:Nm)=>([(3,(gV n_10 5 s_7.1))]:SL_)) p.1 p.2) (λp=>(λ(s_7:(List Spot)×(List Int)×Int) (n_10:Nm)=>([((ax 0),some (.cells 2 [(vL eI s_7.2.1),(vI s_7.2.2)])),(n_10,gB 5 Spot.enc s_7.1)]:Hp)) p.1 p.2) (λ(k_2:Nat)=>(λp=>(λ(s_7:(List Spot)×(List Int)×Int) (n_10:Nm)=>([(0,(.ref (ax 0) 0 0)),(3,(gV n_10 5 s_7.1)),(9,(vL eS ([(⟨#[115,97]⟩:ByteArray),(⟨#[115,98]⟩:ByteArray),(⟨#[115,99]⟩:ByteArray),(⟨#[115,100]⟩:ByteArray),(⟨#[115,101]⟩:ByteArray)]:List ByteArray))),(10,(vI (([(⟨#[115,97]⟩:ByteArray),(⟨#[115,98]⟩:ByteArray),(⟨#[115,99]⟩:ByteArray),(⟨#[115,100]⟩:ByteArray),(⟨#[115,101]⟩:ByteArray)]:List ByteArray).length:Int))),(11,(vI (k_2:Int)))]:SL_)) p.1 p.2)) (λk x s=>fK k x s) o_13 ([(⟨#[115,97]⟩:ByteArray),(⟨#[115,98]⟩:ByteArray),(⟨#[115,99]⟩:ByteArray),(⟨#[115,100]⟩:ByteArray),(⟨#[115,101]⟩:ByteArray)]:List ByteArray) ((([]:List Spot),s_1.L,s_1.f_at),n_8) hj_14 rfl (aL rfl) ?_ ?_
 ·rintro ⟨k_2,l_3,s_7,n_10⟩ ⟨hL_12,hD_5⟩
  dsimp only at hL_12 hD_5
  cases l_3 with
  | nil =>
   obtain rfl:=ae hL_12
   refine ai (aa (vB (decide ((k_2:Int)<(([(⟨#[115,97]⟩:ByteArray),(⟨#[115,98]⟩:ByteArray),(⟨#[115,99]⟩:ByteArray),(⟨#[115,100]⟩:ByteArray),(⟨#[115,101]⟩:ByteArray)]:List ByteArray).length:Int)))) (ah ?_))
   refine ak (aA rfl (drop_nil hD_5) (aV ?_))
   exact aS (s_7,n_10) rfl rfl (aL rfl)
  | cons x_4 l_3 =>
   obtain ⟨c_,hc_11,hL_12⟩:=bind_some hL_12
   refine ai (aa (vB (decide ((k_2:Int)<(([(⟨#[115,97]⟩:ByteArray),(⟨#[115,98]⟩:ByteArray),(⟨#[115,99]⟩:ByteArray),(⟨#[115,100]⟩:ByteArray),(⟨#[115,101]⟩:ByteArray)]:List ByteArray).length:Int)))) (ah ?_))
   refine ak (aB rfl (bv hD_5) (av ?_))
   unfold fK at hc_11
   refine ak (aM (ai (aa (vI (k_2:Int)) (dD uP rfl rfl (bI hD_5) rfl wz (bE sz9 ag9 rfl (vS x_4) rfl wz (aa (vI (k_2:Int)) (aa (vS x_4) (ah (ak (ai (aa (.ref (ax 0) 0 0) ?_)))))))))))
   obtain ⟨r_15,hr_16,hc_11⟩:=bind_some hc_11
   refine gU 0 [0] il ft (lQ hr_16) rfl hb11 rfl (by kernel_rfl) (by kernel_rfl) (by kernel_rfl) (by kernel_rfl) (by kernel_rfl) (by kernel_rfl) (by kernel_rfl) (by decide) (by kernel_rfl) wz (vB r_15.1) (by kernel_rfl) ([((ax 0),some (.cells 2 [(vL eI r_15.2.L),(vI r_15.2.f_at)])),(n_10,gB 5 Spot.enc s_7.1)]:Hp) (by kernel_rfl) (ah ?_)
   rcases aj hc_11 with⟨hc_18,hc_11⟩|⟨hc_18,hc_11⟩
   ·refine aB rfl hc_18 (aV (au (dS (bC hD_5 hn_6) wz rfl (aa (vI ((k_2+1:Nat):Int)) (ah ?_)))))
    obtain rfl:=ae hc_11
    exact aU (k_2+1,l_3,(s_7.1,r_15.2.L,r_15.2.f_at),n_10) ⟨hL_12,aX hD_5⟩ (ls_ _) rfl (aL rfl)
   ·refine aA rfl hc_18 (av (ai (aa (vS x_4) (aa (vI (k_2:Int)) (aa (vI (w64 (10*(k_2:Int)))) (aa (vI (k_2:Int)) (aa (vI (w64 (10*(k_2:Int)))) (aa (.ref (ax 0) 0 0) (gm (([5,10,10]:List Int).map eI) gK CK rfl rfl rfl rfl rfl wz ?_)))))))))
    obtain ⟨r_19,hr_20,hc_11⟩:=bind_some hc_11
    refine gU 0 [0] il ft (fU hr_20) rfl KL rfl (by kernel_rfl) (by kernel_rfl) (by kernel_rfl) (by kernel_rfl) (by kernel_rfl) (by kernel_rfl) (by kernel_rfl) (by decide) (by kernel_rfl) wz (vI r_19.1) (by kernel_rfl) ([((ax 0),some (.cells 2 [(vL eI r_19.2.L),(vI r_19.2.f_at)])),(n_10,gB 5 Spot.enc s_7.1)]:Hp) (by kernel_rfl) (aa (vI (w64 ((w64 (10*(k_2:Int)))+r_19.1))) (aG (.d (.agg (Window.enc (⟨(w64 (10*(k_2:Int))),(w64 ((w64 (10*(k_2:Int)))+r_19.1))⟩:Window)))) wz (by kernel_rfl) (aa (.ref (ax 0) 0 0) (gm (([0,1,2,3,5]:List Int).map eI) gK CK rfl rfl rfl rfl rfl wz ?_))))
    obtain ⟨r_22,hr_23,hc_11⟩:=bind_some hc_11
    refine gU 0 [0] il ft (fU hr_23) rfl KL rfl (by kernel_rfl) (by kernel_rfl) (by kernel_rfl) (by kernel_rfl) (by kernel_rfl) (by kernel_rfl) (by kernel_rfl) (by decide) (by kernel_rfl) wz (vI r_22.1) (by kernel_rfl) ([((ax 0),some (.cells 2 [(vL eI r_22.2.L),(vI r_22.2.f_at)])),(n_10,gB 5 Spot.enc s_7.1)]:Hp) (by kernel_rfl) (aG (.agg [(vS x_4),(vI (w64 (10*(k_2:Int)))),(vI (w64 ((w64 (10*(k_2:Int)))+r_19.1))),(vI r_22.1),.nil]) wz (by kernel_rfl) (dB 0 (.inl rfl) z51 rfl wz (λn_25=>fE 0 il ft 2 xS rfl rfl [(vS x_4),(vI (w64 (10*(k_2:Int)))),(vI (w64 ((w64 (10*(k_2:Int)))+r_19.1))),(vI r_22.1),.nil] rfl wz (ah (ak (ai (gm (([(⟨#[99,105,116,121]⟩:ByteArray),(⟨#[109,97,108,108]⟩:ByteArray)]:List ByteArray).map eS) uP KJ rfl rfl rfl rfl rfl wz (bR Ac rfl wz (aa (vI 0) (ah (pO (λn_32 => ?_))))))))))))
    obtain ⟨o_37,hj_38,hc_11⟩:=bind_some hc_11
    obtain ⟨hn_30,hj_38⟩:=bf hj_38
    refine iP (σ:=(List ByteArray)×(List Int)×Int) (N:=Nm) (λp=>(λ(s_31:(List ByteArray)×(List Int)×Int) (n_34:Nm)=>([(0,(.ref (ax 0) 0 0)),(3,(gV n_10 5 s_7.1)),(6,(.ref n_25 0 0)),(9,(vL eS ([(⟨#[115,97]⟩:ByteArray),(⟨#[115,98]⟩:ByteArray),(⟨#[115,99]⟩:ByteArray),(⟨#[115,100]⟩:ByteArray),(⟨#[115,101]⟩:ByteArray)]:List ByteArray))),(10,(vI (([(⟨#[115,97]⟩:ByteArray),(⟨#[115,98]⟩:ByteArray),(⟨#[115,99]⟩:ByteArray),(⟨#[115,100]⟩:ByteArray),(⟨#[115,101]⟩:ByteArray)]:List ByteArray).length:Int))),(11,(vI (k_2:Int)))]:SL_)) p.1 p.2) (λp=>(λ(s_31:(List ByteArray)×(List Int)×Int) (n_34:Nm)=>([((ax 0),some (.cells 2 [(vL eI s_31.2.1),(vI s_31.2.2)])),(n_10,gB 5 Spot.enc s_7.1),(n_25,some (.cells 5 [(vS x_4),(vI (w64 (10*(k_2:Int)))),(vI (w64 ((w64 (10*(k_2:Int)))+r_19.1))),(vI r_22.1),(gV n_34 1 s_31.1)])),(n_34,gB 1 eS s_31.1)]:Hp)) p.1 p.2) (λ(k_26:Nat)=>(λp=>(λ(s_31:(List ByteArray)×(List Int)×Int) (n_34:Nm)=>([(0,(.ref (ax 0) 0 0)),(3,(gV n_10 5 s_7.1)),(6,(.ref n_25 0 0)),(9,(vL eS ([(⟨#[115,97]⟩:ByteArray),(⟨#[115,98]⟩:ByteArray),(⟨#[115,99]⟩:ByteArray),(⟨#[115,100]⟩:ByteArray),(⟨#[115,101]⟩:ByteArray)]:List ByteArray))),(10,(vI (([(⟨#[115,97]⟩:ByteArray),(⟨#[115,98]⟩:ByteArray),(⟨#[115,99]⟩:ByteArray),(⟨#[115,100]⟩:ByteArray),(⟨#[115,101]⟩:ByteArray)]:List ByteArray).length:Int))),(11,(vI (k_2:Int))),(32,(vL eS ([(⟨#[99,105,116,121]⟩:ByteArray),(⟨#[109,97,108,108]⟩:ByteArray)]:List ByteArray))),(33,(vI (([(⟨#[99,105,116,121]⟩:ByteArray),(⟨#[109,97,108,108]⟩:ByteArray)]:List ByteArray).length:Int))),(34,(vI (k_26:Int)))]:SL_)) p.1 p.2)) (λk x s=>iC k x s) o_37 ([(⟨#[99,105,116,121]⟩:ByteArray),(⟨#[109,97,108,108]⟩:ByteArray)]:List ByteArray) ((([]:List ByteArray),r_22.2.L,r_22.2.f_at),n_32) hj_38 rfl (aL rfl) ?_ ?_
    ·rintro ⟨k_26,l_27,s_31,n_34⟩ ⟨hL_36,hD_29⟩
     dsimp only at hL_36 hD_29
     cases l_27 with
     | nil =>
      obtain rfl:=ae hL_36
      refine ai (aa (vB (decide ((k_26:Int)<(([(⟨#[99,105,116,121]⟩:ByteArray),(⟨#[109,97,108,108]⟩:ByteArray)]:List ByteArray).length:Int)))) (ah ?_))
      refine ak (aA rfl (drop_nil hD_29) (aV ?_))
      exact aS (s_31,n_34) rfl rfl (aL rfl)
     | cons x_28 l_27 =>
      obtain ⟨c_,hc_35,hL_36⟩:=bind_some hL_36
      refine ai (aa (vB (decide ((k_26:Int)<(([(⟨#[99,105,116,121]⟩:ByteArray),(⟨#[109,97,108,108]⟩:ByteArray)]:List ByteArray).length:Int)))) (ah ?_))
      refine ak (aB rfl (bv hD_29) (av ?_))
      unfold iC at hc_35
      refine ak (aM (ai (dD uP rfl rfl (bI hD_29) rfl wz (bE sz9 ag9 rfl (vS x_28) rfl wz (aa (vS x_28) (ah (ai (aa (.ref (ax 0) 0 0) ?_))))))))
      obtain ⟨r_39,hr_40,hc_35⟩:=bind_some hc_35
      refine gU 0 [0] il ft (lQ hr_40) rfl hb11 rfl (by kernel_rfl) (by kernel_rfl) (by kernel_rfl) (by kernel_rfl) (by kernel_rfl) (by kernel_rfl) (by kernel_rfl) (by decide) (by kernel_rfl) wz (vB r_39.1) (by kernel_rfl) ([((ax 0),some (.cells 2 [(vL eI r_39.2.L),(vI r_39.2.f_at)])),(n_10,gB 5 Spot.enc s_7.1),(n_25,some (.cells 5 [(vS x_4),(vI (w64 (10*(k_2:Int)))),(vI (w64 ((w64 (10*(k_2:Int)))+r_19.1))),(vI r_22.1),(gV n_34 1 s_31.1)])),(n_34,gB 1 eS s_31.1)]:Hp) (by kernel_rfl) (ah ?_)
      obtain ⟨v_42,h_43,hc_35⟩:=bind_some hc_35
      refine kW (β:=Nm) (λ(n_44:Nm)=>([(0,(.ref (ax 0) 0 0)),(3,(gV n_10 5 s_7.1)),(6,(.ref n_25 0 0)),(9,(vL eS ([(⟨#[115,97]⟩:ByteArray),(⟨#[115,98]⟩:ByteArray),(⟨#[115,99]⟩:ByteArray),(⟨#[115,100]⟩:ByteArray),(⟨#[115,101]⟩:ByteArray)]:List ByteArray))),(10,(vI (([(⟨#[115,97]⟩:ByteArray),(⟨#[115,98]⟩:ByteArray),(⟨#[115,99]⟩:ByteArray),(⟨#[115,100]⟩:ByteArray),(⟨#[115,101]⟩:ByteArray)]:List ByteArray).length:Int))),(11,(vI (k_2:Int))),(32,(vL eS ([(⟨#[99,105,116,121]⟩:ByteArray),(⟨#[109,97,108,108]⟩:ByteArray)]:List ByteArray))),(33,(vI (([(⟨#[99,105,116,121]⟩:ByteArray),(⟨#[109,97,108,108]⟩:ByteArray)]:List ByteArray).length:Int))),(34,(vI (k_26:Int)))]:SL_)) (λ(n_44:Nm)=>([((ax 0),some (.cells 2 [(vL eI r_39.2.L),(vI r_39.2.f_at)])),(n_10,gB 5 Spot.enc s_7.1),(n_25,some (.cells 5 [(vS x_4),(vI (w64 (10*(k_2:Int)))),(vI (w64 ((w64 (10*(k_2:Int)))+r_19.1))),(vI r_22.1),(gV n_44 1 v_42)])),(n_44,gB 1 eS v_42)]:Hp)) (λ_=>True) ?_ ?_
      ·rcases aj h_43 with⟨hc_45,h_43⟩|⟨hc_45,h_43⟩
       ·refine aB rfl hc_45 (au (aH Hr rfl 4 rfl wz (aF 0 2 il ft Ba Ez rfl rfl (gV n_34 1 s_31.1) rfl wz (aa (vS x_28) (gm (([x_28]:List ByteArray).map eS) uP KJ rfl rfl rfl rfl rfl wz ?_)))))
        obtain ⟨a_46,hz_47,h_43⟩:=bind_some h_43
        refine nO 0 il ft (i:=3) el40 el40 sz9 z9 rfl (by decide) by9 (by decide) (λ_=>rfl) rfl rfl rfl hz_47 wz (λn_48=>aH Hr rfl 4 rfl wz (fE 0 il ft 2 Ba rfl rfl [(vS x_4),(vI (w64 (10*(k_2:Int)))),(vI (w64 ((w64 (10*(k_2:Int)))+r_19.1))),(vI r_22.1),(gV n_48 1 a_46)] (stC_g rfl) wz (ah ?_)))
        obtain rfl:=ae h_43
        exact aS n_48 trivial rfl (aL rfl)
       ·refine aA rfl hc_45 (av ?_)
        obtain rfl:=ae h_43
        exact aS n_34 trivial rfl (aL rfl)
      ·rintro n_44 _ sl_ H_ hp_ hq_
       refine aO _ hp_ hq_ (au (dS (bC hD_29 hn_30) wz rfl (aa (vI ((k_26+1:Nat):Int)) (ah ?_))))
       obtain rfl:=ae hc_35
       exact aU (k_26+1,l_27,(v_42,r_39.2.L,r_39.2.f_at),n_44) ⟨hL_36,aX hD_29⟩ (ls_ _) rfl (aL rfl)
    ·rintro ⟨s_31,n_34⟩ ho_ sl_ H_ hp_ hq_
     subst ho_
     refine aO _ hp_ hq_ (jN 3 rfl (Pk 3 2 [(vS x_4),(vI (w64 (10*(k_2:Int)))),(vI (w64 ((w64 (10*(k_2:Int)))+r_19.1))),(vI r_22.1),(vL eS s_31.1)] rfl rfl (λS hS=>mM (rfl) (mM (rfl) (mM (rfl) (mM (rfl) (mM (hS) (rfl)))))) (au (aa (gV n_10 5 s_7.1) (aF 0 2 il ft xS Ea rfl rfl (.d (.agg (Spot.enc (⟨x_4,(⟨(w64 (10*(k_2:Int))),(w64 ((w64 (10*(k_2:Int)))+r_19.1))⟩:Window),r_22.1,s_31.1⟩:Spot)))) rfl wz (gm (([(⟨x_4,(⟨(w64 (10*(k_2:Int))),(w64 ((w64 (10*(k_2:Int)))+r_19.1))⟩:Window),r_22.1,s_31.1⟩:Spot)]:List Spot).map Spot.enc) FC ez26 rfl rfl rfl rfl rfl wz ?_))))))
     obtain ⟨a_49,hz_50,hc_11⟩:=bind_some hc_11
     refine nO 0 il ft (i:=1) el26 el26 xS z51 rfl (by decide) by51 (by decide) (λ_=>rfl) rfl rfl rfl hz_50 wz (λn_51=>aa (gV n_51 5 a_49) (ah (au (dS (bC hD_5 hn_6) wz rfl (aa (vI ((k_2+1:Nat):Int)) (ah ?_))))))
     obtain rfl:=ae hc_11
     exact aU (k_2+1,l_3,(a_49,s_31.2.1,s_31.2.2),n_51) ⟨hL_12,aX hD_5⟩ (ls_ _) rfl (aL rfl)
 ·rintro ⟨s_7,n_10⟩ ho_ sl_ H_ hp_ hq_
  subst ho_
  refine aO _ hp_ hq_ (ai (aa (gV n_10 5 s_7.1) (aa (gV n_10 5 s_7.1) (ah (jN 1 rfl (gq 2 1 rfl rfl (gq 3 1 rfl rfl (gq 52 1 rfl rfl ?_))))))))
  obtain rfl:=ae hF
  exact ay (Fz (.inr rfl) [(vL Spot.enc s_7.1)] _ [0] [ax 0] ⟨rfl,trivial⟩ (.cons (lN rfl rfl) (.nil)) (by kernel_rfl) ⟨(by kernel_rfl),trivial⟩ (by decide) (by kernel_rfl))
theorem Al {s_1:Stream} {l_2:(List ByteArray)} {r:ByteArray×Stream} (hF:lW s_1 l_2=some r) :
  FnM Tryz.prog 13 [(.ref (ax 0) 0 0),(vL eS l_2)] [(.cells 2 [(vL eI s_1.L),(vI s_1.f_at)])] (vS r.1) [some (.cells 2 [(vL eI r.2.L),(vI r.2.f_at)])]:=by
 refine FnM.of_wH ⟨Tryz.prog,12,[],[]⟩ rfl Tryz.func13 rfl rfl (lb_ rfl) (by kernel_rfl) ?_
 unfold lW at hF
 refine ai (aa (vS (⟨#[]⟩:ByteArray)) (ah (ai (aa (vL eS l_2) (aa (.ref (ax 0) 0 0) (aa (vL eS l_2) (bR Ac rfl wz ?_)))))))
 obtain ⟨r_3,hr_4,hF⟩:=bind_some hF
 refine gU 0 [0] il ft (oN hr_4) rfl hb33 rfl (by kernel_rfl) (by kernel_rfl) (by kernel_rfl) (by kernel_rfl) (by kernel_rfl) (by kernel_rfl) (by kernel_rfl) (by decide) (by kernel_rfl) wz (vI r_3.1) (by kernel_rfl) ([((ax 0),some (.cells 2 [(vL eI r_3.2.L),(vI r_3.2.f_at)]))]:Hp) (by kernel_rfl) ?_
 obtain ⟨y_6,hy_7,hF⟩:=bind_some hF
 refine dD uP rfl rfl hy_7 rfl wz (bE sz9 ag9 rfl (vS y_6) rfl wz (aa (vS y_6) (ah ?_)))
 obtain rfl:=ae hF
 exact ay (Fz (.inr rfl) [(vS y_6)] _ [0] [ax 0] ⟨rfl,trivial⟩ (.cons (lN rfl rfl) (.nil)) (by kernel_rfl) ⟨(by kernel_rfl),trivial⟩ (by decide) (by kernel_rfl))
theorem rU {s_1:Stream} {most_2:Int} {r:(List Campaign)×Stream} (hF:dQ s_1 most_2=some r) :
  FnM Tryz.prog 5 [(.ref (ax 0) 0 0),(vI most_2)] [(.cells 2 [(vL eI s_1.L),(vI s_1.f_at)])] (vL Campaign.enc r.1) [some (.cells 2 [(vL eI r.2.L),(vI r.2.f_at)])]:=by
 refine FnM.of_wH ⟨Tryz.prog,63,[],[]⟩ rfl Tryz.func5 rfl rfl (lb_ rfl) (by kernel_rfl) ?_
 unfold dQ at hF
 refine ai (aa .nil (ah (ai (aa .nil (ah (ak (ai (gm (([(⟨#[99,97]⟩:ByteArray),(⟨#[99,98]⟩:ByteArray),(⟨#[99,99]⟩:ByteArray),(⟨#[99,100]⟩:ByteArray)]:List ByteArray).map eS) uP KJ rfl rfl rfl rfl rfl wz (aa (vI most_2) ?_)))))))))
 obtain ⟨y_3,hy_4,hF⟩:=bind_some hF
 refine CR Ac sz9 (λ_=>rfl) rfl rfl hy_4 wz (bR Ac rfl wz (aa (vI 0) (ah (pO (λn_11 => ?_)))))
 obtain ⟨o_16,hj_17,hF⟩:=bind_some hF
 obtain ⟨hn_9,hj_17⟩:=bf hj_17
 refine iP (σ:=(List Campaign)×(List Int)×Int) (N:=Nm) (λp=>(λ(s_10:(List Campaign)×(List Int)×Int) (n_13:Nm)=>([(5,(gV n_13 8 s_10.1))]:SL_)) p.1 p.2) (λp=>(λ(s_10:(List Campaign)×(List Int)×Int) (n_13:Nm)=>([((ax 0),some (.cells 2 [(vL eI s_10.2.1),(vI s_10.2.2)])),(n_13,gB 8 Campaign.enc s_10.1)]:Hp)) p.1 p.2) (λ(k_5:Nat)=>(λp=>(λ(s_10:(List Campaign)×(List Int)×Int) (n_13:Nm)=>([(0,(.ref (ax 0) 0 0)),(5,(gV n_13 8 s_10.1)),(13,(vL eS y_3)),(14,(vI (y_3.length:Int))),(15,(vI (k_5:Int)))]:SL_)) p.1 p.2)) (λk x s=>dX k x s) o_16 y_3 ((([]:List Campaign),s_1.L,s_1.f_at),n_11) hj_17 rfl (aL rfl) ?_ ?_
 ·rintro ⟨k_5,l_6,s_10,n_13⟩ ⟨hL_15,hD_8⟩
  dsimp only at hL_15 hD_8
  cases l_6 with
  | nil =>
   obtain rfl:=ae hL_15
   refine ai (aa (vB (decide ((k_5:Int)<(y_3.length:Int)))) (ah ?_))
   refine ak (aA rfl (drop_nil hD_8) (aV ?_))
   exact aS (s_10,n_13) rfl rfl (aL rfl)
  | cons x_7 l_6 =>
   obtain ⟨c_,hc_14,hL_15⟩:=bind_some hL_15
   refine ai (aa (vB (decide ((k_5:Int)<(y_3.length:Int)))) (ah ?_))
   refine ak (aB rfl (bv hD_8) (av ?_))
   unfold dX at hc_14
   refine ak (aM (ai (dD uP rfl rfl (bI hD_8) rfl wz (bE sz9 ag9 rfl (vS x_7) rfl wz (aa (vS x_7) (ah (ak (ai (aa (.ref (ax 0) 0 0) ?_)))))))))
   obtain ⟨r_18,hr_19,hc_14⟩:=bind_some hc_14
   refine gU 0 [0] il ft (lQ hr_19) rfl hb11 rfl (by kernel_rfl) (by kernel_rfl) (by kernel_rfl) (by kernel_rfl) (by kernel_rfl) (by kernel_rfl) (by kernel_rfl) (by decide) (by kernel_rfl) wz (vB r_18.1) (by kernel_rfl) ([((ax 0),some (.cells 2 [(vL eI r_18.2.L),(vI r_18.2.f_at)])),(n_13,gB 8 Campaign.enc s_10.1)]:Hp) (by kernel_rfl) (ah ?_)
   rcases aj hc_14 with⟨hc_21,hc_14⟩|⟨hc_21,hc_14⟩
   ·refine aB rfl hc_21 (aV (au (dS (bC hD_8 hn_9) wz rfl (aa (vI ((k_5+1:Nat):Int)) (ah ?_)))))
    obtain rfl:=ae hc_14
    exact aU (k_5+1,l_6,(s_10.1,r_18.2.L,r_18.2.f_at),n_13) ⟨hL_15,aX hD_8⟩ (ls_ _) rfl (aL rfl)
   ·refine aA rfl hc_21 (av (ai (aa (vS x_7) (aa (.ref (ax 0) 0 0) (gm (([(⟨#[]⟩:ByteArray),(⟨#[]⟩:ByteArray),(⟨#[99,97,114,115]⟩:ByteArray),(⟨#[102,111,111,100]⟩:ByteArray)]:List ByteArray).map eS) uP KJ rfl rfl rfl rfl rfl wz ?_)))))
    obtain ⟨r_22,hr_23,hc_14⟩:=bind_some hc_14
    refine gU 0 [0] il ft (Al hr_23) rfl hb13 rfl (by kernel_rfl) (by kernel_rfl) (by kernel_rfl) (by kernel_rfl) (by kernel_rfl) (by kernel_rfl) (by kernel_rfl) (by decide) (by kernel_rfl) wz (vS r_22.1) (by kernel_rfl) ([((ax 0),some (.cells 2 [(vL eI r_22.2.L),(vI r_22.2.f_at)])),(n_13,gB 8 Campaign.enc s_10.1)]:Hp) (by kernel_rfl) (aa (.ref (ax 0) 0 0) (gm (([0,0,10,20]:List Int).map eI) gK CK rfl rfl rfl rfl rfl wz ?_))
    obtain ⟨r_25,hr_26,hc_14⟩:=bind_some hc_14
    refine gU 0 [0] il ft (fU hr_26) rfl KL rfl (by kernel_rfl) (by kernel_rfl) (by kernel_rfl) (by kernel_rfl) (by kernel_rfl) (by kernel_rfl) (by kernel_rfl) (by decide) (by kernel_rfl) wz (vI r_25.1) (by kernel_rfl) ([((ax 0),some (.cells 2 [(vL eI r_25.2.L),(vI r_25.2.f_at)])),(n_13,gB 8 Campaign.enc s_10.1)]:Hp) (by kernel_rfl) (aa (.ref (ax 0) 0 0) (gm (([30,50,60,100]:List Int).map eI) gK CK rfl rfl rfl rfl rfl wz ?_))
    obtain ⟨r_28,hr_29,hc_14⟩:=bind_some hc_14
    refine gU 0 [0] il ft (fU hr_29) rfl KL rfl (by kernel_rfl) (by kernel_rfl) (by kernel_rfl) (by kernel_rfl) (by kernel_rfl) (by kernel_rfl) (by kernel_rfl) (by decide) (by kernel_rfl) wz (vI r_28.1) (by kernel_rfl) ([((ax 0),some (.cells 2 [(vL eI r_28.2.L),(vI r_28.2.f_at)])),(n_13,gB 8 Campaign.enc s_10.1)]:Hp) (by kernel_rfl) (aG (.d (.agg (Window.enc (⟨r_25.1,r_28.1⟩:Window)))) wz (by kernel_rfl) (aa (.ref (ax 0) 0 0) (gm (([0,1,2,3,4,6]:List Int).map eI) gK CK rfl rfl rfl rfl rfl wz ?_)))
    obtain ⟨r_31,hr_32,hc_14⟩:=bind_some hc_14
    refine gU 0 [0] il ft (fU hr_32) rfl KL rfl (by kernel_rfl) (by kernel_rfl) (by kernel_rfl) (by kernel_rfl) (by kernel_rfl) (by kernel_rfl) (by kernel_rfl) (by decide) (by kernel_rfl) wz (vI r_31.1) (by kernel_rfl) ([((ax 0),some (.cells 2 [(vL eI r_31.2.L),(vI r_31.2.f_at)])),(n_13,gB 8 Campaign.enc s_10.1)]:Hp) (by kernel_rfl) (aa (.ref (ax 0) 0 0) (gm (([0,1,2,3,9]:List Int).map eI) gK CK rfl rfl rfl rfl rfl wz ?_))
    obtain ⟨r_34,hr_35,hc_14⟩:=bind_some hc_14
    refine gU 0 [0] il ft (fU hr_35) rfl KL rfl (by kernel_rfl) (by kernel_rfl) (by kernel_rfl) (by kernel_rfl) (by kernel_rfl) (by kernel_rfl) (by kernel_rfl) (by decide) (by kernel_rfl) wz (vI r_34.1) (by kernel_rfl) ([((ax 0),some (.cells 2 [(vL eI r_34.2.L),(vI r_34.2.f_at)])),(n_13,gB 8 Campaign.enc s_10.1)]:Hp) (by kernel_rfl) (aa (.ref (ax 0) 0 0) (gm (([0,500,1000,1500]:List Int).map eI) gK CK rfl rfl rfl rfl rfl wz ?_))
    obtain ⟨r_37,hr_38,hc_14⟩:=bind_some hc_14
    refine gU 0 [0] il ft (fU hr_38) rfl KL rfl (by kernel_rfl) (by kernel_rfl) (by kernel_rfl) (by kernel_rfl) (by kernel_rfl) (by kernel_rfl) (by kernel_rfl) (by decide) (by kernel_rfl) wz (vI r_37.1) (by kernel_rfl) ([((ax 0),some (.cells 2 [(vL eI r_37.2.L),(vI r_37.2.f_at)])),(n_13,gB 8 Campaign.enc s_10.1)]:Hp) (by kernel_rfl) (aG (.agg [(vS x_7),(vS r_22.1),(vI r_25.1),(vI r_28.1),.nil,(vI r_31.1),(vI r_34.1),(vI r_37.1)]) wz (by kernel_rfl) (dB 0 (.inl rfl) z42 rfl wz (λn_40=>fE 0 il ft 2 uC rfl rfl [(vS x_7),(vS r_22.1),(vI r_25.1),(vI r_28.1),.nil,(vI r_31.1),(vI r_34.1),(vI r_37.1)] rfl wz (ah (ak (ai (gm (([(⟨#[99,105,116,121]⟩:ByteArray),(⟨#[109,97,108,108]⟩:ByteArray)]:List ByteArray).map eS) uP KJ rfl rfl rfl rfl rfl wz (bR Ac rfl wz (aa (vI 0) (ah (aO (H0:=([((ax 0),some (.cells 2 [(vL eI r_37.2.L),(vI r_37.2.f_at)])),(n_13,gB 8 Campaign.enc s_10.1),(n_40,some (.cells 8 [(vS x_7),(vS r_22.1),(vI r_25.1),(vI r_28.1),.nil,(vI r_31.1),(vI r_34.1),(vI r_37.1)]))]:Hp)) ([(0,(.ref (ax 0) 0 0)),(5,(gV n_13 8 s_10.1)),(8,(.ref n_40 0 0)),(13,(vL eS y_3)),(14,(vI (y_3.length:Int))),(15,(vI (k_5:Int))),(42,(vL eS ([(⟨#[99,105,116,121]⟩:ByteArray),(⟨#[109,97,108,108]⟩:ByteArray)]:List ByteArray))),(43,(vI (([(⟨#[99,105,116,121]⟩:ByteArray),(⟨#[109,97,108,108]⟩:ByteArray)]:List ByteArray).length:Int))),(44,(vI 0))]:SL_) (by kernel_rfl) (vW (by kernel_rfl)) (pO (λn_47 => ?_)))))))))))))
    obtain ⟨o_52,hj_53,hc_14⟩:=bind_some hc_14
    obtain ⟨hn_45,hj_53⟩:=bf hj_53
    refine iP (σ:=(List ByteArray)×(List Int)×Int) (N:=Nm) (λp=>(λ(s_46:(List ByteArray)×(List Int)×Int) (n_49:Nm)=>([(0,(.ref (ax 0) 0 0)),(5,(gV n_13 8 s_10.1)),(8,(.ref n_40 0 0)),(13,(vL eS y_3)),(14,(vI (y_3.length:Int))),(15,(vI (k_5:Int)))]:SL_)) p.1 p.2) (λp=>(λ(s_46:(List ByteArray)×(List Int)×Int) (n_49:Nm)=>([((ax 0),some (.cells 2 [(vL eI s_46.2.1),(vI s_46.2.2)])),(n_13,gB 8 Campaign.enc s_10.1),(n_40,some (.cells 8 [(vS x_7),(vS r_22.1),(vI r_25.1),(vI r_28.1),(gV n_49 1 s_46.1),(vI r_31.1),(vI r_34.1),(vI r_37.1)])),(n_49,gB 1 eS s_46.1)]:Hp)) p.1 p.2) (λ(k_41:Nat)=>(λp=>(λ(s_46:(List ByteArray)×(List Int)×Int) (n_49:Nm)=>([(0,(.ref (ax 0) 0 0)),(5,(gV n_13 8 s_10.1)),(8,(.ref n_40 0 0)),(13,(vL eS y_3)),(14,(vI (y_3.length:Int))),(15,(vI (k_5:Int))),(42,(vL eS ([(⟨#[99,105,116,121]⟩:ByteArray),(⟨#[109,97,108,108]⟩:ByteArray)]:List ByteArray))),(43,(vI (([(⟨#[99,105,116,121]⟩:ByteArray),(⟨#[109,97,108,108]⟩:ByteArray)]:List ByteArray).length:Int))),(44,(vI (k_41:Int)))]:SL_)) p.1 p.2)) (λk x s=>fO k x s) o_52 ([(⟨#[99,105,116,121]⟩:ByteArray),(⟨#[109,97,108,108]⟩:ByteArray)]:List ByteArray) ((([]:List ByteArray),r_37.2.L,r_37.2.f_at),n_47) hj_53 rfl (aL rfl) ?_ ?_
    ·rintro ⟨k_41,l_42,s_46,n_49⟩ ⟨hL_51,hD_44⟩
     dsimp only at hL_51 hD_44
     cases l_42 with
     | nil =>
      obtain rfl:=ae hL_51
      refine ai (aa (vB (decide ((k_41:Int)<(([(⟨#[99,105,116,121]⟩:ByteArray),(⟨#[109,97,108,108]⟩:ByteArray)]:List ByteArray).length:Int)))) (ah ?_))
      refine ak (aA rfl (drop_nil hD_44) (aV ?_))
      exact aS (s_46,n_49) rfl rfl (aL rfl)
     | cons x_43 l_42 =>
      obtain ⟨c_,hc_50,hL_51⟩:=bind_some hL_51
      refine ai (aa (vB (decide ((k_41:Int)<(([(⟨#[99,105,116,121]⟩:ByteArray),(⟨#[109,97,108,108]⟩:ByteArray)]:List ByteArray).length:Int)))) (ah ?_))
      refine ak (aB rfl (bv hD_44) (av ?_))
      unfold fO at hc_50
      refine ak (aM (ai (dD uP rfl rfl (bI hD_44) rfl wz (bE sz9 ag9 rfl (vS x_43) rfl wz (aa (vS x_43) (ah (ai (aa (.ref (ax 0) 0 0) ?_))))))))
      obtain ⟨r_54,hr_55,hc_50⟩:=bind_some hc_50
      refine gU 0 [0] il ft (lQ hr_55) rfl hb11 rfl (by kernel_rfl) (by kernel_rfl) (by kernel_rfl) (by kernel_rfl) (by kernel_rfl) (by kernel_rfl) (by kernel_rfl) (by decide) (by kernel_rfl) wz (vB r_54.1) (by kernel_rfl) ([((ax 0),some (.cells 2 [(vL eI r_54.2.L),(vI r_54.2.f_at)])),(n_13,gB 8 Campaign.enc s_10.1),(n_40,some (.cells 8 [(vS x_7),(vS r_22.1),(vI r_25.1),(vI r_28.1),(gV n_49 1 s_46.1),(vI r_31.1),(vI r_34.1),(vI r_37.1)])),(n_49,gB 1 eS s_46.1)]:Hp) (by kernel_rfl) (ah ?_)
      obtain ⟨v_57,h_58,hc_50⟩:=bind_some hc_50
      refine kW (β:=Nm) (λ(n_59:Nm)=>([(0,(.ref (ax 0) 0 0)),(5,(gV n_13 8 s_10.1)),(8,(.ref n_40 0 0)),(13,(vL eS y_3)),(14,(vI (y_3.length:Int))),(15,(vI (k_5:Int))),(42,(vL eS ([(⟨#[99,105,116,121]⟩:ByteArray),(⟨#[109,97,108,108]⟩:ByteArray)]:List ByteArray))),(43,(vI (([(⟨#[99,105,116,121]⟩:ByteArray),(⟨#[109,97,108,108]⟩:ByteArray)]:List ByteArray).length:Int))),(44,(vI (k_41:Int)))]:SL_)) (λ(n_59:Nm)=>([((ax 0),some (.cells 2 [(vL eI r_54.2.L),(vI r_54.2.f_at)])),(n_13,gB 8 Campaign.enc s_10.1),(n_40,some (.cells 8 [(vS x_7),(vS r_22.1),(vI r_25.1),(vI r_28.1),(gV n_59 1 v_57),(vI r_31.1),(vI r_34.1),(vI r_37.1)])),(n_59,gB 1 eS v_57)]:Hp)) (λ_=>True) ?_ ?_
      ·rcases aj h_58 with⟨hc_60,h_58⟩|⟨hc_60,h_58⟩
       ·refine aB rfl hc_60 (au (aH Im rfl 4 rfl wz (aF 0 2 il ft Ba Ez rfl rfl (gV n_49 1 s_46.1) rfl wz (aa (vS x_43) (gm (([x_43]:List ByteArray).map eS) uP KJ rfl rfl rfl rfl rfl wz ?_)))))
        obtain ⟨a_61,hz_62,h_58⟩:=bind_some h_58
        refine nO 0 il ft (i:=3) el40 el40 sz9 z9 rfl (by decide) by9 (by decide) (λ_=>rfl) rfl rfl rfl hz_62 wz (λn_63=>aH Im rfl 4 rfl wz (fE 0 il ft 2 Ba rfl rfl [(vS x_7),(vS r_22.1),(vI r_25.1),(vI r_28.1),(gV n_63 1 a_61),(vI r_31.1),(vI r_34.1),(vI r_37.1)] (stC_g rfl) wz (ah ?_)))
        obtain rfl:=ae h_58
        exact aS n_63 trivial rfl (aL rfl)
       ·refine aA rfl hc_60 (av ?_)
        obtain rfl:=ae h_58
        exact aS n_49 trivial rfl (aL rfl)
      ·rintro n_59 _ sl_ H_ hp_ hq_
       refine aO _ hp_ hq_ (au (dS (bC hD_44 hn_45) wz rfl (aa (vI ((k_41+1:Nat):Int)) (ah ?_))))
       obtain rfl:=ae hc_50
       exact aU (k_41+1,l_42,(v_57,r_54.2.L,r_54.2.f_at),n_59) ⟨hL_51,aX hD_44⟩ (ls_ _) rfl (aL rfl)
    ·rintro ⟨s_46,n_49⟩ ho_ sl_ H_ hp_ hq_
     subst ho_
     refine aO _ hp_ hq_ (jN 3 rfl (Pk 3 2 [(vS x_7),(vS r_22.1),(vI r_25.1),(vI r_28.1),(vL eS s_46.1),(vI r_31.1),(vI r_34.1),(vI r_37.1)] rfl rfl (λS hS=>mM (rfl) (mM (rfl) (mM (rfl) (mM (rfl) (mM (hS) (mM (rfl) (mM (rfl) (mM (rfl) (rfl))))))))) (au (aa (gV n_13 8 s_10.1) (aF 0 2 il ft uC Ar rfl rfl (.d (.agg (Campaign.enc (⟨x_7,r_22.1,(⟨r_25.1,r_28.1⟩:Window),s_46.1,r_31.1,r_34.1,r_37.1⟩:Campaign)))) rfl wz (gm (([(⟨x_7,r_22.1,(⟨r_25.1,r_28.1⟩:Window),s_46.1,r_31.1,r_34.1,r_37.1⟩:Campaign)]:List Campaign).map Campaign.enc) Bw ez28 rfl rfl rfl rfl rfl wz ?_))))))
     obtain ⟨a_64,hz_65,hc_14⟩:=bind_some hc_14
     refine nO 0 il ft (i:=1) el28 el28 uC z42 rfl (by decide) by42 (by decide) (λ_=>rfl) rfl rfl rfl hz_65 wz (λn_66=>aa (gV n_66 8 a_64) (ah (au (dS (bC hD_8 hn_9) wz rfl (aa (vI ((k_5+1:Nat):Int)) (ah ?_))))))
     obtain rfl:=ae hc_14
     exact aU (k_5+1,l_6,(a_64,s_46.2.1,s_46.2.2),n_66) ⟨hL_15,aX hD_8⟩ (ls_ _) rfl (aL rfl)
 ·rintro ⟨s_10,n_13⟩ ho_ sl_ H_ hp_ hq_
  subst ho_
  refine aO _ hp_ hq_ (ai (aa (gV n_13 8 s_10.1) (aa (gV n_13 8 s_10.1) (ah (jN 1 rfl (gq 4 1 rfl rfl (gq 5 1 rfl rfl (gq 62 1 rfl rfl ?_))))))))
  obtain rfl:=ae hF
  exact ay (Fz (.inr rfl) [(vL Campaign.enc s_10.1)] _ [0] [ax 0] ⟨rfl,trivial⟩ (.cons (lN rfl rfl) (.nil)) (by kernel_rfl) ⟨(by kernel_rfl),trivial⟩ (by decide) (by kernel_rfl))
theorem fD {s_1:ByteArray} {r:Bool} (hF:fu s_1=some r) :
  FnM Tryz.prog 56 [(vS s_1)] [] (vB r) []:=by
 refine FnM.of_wH ⟨Tryz.prog,48,[],[]⟩ rfl Tryz.func56 rfl rfl (lb_ rfl) (by kernel_rfl) ?_
 unfold fu at hF
 refine ai (aa (vB false) (ah (ak (ai (aa (vI 0) (ah ?_))))))
 obtain ⟨o_10,hj_11,hF⟩:=bind_some hF
 obtain ⟨nq_33,hj_11⟩:=dA hj_11
 refine dZ (λ(s_7:Int)=>[(0,(vS s_1))]) (λ(s_7:Int)=>[]) (λ(k_2:Nat)=>(λ(s_7:Int)=>[(0,(vS s_1)),(3,(vI s_7))])) (λs=>jO s_1 s) o_10 nq_33 0 hj_11 rfl (aL rfl) ?_ ?_
 ·rintro ⟨k_2,s_7⟩ hL_9
  dsimp only at hL_9
  cases k_2 with
  | zero=>cases hL_9
  | succ k_2 =>
   obtain ⟨c_,hc_8,hL_9⟩:=bind_some hL_9
   unfold jO at hc_8
   refine ak (ai (aa (vI s_7) (aa (vS s_1) (nZ un9 rfl wz (aa (vB (decide (s_7<(s_1.size:Int)))) (ah ?_))))))
   rcases aj hc_8 with⟨hc_12,hc_8⟩|⟨hc_12,hc_8⟩
   ·refine aB rfl hc_12 (av (ak (aM (ai (aa (vS s_1) (aa (vI s_7) ?_))))))
    obtain ⟨b_13,hy_14,hc_8⟩:=bind_some hc_8
    refine kN un9 rfl rfl hy_14 wz (aa (.d (.int .u8 (b_13.toNat:Int))) (ah (ak ?_)))
    obtain ⟨v_15,h_16,hc_8⟩:=bind_some hc_8
    refine aQ [(0,(vS s_1)),(3,(vI s_7)),(40,(vB v_15))] [] ?_ ?_
    ·refine au (aa (.d (.int .u8 (b_13.toNat:Int))) (aa (vB (decide ((b_13.toNat:Int)>=97))) ?_))
     rcases aj h_16 with⟨hc_17,h_16⟩|⟨hc_17,h_16⟩
     ·refine aC rfl hc_17 wz (aG (.d (.int .u8 (b_13.toNat:Int))) wa rfl (aG (vB (decide ((b_13.toNat:Int)<=122))) wa rfl (aa (vB (decide ((b_13.toNat:Int)<=122))) ?_)))
      rcases aj h_16 with⟨hc_18,h_16⟩|⟨hc_18,h_16⟩
      ·refine aC rfl hc_18 wz (af (af (af (aY (wn rfl rfl) (aY (wn rfl rfl) (aY (wn rfl rfl) (aY (wn rfl rfl) (aY (wn rfl rfl) (aY (wn rfl rfl) (aY (wn rfl rfl) (aY (wn rfl rfl) (aY (wn rfl rfl) (aY (wn rfl rfl) (aY (wn rfl rfl) (aY (wn rfl rfl) (aY (wn rfl rfl) (aY (wn rfl rfl) (af (aa (vB true) (aa (vB false) (ah ?_)))))))))))))))))))))
       obtain rfl:=ae h_16
       exact cu
      ·refine aC rfl hc_18 wz (aG (vI s_7) wa rfl (aG (vB (decide (s_7>0))) wa rfl ?_))
       rcases aj h_16 with⟨hc_19,h_16⟩|⟨hc_19,h_16⟩
       ·refine aC rfl hc_19 wa (aG (.d (.int .u8 (b_13.toNat:Int))) wa rfl (aG (vB (decide ((b_13.toNat:Int)>=48))) wa rfl ?_))
        rcases aj h_16 with⟨hc_20,h_16⟩|⟨hc_20,h_16⟩
        ·refine aC rfl hc_20 wa (aG (.d (.int .u8 (b_13.toNat:Int))) wa rfl (aG (vB (decide ((b_13.toNat:Int)<=57))) wa rfl (aG (vB (decide ((b_13.toNat:Int)<=57))) wa rfl ?_)))
         rcases aj h_16 with⟨hc_21,h_16⟩|⟨hc_21,h_16⟩
         ·refine aC rfl hc_21 wa (af (af (aG (vB true) wa rfl (aG (vB true) wa rfl (af (af (aG (vB true) wa rfl (aG (vB true) wa rfl (aa (vB true) (aa (vB false) (ah ?_)))))))))))
          obtain rfl:=ae h_16
          exact cu
         ·refine aC rfl hc_21 wa (aG (.d (.int .u8 (b_13.toNat:Int))) wa rfl (aG (vB ((b_13.toNat:Int)==45)) wa rfl (aG (vB ((b_13.toNat:Int)==45)) wa rfl ?_)))
          rcases aj h_16 with⟨hc_22,h_16⟩|⟨hc_22,h_16⟩
          ·refine aC rfl hc_22 wa (af (af (aG (vB true) wa rfl (aG (vB true) wa rfl (aa (vB true) (aa (vB false) (ah ?_)))))))
           obtain rfl:=ae h_16
           exact cu
          ·refine aC rfl hc_22 wa (aG (.d (.int .u8 (b_13.toNat:Int))) wa rfl (aG (vB ((b_13.toNat:Int)==95)) wa rfl (aG (vB ((b_13.toNat:Int)==95)) wa rfl (aG (vB ((b_13.toNat:Int)==95)) wa rfl (aa (vB ((b_13.toNat:Int)==95)) (aa (vB (!((b_13.toNat:Int)==95))) (ah ?_)))))))
           obtain rfl:=ae h_16
           exact cu
        ·refine aC rfl hc_20 wa (af (af (aG (vB false) wa rfl (aG (vB false) wa rfl (aG (.d (.int .u8 (b_13.toNat:Int))) wa rfl (aG (vB ((b_13.toNat:Int)==45)) wa rfl (aG (vB ((b_13.toNat:Int)==45)) wa rfl ?_)))))))
         rcases aj h_16 with⟨hc_23,h_16⟩|⟨hc_23,h_16⟩
         ·refine aC rfl hc_23 wa (af (af (aG (vB true) wa rfl (aG (vB true) wa rfl (aa (vB true) (aa (vB false) (ah ?_)))))))
          obtain rfl:=ae h_16
          exact cu
         ·refine aC rfl hc_23 wa (aG (.d (.int .u8 (b_13.toNat:Int))) wa rfl (aG (vB ((b_13.toNat:Int)==95)) wa rfl (aG (vB ((b_13.toNat:Int)==95)) wa rfl (aG (vB ((b_13.toNat:Int)==95)) wa rfl (aa (vB ((b_13.toNat:Int)==95)) (aa (vB (!((b_13.toNat:Int)==95))) (ah ?_)))))))
          obtain rfl:=ae h_16
          exact cu
       ·refine aC rfl hc_19 wa (af (af (af (aY (wn rfl rfl) (aY (wn rfl rfl) (af (af (aY (wn rfl rfl) (aY (wn rfl rfl) (af (af (aY (wn rfl rfl) (aY (wn rfl rfl) (af (aG (vB false) wa rfl (aa (vB false) (aa (vB true) (ah ?_))))))))))))))))))
        obtain rfl:=ae h_16
        exact cu
     ·refine aC rfl hc_17 wz (af (af (aa (vB false) (aa (vB false) (aG (vI s_7) wa rfl (aG (vB (decide (s_7>0))) wa rfl ?_))))))
      rcases aj h_16 with⟨hc_24,h_16⟩|⟨hc_24,h_16⟩
      ·refine aC rfl hc_24 wa (aG (.d (.int .u8 (b_13.toNat:Int))) wa rfl (aG (vB (decide ((b_13.toNat:Int)>=48))) wa rfl ?_))
       rcases aj h_16 with⟨hc_25,h_16⟩|⟨hc_25,h_16⟩
       ·refine aC rfl hc_25 wa (aG (.d (.int .u8 (b_13.toNat:Int))) wa rfl (aG (vB (decide ((b_13.toNat:Int)<=57))) wa rfl (aG (vB (decide ((b_13.toNat:Int)<=57))) wa rfl ?_)))
        rcases aj h_16 with⟨hc_26,h_16⟩|⟨hc_26,h_16⟩
        ·refine aC rfl hc_26 wa (af (af (aG (vB true) wa rfl (aG (vB true) wa rfl (af (af (aG (vB true) wa rfl (aG (vB true) wa rfl (aa (vB true) (aa (vB false) (ah ?_)))))))))))
         obtain rfl:=ae h_16
         exact cu
        ·refine aC rfl hc_26 wa (aG (.d (.int .u8 (b_13.toNat:Int))) wa rfl (aG (vB ((b_13.toNat:Int)==45)) wa rfl (aG (vB ((b_13.toNat:Int)==45)) wa rfl ?_)))
         rcases aj h_16 with⟨hc_27,h_16⟩|⟨hc_27,h_16⟩
         ·refine aC rfl hc_27 wa (af (af (aG (vB true) wa rfl (aG (vB true) wa rfl (aa (vB true) (aa (vB false) (ah ?_)))))))
          obtain rfl:=ae h_16
          exact cu
         ·refine aC rfl hc_27 wa (aG (.d (.int .u8 (b_13.toNat:Int))) wa rfl (aG (vB ((b_13.toNat:Int)==95)) wa rfl (aG (vB ((b_13.toNat:Int)==95)) wa rfl (aG (vB ((b_13.toNat:Int)==95)) wa rfl (aa (vB ((b_13.toNat:Int)==95)) (aa (vB (!((b_13.toNat:Int)==95))) (ah ?_)))))))
          obtain rfl:=ae h_16
          exact cu
       ·refine aC rfl hc_25 wa (af (af (aG (vB false) wa rfl (aG (vB false) wa rfl (aG (.d (.int .u8 (b_13.toNat:Int))) wa rfl (aG (vB ((b_13.toNat:Int)==45)) wa rfl (aG (vB ((b_13.toNat:Int)==45)) wa rfl ?_)))))))
        rcases aj h_16 with⟨hc_28,h_16⟩|⟨hc_28,h_16⟩
        ·refine aC rfl hc_28 wa (af (af (aG (vB true) wa rfl (aG (vB true) wa rfl (aa (vB true) (aa (vB false) (ah ?_)))))))
         obtain rfl:=ae h_16
         exact cu
        ·refine aC rfl hc_28 wa (aG (.d (.int .u8 (b_13.toNat:Int))) wa rfl (aG (vB ((b_13.toNat:Int)==95)) wa rfl (aG (vB ((b_13.toNat:Int)==95)) wa rfl (aG (vB ((b_13.toNat:Int)==95)) wa rfl (aa (vB ((b_13.toNat:Int)==95)) (aa (vB (!((b_13.toNat:Int)==95))) (ah ?_)))))))
         obtain rfl:=ae h_16
         exact cu
      ·refine aC rfl hc_24 wa (af (af (af (aY (wn rfl rfl) (aY (wn rfl rfl) (af (af (aY (wn rfl rfl) (aY (wn rfl rfl) (af (af (aY (wn rfl rfl) (aY (wn rfl rfl) (af (aG (vB false) wa rfl (aa (vB false) (aa (vB true) (ah ?_))))))))))))))))))
       obtain rfl:=ae h_16
       exact cu
    ·rintro ⟨⟩ _ sl_ H_ hp_ hq_
     refine aO _ hp_ hq_ ?_
     rcases aj hc_8 with⟨hc_29,hc_8⟩|⟨hc_29,hc_8⟩
     ·refine aB rfl hc_29 (ai (aa (vB false) (ah ?_)))
      obtain rfl:=ae hc_8
      obtain rfl:=ae hL_9
      obtain rfl:=ae hF
      exact ay (aK [(vB false)] ⟨rfl,trivial⟩)
     ·refine aA rfl hc_29 (av (au (aa (vI s_7) (aa (vI (w64 (s_7+1))) (aa (vI (w64 (s_7+1))) (ah ?_))))))
      obtain rfl:=ae hc_8
      exact aU (k_2,(w64 (s_7+1))) hL_9 (ls_ _) rfl (aL rfl)
   ·refine aA rfl hc_12 (aV ?_)
    obtain rfl:=ae hc_8
    obtain rfl:=ae hL_9
    exact aS (s_7) rfl rfl (aL rfl)
 ·rintro s_7 ho_ sl_ H_ hp_ hq_
  subst ho_
  refine aO _ hp_ hq_ (ak ?_)
  obtain ⟨v_30,h_31,hF⟩:=bind_some hF
  refine aQ [(2,(vB v_30))] [] ?_ ?_
  ·refine au (aa (vS s_1) (aa (vB (sNe s_1 (⟨#[]⟩:ByteArray))) ?_))
   rcases aj h_31 with⟨hc_32,h_31⟩|⟨hc_32,h_31⟩
   ·refine aC rfl hc_32 wz (aG (vS s_1) wa rfl (nZ un9 rfl wa (aG (vB (decide ((s_1.size:Int)<=40))) wa rfl (aa (vB (decide ((s_1.size:Int)<=40))) (aa (vB (decide ((s_1.size:Int)<=40))) (ah ?_))))))
    obtain rfl:=ae h_31
    exact cu
   ·refine aC rfl hc_32 wz (af (af (af (aa (vB false) (aa (vB false) (ah ?_))))))
    obtain rfl:=ae h_31
    exact cu
  ·rintro ⟨⟩ _ sl_ H_ hp_ hq_
   refine aO _ hp_ hq_ ?_
   obtain rfl:=ae hF
   exact ay (aK [(vB v_30)] ⟨rfl,trivial⟩)
theorem tV {wv_1:Window} {r:Bool} (hF:jb wv_1=some r) :
  FnM Tryz.prog 57 [(.d (.agg (Window.enc wv_1)))] [] (vB r) []:=by
 refine FnM.of_wH ⟨Tryz.prog,18,[],[]⟩ rfl Tryz.func57 rfl rfl (lb_ rfl) (by kernel_rfl) ?_
 unfold jb at hF
 refine ai (ig 0 (.inl rfl) [(vI wv_1.From),(vI wv_1.To)] rfl rfl wz (λn_2=>aa (vB false) (ah (ak ?_))))
 obtain ⟨v_3,h_4,hF⟩:=bind_some hF
 refine aQ [(2,(vB v_3))] [(n_2,some (.cells 2 [(vI wv_1.From),(vI wv_1.To)]))] ?_ ?_
 ·refine au (aH nS rfl 0 rfl wz (aF 0 0 il ft sz3 ag3 rfl rfl (vI wv_1.From) rfl wz (aa (vB (decide (wv_1.From>=0))) ?_)))
  rcases aj h_4 with⟨hc_5,h_4⟩|⟨hc_5,h_4⟩
  ·refine aC rfl hc_5 wz (aH nS rfl 0 rfl wa (aF 0 0 il ft sz3 ag3 rfl rfl (vI wv_1.From) rfl wa (aH nN rfl 1 rfl wa (aF 0 0 il ft sz3 ag3 rfl rfl (vI wv_1.To) rfl wa (aG (vB (decide (wv_1.From<wv_1.To))) wa rfl (aa (vB (decide (wv_1.From<wv_1.To))) ?_))))))
   rcases aj h_4 with⟨hc_6,h_4⟩|⟨hc_6,h_4⟩
   ·refine aC rfl hc_6 wz (aH nN rfl 1 rfl wa (aF 0 0 il ft sz3 ag3 rfl rfl (vI wv_1.To) rfl wa (aG (vB (decide (wv_1.To<=345686400000))) wa rfl (aa (vB (decide (wv_1.To<=345686400000))) (aa (vB (decide (wv_1.To<=345686400000))) (ah ?_))))))
    obtain rfl:=ae h_4
    exact cu
   ·refine aC rfl hc_6 wz (af (af (af (aa (vB false) (aa (vB false) (ah ?_))))))
    obtain rfl:=ae h_4
    exact cu
  ·refine aC rfl hc_5 wz (af (af (af (af (af (aa (vB false) (aa (vB false) (af (af (af (aa (vB false) (aa (vB false) (ah ?_)))))))))))))
   obtain rfl:=ae h_4
   exact cu
 ·rintro ⟨⟩ _ sl_ H_ hp_ hq_
  refine aO _ hp_ hq_ ?_
  obtain rfl:=ae hF
  exact ay (aK [(vB v_3)] ⟨rfl,trivial⟩)
theorem bn {n_1:Int} {low_2:Int} {high_3:Int} {r:Bool} (hF:aR n_1 low_2 high_3=some r) :
  FnM Tryz.prog 42 [(vI n_1),(vI low_2),(vI high_3)] [] (vB r) []:=by
 refine FnM.of_wH ⟨Tryz.prog,15,[],[]⟩ rfl Tryz.func42 rfl rfl (lb_ rfl) (by kernel_rfl) ?_
 unfold aR at hF
 refine ai (aa (vB false) (ah (ak ?_)))
 obtain ⟨v_4,h_5,hF⟩:=bind_some hF
 refine aQ [(6,(vB v_4))] [] ?_ ?_
 ·refine au (aa (vI n_1) (aa (vI low_2) (aa (vB (decide (n_1<low_2))) ?_)))
  rcases aj h_5 with⟨hc_6,h_5⟩|⟨hc_6,h_5⟩
  ·refine aC rfl hc_6 wz (af (af (af (aa (vB true) (aa (vB true) (ah ?_))))))
   obtain rfl:=ae h_5
   exact cu
  ·refine aC rfl hc_6 wz (aG (vI n_1) wa rfl (aG (vI high_3) wa rfl (aG (vB (decide (n_1>high_3))) wa rfl (aa (vB (decide (n_1>high_3))) (aa (vB (decide (n_1>high_3))) (ah ?_))))))
   obtain rfl:=ae h_5
   exact cu
 ·rintro ⟨⟩ _ sl_ H_ hp_ hq_
  refine aO _ hp_ hq_ ?_
  obtain rfl:=ae hF
  exact ay (aK [(vB v_4)] ⟨rfl,trivial⟩)
theorem su {l_1:(List ByteArray)} {r:Int} (hF:iG l_1=some r) :
  FnM Tryz.prog 83 [(vL eS l_1)] [] (vI r) []:=by
 refine FnM.of_wH ⟨Tryz.prog,27,[],[]⟩ rfl Tryz.func83 rfl rfl (lb_ rfl) (by kernel_rfl) ?_
 unfold iG at hF
 refine ai (aa (vI 0) (ah (ak (ai (aa (vL eS l_1) (bR Ac rfl wz (aa (vI 0) (ah ?_))))))))
 obtain ⟨o_10,hj_11,hF⟩:=bind_some hF
 obtain ⟨hn_6,hj_11⟩:=bf hj_11
 refine cz (λ(s_7:Unit)=>[]) (λ(s_7:Unit)=>[]) (λ(k_2:Nat)=>(λ(s_7:Unit)=>[(0,(vL eS l_1)),(5,(vL eS l_1)),(6,(vI (l_1.length:Int))),(7,(vI (k_2:Int)))])) (λk x s=>gP l_1 k x s) o_10 l_1 () hj_11 rfl (aL rfl) ?_ ?_
 ·rintro ⟨k_2,l_3,s_7⟩ ⟨hL_9,hD_5⟩
  dsimp only at hL_9 hD_5
  cases l_3 with
  | nil =>
   obtain rfl:=ae hL_9
   refine ai (aa (vB (decide ((k_2:Int)<(l_1.length:Int)))) (ah ?_))
   refine ak (aA rfl (drop_nil hD_5) (aV ?_))
   exact aS (s_7) rfl rfl (aL rfl)
  | cons x_4 l_3 =>
   obtain ⟨c_,hc_8,hL_9⟩:=bind_some hL_9
   refine ai (aa (vB (decide ((k_2:Int)<(l_1.length:Int)))) (ah ?_))
   refine ak (aB rfl (bv hD_5) (av ?_))
   unfold gP at hc_8
   refine ak (aM (ai (aa (vI (k_2:Int)) (dD uP rfl rfl (bI hD_5) rfl wz (bE sz9 ag9 rfl (vS x_4) rfl wz (aa (vI (k_2:Int)) (aa (vS x_4) (ah (ak (ai (aa (vS x_4) ?_)))))))))))
   obtain ⟨r_12,hr_13,hc_8⟩:=bind_some hc_8
   refine aD (fD hr_13) rfl CF rfl rfl rfl rfl wz (aa (vB (!r_12)) (ah ?_))
   rcases aj hc_8 with⟨hc_14,hc_8⟩|⟨hc_14,hc_8⟩
   ·refine aB rfl hc_14 (ai (aa (vI 5) (ah ?_)))
    obtain rfl:=ae hc_8
    obtain rfl:=ae hL_9
    obtain rfl:=ae hF
    exact ay (aK [(vI 5)] ⟨rfl,trivial⟩)
   ·refine aA rfl hc_14 (av (ak ?_))
    obtain ⟨v_15,h_16,hc_8⟩:=bind_some hc_8
    refine aQ [(0,(vL eS l_1)),(5,(vL eS l_1)),(6,(vI (l_1.length:Int))),(7,(vI (k_2:Int))),(25,(vB v_15))] [] ?_ ?_
    ·refine au (aa (vI (k_2:Int)) (aa (vB (decide ((k_2:Int)>0))) ?_))
     rcases aj h_16 with⟨hc_17,h_16⟩|⟨hc_17,h_16⟩
     ·refine aC rfl hc_17 wz (aG (vS x_4) wa rfl (aG (vL eS l_1) wa rfl (aG (vI (k_2:Int)) wa rfl (aG (vI (w64 ((k_2:Int)-1))) wa rfl ?_))))
      obtain ⟨y_18,hy_19,h_16⟩:=bind_some h_16
      refine dD uP rfl rfl hy_19 rfl wa (bE sz9 ag9 rfl (vS y_18) rfl wa (aG (vB (sLe x_4 y_18)) wa rfl (aa (vB (sLe x_4 y_18)) (ah ?_))))
      obtain rfl:=ae h_16
      exact cu
     ·refine aC rfl hc_17 wz (af (af (af (af (af (af (af (aa (vB false) (ah ?_)))))))))
      obtain rfl:=ae h_16
      exact cu
    ·rintro ⟨⟩ _ sl_ H_ hp_ hq_
     refine aO _ hp_ hq_ ?_
     rcases aj hc_8 with⟨hc_20,hc_8⟩|⟨hc_20,hc_8⟩
     ·refine aB rfl hc_20 (ai (aa (vI 7) (ah ?_)))
      obtain rfl:=ae hc_8
      obtain rfl:=ae hL_9
      obtain rfl:=ae hF
      exact ay (aK [(vI 7)] ⟨rfl,trivial⟩)
     ·refine aA rfl hc_20 (av (au (dS (bC hD_5 hn_6) wz rfl (aa (vI ((k_2+1:Nat):Int)) (ah ?_)))))
      obtain rfl:=ae hc_8
      exact aU (k_2+1,l_3,()) ⟨hL_9,aX hD_5⟩ (ls_ _) rfl (aL rfl)
 ·rintro s_7 ho_ sl_ H_ hp_ hq_
  subst ho_
  refine aO _ hp_ hq_ (ai (aa (vI 0) (ah ?_)))
  obtain rfl:=ae hF
  exact ay (aK [(vI 0)] ⟨rfl,trivial⟩)
theorem qw {l_1:(List ByteArray)} {r:Int} (hF:fq l_1=some r) :
  FnM Tryz.prog 58 [(vL eS l_1)] [] (vI r) []:=by
 refine FnM.of_wH ⟨Tryz.prog,8,[],[]⟩ rfl Tryz.func58 rfl rfl (lb_ rfl) (by kernel_rfl) ?_
 unfold fq at hF
 refine ai (aa (vI 0) (ah (ak (ai (aa (vL eS l_1) (bR Ac rfl wz (aa (vB (decide ((l_1.length:Int)>20))) (ah ?_))))))))
 rcases aj hF with⟨hc_2,hF⟩|⟨hc_2,hF⟩
 ·refine aB rfl hc_2 (ai (aa (vI 2) (ah ?_)))
  obtain rfl:=ae hF
  exact ay (aK [(vI 2)] ⟨rfl,trivial⟩)
 ·refine aA rfl hc_2 (av (ai (aa (vL eS l_1) ?_)))
  obtain ⟨r_3,hr_4,hF⟩:=bind_some hF
  refine aD (su hr_4) rfl hb83 rfl rfl rfl rfl wz (aa (vI r_3) (ah ?_))
  obtain rfl:=ae hF
  exact ay (aK [(vI r_3)] ⟨rfl,trivial⟩)
theorem xg {l_1:(List Spot)} {r:Int} (hF:jd l_1=some r) :
  FnM Tryz.prog 34 [(vL Spot.enc l_1)] [] (vI r) []:=by
 refine FnM.of_wH ⟨Tryz.prog,52,[],[]⟩ rfl Tryz.func34 rfl rfl (lb_ rfl) (by kernel_rfl) ?_
 unfold jd at hF
 refine ai (aa (vI 0) (ah (ak (ai (aa (vL Spot.enc l_1) (bR Jc rfl wz (aa (vB (decide ((l_1.length:Int)>60))) (ah ?_))))))))
 rcases aj hF with⟨hc_2,hF⟩|⟨hc_2,hF⟩
 ·refine aB rfl hc_2 (ai (aa (vI 2) (ah ?_)))
  obtain rfl:=ae hF
  exact ay (aK [(vI 2)] ⟨rfl,trivial⟩)
 ·refine aA rfl hc_2 (av (ak (ai (aa (vL Spot.enc l_1) (bR Jc rfl wz (aa (vI 0) (ah ?_)))))))
  obtain ⟨o_11,hj_12,hF⟩:=bind_some hF
  obtain ⟨hn_7,hj_12⟩:=bf hj_12
  refine cz (λ(s_8:Unit)=>[]) (λ(s_8:Unit)=>[]) (λ(k_3:Nat)=>(λ(s_8:Unit)=>[(0,(vL Spot.enc l_1)),(9,(vL Spot.enc l_1)),(10,(vI (l_1.length:Int))),(11,(vI (k_3:Int)))])) (λk x s=>jo l_1 k x s) o_11 l_1 () hj_12 rfl (aL rfl) ?_ ?_
  ·rintro ⟨k_3,l_4,s_8⟩ ⟨hL_10,hD_6⟩
   dsimp only at hL_10 hD_6
   cases l_4 with
   | nil =>
    obtain rfl:=ae hL_10
    refine ai (aa (vB (decide ((k_3:Int)<(l_1.length:Int)))) (ah ?_))
    refine ak (aA rfl (drop_nil hD_6) (aV ?_))
    exact aS (s_8) rfl rfl (aL rfl)
   | cons x_5 l_4 =>
    obtain ⟨c_,hc_9,hL_10⟩:=bind_some hL_10
    refine ai (aa (vB (decide ((k_3:Int)<(l_1.length:Int)))) (ah ?_))
    refine ak (aB rfl (bv hD_6) (av ?_))
    unfold jo at hc_9
    refine ak (aM (ai (aa (vI (k_3:Int)) (dD FC rfl rfl (bI hD_6) rfl wz (bE xS Ea rfl (.d (.agg (Spot.enc x_5))) rfl wz (dB 0 (.inl rfl) z51 rfl wz (λn_13=>aa (vI (k_3:Int)) (fE 0 il ft 0 xS rfl rfl (Spot.v x_5) rfl wz (ah (ak (aM (ai (aH Bq rfl 0 rfl wz (aF 0 0 il ft sz9 ag9 rfl rfl (vS x_5.Key) rfl wz ?_))))))))))))))
    obtain ⟨r_14,hr_15,hc_9⟩:=bind_some hc_9
    refine aD (fD hr_15) rfl CF rfl rfl rfl rfl wz (aa (vB (!r_14)) (aa (vB (!r_14)) (ah ?_)))
    rcases aj hc_9 with⟨hc_16,hc_9⟩|⟨hc_16,hc_9⟩
    ·refine aB rfl hc_16 (ai (aa (vI 5) (ah ?_)))
     obtain rfl:=ae hc_9
     obtain rfl:=ae hL_10
     obtain rfl:=ae hF
     exact ay (aK [(vI 5)] ⟨rfl,trivial⟩)
    ·refine aA rfl hc_16 (ak ?_)
     obtain ⟨v_17,h_18,hc_9⟩:=bind_some hc_9
     refine aQ [(0,(vL Spot.enc l_1)),(4,(.ref n_13 0 0)),(9,(vL Spot.enc l_1)),(10,(vI (l_1.length:Int))),(11,(vI (k_3:Int))),(21,(vB v_17))] [(n_13,some (.cells 5 (Spot.v x_5)))] ?_ ?_
     ·refine bB (aa (vI (k_3:Int)) (aa (vB (decide ((k_3:Int)>0))) ?_))
      rcases aj h_18 with⟨hc_19,h_18⟩|⟨hc_19,h_18⟩
      ·refine aC rfl hc_19 wz (aH Bq rfl 0 rfl wa (aF 4 0 (.inr (by kernel_rfl)) (λ_ _ ag=>trivial) sz9 ag9 rfl rfl (vS x_5.Key) rfl wa (aG (vL Spot.enc l_1) wa rfl (aG (vI (k_3:Int)) wa rfl (aG (vI (w64 ((k_3:Int)-1))) wa rfl ?_)))))
       obtain ⟨y_20,hy_21,h_18⟩:=bind_some h_18
       refine dD FC rfl rfl hy_21 rfl wa (oz Bq rfl [.str y_20.Key,.int .i64 y_20.Time.From,.int .i64 y_20.Time.To,.int .i64 y_20.Room,dl eS y_20.Tags] rfl rfl wa (bE sz9 ag9 rfl (vS y_20.Key) rfl wa (aG (vB (sLe x_5.Key y_20.Key)) wa rfl (aa (vB (sLe x_5.Key y_20.Key)) (aa (vB (sLe x_5.Key y_20.Key)) (ah ?_))))))
       obtain rfl:=ae h_18
       exact cu
      ·refine aC rfl hc_19 wz (af (af (af (af (af (af (af (af (af (aa (vB false) (aa (vB false) (ah ?_))))))))))))
       obtain rfl:=ae h_18
       exact cu
     ·rintro ⟨⟩ _ sl_ H_ hp_ hq_
      refine aO _ hp_ hq_ ?_
      rcases aj hc_9 with⟨hc_22,hc_9⟩|⟨hc_22,hc_9⟩
      ·refine aB rfl hc_22 (ai (aa (vI 7) (ah ?_)))
       obtain rfl:=ae hc_9
       obtain rfl:=ae hL_10
       obtain rfl:=ae hF
       exact ay (aK [(vI 7)] ⟨rfl,trivial⟩)
      ·refine aA rfl hc_22 (ak ?_)
       obtain ⟨v_23,h_24,hc_9⟩:=bind_some hc_9
       refine aQ [(0,(vL Spot.enc l_1)),(4,(.ref n_13 0 0)),(9,(vL Spot.enc l_1)),(10,(vI (l_1.length:Int))),(11,(vI (k_3:Int))),(35,(vB v_23))] [(n_13,some (.cells 5 (Spot.v x_5)))] ?_ ?_
       ·refine au (aH Lj rfl 1 rfl wz (aF 0 0 il ft yP FI rfl rfl (.d (.agg (Window.enc x_5.Time))) rfl wz ?_))
        obtain ⟨r_25,hr_26,h_24⟩:=bind_some h_24
        refine aD (tV hr_26) rfl hb57 rfl rfl rfl rfl wz (aa (vB (!r_25)) ?_)
        rcases aj h_24 with⟨hc_27,h_24⟩|⟨hc_27,h_24⟩
        ·refine aC rfl hc_27 wz (af (af (af (aa (vB true) (aa (vB true) (ah ?_))))))
         obtain rfl:=ae h_24
         exact cu
        ·refine aC rfl hc_27 wz (aH KD rfl 3 rfl wa (aF 0 0 il ft sz3 ag3 rfl rfl (vI x_5.Room) rfl wa ?_))
         obtain ⟨r_28,hr_29,h_24⟩:=bind_some h_24
         refine aD (bn hr_29) rfl qM rfl rfl rfl rfl wa (aa (vB r_28) (aa (vB r_28) (ah ?_)))
         obtain rfl:=ae h_24
         exact cu
       ·rintro ⟨⟩ _ sl_ H_ hp_ hq_
        refine aO _ hp_ hq_ ?_
        rcases aj hc_9 with⟨hc_30,hc_9⟩|⟨hc_30,hc_9⟩
        ·refine aB rfl hc_30 (ai (aa (vI 1) (ah ?_)))
         obtain rfl:=ae hc_9
         obtain rfl:=ae hL_10
         obtain rfl:=ae hF
         exact ay (aK [(vI 1)] ⟨rfl,trivial⟩)
        ·refine aA rfl hc_30 (av (ai (aH Hr rfl 4 rfl wz (aF 0 0 il ft Ba Ez rfl rfl (vL eS x_5.Tags) rfl wz ?_))))
         obtain ⟨r_31,hr_32,hc_9⟩:=bind_some hc_9
         refine aD (qw hr_32) rfl hb58 rfl rfl rfl rfl wz (aa (vI r_31) (ah (ai (aa (vI r_31) (aa (vB (r_31 != 0)) (ah ?_))))))
         rcases aj hc_9 with⟨hc_33,hc_9⟩|⟨hc_33,hc_9⟩
         ·refine aB rfl hc_33 (ai (aa (vI r_31) (aa (vI r_31) (ah ?_))))
          obtain rfl:=ae hc_9
          obtain rfl:=ae hL_10
          obtain rfl:=ae hF
          exact ay (aK [(vI r_31)] ⟨rfl,trivial⟩)
         ·refine aA rfl hc_33 (av (au (dS (bC hD_6 hn_7) wz rfl (aa (vI ((k_3+1:Nat):Int)) (ah ?_)))))
          obtain rfl:=ae hc_9
          exact aU (k_3+1,l_4,()) ⟨hL_10,aX hD_6⟩ (ls_ _) rfl (aL rfl)
  ·rintro s_8 ho_ sl_ H_ hp_ hq_
   subst ho_
   refine aO _ hp_ hq_ (ai (aa (vI 0) (ah ?_)))
   obtain rfl:=ae hF
   exact ay (aK [(vI 0)] ⟨rfl,trivial⟩)
theorem mW {l_1:(List Campaign)} {r:Int} (hF:dE l_1=some r) :
  FnM Tryz.prog 35 [(vL Campaign.enc l_1)] [] (vI r) []:=by
 refine FnM.of_wH ⟨Tryz.prog,73,[],[]⟩ rfl Tryz.func35 rfl rfl (lb_ rfl) (by kernel_rfl) ?_
 unfold dE at hF
 refine ai (aa (vI 0) (ah (ak (ai (aa (vL Campaign.enc l_1) (bR FJ rfl wz (aa (vB (decide ((l_1.length:Int)>30))) (ah ?_))))))))
 rcases aj hF with⟨hc_2,hF⟩|⟨hc_2,hF⟩
 ·refine aB rfl hc_2 (ai (aa (vI 2) (ah ?_)))
  obtain rfl:=ae hF
  exact ay (aK [(vI 2)] ⟨rfl,trivial⟩)
 ·refine aA rfl hc_2 (av (ak (ai (aa (vL Campaign.enc l_1) (bR FJ rfl wz (aa (vI 0) (ah ?_)))))))
  obtain ⟨o_11,hj_12,hF⟩:=bind_some hF
  obtain ⟨hn_7,hj_12⟩:=bf hj_12
  refine cz (λ(s_8:Unit)=>[]) (λ(s_8:Unit)=>[]) (λ(k_3:Nat)=>(λ(s_8:Unit)=>[(0,(vL Campaign.enc l_1)),(9,(vL Campaign.enc l_1)),(10,(vI (l_1.length:Int))),(11,(vI (k_3:Int)))])) (λk x s=>dJ l_1 k x s) o_11 l_1 () hj_12 rfl (aL rfl) ?_ ?_
  ·rintro ⟨k_3,l_4,s_8⟩ ⟨hL_10,hD_6⟩
   dsimp only at hL_10 hD_6
   cases l_4 with
   | nil =>
    obtain rfl:=ae hL_10
    refine ai (aa (vB (decide ((k_3:Int)<(l_1.length:Int)))) (ah ?_))
    refine ak (aA rfl (drop_nil hD_6) (aV ?_))
    exact aS (s_8) rfl rfl (aL rfl)
   | cons x_5 l_4 =>
    obtain ⟨c_,hc_9,hL_10⟩:=bind_some hL_10
    refine ai (aa (vB (decide ((k_3:Int)<(l_1.length:Int)))) (ah ?_))
    refine ak (aB rfl (bv hD_6) (av ?_))
    unfold dJ at hc_9
    refine ak (aM (ai (aa (vI (k_3:Int)) (dD Bw rfl rfl (bI hD_6) rfl wz (bE uC Ar rfl (.d (.agg (Campaign.enc x_5))) rfl wz (dB 0 (.inl rfl) z42 rfl wz (λn_13=>aa (vI (k_3:Int)) (fE 0 il ft 0 uC rfl rfl (Campaign.v x_5) rfl wz (ah (ak (aM (ak ?_))))))))))))
    obtain ⟨v_14,h_15,hc_9⟩:=bind_some hc_9
    refine aQ [(0,(vL Campaign.enc l_1)),(3,(vI (k_3:Int))),(4,(.ref n_13 0 0)),(9,(vL Campaign.enc l_1)),(10,(vI (l_1.length:Int))),(11,(vI (k_3:Int))),(16,(vB v_14))] [(n_13,some (.cells 8 (Campaign.v x_5)))] ?_ ?_
    ·refine au (aH Bv rfl 0 rfl wz (aF 0 0 il ft sz9 ag9 rfl rfl (vS x_5.Key) rfl wz ?_))
     obtain ⟨r_16,hr_17,h_15⟩:=bind_some h_15
     refine aD (fD hr_17) rfl CF rfl rfl rfl rfl wz (aa (vB (!r_16)) ?_)
     rcases aj h_15 with⟨hc_18,h_15⟩|⟨hc_18,h_15⟩
     ·refine aC rfl hc_18 wz (af (af (af (af (aY (wn rfl rfl) (aY (wn rfl rfl) (aY (wn rfl rfl) (aY (wn rfl rfl) (af (aa (vB true) (aa (vB true) (ah ?_))))))))))))
      obtain rfl:=ae h_15
      exact cu
     ·refine aC rfl hc_18 wz (aH OW rfl 1 rfl wa (aF 0 0 il ft sz9 ag9 rfl rfl (vS x_5.Class) rfl wa (aG (vB (sNe x_5.Class (⟨#[]⟩:ByteArray))) wa rfl ?_)))
      rcases aj h_15 with⟨hc_19,h_15⟩|⟨hc_19,h_15⟩
      ·refine aC rfl hc_19 wa (aH OW rfl 1 rfl wa (aF 0 0 il ft sz9 ag9 rfl rfl (vS x_5.Class) rfl wa ?_))
       obtain ⟨r_20,hr_21,h_15⟩:=bind_some h_15
       refine aD (fD hr_21) rfl CF rfl rfl rfl rfl wa (aG (vB (!r_20)) wa rfl (aG (vB (!r_20)) wa rfl (aa (vB (!r_20)) (aa (vB (!r_20)) (ah ?_)))))
       obtain rfl:=ae h_15
       exact cu
      ·refine aC rfl hc_19 wa (af (af (af (af (aG (vB false) wa rfl (aa (vB false) (aa (vB false) (ah ?_))))))))
       obtain rfl:=ae h_15
       exact cu
    ·rintro ⟨⟩ _ sl_ H_ hp_ hq_
     refine aO _ hp_ hq_ ?_
     rcases aj hc_9 with⟨hc_22,hc_9⟩|⟨hc_22,hc_9⟩
     ·refine aB rfl hc_22 (ai (aa (vI 5) (ah ?_)))
      obtain rfl:=ae hc_9
      obtain rfl:=ae hL_10
      obtain rfl:=ae hF
      exact ay (aK [(vI 5)] ⟨rfl,trivial⟩)
     ·refine aA rfl hc_22 (ak ?_)
      obtain ⟨v_23,h_24,hc_9⟩:=bind_some hc_9
      refine aQ [(0,(vL Campaign.enc l_1)),(4,(.ref n_13 0 0)),(9,(vL Campaign.enc l_1)),(10,(vI (l_1.length:Int))),(11,(vI (k_3:Int))),(32,(vB v_23))] [(n_13,some (.cells 8 (Campaign.v x_5)))] ?_ ?_
      ·refine bB (aa (vI (k_3:Int)) (aa (vB (decide ((k_3:Int)>0))) ?_))
       rcases aj h_24 with⟨hc_25,h_24⟩|⟨hc_25,h_24⟩
       ·refine aC rfl hc_25 wz (aH Bv rfl 0 rfl wa (aF 4 0 (.inr (by kernel_rfl)) (λ_ _ ag=>trivial) sz9 ag9 rfl rfl (vS x_5.Key) rfl wa (aG (vL Campaign.enc l_1) wa rfl (aG (vI (k_3:Int)) wa rfl (aG (vI (w64 ((k_3:Int)-1))) wa rfl ?_)))))
        obtain ⟨y_26,hy_27,h_24⟩:=bind_some h_24
        refine dD Bw rfl rfl hy_27 rfl wa (oz Bv rfl (Campaign.enc y_26) rfl rfl wa (bE sz9 ag9 rfl (vS y_26.Key) rfl wa (aG (vB (sLe x_5.Key y_26.Key)) wa rfl (aa (vB (sLe x_5.Key y_26.Key)) (aa (vB (sLe x_5.Key y_26.Key)) (ah ?_))))))
        obtain rfl:=ae h_24
        exact cu
       ·refine aC rfl hc_25 wz (af (af (af (af (af (af (af (af (af (aa (vB false) (aa (vB false) (ah ?_))))))))))))
        obtain rfl:=ae h_24
        exact cu
      ·rintro ⟨⟩ _ sl_ H_ hp_ hq_
       refine aO _ hp_ hq_ ?_
       rcases aj hc_9 with⟨hc_28,hc_9⟩|⟨hc_28,hc_9⟩
       ·refine aB rfl hc_28 (ai (aa (vI 7) (ah ?_)))
        obtain rfl:=ae hc_9
        obtain rfl:=ae hL_10
        obtain rfl:=ae hF
        exact ay (aK [(vI 7)] ⟨rfl,trivial⟩)
       ·refine aA rfl hc_28 (ak ?_)
        obtain ⟨v_29,h_30,hc_9⟩:=bind_some hc_9
        refine aQ [(0,(vL Campaign.enc l_1)),(4,(.ref n_13 0 0)),(9,(vL Campaign.enc l_1)),(10,(vI (l_1.length:Int))),(11,(vI (k_3:Int))),(46,(vB v_29))] [(n_13,some (.cells 8 (Campaign.v x_5)))] ?_ ?_
        ·refine au (aH xG rfl 2 rfl wz (aF 0 0 il ft yP FI rfl rfl (.d (.agg (Window.enc x_5.Time))) rfl wz ?_))
         obtain ⟨r_31,hr_32,h_30⟩:=bind_some h_30
         refine aD (tV hr_32) rfl hb57 rfl rfl rfl rfl wz (aa (vB (!r_31)) ?_)
         rcases aj h_30 with⟨hc_33,h_30⟩|⟨hc_33,h_30⟩
         ·refine aC rfl hc_33 wz (af (af (af (aa (vB true) (aa (vB true) (af (af (af (aa (vB true) (aa (vB true) (af (af (af (aa (vB true) (aa (vB true) (ah ?_))))))))))))))))
          obtain rfl:=ae h_30
          exact cu
         ·refine aC rfl hc_33 wz (aH zI rfl 5 rfl wa (aF 0 0 il ft sz3 ag3 rfl rfl (vI x_5.Goal) rfl wa ?_))
          obtain ⟨r_34,hr_35,h_30⟩:=bind_some h_30
          refine aD (bn hr_35) rfl qM rfl rfl rfl rfl wa (aa (vB r_34) ?_)
          rcases aj h_30 with⟨hc_36,h_30⟩|⟨hc_36,h_30⟩
          ·refine aC rfl hc_36 wz (af (af (af (aa (vB true) (aa (vB true) (af (af (af (aa (vB true) (aa (vB true) (ah ?_)))))))))))
           obtain rfl:=ae h_30
           exact cu
          ·refine aC rfl hc_36 wz (aH KO rfl 6 rfl wa (aF 0 0 il ft sz3 ag3 rfl rfl (vI x_5.Most) rfl wa ?_))
           obtain ⟨r_37,hr_38,h_30⟩:=bind_some h_30
           refine aD (bn hr_38) rfl qM rfl rfl rfl rfl wa (aa (vB r_37) ?_)
           rcases aj h_30 with⟨hc_39,h_30⟩|⟨hc_39,h_30⟩
           ·refine aC rfl hc_39 wz (af (af (af (aa (vB true) (aa (vB true) (ah ?_))))))
            obtain rfl:=ae h_30
            exact cu
           ·refine aC rfl hc_39 wz (aH pl42_6 rfl 7 rfl wa (aF 0 0 il ft sz3 ag3 rfl rfl (vI x_5.Cents) rfl wa ?_))
            obtain ⟨r_40,hr_41,h_30⟩:=bind_some h_30
            refine aD (bn hr_41) rfl qM rfl rfl rfl rfl wa (aa (vB r_40) (aa (vB r_40) (ah ?_)))
            obtain rfl:=ae h_30
            exact cu
        ·rintro ⟨⟩ _ sl_ H_ hp_ hq_
         refine aO _ hp_ hq_ ?_
         rcases aj hc_9 with⟨hc_42,hc_9⟩|⟨hc_42,hc_9⟩
         ·refine aB rfl hc_42 (ai (aa (vI 1) (ah ?_)))
          obtain rfl:=ae hc_9
          obtain rfl:=ae hL_10
          obtain rfl:=ae hF
          exact ay (aK [(vI 1)] ⟨rfl,trivial⟩)
         ·refine aA rfl hc_42 (av (ai (aH Im rfl 4 rfl wz (aF 0 0 il ft Ba Ez rfl rfl (vL eS x_5.Tags) rfl wz ?_))))
          obtain ⟨r_43,hr_44,hc_9⟩:=bind_some hc_9
          refine aD (qw hr_44) rfl hb58 rfl rfl rfl rfl wz (aa (vI r_43) (ah (ai (aa (vI r_43) (aa (vB (r_43 != 0)) (ah ?_))))))
          rcases aj hc_9 with⟨hc_45,hc_9⟩|⟨hc_45,hc_9⟩
          ·refine aB rfl hc_45 (ai (aa (vI r_43) (aa (vI r_43) (ah ?_))))
           obtain rfl:=ae hc_9
           obtain rfl:=ae hL_10
           obtain rfl:=ae hF
           exact ay (aK [(vI r_43)] ⟨rfl,trivial⟩)
          ·refine aA rfl hc_45 (av (au (dS (bC hD_6 hn_7) wz rfl (aa (vI ((k_3+1:Nat):Int)) (ah ?_)))))
           obtain rfl:=ae hc_9
           exact aU (k_3+1,l_4,()) ⟨hL_10,aX hD_6⟩ (ls_ _) rfl (aL rfl)
  ·rintro s_8 ho_ sl_ H_ hp_ hq_
   subst ho_
   refine aO _ hp_ hq_ (ai (aa (vI 0) (ah ?_)))
   obtain rfl:=ae hF
   exact ay (aK [(vI 0)] ⟨rfl,trivial⟩)
theorem jI {spots_1:(List Spot)} {l_2:(List Campaign)} {r:Int} (hF:dz spots_1 l_2=some r) :
  FnM Tryz.prog 14 [(vL Spot.enc spots_1),(vL Campaign.enc l_2)] [] (vI r) []:=by
 refine FnM.of_wH ⟨Tryz.prog,13,[],[]⟩ rfl Tryz.func14 rfl rfl (lb_ rfl) (by kernel_rfl) ?_
 unfold dz at hF
 refine ai (aa (vI 0) (ah (ak (ai (aa (vL Spot.enc spots_1) ?_)))))
 obtain ⟨r_3,hr_4,hF⟩:=bind_some hF
 refine aD (xg hr_4) rfl hb34 rfl rfl rfl rfl wz (aa (vI r_3) (ah (ai (aa (vI r_3) (aa (vB (r_3 != 0)) (ah ?_))))))
 rcases aj hF with⟨hc_5,hF⟩|⟨hc_5,hF⟩
 ·refine aB rfl hc_5 (ai (aa (vI r_3) (aa (vI r_3) (ah ?_))))
  obtain rfl:=ae hF
  exact ay (aK [(vI r_3)] ⟨rfl,trivial⟩)
 ·refine aA rfl hc_5 (av (ai (aa (vL Campaign.enc l_2) ?_)))
  obtain ⟨r_6,hr_7,hF⟩:=bind_some hF
  refine aD (mW hr_7) rfl hb35 rfl rfl rfl rfl wz (aa (vI r_6) (ah ?_))
  obtain rfl:=ae hF
  exact ay (aK [(vI r_6)] ⟨rfl,trivial⟩)
theorem ng {wv_1:Web} {i_2:Int} {r:Int} (hF:gM wv_1 i_2=some r) :
  FnM Tryz.prog 20 [(.ref (ax 0) 0 0),(vI i_2)] (lc 2 1 eI [(vI wv_1.f_camps)] wv_1.f_can) (vI r) (gy 2 1 eI [(vI wv_1.f_camps)] wv_1.f_can):=by
 refine FnM.of_wHg (cs:=[(vI wv_1.f_camps)]) ⟨Tryz.prog,7,[],[]⟩ rfl Tryz.func20 rfl rfl (lb_ rfl) (by kernel_rfl) ?_
 unfold gM at hF
 refine ai (aa (vI 0) (ah (ai (aa (vI i_2) (aa (vI (w64 (2+i_2))) (aa (vI (w64 (2+i_2))) (ah ?_)))))))
 obtain rfl:=ae hF
 exact ay (LU (k:=2) (cs:=[(vI wv_1.f_camps)]) (cs':=[(vI wv_1.f_camps)]) (rows:=wv_1.f_can) (rows':=wv_1.f_can) ([]:Hp) (.inr rfl) [(vI (w64 (2+i_2)))] ⟨rfl,trivial⟩ rfl rfl rfl rfl rfl rfl)
theorem rE {x_1:ByteArray} {r:Bool} (hF:cmp_isNaN_string x_1=some r) :
  FnM Tryz.prog 84 [(vS x_1)] [] (vB r) []:=by
 refine FnM.of_wH ⟨Tryz.prog,6,[],[]⟩ rfl Tryz.func84 rfl rfl (lb_ rfl) (by kernel_rfl) ?_
 unfold cmp_isNaN_string at hF
 refine ai (aa (vB false) (ah (ai (aa (vS x_1) (aa (vS x_1) (aa (vB (sNe x_1 x_1)) (aa (vB (sNe x_1 x_1)) (ah ?_))))))))
 obtain rfl:=ae hF
 exact ay (aK [(vB (sNe x_1 x_1))] ⟨rfl,trivial⟩)
theorem zC {x_1:ByteArray} {y_2:ByteArray} {r:Bool} (hF:cmp_Less_string x_1 y_2=some r) :
  FnM Tryz.prog 59 [(vS x_1),(vS y_2)] [] (vB r) []:=by
 refine FnM.of_wH ⟨Tryz.prog,17,[],[]⟩ rfl Tryz.func59 rfl rfl (lb_ rfl) (by kernel_rfl) ?_
 unfold cmp_Less_string at hF
 refine ai (aa (vB false) (ah (ak ?_)))
 obtain ⟨v_3,h_4,hF⟩:=bind_some hF
 refine aQ [(4,(vB v_3))] [] ?_ ?_
 ·refine au (aa (vS x_1) ?_)
  obtain ⟨r_5,hr_6,h_4⟩:=bind_some h_4
  refine aD (rE hr_6) rfl hb84 rfl rfl rfl rfl wz ?_
  rcases aj h_4 with⟨hc_7,h_4⟩|⟨hc_7,h_4⟩
  ·refine aC rfl hc_7 wz (aG (vS y_2) wa rfl ?_)
   obtain ⟨r_8,hr_9,h_4⟩:=bind_some h_4
   refine aD (rE hr_9) rfl hb84 rfl rfl rfl rfl wa (aG (vB (!r_8)) wa rfl (aa (vB (!r_8)) ?_))
   rcases aj h_4 with⟨hc_10,h_4⟩|⟨hc_10,h_4⟩
   ·refine aC rfl hc_10 wz (af (af (af (aa (vB true) (aa (vB true) (ah ?_))))))
    obtain rfl:=ae h_4
    exact cu
   ·refine aC rfl hc_10 wz (aG (vS x_1) wa rfl (aG (vS y_2) wa rfl (aG (vB (sLt x_1 y_2)) wa rfl (aa (vB (sLt x_1 y_2)) (aa (vB (sLt x_1 y_2)) (ah ?_))))))
    obtain rfl:=ae h_4
    exact cu
  ·refine aC rfl hc_7 wz (af (af (af (aa (vB false) (aa (vB false) (aG (vS x_1) wa rfl (aG (vS y_2) wa rfl (aG (vB (sLt x_1 y_2)) wa rfl (aa (vB (sLt x_1 y_2)) (aa (vB (sLt x_1 y_2)) (ah ?_)))))))))))
   obtain rfl:=ae h_4
   exact cu
 ·rintro ⟨⟩ _ sl_ H_ hp_ hq_
  refine aO _ hp_ hq_ ?_
  obtain rfl:=ae hF
  exact ay (aK [(vB v_3)] ⟨rfl,trivial⟩)
theorem oO {x_1:ByteArray} {r:Bool} (hF:slices_isNaN_string x_1=some r) :
  FnM Tryz.prog 60 [(vS x_1)] [] (vB r) []:=by
 refine FnM.of_wH ⟨Tryz.prog,6,[],[]⟩ rfl Tryz.func60 rfl rfl (lb_ rfl) (by kernel_rfl) ?_
 unfold slices_isNaN_string at hF
 refine ai (aa (vB false) (ah (ai (aa (vS x_1) (aa (vS x_1) (aa (vB (sNe x_1 x_1)) (aa (vB (sNe x_1 x_1)) (ah ?_))))))))
 obtain rfl:=ae hF
 exact ay (aK [(vB (sNe x_1 x_1))] ⟨rfl,trivial⟩)
theorem nz {x_1:(List ByteArray)} {target_2:ByteArray} {r:Int×Bool} (hF:dC x_1 target_2=some r) :
  FnM Tryz.prog 37 [(vL eS x_1),(vS target_2)] [] (.tup [(vI r.1),(vB r.2)]) []:=by
 refine FnM.of_wH ⟨Tryz.prog,54,[],[]⟩ rfl Tryz.func37 rfl rfl (lb_ rfl) (by kernel_rfl) ?_
 unfold dC at hF
 refine ai (aa (vI 0) (aa (vB false) (ah (ai (aa (vL eS x_1) (bR Ac rfl wz (aa (vI (x_1.length:Int)) (ah (ai (aa (vI (x_1.length:Int)) (aa (vI 0) (aa (vI (x_1.length:Int)) (ah (ak ?_))))))))))))))
 obtain ⟨o_11,hj_12,hF⟩:=bind_some hF
 obtain ⟨nq_34,hj_12⟩:=dA hj_12
 refine dZ (λ(s_8:Int×Int)=>[(0,(vL eS x_1)),(1,(vS target_2)),(6,(vI (x_1.length:Int))),(7,(vI s_8.1))]) (λ(s_8:Int×Int)=>[]) (λ(k_3:Nat)=>(λ(s_8:Int×Int)=>[(0,(vL eS x_1)),(1,(vS target_2)),(6,(vI (x_1.length:Int))),(7,(vI s_8.1)),(8,(vI s_8.2))])) (λs=>aZ x_1 target_2 s) o_11 nq_34 (0,(x_1.length:Int)) hj_12 rfl (aL rfl) ?_ ?_
 ·rintro ⟨k_3,s_8⟩ hL_10
  dsimp only at hL_10
  cases k_3 with
  | zero=>cases hL_10
  | succ k_3 =>
   obtain ⟨c_,hc_9,hL_10⟩:=bind_some hL_10
   unfold aZ at hc_9
   refine ak (ai (aa (vI s_8.1) (aa (vI s_8.2) (aa (vB (decide (s_8.1<s_8.2))) (ah ?_)))))
   rcases aj hc_9 with⟨hc_13,hc_9⟩|⟨hc_13,hc_9⟩
   ·refine aB rfl hc_13 (av (aM (ai (aa (vI s_8.1) (aa (vI s_8.2) (aa (vI (w64 (s_8.1+s_8.2))) (kR un3 AL rfl wz ?_)))))))
    obtain ⟨q_14,hz_15,hc_9⟩:=bind_some hc_9
    refine Ff rfl rfl hz_15 wz (kR AL un3 rfl wz (aa (vI (w64 q_14)) (ah (ai (aa (vL eS x_1) (aa (vI (w64 q_14)) ?_))))))
    obtain ⟨y_16,hy_17,hc_9⟩:=bind_some hc_9
    refine dD uP rfl rfl hy_17 rfl wz (bE sz9 ag9 rfl (vS y_16) rfl wz (aa (vS target_2) ?_))
    obtain ⟨r_18,hr_19,hc_9⟩:=bind_some hc_9
    refine aD (zC hr_19) rfl hb59 rfl rfl rfl rfl wz (ah ?_)
    rcases aj hc_9 with⟨hc_20,hc_9⟩|⟨hc_20,hc_9⟩
    ·refine aB rfl hc_20 (au (aa (vI (w64 q_14)) (aa (vI (w64 ((w64 q_14)+1))) (aa (vI (w64 ((w64 q_14)+1))) (ah ?_)))))
     obtain rfl:=ae hc_9
     exact aU (k_3,((w64 ((w64 q_14)+1)),s_8.2)) hL_10 (ls_ _) rfl (aL rfl)
    ·refine aA rfl hc_20 (au (aa (vI (w64 q_14)) (aa (vI (w64 q_14)) (ah ?_))))
     obtain rfl:=ae hc_9
     exact aU (k_3,(s_8.1,(w64 q_14))) hL_10 (ls_ _) rfl (aL rfl)
   ·refine aA rfl hc_13 (aV ?_)
    obtain rfl:=ae hc_9
    obtain rfl:=ae hL_10
    exact aS ((s_8.1,s_8.2)) rfl rfl (aL rfl)
 ·rintro s_8 ho_ sl_ H_ hp_ hq_
  subst ho_
  refine aO _ hp_ hq_ (ak ?_)
  obtain ⟨v_21,h_22,hF⟩:=bind_some hF
  refine aQ [(4,(vI s_8.1)),(5,(vB v_21))] [] ?_ ?_
  ·refine au (aa (vI s_8.1) (aa (vI s_8.1) (aa (vI (x_1.length:Int)) (aa (vB (decide (s_8.1<(x_1.length:Int)))) ?_))))
   rcases aj h_22 with⟨hc_23,h_22⟩|⟨hc_23,h_22⟩
   ·refine aC rfl hc_23 wz (aG (vL eS x_1) wa rfl (aG (vI s_8.1) wa rfl ?_))
    obtain ⟨y_24,hy_25,h_22⟩:=bind_some h_22
    refine dD uP rfl rfl hy_25 rfl wa (bE sz9 ag9 rfl (vS y_24) rfl wa (aG (vS target_2) wa rfl (aG (vB (sEq y_24 target_2)) wa rfl ?_)))
    rcases aj h_22 with⟨hc_26,h_22⟩|⟨hc_26,h_22⟩
    ·refine aC rfl hc_26 wa (af (af (af (af (af (af (aY (wn rfl rfl) (aY (wn rfl rfl) (af (aG (vB true) wa rfl (aa (vB true) (aa (vI s_8.1) (aa (vB true) (ah ?_))))))))))))))
     obtain rfl:=ae h_22
     exact cu
    ·refine aC rfl hc_26 wa (aG (vL eS x_1) wa rfl (aG (vI s_8.1) wa rfl ?_))
     obtain ⟨y_27,hy_28,h_22⟩:=bind_some h_22
     refine dD uP rfl rfl hy_28 rfl wa (bE sz9 ag9 rfl (vS y_27) rfl wa ?_)
     obtain ⟨r_29,hr_30,h_22⟩:=bind_some h_22
     refine aD (oO hr_30) rfl hb60 rfl rfl rfl rfl wa ?_
     rcases aj h_22 with⟨hc_31,h_22⟩|⟨hc_31,h_22⟩
     ·refine aC rfl hc_31 wa (aG (vS target_2) wa rfl ?_)
      obtain ⟨r_32,hr_33,h_22⟩:=bind_some h_22
      refine aD (oO hr_33) rfl hb60 rfl rfl rfl rfl wa (aG (vB r_32) wa rfl (aG (vB r_32) wa rfl (aa (vB r_32) (aa (vI s_8.1) (aa (vB r_32) (ah ?_))))))
      obtain rfl:=ae h_22
      exact cu
     ·refine aC rfl hc_31 wa (af (af (aG (vB false) wa rfl (aG (vB false) wa rfl (aa (vB false) (aa (vI s_8.1) (aa (vB false) (ah ?_))))))))
      obtain rfl:=ae h_22
      exact cu
   ·refine aC rfl hc_23 wz (af (af (af (af (af (af (af (aY (wn rfl rfl) (aY (wn rfl rfl) (aY (wn rfl rfl) (aY (wn rfl rfl) (aY (wn rfl rfl) (aY (wn rfl rfl) (aY (wn rfl rfl) (aY (wn rfl rfl) (aY (wn rfl rfl) (af (aa (vB false) (aa (vI s_8.1) (aa (vB false) (ah ?_)))))))))))))))))))))
    obtain rfl:=ae h_22
    exact cu
  ·rintro ⟨⟩ _ sl_ H_ hp_ hq_
   refine aO _ hp_ hq_ ?_
   obtain rfl:=ae hF
   exact ay (aK [(vI s_8.1),(vB v_21)] ⟨rfl,⟨rfl,trivial⟩⟩)
theorem pX {c_1:Campaign} {s_2:Spot} {r:Bool} (hF:jS c_1 s_2=some r) :
  FnM Tryz.prog 19 [(.d (.agg (Campaign.enc c_1))),(.d (.agg (Spot.enc s_2)))] [] (vB r) []:=by
 refine FnM.of_wH ⟨Tryz.prog,42,[],[]⟩ rfl Tryz.func19 rfl rfl (lb_ rfl) (by kernel_rfl) ?_
 unfold jS at hF
 refine ai (ig 0 (.inl rfl) (Campaign.v c_1) rfl rfl wz (λn_3=>ig 0 (.inl rfl) (Spot.v s_2) rfl rfl wz (λn_4=>aa (vB false) (ah (ak (ak ?_))))))
 obtain ⟨v_5,h_6,hF⟩:=bind_some hF
 refine aQ [(2,(.ref n_3 0 0)),(3,(.ref n_4 0 0)),(24,(vB v_5))] [(n_3,some (.cells 8 (Campaign.v c_1))),(n_4,some (.cells 5 (Spot.v s_2)))] ?_ ?_
 ·refine au (aH Lj rfl 1 rfl wz (aH nS rfl 1 rfl wz (aF 0 1 il ft sz3 ag3 rfl rfl (vI s_2.Time.From) rfl wz (aH xG rfl 2 rfl wz (aH nS rfl 2 rfl wz (aF 0 0 il ft sz3 ag3 rfl rfl (vI c_1.Time.From) rfl wz (aa (vB (decide (s_2.Time.From<c_1.Time.From))) ?_)))))))
  rcases aj h_6 with⟨hc_7,h_6⟩|⟨hc_7,h_6⟩
  ·refine aC rfl hc_7 wz (af (af (af (af (af (af (af (aa (vB true) (ah ?_)))))))))
   obtain rfl:=ae h_6
   exact cu
  ·refine aC rfl hc_7 wz (aH Lj rfl 1 rfl wa (aH nN rfl 2 rfl wa (aF 0 1 il ft sz3 ag3 rfl rfl (vI s_2.Time.To) rfl wa (aH xG rfl 2 rfl wa (aH nN rfl 3 rfl wa (aF 0 0 il ft sz3 ag3 rfl rfl (vI c_1.Time.To) rfl wa (aG (vB (decide (s_2.Time.To>c_1.Time.To))) wa rfl (aa (vB (decide (s_2.Time.To>c_1.Time.To))) (ah ?_)))))))))
   obtain rfl:=ae h_6
   exact cu
 ·rintro ⟨⟩ _ sl_ H_ hp_ hq_
  refine aO _ hp_ hq_ ?_
  rcases aj hF with⟨hc_8,hF⟩|⟨hc_8,hF⟩
  ·refine aB rfl hc_8 (ai (aa (vB false) (ah ?_)))
   obtain rfl:=ae hF
   exact ay (aK [(vB false)] ⟨rfl,trivial⟩)
  ·refine aA rfl hc_8 (av (ak (ai (aH Im rfl 4 rfl wz (aF 0 0 il ft Ba Ez rfl rfl (vL eS c_1.Tags) rfl wz (bR Ac rfl wz (aa (vI 0) (ah ?_))))))))
   obtain ⟨o_17,hj_18,hF⟩:=bind_some hF
   obtain ⟨hn_13,hj_18⟩:=bf hj_18
   refine cz (λ(s_14:Unit)=>[]) (λ(s_14:Unit)=>[(n_3,some (.cells 8 (Campaign.v c_1))),(n_4,some (.cells 5 (Spot.v s_2)))]) (λ(k_9:Nat)=>(λ(s_14:Unit)=>[(3,(.ref n_4 0 0)),(26,(vL eS c_1.Tags)),(27,(vI (c_1.Tags.length:Int))),(28,(vI (k_9:Int)))])) (λk x s=>iU s_2 k x s) o_17 c_1.Tags () hj_18 rfl (aL rfl) ?_ ?_
   ·rintro ⟨k_9,l_10,s_14⟩ ⟨hL_16,hD_12⟩
    dsimp only at hL_16 hD_12
    cases l_10 with
    | nil =>
     obtain rfl:=ae hL_16
     refine ai (aa (vB (decide ((k_9:Int)<(c_1.Tags.length:Int)))) (ah ?_))
     refine ak (aA rfl (drop_nil hD_12) (aV ?_))
     exact aS (s_14) rfl rfl (aL rfl)
    | cons x_11 l_10 =>
     obtain ⟨c_,hc_15,hL_16⟩:=bind_some hL_16
     refine ai (aa (vB (decide ((k_9:Int)<(c_1.Tags.length:Int)))) (ah ?_))
     refine ak (aB rfl (bv hD_12) (av ?_))
     unfold iU at hc_15
     refine ak (aM (ai (dD uP rfl rfl (bI hD_12) rfl wz (bE sz9 ag9 rfl (vS x_11) rfl wz (aa (vS x_11) (ah (ai (aH Hr rfl 4 rfl wz (aF 0 1 il ft Ba Ez rfl rfl (vL eS s_2.Tags) rfl wz (aa (vS x_11) ?_))))))))))
     obtain ⟨r_19,hr_20,hc_15⟩:=bind_some hc_15
     refine aD (nz hr_20) rfl hb37 rfl rfl rfl rfl wz (aa (.tup [(vI r_19.1),(vB r_19.2)]) (aa (vI r_19.1) (aa (vB r_19.2) (aa (vI r_19.1) (aa (vB r_19.2) (ah (ai (aa (vB r_19.2) (aa (vB (!r_19.2)) (ah ?_))))))))))
     rcases aj hc_15 with⟨hc_21,hc_15⟩|⟨hc_21,hc_15⟩
     ·refine aB rfl hc_21 (ai (aa (vB false) (ah ?_)))
      obtain rfl:=ae hc_15
      obtain rfl:=ae hL_16
      obtain rfl:=ae hF
      exact ay (aK [(vB false)] ⟨rfl,trivial⟩)
     ·refine aA rfl hc_21 (av (au (dS (bC hD_12 hn_13) wz rfl (aa (vI ((k_9+1:Nat):Int)) (ah ?_)))))
      obtain rfl:=ae hc_15
      exact aU (k_9+1,l_10,()) ⟨hL_16,aX hD_12⟩ (ls_ _) rfl (aL rfl)
   ·rintro s_14 ho_ sl_ H_ hp_ hq_
    subst ho_
    refine aO _ hp_ hq_ (ai (aa (vB true) (ah ?_)))
    obtain rfl:=ae hF
    exact ay (aK [(vB true)] ⟨rfl,trivial⟩)
theorem nu {wv_1:Web} {k_2:Int} {r:Int} (hF:gG wv_1 k_2=some r) :
  FnM Tryz.prog 21 [(.ref (ax 0) 0 0),(vI k_2)] (lc 2 1 eI [(vI wv_1.f_camps)] wv_1.f_can) (vI r) (gy 2 1 eI [(vI wv_1.f_camps)] wv_1.f_can):=by
 refine FnM.of_wHg (cs:=[(vI wv_1.f_camps)]) ⟨Tryz.prog,12,[],[]⟩ rfl Tryz.func21 rfl rfl (lb_ rfl) (by kernel_rfl) ?_
 unfold gG at hF
 refine ai (aa (vI 0) (ah (ai (aa (.ref (ax 0) 0 0) (aa (.ref (ax 0) 0 0) (aH pl63_1 rfl 1 rfl wz (aF 0 0 il ft sz3 ag3 rfl rfl (vI wv_1.f_camps) rfl wz (aa (vI (w64 (2+wv_1.f_camps))) (aa (vI k_2) (aa (vI (w64 ((w64 (2+wv_1.f_camps))+k_2))) (aa (vI (w64 ((w64 (2+wv_1.f_camps))+k_2))) (ah ?_))))))))))))
 obtain rfl:=ae hF
 exact ay (LU (k:=2) (cs:=[(vI wv_1.f_camps)]) (cs':=[(vI wv_1.f_camps)]) (rows:=wv_1.f_can) (rows':=wv_1.f_can) ([]:Hp) (.inr rfl) [(vI (w64 ((w64 (2+wv_1.f_camps))+k_2)))] ⟨rfl,trivial⟩ rfl rfl rfl rfl rfl rfl)
end Go.Proofs.YtekmkepojbhafacGreatDoor.Law

