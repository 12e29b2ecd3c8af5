/-
 The machine computes these plain functions (written by a program of ours).
-/
import Derived.Test.YtkjlhdminmpmkacGreatDoorFacts
import Derived.Test.YtkjlhdminmpmkacGreatDoorDefs
open Go Go.Eng Go.Proofs
namespace Go.Proofs.YtkjlhdminmpmkacGreatDoor.Law
set_option maxRecDepth 100000
set_option linter.unusedVariables false
set_option maxHeartbeats 1000000
theorem yj {x_1:Int} {n_2:Int} {r:Int} (hF:sV x_1 n_2=some r) :
  FnM Tryz.prog 72 [(vI x_1),(vI n_2)] [] (vI r) []:=by
 refine FnM.of_wH ⟨Tryz.prog,16,[],[]⟩ rfl Tryz.func72 rfl rfl (lb_ rfl) (by kernel_rfl) ?_
 unfold sV at hF
 refine ai (aa (vI 0) (af (ak (ai (aa (vI n_2) (aa (vB (decide (n_2<1))) (af ?_)))))))
 rcases aj hF with⟨hc_3,hF⟩|⟨hc_3,hF⟩
 ·refine aB rfl hc_3 (ai (aa (vI 0) (af ?_)))
  obtain rfl:=ae hF
  exact aA (aL [(vI 0)] ⟨rfl,trivial⟩)
 ·refine ay rfl hc_3 (ax (ai (aa (vI x_1) (aa (vI n_2) ?_))))
  obtain ⟨q_4,hz_5,hF⟩:=bind_some hF
  refine QD rfl rfl hz_5 wz (aa (vI q_4) (af (ak (ai (aa (vI q_4) (aa (vB (decide (q_4<0))) (af ?_)))))))
  obtain ⟨v_6,h_7,hF⟩:=bind_some hF
  refine aS [(0,(vI v_6))] [] ?_ ?_
  ·rcases aj h_7 with⟨hc_8,h_7⟩|⟨hc_8,h_7⟩
   ·refine aB rfl hc_8 (au (aa (vI q_4) (aa (vI n_2) (aa (vI (w64 (q_4+n_2))) (aa (vI (w64 (q_4+n_2))) (af ?_))))))
    obtain rfl:=ae h_7
    exact cu
   ·refine ay rfl hc_8 (ax ?_)
    obtain rfl:=ae h_7
    exact cu
  ·rintro ⟨⟩ _ sl_ H_ hp_ hq_
   refine aO _ hp_ hq_ (ai (aa (vI v_6) (aa (vI v_6) (af ?_))))
   obtain rfl:=ae hF
   exact aA (aL [(vI v_6)] ⟨rfl,trivial⟩)
theorem l7 {s_1:Stream} {n_2:Int} {r:Int×Stream} (hF:iA s_1 n_2=some r) :
  FnM Tryz.prog 48 [(.ref (av 0) 0 0),(vI n_2)] [(.cells 2 [(vL eI s_1.L),(vI s_1.f_at)])] (vI r.1) [some (.cells 2 [(vL eI r.2.L),(vI r.2.f_at)])]:=by
 refine FnM.of_wH ⟨Tryz.prog,64,[],[]⟩ rfl Tryz.func48 rfl rfl (lb_ rfl) (by kernel_rfl) ?_
 unfold iA at hF
 refine ai (aa (vI 0) (af (ai (aa (.ref (av 0) 0 0) (aa (.ref (av 0) 0 0) (aG DW rfl 1 rfl wz (aC 0 0 il ft sz3 ag3 rfl rfl (vI s_1.f_at) rfl wz (aa (vI (w64 (s_1.f_at+1))) (aa (.ref (av 0) 0 0) (aG DW rfl 1 rfl wz (eB 0 il ft 0 sz3 rfl rfl [(vL eI s_1.L),(vI (w64 (s_1.f_at+1)))] rfl wz (af (ak (ai (aa (.ref (av 0) 0 0) (aa (.ref (av 0) 0 0) (aG Hq rfl 0 rfl wz (aC 0 0 il ft uS xu rfl rfl (vL eI s_1.L) rfl wz (bH uT rfl wz (aa (vB ((s_1.L.length:Int)==0)) (af ?_)))))))))))))))))))))
 rcases aj hF with⟨hc_3,hF⟩|⟨hc_3,hF⟩
 ·refine aB rfl hc_3 (ai (aa (.ref (av 0) 0 0) (aa (.ref (av 0) 0 0) (aG DW rfl 1 rfl wz (aC 0 0 il ft sz3 ag3 rfl rfl (vI (w64 (s_1.f_at+1))) rfl wz (aa (vI (w64 ((w64 (s_1.f_at+1))*7919))) (aa (vI n_2) ?_)))))))
  obtain ⟨r_4,hr_5,hF⟩:=bind_some hF
  refine aF (yj hr_5) rfl hb72 rfl rfl rfl rfl wz (aa (vI r_4) (af ?_))
  obtain rfl:=ae hF
  exact aA (Ao (.inr rfl) [(vI r_4)] _ [0] [av 0] ⟨rfl,trivial⟩ (.cons (jB rfl rfl) (.nil)) (by kernel_rfl) ⟨(by kernel_rfl),trivial⟩ (by decide) (by kernel_rfl))
 ·refine ay rfl hc_3 (ax (ak (bE (aa (.ref (av 0) 0 0) (aa (.ref (av 0) 0 0) (aG DW rfl 1 rfl wz (aC 3 0 (.inr (by kernel_rfl)) (λ_ _ ag=>trivial) sz3 ag3 rfl rfl (vI (w64 (s_1.f_at+1))) rfl wz (aa (vI (w64 ((w64 (s_1.f_at+1))-1))) (aa (.ref (av 0) 0 0) (aa (.ref (av 0) 0 0) (aG Hq rfl 0 rfl wz (aC 8 0 (.inr (by kernel_rfl)) (λ_ _ ag=>⟨.inl ⟨rfl,rfl⟩,trivial⟩) uS xu rfl rfl (vL eI s_1.L) rfl wz (bH uT rfl wz ?_)))))))))))))
  obtain ⟨q_6,hz_7,hF⟩:=bind_some hF
  refine QD rfl rfl hz_7 wz (aa (vI q_6) (af (ak (bE (aa (.ref (av 0) 0 0) (aa (.ref (av 0) 0 0) (aG DW rfl 1 rfl wz (aC 3 0 (.inr (by kernel_rfl)) (λ_ _ ag=>trivial) sz3 ag3 rfl rfl (vI (w64 (s_1.f_at+1))) rfl wz (aa (vI (w64 ((w64 (s_1.f_at+1))-1))) (aa (.ref (av 0) 0 0) (aa (.ref (av 0) 0 0) (aG Hq rfl 0 rfl wz (aC 8 0 (.inr (by kernel_rfl)) (λ_ _ ag=>⟨.inl ⟨rfl,rfl⟩,trivial⟩) uS xu rfl rfl (vL eI s_1.L) rfl wz (bH uT rfl wz ?_))))))))))))))
  obtain ⟨q_8,hz_9,hF⟩:=bind_some hF
  refine Qx rfl rfl hz_9 wz (aa (vI q_8) (af (aO (H0:=([((av 0),some (.cells 2 [(vL eI s_1.L),(vI (w64 (s_1.f_at+1)))]))]:Hp)) ([(0,(.ref (av 0) 0 0)),(1,(vI n_2)),(5,(vI q_6)),(6,(vI q_8))]:SL_) (by kernel_rfl) (wG (by kernel_rfl)) (ai (aa (.ref (av 0) 0 0) (aa (.ref (av 0) 0 0) (aG Hq rfl 0 rfl wz (aC 0 0 il ft uS xu rfl rfl (vL eI s_1.L) rfl wz (aa (vI q_6) ?_)))))))))
  obtain ⟨y_10,hy_11,hF⟩:=bind_some hF
  refine dC gq rfl rfl hy_11 rfl wz (bK sz3 ag3 rfl (vI y_10) rfl wz ?_)
  obtain ⟨r_12,hr_13,hF⟩:=bind_some hF
  refine aF (yj hr_13) rfl hb72 rfl rfl rfl rfl wz (aa (vI q_8) (aa (vI q_6) (aa (vI (w64 (7919+q_6))) (aa (vI (w64 (q_8*(w64 (7919+q_6))))) (aa (vI (w64 (r_12+(w64 (q_8*(w64 (7919+q_6))))))) (aa (vI n_2) ?_))))))
  obtain ⟨r_14,hr_15,hF⟩:=bind_some hF
  refine aF (yj hr_15) rfl hb72 rfl rfl rfl rfl wz (aa (vI r_14) (af ?_))
  obtain rfl:=ae hF
  exact aA (Ao (.inr rfl) [(vI r_14)] _ [0] [av 0] ⟨rfl,trivial⟩ (.cons (jB rfl rfl) (.nil)) (by kernel_rfl) ⟨(by kernel_rfl),trivial⟩ (by decide) (by kernel_rfl))
theorem iH {s_1:Stream} {n_2:Int} {r:Bool×Stream} (hF:eX s_1 n_2=some r) :
  FnM Tryz.prog 21 [(.ref (av 0) 0 0),(vI n_2)] [(.cells 2 [(vL eI s_1.L),(vI s_1.f_at)])] (vB r.1) [some (.cells 2 [(vL eI r.2.L),(vI r.2.f_at)])]:=by
 refine FnM.of_wH ⟨Tryz.prog,9,[],[]⟩ rfl Tryz.func21 rfl rfl (lb_ rfl) (by kernel_rfl) ?_
 unfold eX at hF
 refine ai (aa (vB false) (af (ai (aa (.ref (av 0) 0 0) (aa (vI n_2) ?_)))))
 obtain ⟨r_3,hr_4,hF⟩:=bind_some hF
 refine dA 0 [0] il ft (l7 hr_4) rfl hb48 rfl (by kernel_rfl) (by kernel_rfl) (by kernel_rfl) (by kernel_rfl) (by kernel_rfl) (by kernel_rfl) (by kernel_rfl) (by decide) (by kernel_rfl) wz (vI r_3.1) (by kernel_rfl) ([((av 0),some (.cells 2 [(vL eI r_3.2.L),(vI r_3.2.f_at)]))]:Hp) (by kernel_rfl) (aa (vB (r_3.1==0)) (aa (vB (r_3.1==0)) (af ?_)))
 obtain rfl:=ae hF
 exact aA (Ao (.inr rfl) [(vB (r_3.1==0))] _ [0] [av 0] ⟨rfl,trivial⟩ (.cons (jB rfl rfl) (.nil)) (by kernel_rfl) ⟨(by kernel_rfl),trivial⟩ (by decide) (by kernel_rfl))
theorem eD {s_1:Stream} {l_2:(List Int)} {r:Int×Stream} (hF:dI s_1 l_2=some r) :
  FnM Tryz.prog 22 [(.ref (av 0) 0 0),(vL eI l_2)] [(.cells 2 [(vL eI s_1.L),(vI s_1.f_at)])] (vI r.1) [some (.cells 2 [(vL eI r.2.L),(vI r.2.f_at)])]:=by
 refine FnM.of_wH ⟨Tryz.prog,12,[],[]⟩ rfl Tryz.func22 rfl rfl (lb_ rfl) (by kernel_rfl) ?_
 unfold dI at hF
 refine ai (aa (vI 0) (af (ai (aa (vL eI l_2) (aa (.ref (av 0) 0 0) (aa (vL eI l_2) (bH uT rfl wz ?_)))))))
 obtain ⟨r_3,hr_4,hF⟩:=bind_some hF
 refine dA 0 [0] il ft (l7 hr_4) rfl hb48 rfl (by kernel_rfl) (by kernel_rfl) (by kernel_rfl) (by kernel_rfl) (by kernel_rfl) (by kernel_rfl) (by kernel_rfl) (by decide) (by kernel_rfl) wz (vI r_3.1) (by kernel_rfl) ([((av 0),some (.cells 2 [(vL eI r_3.2.L),(vI r_3.2.f_at)]))]:Hp) (by kernel_rfl) ?_
 obtain ⟨y_6,hy_7,hF⟩:=bind_some hF
 refine dC gq rfl rfl hy_7 rfl wz (bK sz3 ag3 rfl (vI y_6) rfl wz (aa (vI y_6) (af ?_)))
 obtain rfl:=ae hF
 exact aA (Ao (.inr rfl) [(vI y_6)] _ [0] [av 0] ⟨rfl,trivial⟩ (.cons (jB rfl rfl) (.nil)) (by kernel_rfl) ⟨(by kernel_rfl),trivial⟩ (by decide) (by kernel_rfl))
theorem oZ {s_1:Stream} {r:(List Spot)×Stream} (hF:fU s_1=some r) :
  FnM Tryz.prog 4 [(.ref (av 0) 0 0)] [(.cells 2 [(vL eI s_1.L),(vI s_1.f_at)])] (vL Spot.enc r.1) [some (.cells 2 [(vL eI r.2.L),(vI r.2.f_at)])]:=by
 refine FnM.of_wH ⟨Tryz.prog,53,[],[]⟩ rfl Tryz.func4 rfl rfl (lb_ rfl) (by kernel_rfl) ?_
 unfold fU at hF
 refine ai (aa .nil (af (ai (aa .nil (af (ak (ai (dU (([(⟨#[115,97]⟩:ByteArray),(⟨#[115,98]⟩:ByteArray),(⟨#[115,99]⟩:ByteArray),(⟨#[115,100]⟩:ByteArray),(⟨#[115,101]⟩:ByteArray)]:List ByteArray).map eS) pz BB rfl rfl rfl rfl rfl wz (bH xq rfl wz (aa (vI 0) (af (jv (λn_8 => ?_)))))))))))))
 obtain ⟨o_13,hj_14,hF⟩:=bind_some hF
 obtain ⟨hn_6,hj_14⟩:=aY hj_14
 refine fT (σ:=(List Spot)×(List Int)×Int) (N:=Nm) (λp=>(λ(s_7:(List Spot)×(List Int)×Int) (n_10:Nm)=>([(3,(gV n_10 5 s_7.1))]:SL_)) p.1 p.2) (λp=>(λ(s_7:(List Spot)×(List Int)×Int) (n_10:Nm)=>([((av 0),some (.cells 2 [(vL eI s_7.2.1),(vI s_7.2.2)])),(n_10,gB 5 Spot.enc s_7.1)]:Hp)) p.1 p.2) (λ(k_2:Nat)=>(λp=>(λ(s_7:(List Spot)×(List Int)×Int) (n_10:Nm)=>([(0,(.ref (av 0) 0 0)),(3,(gV n_10 5 s_7.1)),(9,(vL eS ([(⟨#[115,97]⟩:ByteArray),(⟨#[115,98]⟩:ByteArray),(⟨#[115,99]⟩:ByteArray),(⟨#[115,100]⟩:ByteArray),(⟨#[115,101]⟩:ByteArray)]:List ByteArray))),(10,(vI (([(⟨#[115,97]⟩:ByteArray),(⟨#[115,98]⟩:ByteArray),(⟨#[115,99]⟩:ByteArray),(⟨#[115,100]⟩:ByteArray),(⟨#[115,101]⟩:ByteArray)]:List ByteArray).length:Int))),(11,(vI (k_2:Int)))]:SL_)) p.1 p.2)) (λk x s=>fV k x s) o_13 ([(⟨#[115,97]⟩:ByteArray),(⟨#[115,98]⟩:ByteArray),(⟨#[115,99]⟩:ByteArray),(⟨#[115,100]⟩:ByteArray),(⟨#[115,101]⟩:ByteArray)]:List ByteArray) ((([]:List Spot),s_1.L,s_1.f_at),n_8) hj_14 rfl (aK rfl) ?_ ?_
 ·rintro ⟨k_2,l_3,s_7,n_10⟩ ⟨hL_12,hD_5⟩
  dsimp only at hL_12 hD_5
  cases l_3 with
  | nil =>
   obtain rfl:=ae hL_12
   refine ai (aa (vB (decide ((k_2:Int)<(([(⟨#[115,97]⟩:ByteArray),(⟨#[115,98]⟩:ByteArray),(⟨#[115,99]⟩:ByteArray),(⟨#[115,100]⟩:ByteArray),(⟨#[115,101]⟩:ByteArray)]:List ByteArray).length:Int)))) (af ?_))
   refine ak (ay rfl (drop_nil hD_5) (aW ?_))
   exact aU (s_7,n_10) rfl rfl (aK rfl)
  | cons x_4 l_3 =>
   obtain ⟨c_,hc_11,hL_12⟩:=bind_some hL_12
   refine ai (aa (vB (decide ((k_2:Int)<(([(⟨#[115,97]⟩:ByteArray),(⟨#[115,98]⟩:ByteArray),(⟨#[115,99]⟩:ByteArray),(⟨#[115,100]⟩:ByteArray),(⟨#[115,101]⟩:ByteArray)]:List ByteArray).length:Int)))) (af ?_))
   refine ak (aB rfl (bu hD_5) (ax ?_))
   unfold fV at hc_11
   refine ak (aM (ai (aa (vI (k_2:Int)) (dC pz rfl rfl (bD hD_5) rfl wz (bK sz9 ag9 rfl (vS x_4) rfl wz (aa (vI (k_2:Int)) (aa (vS x_4) (af (ak (ai (aa (.ref (av 0) 0 0) ?_)))))))))))
   obtain ⟨r_15,hr_16,hc_11⟩:=bind_some hc_11
   refine dA 0 [0] il ft (iH hr_16) rfl NP rfl (by kernel_rfl) (by kernel_rfl) (by kernel_rfl) (by kernel_rfl) (by kernel_rfl) (by kernel_rfl) (by kernel_rfl) (by decide) (by kernel_rfl) wz (vB r_15.1) (by kernel_rfl) ([((av 0),some (.cells 2 [(vL eI r_15.2.L),(vI r_15.2.f_at)])),(n_10,gB 5 Spot.enc s_7.1)]:Hp) (by kernel_rfl) (af ?_)
   rcases aj hc_11 with⟨hc_18,hc_11⟩|⟨hc_18,hc_11⟩
   ·refine aB rfl hc_18 (aW (au (dB (bv hD_5 hn_6) wz rfl (aa (vI ((k_2+1:Nat):Int)) (af ?_)))))
    obtain rfl:=ae hc_11
    exact aV (k_2+1,l_3,(s_7.1,r_15.2.L,r_15.2.f_at),n_10) ⟨hL_12,aR hD_5⟩ (ls_ _) rfl (aK rfl)
   ·refine ay rfl hc_18 (ax (ai (aa (vS x_4) (aa (vI (k_2:Int)) (aa (vI (w64 (10*(k_2:Int)))) (aa (vI (k_2:Int)) (aa (vI (w64 (10*(k_2:Int)))) (aa (.ref (av 0) 0 0) (dU (([5,10,10]:List Int).map eI) gq zJ rfl rfl rfl rfl rfl wz ?_)))))))))
    obtain ⟨r_19,hr_20,hc_11⟩:=bind_some hc_11
    refine dA 0 [0] il ft (eD hr_20) rfl IX rfl (by kernel_rfl) (by kernel_rfl) (by kernel_rfl) (by kernel_rfl) (by kernel_rfl) (by kernel_rfl) (by kernel_rfl) (by decide) (by kernel_rfl) wz (vI r_19.1) (by kernel_rfl) ([((av 0),some (.cells 2 [(vL eI r_19.2.L),(vI r_19.2.f_at)])),(n_10,gB 5 Spot.enc s_7.1)]:Hp) (by kernel_rfl) (aa (vI (w64 ((w64 (10*(k_2:Int)))+r_19.1))) (aJ (.d (.agg (Window.enc (⟨(w64 (10*(k_2:Int))),(w64 ((w64 (10*(k_2:Int)))+r_19.1))⟩:Window)))) wz (by kernel_rfl) (aa (.ref (av 0) 0 0) (dU (([0,1,2,3,5]:List Int).map eI) gq zJ rfl rfl rfl rfl rfl wz ?_))))
    obtain ⟨r_22,hr_23,hc_11⟩:=bind_some hc_11
    refine dA 0 [0] il ft (eD hr_23) rfl IX rfl (by kernel_rfl) (by kernel_rfl) (by kernel_rfl) (by kernel_rfl) (by kernel_rfl) (by kernel_rfl) (by kernel_rfl) (by decide) (by kernel_rfl) wz (vI r_22.1) (by kernel_rfl) ([((av 0),some (.cells 2 [(vL eI r_22.2.L),(vI r_22.2.f_at)])),(n_10,gB 5 Spot.enc s_7.1)]:Hp) (by kernel_rfl) (aJ (.agg [(vS x_4),(vI (w64 (10*(k_2:Int)))),(vI (w64 ((w64 (10*(k_2:Int)))+r_19.1))),(vI r_22.1),.nil]) wz (by kernel_rfl) (cz 0 (.inl rfl) z57 rfl wz (λn_25=>eB 0 il ft 2 uq rfl rfl [(vS x_4),(vI (w64 (10*(k_2:Int)))),(vI (w64 ((w64 (10*(k_2:Int)))+r_19.1))),(vI r_22.1),.nil] rfl wz (af (ak (ai (dU (([(⟨#[99,105,116,121]⟩:ByteArray),(⟨#[109,97,108,108]⟩:ByteArray)]:List ByteArray).map eS) pz BB rfl rfl rfl rfl rfl wz (bH xq rfl wz (aa (vI 0) (af (jv (λn_32 => ?_))))))))))))
    obtain ⟨o_37,hj_38,hc_11⟩:=bind_some hc_11
    obtain ⟨hn_30,hj_38⟩:=aY hj_38
    refine fT (σ:=(List ByteArray)×(List Int)×Int) (N:=Nm) (λp=>(λ(s_31:(List ByteArray)×(List Int)×Int) (n_34:Nm)=>([(0,(.ref (av 0) 0 0)),(3,(gV n_10 5 s_7.1)),(6,(.ref n_25 0 0)),(9,(vL eS ([(⟨#[115,97]⟩:ByteArray),(⟨#[115,98]⟩:ByteArray),(⟨#[115,99]⟩:ByteArray),(⟨#[115,100]⟩:ByteArray),(⟨#[115,101]⟩:ByteArray)]:List ByteArray))),(10,(vI (([(⟨#[115,97]⟩:ByteArray),(⟨#[115,98]⟩:ByteArray),(⟨#[115,99]⟩:ByteArray),(⟨#[115,100]⟩:ByteArray),(⟨#[115,101]⟩:ByteArray)]:List ByteArray).length:Int))),(11,(vI (k_2:Int)))]:SL_)) p.1 p.2) (λp=>(λ(s_31:(List ByteArray)×(List Int)×Int) (n_34:Nm)=>([((av 0),some (.cells 2 [(vL eI s_31.2.1),(vI s_31.2.2)])),(n_10,gB 5 Spot.enc s_7.1),(n_25,some (.cells 5 [(vS x_4),(vI (w64 (10*(k_2:Int)))),(vI (w64 ((w64 (10*(k_2:Int)))+r_19.1))),(vI r_22.1),(gV n_34 1 s_31.1)])),(n_34,gB 1 eS s_31.1)]:Hp)) p.1 p.2) (λ(k_26:Nat)=>(λp=>(λ(s_31:(List ByteArray)×(List Int)×Int) (n_34:Nm)=>([(0,(.ref (av 0) 0 0)),(3,(gV n_10 5 s_7.1)),(6,(.ref n_25 0 0)),(9,(vL eS ([(⟨#[115,97]⟩:ByteArray),(⟨#[115,98]⟩:ByteArray),(⟨#[115,99]⟩:ByteArray),(⟨#[115,100]⟩:ByteArray),(⟨#[115,101]⟩:ByteArray)]:List ByteArray))),(10,(vI (([(⟨#[115,97]⟩:ByteArray),(⟨#[115,98]⟩:ByteArray),(⟨#[115,99]⟩:ByteArray),(⟨#[115,100]⟩:ByteArray),(⟨#[115,101]⟩:ByteArray)]:List ByteArray).length:Int))),(11,(vI (k_2:Int))),(32,(vL eS ([(⟨#[99,105,116,121]⟩:ByteArray),(⟨#[109,97,108,108]⟩:ByteArray)]:List ByteArray))),(33,(vI (([(⟨#[99,105,116,121]⟩:ByteArray),(⟨#[109,97,108,108]⟩:ByteArray)]:List ByteArray).length:Int))),(34,(vI (k_26:Int)))]:SL_)) p.1 p.2)) (λk x s=>iK k x s) o_37 ([(⟨#[99,105,116,121]⟩:ByteArray),(⟨#[109,97,108,108]⟩:ByteArray)]:List ByteArray) ((([]:List ByteArray),r_22.2.L,r_22.2.f_at),n_32) hj_38 rfl (aK rfl) ?_ ?_
    ·rintro ⟨k_26,l_27,s_31,n_34⟩ ⟨hL_36,hD_29⟩
     dsimp only at hL_36 hD_29
     cases l_27 with
     | nil =>
      obtain rfl:=ae hL_36
      refine ai (aa (vB (decide ((k_26:Int)<(([(⟨#[99,105,116,121]⟩:ByteArray),(⟨#[109,97,108,108]⟩:ByteArray)]:List ByteArray).length:Int)))) (af ?_))
      refine ak (ay rfl (drop_nil hD_29) (aW ?_))
      exact aU (s_31,n_34) rfl rfl (aK rfl)
     | cons x_28 l_27 =>
      obtain ⟨c_,hc_35,hL_36⟩:=bind_some hL_36
      refine ai (aa (vB (decide ((k_26:Int)<(([(⟨#[99,105,116,121]⟩:ByteArray),(⟨#[109,97,108,108]⟩:ByteArray)]:List ByteArray).length:Int)))) (af ?_))
      refine ak (aB rfl (bu hD_29) (ax ?_))
      unfold iK at hc_35
      refine ak (aM (ai (dC pz rfl rfl (bD hD_29) rfl wz (bK sz9 ag9 rfl (vS x_28) rfl wz (aa (vS x_28) (af (ai (aa (.ref (av 0) 0 0) ?_))))))))
      obtain ⟨r_39,hr_40,hc_35⟩:=bind_some hc_35
      refine dA 0 [0] il ft (iH hr_40) rfl NP rfl (by kernel_rfl) (by kernel_rfl) (by kernel_rfl) (by kernel_rfl) (by kernel_rfl) (by kernel_rfl) (by kernel_rfl) (by decide) (by kernel_rfl) wz (vB r_39.1) (by kernel_rfl) ([((av 0),some (.cells 2 [(vL eI r_39.2.L),(vI r_39.2.f_at)])),(n_10,gB 5 Spot.enc s_7.1),(n_25,some (.cells 5 [(vS x_4),(vI (w64 (10*(k_2:Int)))),(vI (w64 ((w64 (10*(k_2:Int)))+r_19.1))),(vI r_22.1),(gV n_34 1 s_31.1)])),(n_34,gB 1 eS s_31.1)]:Hp) (by kernel_rfl) (af ?_)
      obtain ⟨v_42,h_43,hc_35⟩:=bind_some hc_35
      refine ko (β:=Nm) (λ(n_44:Nm)=>([(0,(.ref (av 0) 0 0)),(3,(gV n_10 5 s_7.1)),(6,(.ref n_25 0 0)),(9,(vL eS ([(⟨#[115,97]⟩:ByteArray),(⟨#[115,98]⟩:ByteArray),(⟨#[115,99]⟩:ByteArray),(⟨#[115,100]⟩:ByteArray),(⟨#[115,101]⟩:ByteArray)]:List ByteArray))),(10,(vI (([(⟨#[115,97]⟩:ByteArray),(⟨#[115,98]⟩:ByteArray),(⟨#[115,99]⟩:ByteArray),(⟨#[115,100]⟩:ByteArray),(⟨#[115,101]⟩:ByteArray)]:List ByteArray).length:Int))),(11,(vI (k_2:Int))),(32,(vL eS ([(⟨#[99,105,116,121]⟩:ByteArray),(⟨#[109,97,108,108]⟩:ByteArray)]:List ByteArray))),(33,(vI (([(⟨#[99,105,116,121]⟩:ByteArray),(⟨#[109,97,108,108]⟩:ByteArray)]:List ByteArray).length:Int))),(34,(vI (k_26:Int)))]:SL_)) (λ(n_44:Nm)=>([((av 0),some (.cells 2 [(vL eI r_39.2.L),(vI r_39.2.f_at)])),(n_10,gB 5 Spot.enc s_7.1),(n_25,some (.cells 5 [(vS x_4),(vI (w64 (10*(k_2:Int)))),(vI (w64 ((w64 (10*(k_2:Int)))+r_19.1))),(vI r_22.1),(gV n_44 1 v_42)])),(n_44,gB 1 eS v_42)]:Hp)) (λ_=>True) ?_ ?_
      ·rcases aj h_43 with⟨hc_45,h_43⟩|⟨hc_45,h_43⟩
       ·refine aB rfl hc_45 (au (aG Cc rfl 4 rfl wz (aC 0 2 il ft zf AR rfl rfl (gV n_34 1 s_31.1) rfl wz (aa (vS x_28) (dU (([x_28]:List ByteArray).map eS) pz BB rfl rfl rfl rfl rfl wz ?_)))))
        obtain ⟨a_46,hz_47,h_43⟩:=bind_some h_43
        refine kT 0 il ft (i:=3) Jo Jo sz9 z9 rfl (by decide) by9 (by decide) (λ_=>rfl) rfl rfl rfl hz_47 wz (λn_48=>aG Cc rfl 4 rfl wz (eB 0 il ft 2 zf rfl rfl [(vS x_4),(vI (w64 (10*(k_2:Int)))),(vI (w64 ((w64 (10*(k_2:Int)))+r_19.1))),(vI r_22.1),(gV n_48 1 a_46)] (stC_g rfl) wz (af ?_)))
        obtain rfl:=ae h_43
        exact aU n_48 trivial rfl (aK rfl)
       ·refine ay rfl hc_45 (ax ?_)
        obtain rfl:=ae h_43
        exact aU n_34 trivial rfl (aK rfl)
      ·rintro n_44 _ sl_ H_ hp_ hq_
       refine aO _ hp_ hq_ (au (dB (bv hD_29 hn_30) wz rfl (aa (vI ((k_26+1:Nat):Int)) (af ?_))))
       obtain rfl:=ae hc_35
       exact aV (k_26+1,l_27,(v_42,r_39.2.L,r_39.2.f_at),n_44) ⟨hL_36,aR hD_29⟩ (ls_ _) rfl (aK rfl)
    ·rintro ⟨s_31,n_34⟩ ho_ sl_ H_ hp_ hq_
     subst ho_
     refine aO _ hp_ hq_ (iQ 3 rfl (OL 3 2 [(vS x_4),(vI (w64 (10*(k_2:Int)))),(vI (w64 ((w64 (10*(k_2:Int)))+r_19.1))),(vI r_22.1),(vL eS s_31.1)] rfl rfl (λS hS=>nC (rfl) (nC (rfl) (nC (rfl) (nC (rfl) (nC (hS) (rfl)))))) (au (aa (gV n_10 5 s_7.1) (aC 0 2 il ft uq Db rfl rfl (.d (.agg (Spot.enc (⟨x_4,(⟨(w64 (10*(k_2:Int))),(w64 ((w64 (10*(k_2:Int)))+r_19.1))⟩:Window),r_22.1,s_31.1⟩:Spot)))) rfl wz (dU (([(⟨x_4,(⟨(w64 (10*(k_2:Int))),(w64 ((w64 (10*(k_2:Int)))+r_19.1))⟩:Window),r_22.1,s_31.1⟩:Spot)]:List Spot).map Spot.enc) Dr ez26 rfl rfl rfl rfl rfl wz ?_))))))
     obtain ⟨a_49,hz_50,hc_11⟩:=bind_some hc_11
     refine kT 0 il ft (i:=1) el26 el26 uq z57 rfl (by decide) by57 (by decide) (λ_=>rfl) rfl rfl rfl hz_50 wz (λn_51=>aa (gV n_51 5 a_49) (af (au (dB (bv hD_5 hn_6) wz rfl (aa (vI ((k_2+1:Nat):Int)) (af ?_))))))
     obtain rfl:=ae hc_11
     exact aV (k_2+1,l_3,(a_49,s_31.2.1,s_31.2.2),n_51) ⟨hL_12,aR hD_5⟩ (ls_ _) rfl (aK rfl)
 ·rintro ⟨s_7,n_10⟩ ho_ sl_ H_ hp_ hq_
  subst ho_
  refine aO _ hp_ hq_ (ai (aa (gV n_10 5 s_7.1) (aa (gV n_10 5 s_7.1) (af (iQ 1 rfl (fF 2 1 rfl rfl (fF 3 1 rfl rfl (fF 52 1 rfl rfl ?_))))))))
  obtain rfl:=ae hF
  exact aA (Ao (.inr rfl) [(vL Spot.enc s_7.1)] _ [0] [av 0] ⟨rfl,trivial⟩ (.cons (jB rfl rfl) (.nil)) (by kernel_rfl) ⟨(by kernel_rfl),trivial⟩ (by decide) (by kernel_rfl))
theorem lZ {s_1:Stream} {l_2:(List ByteArray)} {r:ByteArray×Stream} (hF:iw s_1 l_2=some r) :
  FnM Tryz.prog 23 [(.ref (av 0) 0 0),(vL eS l_2)] [(.cells 2 [(vL eI s_1.L),(vI s_1.f_at)])] (vS r.1) [some (.cells 2 [(vL eI r.2.L),(vI r.2.f_at)])]:=by
 refine FnM.of_wH ⟨Tryz.prog,12,[],[]⟩ rfl Tryz.func23 rfl rfl (lb_ rfl) (by kernel_rfl) ?_
 unfold iw at hF
 refine ai (aa (vS (⟨#[]⟩:ByteArray)) (af (ai (aa (vL eS l_2) (aa (.ref (av 0) 0 0) (aa (vL eS l_2) (bH xq rfl wz ?_)))))))
 obtain ⟨r_3,hr_4,hF⟩:=bind_some hF
 refine dA 0 [0] il ft (l7 hr_4) rfl hb48 rfl (by kernel_rfl) (by kernel_rfl) (by kernel_rfl) (by kernel_rfl) (by kernel_rfl) (by kernel_rfl) (by kernel_rfl) (by decide) (by kernel_rfl) wz (vI r_3.1) (by kernel_rfl) ([((av 0),some (.cells 2 [(vL eI r_3.2.L),(vI r_3.2.f_at)]))]:Hp) (by kernel_rfl) ?_
 obtain ⟨y_6,hy_7,hF⟩:=bind_some hF
 refine dC pz rfl rfl hy_7 rfl wz (bK sz9 ag9 rfl (vS y_6) rfl wz (aa (vS y_6) (af ?_)))
 obtain rfl:=ae hF
 exact aA (Ao (.inr rfl) [(vS y_6)] _ [0] [av 0] ⟨rfl,trivial⟩ (.cons (jB rfl rfl) (.nil)) (by kernel_rfl) ⟨(by kernel_rfl),trivial⟩ (by decide) (by kernel_rfl))
theorem l5 {s_1:Stream} {most_2:Int} {r:(List Campaign)×Stream} (hF:dE s_1 most_2=some r) :
  FnM Tryz.prog 5 [(.ref (av 0) 0 0),(vI most_2)] [(.cells 2 [(vL eI s_1.L),(vI s_1.f_at)])] (vL Campaign.enc r.1) [some (.cells 2 [(vL eI r.2.L),(vI r.2.f_at)])]:=by
 refine FnM.of_wH ⟨Tryz.prog,63,[],[]⟩ rfl Tryz.func5 rfl rfl (lb_ rfl) (by kernel_rfl) ?_
 unfold dE at hF
 refine ai (aa .nil (af (ai (aa .nil (af (ak (ai (dU (([(⟨#[99,97]⟩:ByteArray),(⟨#[99,98]⟩:ByteArray),(⟨#[99,99]⟩:ByteArray),(⟨#[99,100]⟩:ByteArray)]:List ByteArray).map eS) pz BB rfl rfl rfl rfl rfl wz (aa (vI most_2) ?_)))))))))
 obtain ⟨y_3,hy_4,hF⟩:=bind_some hF
 refine C8 xq sz9 (λ_=>rfl) rfl rfl hy_4 wz (bH xq rfl wz (aa (vI 0) (af (jv (λn_11 => ?_)))))
 obtain ⟨o_16,hj_17,hF⟩:=bind_some hF
 obtain ⟨hn_9,hj_17⟩:=aY hj_17
 refine fT (σ:=(List Campaign)×(List Int)×Int) (N:=Nm) (λp=>(λ(s_10:(List Campaign)×(List Int)×Int) (n_13:Nm)=>([(5,(gV n_13 8 s_10.1))]:SL_)) p.1 p.2) (λp=>(λ(s_10:(List Campaign)×(List Int)×Int) (n_13:Nm)=>([((av 0),some (.cells 2 [(vL eI s_10.2.1),(vI s_10.2.2)])),(n_13,gB 8 Campaign.enc s_10.1)]:Hp)) p.1 p.2) (λ(k_5:Nat)=>(λp=>(λ(s_10:(List Campaign)×(List Int)×Int) (n_13:Nm)=>([(0,(.ref (av 0) 0 0)),(5,(gV n_13 8 s_10.1)),(13,(vL eS y_3)),(14,(vI (y_3.length:Int))),(15,(vI (k_5:Int)))]:SL_)) p.1 p.2)) (λk x s=>ek k x s) o_16 y_3 ((([]:List Campaign),s_1.L,s_1.f_at),n_11) hj_17 rfl (aK rfl) ?_ ?_
 ·rintro ⟨k_5,l_6,s_10,n_13⟩ ⟨hL_15,hD_8⟩
  dsimp only at hL_15 hD_8
  cases l_6 with
  | nil =>
   obtain rfl:=ae hL_15
   refine ai (aa (vB (decide ((k_5:Int)<(y_3.length:Int)))) (af ?_))
   refine ak (ay rfl (drop_nil hD_8) (aW ?_))
   exact aU (s_10,n_13) rfl rfl (aK rfl)
  | cons x_7 l_6 =>
   obtain ⟨c_,hc_14,hL_15⟩:=bind_some hL_15
   refine ai (aa (vB (decide ((k_5:Int)<(y_3.length:Int)))) (af ?_))
   refine ak (aB rfl (bu hD_8) (ax ?_))
   unfold ek at hc_14
   refine ak (aM (ai (dC pz rfl rfl (bD hD_8) rfl wz (bK sz9 ag9 rfl (vS x_7) rfl wz (aa (vS x_7) (af (ak (ai (aa (.ref (av 0) 0 0) ?_)))))))))
   obtain ⟨r_18,hr_19,hc_14⟩:=bind_some hc_14
   refine dA 0 [0] il ft (iH hr_19) rfl NP rfl (by kernel_rfl) (by kernel_rfl) (by kernel_rfl) (by kernel_rfl) (by kernel_rfl) (by kernel_rfl) (by kernel_rfl) (by decide) (by kernel_rfl) wz (vB r_18.1) (by kernel_rfl) ([((av 0),some (.cells 2 [(vL eI r_18.2.L),(vI r_18.2.f_at)])),(n_13,gB 8 Campaign.enc s_10.1)]:Hp) (by kernel_rfl) (af ?_)
   rcases aj hc_14 with⟨hc_21,hc_14⟩|⟨hc_21,hc_14⟩
   ·refine aB rfl hc_21 (aW (au (dB (bv hD_8 hn_9) wz rfl (aa (vI ((k_5+1:Nat):Int)) (af ?_)))))
    obtain rfl:=ae hc_14
    exact aV (k_5+1,l_6,(s_10.1,r_18.2.L,r_18.2.f_at),n_13) ⟨hL_15,aR hD_8⟩ (ls_ _) rfl (aK rfl)
   ·refine ay rfl hc_21 (ax (ai (aa (vS x_7) (aa (.ref (av 0) 0 0) (dU (([(⟨#[]⟩:ByteArray),(⟨#[]⟩:ByteArray),(⟨#[99,97,114,115]⟩:ByteArray),(⟨#[102,111,111,100]⟩:ByteArray)]:List ByteArray).map eS) pz BB rfl rfl rfl rfl rfl wz ?_)))))
    obtain ⟨r_22,hr_23,hc_14⟩:=bind_some hc_14
    refine dA 0 [0] il ft (lZ hr_23) rfl hb23 rfl (by kernel_rfl) (by kernel_rfl) (by kernel_rfl) (by kernel_rfl) (by kernel_rfl) (by kernel_rfl) (by kernel_rfl) (by decide) (by kernel_rfl) wz (vS r_22.1) (by kernel_rfl) ([((av 0),some (.cells 2 [(vL eI r_22.2.L),(vI r_22.2.f_at)])),(n_13,gB 8 Campaign.enc s_10.1)]:Hp) (by kernel_rfl) (aa (.ref (av 0) 0 0) (dU (([0,0,10,20]:List Int).map eI) gq zJ rfl rfl rfl rfl rfl wz ?_))
    obtain ⟨r_25,hr_26,hc_14⟩:=bind_some hc_14
    refine dA 0 [0] il ft (eD hr_26) rfl IX rfl (by kernel_rfl) (by kernel_rfl) (by kernel_rfl) (by kernel_rfl) (by kernel_rfl) (by kernel_rfl) (by kernel_rfl) (by decide) (by kernel_rfl) wz (vI r_25.1) (by kernel_rfl) ([((av 0),some (.cells 2 [(vL eI r_25.2.L),(vI r_25.2.f_at)])),(n_13,gB 8 Campaign.enc s_10.1)]:Hp) (by kernel_rfl) (aa (.ref (av 0) 0 0) (dU (([30,50,60,100]:List Int).map eI) gq zJ rfl rfl rfl rfl rfl wz ?_))
    obtain ⟨r_28,hr_29,hc_14⟩:=bind_some hc_14
    refine dA 0 [0] il ft (eD hr_29) rfl IX rfl (by kernel_rfl) (by kernel_rfl) (by kernel_rfl) (by kernel_rfl) (by kernel_rfl) (by kernel_rfl) (by kernel_rfl) (by decide) (by kernel_rfl) wz (vI r_28.1) (by kernel_rfl) ([((av 0),some (.cells 2 [(vL eI r_28.2.L),(vI r_28.2.f_at)])),(n_13,gB 8 Campaign.enc s_10.1)]:Hp) (by kernel_rfl) (aJ (.d (.agg (Window.enc (⟨r_25.1,r_28.1⟩:Window)))) wz (by kernel_rfl) (aa (.ref (av 0) 0 0) (dU (([0,1,2,3,4,6]:List Int).map eI) gq zJ rfl rfl rfl rfl rfl wz ?_)))
    obtain ⟨r_31,hr_32,hc_14⟩:=bind_some hc_14
    refine dA 0 [0] il ft (eD hr_32) rfl IX rfl (by kernel_rfl) (by kernel_rfl) (by kernel_rfl) (by kernel_rfl) (by kernel_rfl) (by kernel_rfl) (by kernel_rfl) (by decide) (by kernel_rfl) wz (vI r_31.1) (by kernel_rfl) ([((av 0),some (.cells 2 [(vL eI r_31.2.L),(vI r_31.2.f_at)])),(n_13,gB 8 Campaign.enc s_10.1)]:Hp) (by kernel_rfl) (aa (.ref (av 0) 0 0) (dU (([0,1,2,3,9]:List Int).map eI) gq zJ rfl rfl rfl rfl rfl wz ?_))
    obtain ⟨r_34,hr_35,hc_14⟩:=bind_some hc_14
    refine dA 0 [0] il ft (eD hr_35) rfl IX rfl (by kernel_rfl) (by kernel_rfl) (by kernel_rfl) (by kernel_rfl) (by kernel_rfl) (by kernel_rfl) (by kernel_rfl) (by decide) (by kernel_rfl) wz (vI r_34.1) (by kernel_rfl) ([((av 0),some (.cells 2 [(vL eI r_34.2.L),(vI r_34.2.f_at)])),(n_13,gB 8 Campaign.enc s_10.1)]:Hp) (by kernel_rfl) (aa (.ref (av 0) 0 0) (dU (([0,500,1000,1500]:List Int).map eI) gq zJ rfl rfl rfl rfl rfl wz ?_))
    obtain ⟨r_37,hr_38,hc_14⟩:=bind_some hc_14
    refine dA 0 [0] il ft (eD hr_38) rfl IX rfl (by kernel_rfl) (by kernel_rfl) (by kernel_rfl) (by kernel_rfl) (by kernel_rfl) (by kernel_rfl) (by kernel_rfl) (by decide) (by kernel_rfl) wz (vI r_37.1) (by kernel_rfl) ([((av 0),some (.cells 2 [(vL eI r_37.2.L),(vI r_37.2.f_at)])),(n_13,gB 8 Campaign.enc s_10.1)]:Hp) (by kernel_rfl) (aJ (.agg [(vS x_7),(vS r_22.1),(vI r_25.1),(vI r_28.1),.nil,(vI r_31.1),(vI r_34.1),(vI r_37.1)]) wz (by kernel_rfl) (cz 0 (.inl rfl) z48 rfl wz (λn_40=>eB 0 il ft 2 oD rfl rfl [(vS x_7),(vS r_22.1),(vI r_25.1),(vI r_28.1),.nil,(vI r_31.1),(vI r_34.1),(vI r_37.1)] rfl wz (af (ak (ai (dU (([(⟨#[99,105,116,121]⟩:ByteArray),(⟨#[109,97,108,108]⟩:ByteArray)]:List ByteArray).map eS) pz BB rfl rfl rfl rfl rfl wz (bH xq rfl wz (aa (vI 0) (af (aO (H0:=([((av 0),some (.cells 2 [(vL eI r_37.2.L),(vI r_37.2.f_at)])),(n_13,gB 8 Campaign.enc s_10.1),(n_40,some (.cells 8 [(vS x_7),(vS r_22.1),(vI r_25.1),(vI r_28.1),.nil,(vI r_31.1),(vI r_34.1),(vI r_37.1)]))]:Hp)) ([(0,(.ref (av 0) 0 0)),(5,(gV n_13 8 s_10.1)),(8,(.ref n_40 0 0)),(13,(vL eS y_3)),(14,(vI (y_3.length:Int))),(15,(vI (k_5:Int))),(42,(vL eS ([(⟨#[99,105,116,121]⟩:ByteArray),(⟨#[109,97,108,108]⟩:ByteArray)]:List ByteArray))),(43,(vI (([(⟨#[99,105,116,121]⟩:ByteArray),(⟨#[109,97,108,108]⟩:ByteArray)]:List ByteArray).length:Int))),(44,(vI 0))]:SL_) (by kernel_rfl) (wG (by kernel_rfl)) (jv (λn_47 => ?_)))))))))))))
    obtain ⟨o_52,hj_53,hc_14⟩:=bind_some hc_14
    obtain ⟨hn_45,hj_53⟩:=aY hj_53
    refine fT (σ:=(List ByteArray)×(List Int)×Int) (N:=Nm) (λp=>(λ(s_46:(List ByteArray)×(List Int)×Int) (n_49:Nm)=>([(0,(.ref (av 0) 0 0)),(5,(gV n_13 8 s_10.1)),(8,(.ref n_40 0 0)),(13,(vL eS y_3)),(14,(vI (y_3.length:Int))),(15,(vI (k_5:Int)))]:SL_)) p.1 p.2) (λp=>(λ(s_46:(List ByteArray)×(List Int)×Int) (n_49:Nm)=>([((av 0),some (.cells 2 [(vL eI s_46.2.1),(vI s_46.2.2)])),(n_13,gB 8 Campaign.enc s_10.1),(n_40,some (.cells 8 [(vS x_7),(vS r_22.1),(vI r_25.1),(vI r_28.1),(gV n_49 1 s_46.1),(vI r_31.1),(vI r_34.1),(vI r_37.1)])),(n_49,gB 1 eS s_46.1)]:Hp)) p.1 p.2) (λ(k_41:Nat)=>(λp=>(λ(s_46:(List ByteArray)×(List Int)×Int) (n_49:Nm)=>([(0,(.ref (av 0) 0 0)),(5,(gV n_13 8 s_10.1)),(8,(.ref n_40 0 0)),(13,(vL eS y_3)),(14,(vI (y_3.length:Int))),(15,(vI (k_5:Int))),(42,(vL eS ([(⟨#[99,105,116,121]⟩:ByteArray),(⟨#[109,97,108,108]⟩:ByteArray)]:List ByteArray))),(43,(vI (([(⟨#[99,105,116,121]⟩:ByteArray),(⟨#[109,97,108,108]⟩:ByteArray)]:List ByteArray).length:Int))),(44,(vI (k_41:Int)))]:SL_)) p.1 p.2)) (λk x s=>gm k x s) o_52 ([(⟨#[99,105,116,121]⟩:ByteArray),(⟨#[109,97,108,108]⟩:ByteArray)]:List ByteArray) ((([]:List ByteArray),r_37.2.L,r_37.2.f_at),n_47) hj_53 rfl (aK rfl) ?_ ?_
    ·rintro ⟨k_41,l_42,s_46,n_49⟩ ⟨hL_51,hD_44⟩
     dsimp only at hL_51 hD_44
     cases l_42 with
     | nil =>
      obtain rfl:=ae hL_51
      refine ai (aa (vB (decide ((k_41:Int)<(([(⟨#[99,105,116,121]⟩:ByteArray),(⟨#[109,97,108,108]⟩:ByteArray)]:List ByteArray).length:Int)))) (af ?_))
      refine ak (ay rfl (drop_nil hD_44) (aW ?_))
      exact aU (s_46,n_49) rfl rfl (aK rfl)
     | cons x_43 l_42 =>
      obtain ⟨c_,hc_50,hL_51⟩:=bind_some hL_51
      refine ai (aa (vB (decide ((k_41:Int)<(([(⟨#[99,105,116,121]⟩:ByteArray),(⟨#[109,97,108,108]⟩:ByteArray)]:List ByteArray).length:Int)))) (af ?_))
      refine ak (aB rfl (bu hD_44) (ax ?_))
      unfold gm at hc_50
      refine ak (aM (ai (dC pz rfl rfl (bD hD_44) rfl wz (bK sz9 ag9 rfl (vS x_43) rfl wz (aa (vS x_43) (af (ai (aa (.ref (av 0) 0 0) ?_))))))))
      obtain ⟨r_54,hr_55,hc_50⟩:=bind_some hc_50
      refine dA 0 [0] il ft (iH hr_55) rfl NP rfl (by kernel_rfl) (by kernel_rfl) (by kernel_rfl) (by kernel_rfl) (by kernel_rfl) (by kernel_rfl) (by kernel_rfl) (by decide) (by kernel_rfl) wz (vB r_54.1) (by kernel_rfl) ([((av 0),some (.cells 2 [(vL eI r_54.2.L),(vI r_54.2.f_at)])),(n_13,gB 8 Campaign.enc s_10.1),(n_40,some (.cells 8 [(vS x_7),(vS r_22.1),(vI r_25.1),(vI r_28.1),(gV n_49 1 s_46.1),(vI r_31.1),(vI r_34.1),(vI r_37.1)])),(n_49,gB 1 eS s_46.1)]:Hp) (by kernel_rfl) (af ?_)
      obtain ⟨v_57,h_58,hc_50⟩:=bind_some hc_50
      refine ko (β:=Nm) (λ(n_59:Nm)=>([(0,(.ref (av 0) 0 0)),(5,(gV n_13 8 s_10.1)),(8,(.ref n_40 0 0)),(13,(vL eS y_3)),(14,(vI (y_3.length:Int))),(15,(vI (k_5:Int))),(42,(vL eS ([(⟨#[99,105,116,121]⟩:ByteArray),(⟨#[109,97,108,108]⟩:ByteArray)]:List ByteArray))),(43,(vI (([(⟨#[99,105,116,121]⟩:ByteArray),(⟨#[109,97,108,108]⟩:ByteArray)]:List ByteArray).length:Int))),(44,(vI (k_41:Int)))]:SL_)) (λ(n_59:Nm)=>([((av 0),some (.cells 2 [(vL eI r_54.2.L),(vI r_54.2.f_at)])),(n_13,gB 8 Campaign.enc s_10.1),(n_40,some (.cells 8 [(vS x_7),(vS r_22.1),(vI r_25.1),(vI r_28.1),(gV n_59 1 v_57),(vI r_31.1),(vI r_34.1),(vI r_37.1)])),(n_59,gB 1 eS v_57)]:Hp)) (λ_=>True) ?_ ?_
      ·rcases aj h_58 with⟨hc_60,h_58⟩|⟨hc_60,h_58⟩
       ·refine aB rfl hc_60 (au (aG EC rfl 4 rfl wz (aC 0 2 il ft zf AR rfl rfl (gV n_49 1 s_46.1) rfl wz (aa (vS x_43) (dU (([x_43]:List ByteArray).map eS) pz BB rfl rfl rfl rfl rfl wz ?_)))))
        obtain ⟨a_61,hz_62,h_58⟩:=bind_some h_58
        refine kT 0 il ft (i:=3) Jo Jo sz9 z9 rfl (by decide) by9 (by decide) (λ_=>rfl) rfl rfl rfl hz_62 wz (λn_63=>aG EC rfl 4 rfl wz (eB 0 il ft 2 zf rfl rfl [(vS x_7),(vS r_22.1),(vI r_25.1),(vI r_28.1),(gV n_63 1 a_61),(vI r_31.1),(vI r_34.1),(vI r_37.1)] (stC_g rfl) wz (af ?_)))
        obtain rfl:=ae h_58
        exact aU n_63 trivial rfl (aK rfl)
       ·refine ay rfl hc_60 (ax ?_)
        obtain rfl:=ae h_58
        exact aU n_49 trivial rfl (aK rfl)
      ·rintro n_59 _ sl_ H_ hp_ hq_
       refine aO _ hp_ hq_ (au (dB (bv hD_44 hn_45) wz rfl (aa (vI ((k_41+1:Nat):Int)) (af ?_))))
       obtain rfl:=ae hc_50
       exact aV (k_41+1,l_42,(v_57,r_54.2.L,r_54.2.f_at),n_59) ⟨hL_51,aR hD_44⟩ (ls_ _) rfl (aK rfl)
    ·rintro ⟨s_46,n_49⟩ ho_ sl_ H_ hp_ hq_
     subst ho_
     refine aO _ hp_ hq_ (iQ 3 rfl (OL 3 2 [(vS x_7),(vS r_22.1),(vI r_25.1),(vI r_28.1),(vL eS s_46.1),(vI r_31.1),(vI r_34.1),(vI r_37.1)] rfl rfl (λS hS=>nC (rfl) (nC (rfl) (nC (rfl) (nC (rfl) (nC (hS) (nC (rfl) (nC (rfl) (nC (rfl) (rfl))))))))) (au (aa (gV n_13 8 s_10.1) (aC 0 2 il ft oD vG rfl rfl (.d (.agg (Campaign.enc (⟨x_7,r_22.1,(⟨r_25.1,r_28.1⟩:Window),s_46.1,r_31.1,r_34.1,r_37.1⟩:Campaign)))) rfl wz (dU (([(⟨x_7,r_22.1,(⟨r_25.1,r_28.1⟩:Window),s_46.1,r_31.1,r_34.1,r_37.1⟩:Campaign)]:List Campaign).map Campaign.enc) Am Oz rfl rfl rfl rfl rfl wz ?_))))))
     obtain ⟨a_64,hz_65,hc_14⟩:=bind_some hc_14
     refine kT 0 il ft (i:=1) NT NT oD z48 rfl (by decide) by48 (by decide) (λ_=>rfl) rfl rfl rfl hz_65 wz (λn_66=>aa (gV n_66 8 a_64) (af (au (dB (bv hD_8 hn_9) wz rfl (aa (vI ((k_5+1:Nat):Int)) (af ?_))))))
     obtain rfl:=ae hc_14
     exact aV (k_5+1,l_6,(a_64,s_46.2.1,s_46.2.2),n_66) ⟨hL_15,aR hD_8⟩ (ls_ _) rfl (aK rfl)
 ·rintro ⟨s_10,n_13⟩ ho_ sl_ H_ hp_ hq_
  subst ho_
  refine aO _ hp_ hq_ (ai (aa (gV n_13 8 s_10.1) (aa (gV n_13 8 s_10.1) (af (iQ 1 rfl (fF 4 1 rfl rfl (fF 5 1 rfl rfl (fF 62 1 rfl rfl ?_))))))))
  obtain rfl:=ae hF
  exact aA (Ao (.inr rfl) [(vL Campaign.enc s_10.1)] _ [0] [av 0] ⟨rfl,trivial⟩ (.cons (jB rfl rfl) (.nil)) (by kernel_rfl) ⟨(by kernel_rfl),trivial⟩ (by decide) (by kernel_rfl))
theorem sS {s_1:Stream} {low_2:Int} {high_3:Int} {r:Int×Stream} (hF:jK s_1 low_2 high_3=some r) :
  FnM Tryz.prog 24 [(.ref (av 0) 0 0),(vI low_2),(vI high_3)] [(.cells 2 [(vL eI s_1.L),(vI s_1.f_at)])] (vI r.1) [some (.cells 2 [(vL eI r.2.L),(vI r.2.f_at)])]:=by
 refine FnM.of_wH ⟨Tryz.prog,19,[],[]⟩ rfl Tryz.func24 rfl rfl (lb_ rfl) (by kernel_rfl) ?_
 unfold jK at hF
 refine ai (aa (vI 0) (af (ak (ai (aa (vI high_3) (aa (vI low_2) (aa (vB (decide (high_3<low_2))) (af ?_))))))))
 rcases aj hF with⟨hc_4,hF⟩|⟨hc_4,hF⟩
 ·refine aB rfl hc_4 (ai (aa (vI low_2) (aa (vI low_2) (af ?_))))
  obtain rfl:=ae hF
  exact aA (Ao (.inr rfl) [(vI low_2)] _ [0] [av 0] ⟨rfl,trivial⟩ (.cons (jB rfl rfl) (.nil)) (by kernel_rfl) ⟨(by kernel_rfl),trivial⟩ (by decide) (by kernel_rfl))
 ·refine ay rfl hc_4 (ax (ai (aa (vI low_2) (aa (.ref (av 0) 0 0) (aa (vI high_3) (aa (vI low_2) (aa (vI (w64 (high_3-low_2))) (aa (vI (w64 ((w64 (high_3-low_2))+1))) ?_))))))))
  obtain ⟨r_5,hr_6,hF⟩:=bind_some hF
  refine dA 0 [0] il ft (l7 hr_6) rfl hb48 rfl (by kernel_rfl) (by kernel_rfl) (by kernel_rfl) (by kernel_rfl) (by kernel_rfl) (by kernel_rfl) (by kernel_rfl) (by decide) (by kernel_rfl) wz (vI r_5.1) (by kernel_rfl) ([((av 0),some (.cells 2 [(vL eI r_5.2.L),(vI r_5.2.f_at)]))]:Hp) (by kernel_rfl) (aa (vI (w64 (low_2+r_5.1))) (aa (vI (w64 (low_2+r_5.1))) (af ?_)))
  obtain rfl:=ae hF
  exact aA (Ao (.inr rfl) [(vI (w64 (low_2+r_5.1)))] _ [0] [av 0] ⟨rfl,trivial⟩ (.cons (jB rfl rfl) (.nil)) (by kernel_rfl) ⟨(by kernel_rfl),trivial⟩ (by decide) (by kernel_rfl))
theorem vH {s_1:Stream} {low_2:Int} {high_3:Int} {r:Int×Stream} (hF:lQ s_1 low_2 high_3=some r) :
  FnM Tryz.prog 25 [(.ref (av 0) 0 0),(vI low_2),(vI high_3)] [(.cells 2 [(vL eI s_1.L),(vI s_1.f_at)])] (vI r.1) [some (.cells 2 [(vL eI r.2.L),(vI r.2.f_at)])]:=by
 refine FnM.of_wH ⟨Tryz.prog,22,[],[]⟩ rfl Tryz.func25 rfl rfl (lb_ rfl) (by kernel_rfl) ?_
 unfold lQ at hF
 refine ai (aa (vI 0) (af (ak (ai (aa (.ref (av 0) 0 0) ?_)))))
 obtain ⟨r_4,hr_5,hF⟩:=bind_some hF
 refine dA 0 [0] il ft (iH hr_5) rfl NP rfl (by kernel_rfl) (by kernel_rfl) (by kernel_rfl) (by kernel_rfl) (by kernel_rfl) (by kernel_rfl) (by kernel_rfl) (by decide) (by kernel_rfl) wz (vB r_4.1) (by kernel_rfl) ([((av 0),some (.cells 2 [(vL eI r_4.2.L),(vI r_4.2.f_at)]))]:Hp) (by kernel_rfl) (af ?_)
 rcases aj hF with⟨hc_7,hF⟩|⟨hc_7,hF⟩
 ·refine aB rfl hc_7 (ai (aa (.ref (av 0) 0 0) (aa (vI low_2) (aa (vI (w64 (low_2-1))) (aa (vI high_3) (aa (vI (w64 (high_3+1))) (aa (vI low_2) (aa (vI high_3) (dU (([(w64 (low_2-1)),(w64 (high_3+1)),low_2,high_3,(-1099511627776),1099511627776]:List Int).map eI) gq zJ rfl rfl rfl rfl rfl wz ?_)))))))))
  obtain ⟨r_8,hr_9,hF⟩:=bind_some hF
  refine dA 0 [0] il ft (eD hr_9) rfl IX rfl (by kernel_rfl) (by kernel_rfl) (by kernel_rfl) (by kernel_rfl) (by kernel_rfl) (by kernel_rfl) (by kernel_rfl) (by decide) (by kernel_rfl) wz (vI r_8.1) (by kernel_rfl) ([((av 0),some (.cells 2 [(vL eI r_8.2.L),(vI r_8.2.f_at)]))]:Hp) (by kernel_rfl) (aa (vI r_8.1) (af ?_))
  obtain rfl:=ae hF
  exact aA (Ao (.inr rfl) [(vI r_8.1)] _ [0] [av 0] ⟨rfl,trivial⟩ (.cons (jB rfl rfl) (.nil)) (by kernel_rfl) ⟨(by kernel_rfl),trivial⟩ (by decide) (by kernel_rfl))
 ·refine ay rfl hc_7 (ax (ai (aa (.ref (av 0) 0 0) (aa (vI low_2) (aa (vI high_3) ?_)))))
  obtain ⟨r_11,hr_12,hF⟩:=bind_some hF
  refine dA 0 [0] il ft (sS hr_12) rfl hb24 rfl (by kernel_rfl) (by kernel_rfl) (by kernel_rfl) (by kernel_rfl) (by kernel_rfl) (by kernel_rfl) (by kernel_rfl) (by decide) (by kernel_rfl) wz (vI r_11.1) (by kernel_rfl) ([((av 0),some (.cells 2 [(vL eI r_11.2.L),(vI r_11.2.f_at)]))]:Hp) (by kernel_rfl) (aa (vI r_11.1) (af ?_))
  obtain rfl:=ae hF
  exact aA (Ao (.inr rfl) [(vI r_11.1)] _ [0] [av 0] ⟨rfl,trivial⟩ (.cons (jB rfl rfl) (.nil)) (by kernel_rfl) ⟨(by kernel_rfl),trivial⟩ (by decide) (by kernel_rfl))
theorem rT {s_1:Stream} {many_2:Int} {r:(List Play)×Stream} (hF:je s_1 many_2=some r) :
  FnM Tryz.prog 6 [(.ref (av 0) 0 0),(vI many_2)] [(.cells 2 [(vL eI s_1.L),(vI s_1.f_at)])] (vL Play.enc r.1) [some (.cells 2 [(vL eI r.2.L),(vI r.2.f_at)])]:=by
 refine FnM.of_wH ⟨Tryz.prog,38,[],[]⟩ rfl Tryz.func6 rfl rfl (lb_ rfl) (by kernel_rfl) ?_
 unfold je at hF
 refine ai (aa .nil (af (ai (aa .nil (af (ak (ai (aa (vI many_2) (aa (vI 0) (af (jv (λn_9 => ?_))))))))))))
 obtain ⟨o_14,hj_15,hF⟩:=bind_some hF
 obtain ⟨hn_7,hj_15⟩:=aY hj_15
 refine fT (σ:=(List Play)×(List Int)×Int) (N:=Nm) (λp=>(λ(s_8:(List Play)×(List Int)×Int) (n_11:Nm)=>([(5,(gV n_11 4 s_8.1))]:SL_)) p.1 p.2) (λp=>(λ(s_8:(List Play)×(List Int)×Int) (n_11:Nm)=>([((av 0),some (.cells 2 [(vL eI s_8.2.1),(vI s_8.2.2)])),(n_11,gB 4 Play.enc s_8.1)]:Hp)) p.1 p.2) (λ(k_3:Nat)=>(λp=>(λ(s_8:(List Play)×(List Int)×Int) (n_11:Nm)=>([(0,(.ref (av 0) 0 0)),(5,(gV n_11 4 s_8.1)),(7,(vI many_2)),(8,(vI (k_3:Int)))]:SL_)) p.1 p.2)) (λk x s=>iU k x s) o_14 (List.range (many_2).toNat) ((([]:List Play),s_1.L,s_1.f_at),n_9) hj_15 rfl (aK rfl) ?_ ?_
 ·rintro ⟨k_3,l_4,s_8,n_11⟩ ⟨hL_13,hD_6⟩
  dsimp only at hL_13 hD_6
  cases l_4 with
  | nil =>
   obtain rfl:=ae hL_13
   refine ai (aa (vB (decide ((k_3:Int)<many_2))) (af ?_))
   refine ak (ay rfl (oV hD_6) (aW ?_))
   exact aU (s_8,n_11) rfl rfl (aK rfl)
  | cons x_5 l_4 =>
   obtain ⟨c_,hc_12,hL_13⟩:=bind_some hL_13
   refine ai (aa (vB (decide ((k_3:Int)<many_2))) (af ?_))
   refine ak (aB rfl (mP hD_6) (ax ?_))
   unfold iU at hc_12
   refine ak (aM (ai (aa (.ref (av 0) 0 0) (dU (([(⟨#[99,97]⟩:ByteArray),(⟨#[99,97]⟩:ByteArray),(⟨#[99,98]⟩:ByteArray),(⟨#[99,99]⟩:ByteArray),(⟨#[122,122]⟩:ByteArray)]:List ByteArray).map eS) pz BB rfl rfl rfl rfl rfl wz ?_))))
   obtain ⟨r_16,hr_17,hc_12⟩:=bind_some hc_12
   refine dA 0 [0] il ft (lZ hr_17) rfl hb23 rfl (by kernel_rfl) (by kernel_rfl) (by kernel_rfl) (by kernel_rfl) (by kernel_rfl) (by kernel_rfl) (by kernel_rfl) (by decide) (by kernel_rfl) wz (vS r_16.1) (by kernel_rfl) ([((av 0),some (.cells 2 [(vL eI r_16.2.L),(vI r_16.2.f_at)])),(n_11,gB 4 Play.enc s_8.1)]:Hp) (by kernel_rfl) (aa (.ref (av 0) 0 0) ?_)
   obtain ⟨r_19,hr_20,hc_12⟩:=bind_some hc_12
   refine dA 0 [0] il ft (sS hr_20) rfl hb24 rfl (by kernel_rfl) (by kernel_rfl) (by kernel_rfl) (by kernel_rfl) (by kernel_rfl) (by kernel_rfl) (by kernel_rfl) (by decide) (by kernel_rfl) wz (vI r_19.1) (by kernel_rfl) ([((av 0),some (.cells 2 [(vL eI r_19.2.L),(vI r_19.2.f_at)])),(n_11,gB 4 Play.enc s_8.1)]:Hp) (by kernel_rfl) (aa (.ref (av 0) 0 0) (dU (([1,5]:List Int).map eI) gq zJ rfl rfl rfl rfl rfl wz ?_))
   obtain ⟨r_22,hr_23,hc_12⟩:=bind_some hc_12
   refine dA 0 [0] il ft (eD hr_23) rfl IX rfl (by kernel_rfl) (by kernel_rfl) (by kernel_rfl) (by kernel_rfl) (by kernel_rfl) (by kernel_rfl) (by kernel_rfl) (by decide) (by kernel_rfl) wz (vI r_22.1) (by kernel_rfl) ([((av 0),some (.cells 2 [(vL eI r_22.2.L),(vI r_22.2.f_at)])),(n_11,gB 4 Play.enc s_8.1)]:Hp) (by kernel_rfl) (aJ (.d (.agg (Play.enc (⟨(⟨#[112]⟩:ByteArray),r_16.1,r_19.1,r_22.1⟩:Play)))) wz (by kernel_rfl) (cz 0 (.inl rfl) z64 rfl wz (λn_25=>eB 0 il ft 2 FU rfl rfl [(vS (⟨#[112]⟩:ByteArray)),(vS r_16.1),(vI r_19.1),(vI r_22.1)] rfl wz (af (ak (ai (aa (.ref (av 0) 0 0) ?_)))))))
   obtain ⟨r_26,hr_27,hc_12⟩:=bind_some hc_12
   refine dA 0 [0] il ft (iH hr_27) rfl NP rfl (by kernel_rfl) (by kernel_rfl) (by kernel_rfl) (by kernel_rfl) (by kernel_rfl) (by kernel_rfl) (by kernel_rfl) (by decide) (by kernel_rfl) wz (vB r_26.1) (by kernel_rfl) ([((av 0),some (.cells 2 [(vL eI r_26.2.L),(vI r_26.2.f_at)])),(n_11,gB 4 Play.enc s_8.1),(n_25,some (.cells 4 [(vS (⟨#[112]⟩:ByteArray)),(vS r_16.1),(vI r_19.1),(vI r_22.1)]))]:Hp) (by kernel_rfl) (af ?_)
   obtain ⟨v_29,h_30,hc_12⟩:=bind_some hc_12
   refine aS [(0,(.ref (av 0) 0 0)),(5,(gV n_11 4 s_8.1)),(6,(.ref n_25 0 0)),(7,(vI many_2)),(8,(vI (k_3:Int)))] [((av 0),some (.cells 2 [(vL eI v_29.1),(vI v_29.2.1)])),(n_11,gB 4 Play.enc s_8.1),(n_25,some (.cells 4 [(vS v_29.2.2.1),(vS v_29.2.2.2.1),(vI v_29.2.2.2.2.1),(vI v_29.2.2.2.2.2)]))] ?_ ?_
   ·rcases aj h_30 with⟨hc_31,h_30⟩|⟨hc_31,h_30⟩
    ·refine aB rfl hc_31 (au (aa (.ref (av 0) 0 0) (dU (([(⟨#[112]⟩:ByteArray),(⟨#[]⟩:ByteArray)]:List ByteArray).map eS) pz BB rfl rfl rfl rfl rfl wz ?_)))
     obtain ⟨r_32,hr_33,h_30⟩:=bind_some h_30
     refine dA 0 [0] il ft (lZ hr_33) rfl hb23 rfl (by kernel_rfl) (by kernel_rfl) (by kernel_rfl) (by kernel_rfl) (by kernel_rfl) (by kernel_rfl) (by kernel_rfl) (by decide) (by kernel_rfl) wz (vS r_32.1) (by kernel_rfl) ([((av 0),some (.cells 2 [(vL eI r_32.2.L),(vI r_32.2.f_at)])),(n_11,gB 4 Play.enc s_8.1),(n_25,some (.cells 4 [(vS (⟨#[112]⟩:ByteArray)),(vS r_16.1),(vI r_19.1),(vI r_22.1)]))]:Hp) (by kernel_rfl) (aa (.ref (av 0) 0 0) (dU (([(⟨#[99,97]⟩:ByteArray),(⟨#[65]⟩:ByteArray)]:List ByteArray).map eS) pz BB rfl rfl rfl rfl rfl wz ?_))
     obtain ⟨r_35,hr_36,h_30⟩:=bind_some h_30
     refine dA 0 [0] il ft (lZ hr_36) rfl hb23 rfl (by kernel_rfl) (by kernel_rfl) (by kernel_rfl) (by kernel_rfl) (by kernel_rfl) (by kernel_rfl) (by kernel_rfl) (by decide) (by kernel_rfl) wz (vS r_35.1) (by kernel_rfl) ([((av 0),some (.cells 2 [(vL eI r_35.2.L),(vI r_35.2.f_at)])),(n_11,gB 4 Play.enc s_8.1),(n_25,some (.cells 4 [(vS (⟨#[112]⟩:ByteArray)),(vS r_16.1),(vI r_19.1),(vI r_22.1)]))]:Hp) (by kernel_rfl) (aa (.ref (av 0) 0 0) ?_)
     obtain ⟨r_38,hr_39,h_30⟩:=bind_some h_30
     refine dA 0 [0] il ft (vH hr_39) rfl hb25 rfl (by kernel_rfl) (by kernel_rfl) (by kernel_rfl) (by kernel_rfl) (by kernel_rfl) (by kernel_rfl) (by kernel_rfl) (by decide) (by kernel_rfl) wz (vI r_38.1) (by kernel_rfl) ([((av 0),some (.cells 2 [(vL eI r_38.2.L),(vI r_38.2.f_at)])),(n_11,gB 4 Play.enc s_8.1),(n_25,some (.cells 4 [(vS (⟨#[112]⟩:ByteArray)),(vS r_16.1),(vI r_19.1),(vI r_22.1)]))]:Hp) (by kernel_rfl) (aa (.ref (av 0) 0 0) ?_)
     obtain ⟨r_41,hr_42,h_30⟩:=bind_some h_30
     refine dA 0 [0] il ft (vH hr_42) rfl hb25 rfl (by kernel_rfl) (by kernel_rfl) (by kernel_rfl) (by kernel_rfl) (by kernel_rfl) (by kernel_rfl) (by kernel_rfl) (by decide) (by kernel_rfl) wz (vI r_41.1) (by kernel_rfl) ([((av 0),some (.cells 2 [(vL eI r_41.2.L),(vI r_41.2.f_at)])),(n_11,gB 4 Play.enc s_8.1),(n_25,some (.cells 4 [(vS (⟨#[112]⟩:ByteArray)),(vS r_16.1),(vI r_19.1),(vI r_22.1)]))]:Hp) (by kernel_rfl) (aJ (.d (.agg (Play.enc (⟨r_32.1,r_35.1,r_38.1,r_41.1⟩:Play)))) wz (by kernel_rfl) (eB 0 il ft 2 FU rfl rfl [(vS r_32.1),(vS r_35.1),(vI r_38.1),(vI r_41.1)] rfl wz (af ?_)))
     obtain rfl:=ae h_30
     exact cu
    ·refine ay rfl hc_31 (ax ?_)
     obtain rfl:=ae h_30
     exact cu
   ·rintro ⟨⟩ _ sl_ H_ hp_ hq_
    refine aO _ hp_ hq_ (au (aa (gV n_11 4 s_8.1) (aC 0 2 il ft FU Ql rfl rfl (.d (.agg (Play.enc (⟨v_29.2.2.1,v_29.2.2.2.1,v_29.2.2.2.2.1,v_29.2.2.2.2.2⟩:Play)))) rfl wz (dU (([(⟨v_29.2.2.1,v_29.2.2.2.1,v_29.2.2.2.2.1,v_29.2.2.2.2.2⟩:Play)]:List Play).map Play.enc) PH ez30 rfl rfl rfl rfl rfl wz ?_))))
    obtain ⟨a_44,hz_45,hc_12⟩:=bind_some hc_12
    refine kT 0 il ft (i:=1) el30 el30 FU z64 rfl (by decide) by64 (by decide) (λ_=>rfl) rfl rfl rfl hz_45 wz (λn_46=>aa (gV n_46 4 a_44) (af (au (dB (oO hD_6 hn_7) wz rfl (aa (vI ((k_3+1:Nat):Int)) (af ?_))))))
    obtain rfl:=ae hc_12
    exact aV (k_3+1,l_4,(a_44,v_29.1,v_29.2.1),n_46) ⟨hL_13,aR hD_6⟩ (ls_ _) rfl (aK rfl)
 ·rintro ⟨s_8,n_11⟩ ho_ sl_ H_ hp_ hq_
  subst ho_
  refine aO _ hp_ hq_ (ai (aa (gV n_11 4 s_8.1) (aa (gV n_11 4 s_8.1) (af (iQ 1 rfl (fF 4 1 rfl rfl (fF 5 1 rfl rfl (fF 37 1 rfl rfl ?_))))))))
  obtain rfl:=ae hF
  exact aA (Ao (.inr rfl) [(vL Play.enc s_8.1)] _ [0] [av 0] ⟨rfl,trivial⟩ (.cons (jB rfl rfl) (.nil)) (by kernel_rfl) ⟨(by kernel_rfl),trivial⟩ (by decide) (by kernel_rfl))
theorem d9 {s_1:ByteArray} {r:Bool} (hF:eG s_1=some r) :
  FnM Tryz.prog 52 [(vS s_1)] [] (vB r) []:=by
 refine FnM.of_wH ⟨Tryz.prog,48,[],[]⟩ rfl Tryz.func52 rfl rfl (lb_ rfl) (by kernel_rfl) ?_
 unfold eG at hF
 refine ai (aa (vB false) (af (ak (ai (aa (vI 0) (af ?_))))))
 obtain ⟨o_10,hj_11,hF⟩:=bind_some hF
 obtain ⟨nq_33,hj_11⟩:=dR hj_11
 refine gD (λ(s_7:Int)=>[(0,(vS s_1))]) (λ(s_7:Int)=>[]) (λ(k_2:Nat)=>(λ(s_7:Int)=>[(0,(vS s_1)),(3,(vI s_7))])) (λs=>jX s_1 s) o_10 nq_33 0 hj_11 rfl (aK rfl) ?_ ?_
 ·rintro ⟨k_2,s_7⟩ hL_9
  dsimp only at hL_9
  cases k_2 with
  | zero=>cases hL_9
  | succ k_2 =>
   obtain ⟨c_,hc_8,hL_9⟩:=bind_some hL_9
   unfold jX at hc_8
   refine ak (ai (aa (vI s_7) (aa (vS s_1) (wF un9 rfl wz (aa (vB (decide (s_7<(s_1.size:Int)))) (af ?_))))))
   rcases aj hc_8 with⟨hc_12,hc_8⟩|⟨hc_12,hc_8⟩
   ·refine aB rfl hc_12 (ax (ak (aM (ai (aa (vS s_1) (aa (vI s_7) ?_))))))
    obtain ⟨b_13,hy_14,hc_8⟩:=bind_some hc_8
    refine wO un9 rfl rfl hy_14 wz (aa (.d (.int .u8 (b_13.toNat:Int))) (af (ak ?_)))
    obtain ⟨v_15,h_16,hc_8⟩:=bind_some hc_8
    refine aS [(0,(vS s_1)),(3,(vI s_7)),(40,(vB v_15))] [] ?_ ?_
    ·refine au (aa (.d (.int .u8 (b_13.toNat:Int))) (aa (vB (decide ((b_13.toNat:Int)>=97))) ?_))
     rcases aj h_16 with⟨hc_17,h_16⟩|⟨hc_17,h_16⟩
     ·refine aD rfl hc_17 wz (aJ (.d (.int .u8 (b_13.toNat:Int))) wa rfl (aJ (vB (decide ((b_13.toNat:Int)<=122))) wa rfl (aa (vB (decide ((b_13.toNat:Int)<=122))) ?_)))
      rcases aj h_16 with⟨hc_18,h_16⟩|⟨hc_18,h_16⟩
      ·refine aD rfl hc_18 wz (ah (ah (ah (bZ (wn rfl rfl) (bZ (wn rfl rfl) (bZ (wn rfl rfl) (bZ (wn rfl rfl) (bZ (wn rfl rfl) (bZ (wn rfl rfl) (bZ (wn rfl rfl) (bZ (wn rfl rfl) (bZ (wn rfl rfl) (bZ (wn rfl rfl) (bZ (wn rfl rfl) (bZ (wn rfl rfl) (bZ (wn rfl rfl) (bZ (wn rfl rfl) (ah (aa (vB true) (aa (vB false) (af ?_)))))))))))))))))))))
       obtain rfl:=ae h_16
       exact cu
      ·refine aD rfl hc_18 wz (aJ (vI s_7) wa rfl (aJ (vB (decide (s_7>0))) wa rfl ?_))
       rcases aj h_16 with⟨hc_19,h_16⟩|⟨hc_19,h_16⟩
       ·refine aD rfl hc_19 wa (aJ (.d (.int .u8 (b_13.toNat:Int))) wa rfl (aJ (vB (decide ((b_13.toNat:Int)>=48))) wa rfl ?_))
        rcases aj h_16 with⟨hc_20,h_16⟩|⟨hc_20,h_16⟩
        ·refine aD rfl hc_20 wa (aJ (.d (.int .u8 (b_13.toNat:Int))) wa rfl (aJ (vB (decide ((b_13.toNat:Int)<=57))) wa rfl (aJ (vB (decide ((b_13.toNat:Int)<=57))) wa rfl ?_)))
         rcases aj h_16 with⟨hc_21,h_16⟩|⟨hc_21,h_16⟩
         ·refine aD rfl hc_21 wa (ah (ah (aJ (vB true) wa rfl (aJ (vB true) wa rfl (ah (ah (aJ (vB true) wa rfl (aJ (vB true) wa rfl (aa (vB true) (aa (vB false) (af ?_)))))))))))
          obtain rfl:=ae h_16
          exact cu
         ·refine aD rfl hc_21 wa (aJ (.d (.int .u8 (b_13.toNat:Int))) wa rfl (aJ (vB ((b_13.toNat:Int)==45)) wa rfl (aJ (vB ((b_13.toNat:Int)==45)) wa rfl ?_)))
          rcases aj h_16 with⟨hc_22,h_16⟩|⟨hc_22,h_16⟩
          ·refine aD rfl hc_22 wa (ah (ah (aJ (vB true) wa rfl (aJ (vB true) wa rfl (aa (vB true) (aa (vB false) (af ?_)))))))
           obtain rfl:=ae h_16
           exact cu
          ·refine aD rfl hc_22 wa (aJ (.d (.int .u8 (b_13.toNat:Int))) wa rfl (aJ (vB ((b_13.toNat:Int)==95)) wa rfl (aJ (vB ((b_13.toNat:Int)==95)) wa rfl (aJ (vB ((b_13.toNat:Int)==95)) wa rfl (aa (vB ((b_13.toNat:Int)==95)) (aa (vB (!((b_13.toNat:Int)==95))) (af ?_)))))))
           obtain rfl:=ae h_16
           exact cu
        ·refine aD rfl hc_20 wa (ah (ah (aJ (vB false) wa rfl (aJ (vB false) wa rfl (aJ (.d (.int .u8 (b_13.toNat:Int))) wa rfl (aJ (vB ((b_13.toNat:Int)==45)) wa rfl (aJ (vB ((b_13.toNat:Int)==45)) wa rfl ?_)))))))
         rcases aj h_16 with⟨hc_23,h_16⟩|⟨hc_23,h_16⟩
         ·refine aD rfl hc_23 wa (ah (ah (aJ (vB true) wa rfl (aJ (vB true) wa rfl (aa (vB true) (aa (vB false) (af ?_)))))))
          obtain rfl:=ae h_16
          exact cu
         ·refine aD rfl hc_23 wa (aJ (.d (.int .u8 (b_13.toNat:Int))) wa rfl (aJ (vB ((b_13.toNat:Int)==95)) wa rfl (aJ (vB ((b_13.toNat:Int)==95)) wa rfl (aJ (vB ((b_13.toNat:Int)==95)) wa rfl (aa (vB ((b_13.toNat:Int)==95)) (aa (vB (!((b_13.toNat:Int)==95))) (af ?_)))))))
          obtain rfl:=ae h_16
          exact cu
       ·refine aD rfl hc_19 wa (ah (ah (ah (bZ (wn rfl rfl) (bZ (wn rfl rfl) (ah (ah (bZ (wn rfl rfl) (bZ (wn rfl rfl) (ah (ah (bZ (wn rfl rfl) (bZ (wn rfl rfl) (ah (aJ (vB false) wa rfl (aa (vB false) (aa (vB true) (af ?_))))))))))))))))))
        obtain rfl:=ae h_16
        exact cu
     ·refine aD rfl hc_17 wz (ah (ah (aa (vB false) (aa (vB false) (aJ (vI s_7) wa rfl (aJ (vB (decide (s_7>0))) wa rfl ?_))))))
      rcases aj h_16 with⟨hc_24,h_16⟩|⟨hc_24,h_16⟩
      ·refine aD rfl hc_24 wa (aJ (.d (.int .u8 (b_13.toNat:Int))) wa rfl (aJ (vB (decide ((b_13.toNat:Int)>=48))) wa rfl ?_))
       rcases aj h_16 with⟨hc_25,h_16⟩|⟨hc_25,h_16⟩
       ·refine aD rfl hc_25 wa (aJ (.d (.int .u8 (b_13.toNat:Int))) wa rfl (aJ (vB (decide ((b_13.toNat:Int)<=57))) wa rfl (aJ (vB (decide ((b_13.toNat:Int)<=57))) wa rfl ?_)))
        rcases aj h_16 with⟨hc_26,h_16⟩|⟨hc_26,h_16⟩
        ·refine aD rfl hc_26 wa (ah (ah (aJ (vB true) wa rfl (aJ (vB true) wa rfl (ah (ah (aJ (vB true) wa rfl (aJ (vB true) wa rfl (aa (vB true) (aa (vB false) (af ?_)))))))))))
         obtain rfl:=ae h_16
         exact cu
        ·refine aD rfl hc_26 wa (aJ (.d (.int .u8 (b_13.toNat:Int))) wa rfl (aJ (vB ((b_13.toNat:Int)==45)) wa rfl (aJ (vB ((b_13.toNat:Int)==45)) wa rfl ?_)))
         rcases aj h_16 with⟨hc_27,h_16⟩|⟨hc_27,h_16⟩
         ·refine aD rfl hc_27 wa (ah (ah (aJ (vB true) wa rfl (aJ (vB true) wa rfl (aa (vB true) (aa (vB false) (af ?_)))))))
          obtain rfl:=ae h_16
          exact cu
         ·refine aD rfl hc_27 wa (aJ (.d (.int .u8 (b_13.toNat:Int))) wa rfl (aJ (vB ((b_13.toNat:Int)==95)) wa rfl (aJ (vB ((b_13.toNat:Int)==95)) wa rfl (aJ (vB ((b_13.toNat:Int)==95)) wa rfl (aa (vB ((b_13.toNat:Int)==95)) (aa (vB (!((b_13.toNat:Int)==95))) (af ?_)))))))
          obtain rfl:=ae h_16
          exact cu
       ·refine aD rfl hc_25 wa (ah (ah (aJ (vB false) wa rfl (aJ (vB false) wa rfl (aJ (.d (.int .u8 (b_13.toNat:Int))) wa rfl (aJ (vB ((b_13.toNat:Int)==45)) wa rfl (aJ (vB ((b_13.toNat:Int)==45)) wa rfl ?_)))))))
        rcases aj h_16 with⟨hc_28,h_16⟩|⟨hc_28,h_16⟩
        ·refine aD rfl hc_28 wa (ah (ah (aJ (vB true) wa rfl (aJ (vB true) wa rfl (aa (vB true) (aa (vB false) (af ?_)))))))
         obtain rfl:=ae h_16
         exact cu
        ·refine aD rfl hc_28 wa (aJ (.d (.int .u8 (b_13.toNat:Int))) wa rfl (aJ (vB ((b_13.toNat:Int)==95)) wa rfl (aJ (vB ((b_13.toNat:Int)==95)) wa rfl (aJ (vB ((b_13.toNat:Int)==95)) wa rfl (aa (vB ((b_13.toNat:Int)==95)) (aa (vB (!((b_13.toNat:Int)==95))) (af ?_)))))))
         obtain rfl:=ae h_16
         exact cu
      ·refine aD rfl hc_24 wa (ah (ah (ah (bZ (wn rfl rfl) (bZ (wn rfl rfl) (ah (ah (bZ (wn rfl rfl) (bZ (wn rfl rfl) (ah (ah (bZ (wn rfl rfl) (bZ (wn rfl rfl) (ah (aJ (vB false) wa rfl (aa (vB false) (aa (vB true) (af ?_))))))))))))))))))
       obtain rfl:=ae h_16
       exact cu
    ·rintro ⟨⟩ _ sl_ H_ hp_ hq_
     refine aO _ hp_ hq_ ?_
     rcases aj hc_8 with⟨hc_29,hc_8⟩|⟨hc_29,hc_8⟩
     ·refine aB rfl hc_29 (ai (aa (vB false) (af ?_)))
      obtain rfl:=ae hc_8
      obtain rfl:=ae hL_9
      obtain rfl:=ae hF
      exact aA (aL [(vB false)] ⟨rfl,trivial⟩)
     ·refine ay rfl hc_29 (ax (au (aa (vI s_7) (aa (vI (w64 (s_7+1))) (aa (vI (w64 (s_7+1))) (af ?_))))))
      obtain rfl:=ae hc_8
      exact aV (k_2,(w64 (s_7+1))) hL_9 (ls_ _) rfl (aK rfl)
   ·refine ay rfl hc_12 (aW ?_)
    obtain rfl:=ae hc_8
    obtain rfl:=ae hL_9
    exact aU (s_7) rfl rfl (aK rfl)
 ·rintro s_7 ho_ sl_ H_ hp_ hq_
  subst ho_
  refine aO _ hp_ hq_ (ak ?_)
  obtain ⟨v_30,h_31,hF⟩:=bind_some hF
  refine aS [(2,(vB v_30))] [] ?_ ?_
  ·refine au (aa (vS s_1) (aa (vB (sNe s_1 (⟨#[]⟩:ByteArray))) ?_))
   rcases aj h_31 with⟨hc_32,h_31⟩|⟨hc_32,h_31⟩
   ·refine aD rfl hc_32 wz (aJ (vS s_1) wa rfl (wF un9 rfl wa (aJ (vB (decide ((s_1.size:Int)<=40))) wa rfl (aa (vB (decide ((s_1.size:Int)<=40))) (aa (vB (decide ((s_1.size:Int)<=40))) (af ?_))))))
    obtain rfl:=ae h_31
    exact cu
   ·refine aD rfl hc_32 wz (ah (ah (ah (aa (vB false) (aa (vB false) (af ?_))))))
    obtain rfl:=ae h_31
    exact cu
  ·rintro ⟨⟩ _ sl_ H_ hp_ hq_
   refine aO _ hp_ hq_ ?_
   obtain rfl:=ae hF
   exact aA (aL [(vB v_30)] ⟨rfl,trivial⟩)
theorem uz {wv_1:Window} {r:Bool} (hF:jq wv_1=some r) :
  FnM Tryz.prog 53 [(.d (.agg (Window.enc wv_1)))] [] (vB r) []:=by
 refine FnM.of_wH ⟨Tryz.prog,18,[],[]⟩ rfl Tryz.func53 rfl rfl (lb_ rfl) (by kernel_rfl) ?_
 unfold jq at hF
 refine ai (gz 0 (.inl rfl) [(vI wv_1.From),(vI wv_1.To)] rfl rfl wz (λn_2=>aa (vB false) (af (ak ?_))))
 obtain ⟨v_3,h_4,hF⟩:=bind_some hF
 refine aS [(2,(vB v_3))] [(n_2,some (.cells 2 [(vI wv_1.From),(vI wv_1.To)]))] ?_ ?_
 ·refine au (aG mF rfl 0 rfl wz (aC 0 0 il ft sz3 ag3 rfl rfl (vI wv_1.From) rfl wz (aa (vB (decide (wv_1.From>=0))) ?_)))
  rcases aj h_4 with⟨hc_5,h_4⟩|⟨hc_5,h_4⟩
  ·refine aD rfl hc_5 wz (aG mF rfl 0 rfl wa (aC 0 0 il ft sz3 ag3 rfl rfl (vI wv_1.From) rfl wa (aG mq rfl 1 rfl wa (aC 0 0 il ft sz3 ag3 rfl rfl (vI wv_1.To) rfl wa (aJ (vB (decide (wv_1.From<wv_1.To))) wa rfl (aa (vB (decide (wv_1.From<wv_1.To))) ?_))))))
   rcases aj h_4 with⟨hc_6,h_4⟩|⟨hc_6,h_4⟩
   ·refine aD rfl hc_6 wz (aG mq rfl 1 rfl wa (aC 0 0 il ft sz3 ag3 rfl rfl (vI wv_1.To) rfl wa (aJ (vB (decide (wv_1.To<=345686400000))) wa rfl (aa (vB (decide (wv_1.To<=345686400000))) (aa (vB (decide (wv_1.To<=345686400000))) (af ?_))))))
    obtain rfl:=ae h_4
    exact cu
   ·refine aD rfl hc_6 wz (ah (ah (ah (aa (vB false) (aa (vB false) (af ?_))))))
    obtain rfl:=ae h_4
    exact cu
  ·refine aD rfl hc_5 wz (ah (ah (ah (ah (ah (aa (vB false) (aa (vB false) (ah (ah (ah (aa (vB false) (aa (vB false) (af ?_)))))))))))))
   obtain rfl:=ae h_4
   exact cu
 ·rintro ⟨⟩ _ sl_ H_ hp_ hq_
  refine aO _ hp_ hq_ ?_
  obtain rfl:=ae hF
  exact aA (aL [(vB v_3)] ⟨rfl,trivial⟩)
theorem bA {n_1:Int} {low_2:Int} {high_3:Int} {r:Bool} (hF:aQ n_1 low_2 high_3=some r) :
  FnM Tryz.prog 54 [(vI n_1),(vI low_2),(vI high_3)] [] (vB r) []:=by
 refine FnM.of_wH ⟨Tryz.prog,15,[],[]⟩ rfl Tryz.func54 rfl rfl (lb_ rfl) (by kernel_rfl) ?_
 unfold aQ at hF
 refine ai (aa (vB false) (af (ak ?_)))
 obtain ⟨v_4,h_5,hF⟩:=bind_some hF
 refine aS [(6,(vB v_4))] [] ?_ ?_
 ·refine au (aa (vI n_1) (aa (vI low_2) (aa (vB (decide (n_1<low_2))) ?_)))
  rcases aj h_5 with⟨hc_6,h_5⟩|⟨hc_6,h_5⟩
  ·refine aD rfl hc_6 wz (ah (ah (ah (aa (vB true) (aa (vB true) (af ?_))))))
   obtain rfl:=ae h_5
   exact cu
  ·refine aD rfl hc_6 wz (aJ (vI n_1) wa rfl (aJ (vI high_3) wa rfl (aJ (vB (decide (n_1>high_3))) wa rfl (aa (vB (decide (n_1>high_3))) (aa (vB (decide (n_1>high_3))) (af ?_))))))
   obtain rfl:=ae h_5
   exact cu
 ·rintro ⟨⟩ _ sl_ H_ hp_ hq_
  refine aO _ hp_ hq_ ?_
  obtain rfl:=ae hF
  exact aA (aL [(vB v_4)] ⟨rfl,trivial⟩)
theorem tO {l_1:(List ByteArray)} {r:Int} (hF:iM l_1=some r) :
  FnM Tryz.prog 75 [(vL eS l_1)] [] (vI r) []:=by
 refine FnM.of_wH ⟨Tryz.prog,27,[],[]⟩ rfl Tryz.func75 rfl rfl (lb_ rfl) (by kernel_rfl) ?_
 unfold iM at hF
 refine ai (aa (vI 0) (af (ak (ai (aa (vL eS l_1) (bH xq rfl wz (aa (vI 0) (af ?_))))))))
 obtain ⟨o_10,hj_11,hF⟩:=bind_some hF
 obtain ⟨hn_6,hj_11⟩:=aY hj_11
 refine bN (λ(s_7:Unit)=>[]) (λ(s_7:Unit)=>[]) (λ(k_2:Nat)=>(λ(s_7:Unit)=>[(0,(vL eS l_1)),(5,(vL eS l_1)),(6,(vI (l_1.length:Int))),(7,(vI (k_2:Int)))])) (λk x s=>gQ l_1 k x s) o_10 l_1 () hj_11 rfl (aK rfl) ?_ ?_
 ·rintro ⟨k_2,l_3,s_7⟩ ⟨hL_9,hD_5⟩
  dsimp only at hL_9 hD_5
  cases l_3 with
  | nil =>
   obtain rfl:=ae hL_9
   refine ai (aa (vB (decide ((k_2:Int)<(l_1.length:Int)))) (af ?_))
   refine ak (ay rfl (drop_nil hD_5) (aW ?_))
   exact aU (s_7) rfl rfl (aK rfl)
  | cons x_4 l_3 =>
   obtain ⟨c_,hc_8,hL_9⟩:=bind_some hL_9
   refine ai (aa (vB (decide ((k_2:Int)<(l_1.length:Int)))) (af ?_))
   refine ak (aB rfl (bu hD_5) (ax ?_))
   unfold gQ at hc_8
   refine ak (aM (ai (aa (vI (k_2:Int)) (dC pz rfl rfl (bD hD_5) rfl wz (bK sz9 ag9 rfl (vS x_4) rfl wz (aa (vI (k_2:Int)) (aa (vS x_4) (af (ak (ai (aa (vS x_4) ?_)))))))))))
   obtain ⟨r_12,hr_13,hc_8⟩:=bind_some hc_8
   refine aF (d9 hr_13) rfl AQ rfl rfl rfl rfl wz (aa (vB (!r_12)) (af ?_))
   rcases aj hc_8 with⟨hc_14,hc_8⟩|⟨hc_14,hc_8⟩
   ·refine aB rfl hc_14 (ai (aa (vI 5) (af ?_)))
    obtain rfl:=ae hc_8
    obtain rfl:=ae hL_9
    obtain rfl:=ae hF
    exact aA (aL [(vI 5)] ⟨rfl,trivial⟩)
   ·refine ay rfl hc_14 (ax (ak ?_))
    obtain ⟨v_15,h_16,hc_8⟩:=bind_some hc_8
    refine aS [(0,(vL eS l_1)),(5,(vL eS l_1)),(6,(vI (l_1.length:Int))),(7,(vI (k_2:Int))),(25,(vB v_15))] [] ?_ ?_
    ·refine au (aa (vI (k_2:Int)) (aa (vB (decide ((k_2:Int)>0))) ?_))
     rcases aj h_16 with⟨hc_17,h_16⟩|⟨hc_17,h_16⟩
     ·refine aD rfl hc_17 wz (aJ (vS x_4) wa rfl (aJ (vL eS l_1) wa rfl (aJ (vI (k_2:Int)) wa rfl (aJ (vI (w64 ((k_2:Int)-1))) wa rfl ?_))))
      obtain ⟨y_18,hy_19,h_16⟩:=bind_some h_16
      refine dC pz rfl rfl hy_19 rfl wa (bK sz9 ag9 rfl (vS y_18) rfl wa (aJ (vB (sLe x_4 y_18)) wa rfl (aa (vB (sLe x_4 y_18)) (af ?_))))
      obtain rfl:=ae h_16
      exact cu
     ·refine aD rfl hc_17 wz (ah (ah (ah (ah (ah (ah (ah (aa (vB false) (af ?_)))))))))
      obtain rfl:=ae h_16
      exact cu
    ·rintro ⟨⟩ _ sl_ H_ hp_ hq_
     refine aO _ hp_ hq_ ?_
     rcases aj hc_8 with⟨hc_20,hc_8⟩|⟨hc_20,hc_8⟩
     ·refine aB rfl hc_20 (ai (aa (vI 7) (af ?_)))
      obtain rfl:=ae hc_8
      obtain rfl:=ae hL_9
      obtain rfl:=ae hF
      exact aA (aL [(vI 7)] ⟨rfl,trivial⟩)
     ·refine ay rfl hc_20 (ax (au (dB (bv hD_5 hn_6) wz rfl (aa (vI ((k_2+1:Nat):Int)) (af ?_)))))
      obtain rfl:=ae hc_8
      exact aV (k_2+1,l_3,()) ⟨hL_9,aR hD_5⟩ (ls_ _) rfl (aK rfl)
 ·rintro s_7 ho_ sl_ H_ hp_ hq_
  subst ho_
  refine aO _ hp_ hq_ (ai (aa (vI 0) (af ?_)))
  obtain rfl:=ae hF
  exact aA (aL [(vI 0)] ⟨rfl,trivial⟩)
theorem qN {l_1:(List ByteArray)} {r:Int} (hF:fE l_1=some r) :
  FnM Tryz.prog 55 [(vL eS l_1)] [] (vI r) []:=by
 refine FnM.of_wH ⟨Tryz.prog,8,[],[]⟩ rfl Tryz.func55 rfl rfl (lb_ rfl) (by kernel_rfl) ?_
 unfold fE at hF
 refine ai (aa (vI 0) (af (ak (ai (aa (vL eS l_1) (bH xq rfl wz (aa (vB (decide ((l_1.length:Int)>20))) (af ?_))))))))
 rcases aj hF with⟨hc_2,hF⟩|⟨hc_2,hF⟩
 ·refine aB rfl hc_2 (ai (aa (vI 2) (af ?_)))
  obtain rfl:=ae hF
  exact aA (aL [(vI 2)] ⟨rfl,trivial⟩)
 ·refine ay rfl hc_2 (ax (ai (aa (vL eS l_1) ?_)))
  obtain ⟨r_3,hr_4,hF⟩:=bind_some hF
  refine aF (tO hr_4) rfl hb75 rfl rfl rfl rfl wz (aa (vI r_3) (af ?_))
  obtain rfl:=ae hF
  exact aA (aL [(vI r_3)] ⟨rfl,trivial⟩)
theorem xG {l_1:(List Spot)} {r:Int} (hF:jl l_1=some r) :
  FnM Tryz.prog 49 [(vL Spot.enc l_1)] [] (vI r) []:=by
 refine FnM.of_wH ⟨Tryz.prog,52,[],[]⟩ rfl Tryz.func49 rfl rfl (lb_ rfl) (by kernel_rfl) ?_
 unfold jl at hF
 refine ai (aa (vI 0) (af (ak (ai (aa (vL Spot.enc l_1) (bH Fa rfl wz (aa (vB (decide ((l_1.length:Int)>60))) (af ?_))))))))
 rcases aj hF with⟨hc_2,hF⟩|⟨hc_2,hF⟩
 ·refine aB rfl hc_2 (ai (aa (vI 2) (af ?_)))
  obtain rfl:=ae hF
  exact aA (aL [(vI 2)] ⟨rfl,trivial⟩)
 ·refine ay rfl hc_2 (ax (ak (ai (aa (vL Spot.enc l_1) (bH Fa rfl wz (aa (vI 0) (af ?_)))))))
  obtain ⟨o_11,hj_12,hF⟩:=bind_some hF
  obtain ⟨hn_7,hj_12⟩:=aY hj_12
  refine bN (λ(s_8:Unit)=>[]) (λ(s_8:Unit)=>[]) (λ(k_3:Nat)=>(λ(s_8:Unit)=>[(0,(vL Spot.enc l_1)),(9,(vL Spot.enc l_1)),(10,(vI (l_1.length:Int))),(11,(vI (k_3:Int)))])) (λk x s=>jC l_1 k x s) o_11 l_1 () hj_12 rfl (aK rfl) ?_ ?_
  ·rintro ⟨k_3,l_4,s_8⟩ ⟨hL_10,hD_6⟩
   dsimp only at hL_10 hD_6
   cases l_4 with
   | nil =>
    obtain rfl:=ae hL_10
    refine ai (aa (vB (decide ((k_3:Int)<(l_1.length:Int)))) (af ?_))
    refine ak (ay rfl (drop_nil hD_6) (aW ?_))
    exact aU (s_8) rfl rfl (aK rfl)
   | cons x_5 l_4 =>
    obtain ⟨c_,hc_9,hL_10⟩:=bind_some hL_10
    refine ai (aa (vB (decide ((k_3:Int)<(l_1.length:Int)))) (af ?_))
    refine ak (aB rfl (bu hD_6) (ax ?_))
    unfold jC at hc_9
    refine ak (aM (ai (aa (vI (k_3:Int)) (dC Dr rfl rfl (bD hD_6) rfl wz (bK uq Db rfl (.d (.agg (Spot.enc x_5))) rfl wz (cz 0 (.inl rfl) z57 rfl wz (λn_13=>aa (vI (k_3:Int)) (eB 0 il ft 0 uq rfl rfl (Spot.v x_5) rfl wz (af (ak (aM (ai (aG Ad rfl 0 rfl wz (aC 0 0 il ft sz9 ag9 rfl rfl (vS x_5.Key) rfl wz ?_))))))))))))))
    obtain ⟨r_14,hr_15,hc_9⟩:=bind_some hc_9
    refine aF (d9 hr_15) rfl AQ rfl rfl rfl rfl wz (aa (vB (!r_14)) (aa (vB (!r_14)) (af ?_)))
    rcases aj hc_9 with⟨hc_16,hc_9⟩|⟨hc_16,hc_9⟩
    ·refine aB rfl hc_16 (ai (aa (vI 5) (af ?_)))
     obtain rfl:=ae hc_9
     obtain rfl:=ae hL_10
     obtain rfl:=ae hF
     exact aA (aL [(vI 5)] ⟨rfl,trivial⟩)
    ·refine ay rfl hc_16 (ak ?_)
     obtain ⟨v_17,h_18,hc_9⟩:=bind_some hc_9
     refine aS [(0,(vL Spot.enc l_1)),(4,(.ref n_13 0 0)),(9,(vL Spot.enc l_1)),(10,(vI (l_1.length:Int))),(11,(vI (k_3:Int))),(21,(vB v_17))] [(n_13,some (.cells 5 (Spot.v x_5)))] ?_ ?_
     ·refine bE (aa (vI (k_3:Int)) (aa (vB (decide ((k_3:Int)>0))) ?_))
      rcases aj h_18 with⟨hc_19,h_18⟩|⟨hc_19,h_18⟩
      ·refine aD rfl hc_19 wz (aG Ad rfl 0 rfl wa (aC 4 0 (.inr (by kernel_rfl)) (λ_ _ ag=>trivial) sz9 ag9 rfl rfl (vS x_5.Key) rfl wa (aJ (vL Spot.enc l_1) wa rfl (aJ (vI (k_3:Int)) wa rfl (aJ (vI (w64 ((k_3:Int)-1))) wa rfl ?_)))))
       obtain ⟨y_20,hy_21,h_18⟩:=bind_some h_18
       refine dC Dr rfl rfl hy_21 rfl wa (rQ Ad rfl [.str y_20.Key,.int .i64 y_20.Time.From,.int .i64 y_20.Time.To,.int .i64 y_20.Room,dl eS y_20.Tags] rfl rfl wa (bK sz9 ag9 rfl (vS y_20.Key) rfl wa (aJ (vB (sLe x_5.Key y_20.Key)) wa rfl (aa (vB (sLe x_5.Key y_20.Key)) (aa (vB (sLe x_5.Key y_20.Key)) (af ?_))))))
       obtain rfl:=ae h_18
       exact cu
      ·refine aD rfl hc_19 wz (ah (ah (ah (ah (ah (ah (ah (ah (ah (aa (vB false) (aa (vB false) (af ?_))))))))))))
       obtain rfl:=ae h_18
       exact cu
     ·rintro ⟨⟩ _ sl_ H_ hp_ hq_
      refine aO _ hp_ hq_ ?_
      rcases aj hc_9 with⟨hc_22,hc_9⟩|⟨hc_22,hc_9⟩
      ·refine aB rfl hc_22 (ai (aa (vI 7) (af ?_)))
       obtain rfl:=ae hc_9
       obtain rfl:=ae hL_10
       obtain rfl:=ae hF
       exact aA (aL [(vI 7)] ⟨rfl,trivial⟩)
      ·refine ay rfl hc_22 (ak ?_)
       obtain ⟨v_23,h_24,hc_9⟩:=bind_some hc_9
       refine aS [(0,(vL Spot.enc l_1)),(4,(.ref n_13 0 0)),(9,(vL Spot.enc l_1)),(10,(vI (l_1.length:Int))),(11,(vI (k_3:Int))),(35,(vB v_23))] [(n_13,some (.cells 5 (Spot.v x_5)))] ?_ ?_
       ·refine au (aG EU rfl 1 rfl wz (aC 0 0 il ft xC Dj rfl rfl (.d (.agg (Window.enc x_5.Time))) rfl wz ?_))
        obtain ⟨r_25,hr_26,h_24⟩:=bind_some h_24
        refine aF (uz hr_26) rfl hb53 rfl rfl rfl rfl wz (aa (vB (!r_25)) ?_)
        rcases aj h_24 with⟨hc_27,h_24⟩|⟨hc_27,h_24⟩
        ·refine aD rfl hc_27 wz (ah (ah (ah (aa (vB true) (aa (vB true) (af ?_))))))
         obtain rfl:=ae h_24
         exact cu
        ·refine aD rfl hc_27 wz (aG z8 rfl 3 rfl wa (aC 0 0 il ft sz3 ag3 rfl rfl (vI x_5.Room) rfl wa ?_))
         obtain ⟨r_28,hr_29,h_24⟩:=bind_some h_24
         refine aF (bA hr_29) rfl rC rfl rfl rfl rfl wa (aa (vB r_28) (aa (vB r_28) (af ?_)))
         obtain rfl:=ae h_24
         exact cu
       ·rintro ⟨⟩ _ sl_ H_ hp_ hq_
        refine aO _ hp_ hq_ ?_
        rcases aj hc_9 with⟨hc_30,hc_9⟩|⟨hc_30,hc_9⟩
        ·refine aB rfl hc_30 (ai (aa (vI 1) (af ?_)))
         obtain rfl:=ae hc_9
         obtain rfl:=ae hL_10
         obtain rfl:=ae hF
         exact aA (aL [(vI 1)] ⟨rfl,trivial⟩)
        ·refine ay rfl hc_30 (ax (ai (aG Cc rfl 4 rfl wz (aC 0 0 il ft zf AR rfl rfl (vL eS x_5.Tags) rfl wz ?_))))
         obtain ⟨r_31,hr_32,hc_9⟩:=bind_some hc_9
         refine aF (qN hr_32) rfl hb55 rfl rfl rfl rfl wz (aa (vI r_31) (af (ai (aa (vI r_31) (aa (vB (r_31 != 0)) (af ?_))))))
         rcases aj hc_9 with⟨hc_33,hc_9⟩|⟨hc_33,hc_9⟩
         ·refine aB rfl hc_33 (ai (aa (vI r_31) (aa (vI r_31) (af ?_))))
          obtain rfl:=ae hc_9
          obtain rfl:=ae hL_10
          obtain rfl:=ae hF
          exact aA (aL [(vI r_31)] ⟨rfl,trivial⟩)
         ·refine ay rfl hc_33 (ax (au (dB (bv hD_6 hn_7) wz rfl (aa (vI ((k_3+1:Nat):Int)) (af ?_)))))
          obtain rfl:=ae hc_9
          exact aV (k_3+1,l_4,()) ⟨hL_10,aR hD_6⟩ (ls_ _) rfl (aK rfl)
  ·rintro s_8 ho_ sl_ H_ hp_ hq_
   subst ho_
   refine aO _ hp_ hq_ (ai (aa (vI 0) (af ?_)))
   obtain rfl:=ae hF
   exact aA (aL [(vI 0)] ⟨rfl,trivial⟩)
theorem gK {l_1:(List Campaign)} {r:Int} (hF:bR l_1=some r) :
  FnM Tryz.prog 35 [(vL Campaign.enc l_1)] [] (vI r) []:=by
 refine FnM.of_wH ⟨Tryz.prog,73,[],[]⟩ rfl Tryz.func35 rfl rfl (lb_ rfl) (by kernel_rfl) ?_
 unfold bR at hF
 refine ai (aa (vI 0) (af (ak (ai (aa (vL Campaign.enc l_1) (bH BA rfl wz (aa (vB (decide ((l_1.length:Int)>30))) (af ?_))))))))
 rcases aj hF with⟨hc_2,hF⟩|⟨hc_2,hF⟩
 ·refine aB rfl hc_2 (ai (aa (vI 2) (af ?_)))
  obtain rfl:=ae hF
  exact aA (aL [(vI 2)] ⟨rfl,trivial⟩)
 ·refine ay rfl hc_2 (ax (ak (ai (aa (vL Campaign.enc l_1) (bH BA rfl wz (aa (vI 0) (af ?_)))))))
  obtain ⟨o_11,hj_12,hF⟩:=bind_some hF
  obtain ⟨hn_7,hj_12⟩:=aY hj_12
  refine bN (λ(s_8:Unit)=>[]) (λ(s_8:Unit)=>[]) (λ(k_3:Nat)=>(λ(s_8:Unit)=>[(0,(vL Campaign.enc l_1)),(9,(vL Campaign.enc l_1)),(10,(vI (l_1.length:Int))),(11,(vI (k_3:Int)))])) (λk x s=>dN l_1 k x s) o_11 l_1 () hj_12 rfl (aK rfl) ?_ ?_
  ·rintro ⟨k_3,l_4,s_8⟩ ⟨hL_10,hD_6⟩
   dsimp only at hL_10 hD_6
   cases l_4 with
   | nil =>
    obtain rfl:=ae hL_10
    refine ai (aa (vB (decide ((k_3:Int)<(l_1.length:Int)))) (af ?_))
    refine ak (ay rfl (drop_nil hD_6) (aW ?_))
    exact aU (s_8) rfl rfl (aK rfl)
   | cons x_5 l_4 =>
    obtain ⟨c_,hc_9,hL_10⟩:=bind_some hL_10
    refine ai (aa (vB (decide ((k_3:Int)<(l_1.length:Int)))) (af ?_))
    refine ak (aB rfl (bu hD_6) (ax ?_))
    unfold dN at hc_9
    refine ak (aM (ai (aa (vI (k_3:Int)) (dC Am rfl rfl (bD hD_6) rfl wz (bK oD vG rfl (.d (.agg (Campaign.enc x_5))) rfl wz (cz 0 (.inl rfl) z48 rfl wz (λn_13=>aa (vI (k_3:Int)) (eB 0 il ft 0 oD rfl rfl (Campaign.v x_5) rfl wz (af (ak (aM (ak ?_))))))))))))
    obtain ⟨v_14,h_15,hc_9⟩:=bind_some hc_9
    refine aS [(0,(vL Campaign.enc l_1)),(3,(vI (k_3:Int))),(4,(.ref n_13 0 0)),(9,(vL Campaign.enc l_1)),(10,(vI (l_1.length:Int))),(11,(vI (k_3:Int))),(16,(vB v_14))] [(n_13,some (.cells 8 (Campaign.v x_5)))] ?_ ?_
    ·refine au (aG xe rfl 0 rfl wz (aC 0 0 il ft sz9 ag9 rfl rfl (vS x_5.Key) rfl wz ?_))
     obtain ⟨r_16,hr_17,h_15⟩:=bind_some h_15
     refine aF (d9 hr_17) rfl AQ rfl rfl rfl rfl wz (aa (vB (!r_16)) ?_)
     rcases aj h_15 with⟨hc_18,h_15⟩|⟨hc_18,h_15⟩
     ·refine aD rfl hc_18 wz (ah (ah (ah (ah (bZ (wn rfl rfl) (bZ (wn rfl rfl) (bZ (wn rfl rfl) (bZ (wn rfl rfl) (ah (aa (vB true) (aa (vB true) (af ?_))))))))))))
      obtain rfl:=ae h_15
      exact cu
     ·refine aD rfl hc_18 wz (aG KU rfl 1 rfl wa (aC 0 0 il ft sz9 ag9 rfl rfl (vS x_5.Class) rfl wa (aJ (vB (sNe x_5.Class (⟨#[]⟩:ByteArray))) wa rfl ?_)))
      rcases aj h_15 with⟨hc_19,h_15⟩|⟨hc_19,h_15⟩
      ·refine aD rfl hc_19 wa (aG KU rfl 1 rfl wa (aC 0 0 il ft sz9 ag9 rfl rfl (vS x_5.Class) rfl wa ?_))
       obtain ⟨r_20,hr_21,h_15⟩:=bind_some h_15
       refine aF (d9 hr_21) rfl AQ rfl rfl rfl rfl wa (aJ (vB (!r_20)) wa rfl (aJ (vB (!r_20)) wa rfl (aa (vB (!r_20)) (aa (vB (!r_20)) (af ?_)))))
       obtain rfl:=ae h_15
       exact cu
      ·refine aD rfl hc_19 wa (ah (ah (ah (ah (aJ (vB false) wa rfl (aa (vB false) (aa (vB false) (af ?_))))))))
       obtain rfl:=ae h_15
       exact cu
    ·rintro ⟨⟩ _ sl_ H_ hp_ hq_
     refine aO _ hp_ hq_ ?_
     rcases aj hc_9 with⟨hc_22,hc_9⟩|⟨hc_22,hc_9⟩
     ·refine aB rfl hc_22 (ai (aa (vI 5) (af ?_)))
      obtain rfl:=ae hc_9
      obtain rfl:=ae hL_10
      obtain rfl:=ae hF
      exact aA (aL [(vI 5)] ⟨rfl,trivial⟩)
     ·refine ay rfl hc_22 (ak ?_)
      obtain ⟨v_23,h_24,hc_9⟩:=bind_some hc_9
      refine aS [(0,(vL Campaign.enc l_1)),(4,(.ref n_13 0 0)),(9,(vL Campaign.enc l_1)),(10,(vI (l_1.length:Int))),(11,(vI (k_3:Int))),(32,(vB v_23))] [(n_13,some (.cells 8 (Campaign.v x_5)))] ?_ ?_
      ·refine bE (aa (vI (k_3:Int)) (aa (vB (decide ((k_3:Int)>0))) ?_))
       rcases aj h_24 with⟨hc_25,h_24⟩|⟨hc_25,h_24⟩
       ·refine aD rfl hc_25 wz (aG xe rfl 0 rfl wa (aC 4 0 (.inr (by kernel_rfl)) (λ_ _ ag=>trivial) sz9 ag9 rfl rfl (vS x_5.Key) rfl wa (aJ (vL Campaign.enc l_1) wa rfl (aJ (vI (k_3:Int)) wa rfl (aJ (vI (w64 ((k_3:Int)-1))) wa rfl ?_)))))
        obtain ⟨y_26,hy_27,h_24⟩:=bind_some h_24
        refine dC Am rfl rfl hy_27 rfl wa (rQ xe rfl (Campaign.enc y_26) rfl rfl wa (bK sz9 ag9 rfl (vS y_26.Key) rfl wa (aJ (vB (sLe x_5.Key y_26.Key)) wa rfl (aa (vB (sLe x_5.Key y_26.Key)) (aa (vB (sLe x_5.Key y_26.Key)) (af ?_))))))
        obtain rfl:=ae h_24
        exact cu
       ·refine aD rfl hc_25 wz (ah (ah (ah (ah (ah (ah (ah (ah (ah (aa (vB false) (aa (vB false) (af ?_))))))))))))
        obtain rfl:=ae h_24
        exact cu
      ·rintro ⟨⟩ _ sl_ H_ hp_ hq_
       refine aO _ hp_ hq_ ?_
       rcases aj hc_9 with⟨hc_28,hc_9⟩|⟨hc_28,hc_9⟩
       ·refine aB rfl hc_28 (ai (aa (vI 7) (af ?_)))
        obtain rfl:=ae hc_9
        obtain rfl:=ae hL_10
        obtain rfl:=ae hF
        exact aA (aL [(vI 7)] ⟨rfl,trivial⟩)
       ·refine ay rfl hc_28 (ak ?_)
        obtain ⟨v_29,h_30,hc_9⟩:=bind_some hc_9
        refine aS [(0,(vL Campaign.enc l_1)),(4,(.ref n_13 0 0)),(9,(vL Campaign.enc l_1)),(10,(vI (l_1.length:Int))),(11,(vI (k_3:Int))),(46,(vB v_29))] [(n_13,some (.cells 8 (Campaign.v x_5)))] ?_ ?_
        ·refine au (aG qZ rfl 2 rfl wz (aC 0 0 il ft xC Dj rfl rfl (.d (.agg (Window.enc x_5.Time))) rfl wz ?_))
         obtain ⟨r_31,hr_32,h_30⟩:=bind_some h_30
         refine aF (uz hr_32) rfl hb53 rfl rfl rfl rfl wz (aa (vB (!r_31)) ?_)
         rcases aj h_30 with⟨hc_33,h_30⟩|⟨hc_33,h_30⟩
         ·refine aD rfl hc_33 wz (ah (ah (ah (aa (vB true) (aa (vB true) (ah (ah (ah (aa (vB true) (aa (vB true) (ah (ah (ah (aa (vB true) (aa (vB true) (af ?_))))))))))))))))
          obtain rfl:=ae h_30
          exact cu
         ·refine aD rfl hc_33 wz (aG zT rfl 5 rfl wa (aC 0 0 il ft sz3 ag3 rfl rfl (vI x_5.Goal) rfl wa ?_))
          obtain ⟨r_34,hr_35,h_30⟩:=bind_some h_30
          refine aF (bA hr_35) rfl rC rfl rfl rfl rfl wa (aa (vB r_34) ?_)
          rcases aj h_30 with⟨hc_36,h_30⟩|⟨hc_36,h_30⟩
          ·refine aD rfl hc_36 wz (ah (ah (ah (aa (vB true) (aa (vB true) (ah (ah (ah (aa (vB true) (aa (vB true) (af ?_)))))))))))
           obtain rfl:=ae h_30
           exact cu
          ·refine aD rfl hc_36 wz (aG Me rfl 6 rfl wa (aC 0 0 il ft sz3 ag3 rfl rfl (vI x_5.Most) rfl wa ?_))
           obtain ⟨r_37,hr_38,h_30⟩:=bind_some h_30
           refine aF (bA hr_38) rfl rC rfl rfl rfl rfl wa (aa (vB r_37) ?_)
           rcases aj h_30 with⟨hc_39,h_30⟩|⟨hc_39,h_30⟩
           ·refine aD rfl hc_39 wz (ah (ah (ah (aa (vB true) (aa (vB true) (af ?_))))))
            obtain rfl:=ae h_30
            exact cu
           ·refine aD rfl hc_39 wz (aG P9 rfl 7 rfl wa (aC 0 0 il ft sz3 ag3 rfl rfl (vI x_5.Cents) rfl wa ?_))
            obtain ⟨r_40,hr_41,h_30⟩:=bind_some h_30
            refine aF (bA hr_41) rfl rC rfl rfl rfl rfl wa (aa (vB r_40) (aa (vB r_40) (af ?_)))
            obtain rfl:=ae h_30
            exact cu
        ·rintro ⟨⟩ _ sl_ H_ hp_ hq_
         refine aO _ hp_ hq_ ?_
         rcases aj hc_9 with⟨hc_42,hc_9⟩|⟨hc_42,hc_9⟩
         ·refine aB rfl hc_42 (ai (aa (vI 1) (af ?_)))
          obtain rfl:=ae hc_9
          obtain rfl:=ae hL_10
          obtain rfl:=ae hF
          exact aA (aL [(vI 1)] ⟨rfl,trivial⟩)
         ·refine ay rfl hc_42 (ax (ai (aG EC rfl 4 rfl wz (aC 0 0 il ft zf AR rfl rfl (vL eS x_5.Tags) rfl wz ?_))))
          obtain ⟨r_43,hr_44,hc_9⟩:=bind_some hc_9
          refine aF (qN hr_44) rfl hb55 rfl rfl rfl rfl wz (aa (vI r_43) (af (ai (aa (vI r_43) (aa (vB (r_43 != 0)) (af ?_))))))
          rcases aj hc_9 with⟨hc_45,hc_9⟩|⟨hc_45,hc_9⟩
          ·refine aB rfl hc_45 (ai (aa (vI r_43) (aa (vI r_43) (af ?_))))
           obtain rfl:=ae hc_9
           obtain rfl:=ae hL_10
           obtain rfl:=ae hF
           exact aA (aL [(vI r_43)] ⟨rfl,trivial⟩)
          ·refine ay rfl hc_45 (ax (au (dB (bv hD_6 hn_7) wz rfl (aa (vI ((k_3+1:Nat):Int)) (af ?_)))))
           obtain rfl:=ae hc_9
           exact aV (k_3+1,l_4,()) ⟨hL_10,aR hD_6⟩ (ls_ _) rfl (aK rfl)
  ·rintro s_8 ho_ sl_ H_ hp_ hq_
   subst ho_
   refine aO _ hp_ hq_ (ai (aa (vI 0) (af ?_)))
   obtain rfl:=ae hF
   exact aA (aL [(vI 0)] ⟨rfl,trivial⟩)
theorem mr {spots_1:(List Spot)} {l_2:(List Campaign)} {r:Int} (hF:dD spots_1 l_2=some r) :
  FnM Tryz.prog 26 [(vL Spot.enc spots_1),(vL Campaign.enc l_2)] [] (vI r) []:=by
 refine FnM.of_wH ⟨Tryz.prog,13,[],[]⟩ rfl Tryz.func26 rfl rfl (lb_ rfl) (by kernel_rfl) ?_
 unfold dD at hF
 refine ai (aa (vI 0) (af (ak (ai (aa (vL Spot.enc spots_1) ?_)))))
 obtain ⟨r_3,hr_4,hF⟩:=bind_some hF
 refine aF (xG hr_4) rfl hb49 rfl rfl rfl rfl wz (aa (vI r_3) (af (ai (aa (vI r_3) (aa (vB (r_3 != 0)) (af ?_))))))
 rcases aj hF with⟨hc_5,hF⟩|⟨hc_5,hF⟩
 ·refine aB rfl hc_5 (ai (aa (vI r_3) (aa (vI r_3) (af ?_))))
  obtain rfl:=ae hF
  exact aA (aL [(vI r_3)] ⟨rfl,trivial⟩)
 ·refine ay rfl hc_5 (ax (ai (aa (vL Campaign.enc l_2) ?_)))
  obtain ⟨r_6,hr_7,hF⟩:=bind_some hF
  refine aF (gK hr_7) rfl hb35 rfl rfl rfl rfl wz (aa (vI r_6) (af ?_))
  obtain rfl:=ae hF
  exact aA (aL [(vI r_6)] ⟨rfl,trivial⟩)
theorem nR {wv_1:Web} {i_2:Int} {r:Int} (hF:gZ wv_1 i_2=some r) :
  FnM Tryz.prog 31 [(.ref (av 0) 0 0),(vI i_2)] (ll 2 1 eI [(vI wv_1.f_camps)] wv_1.f_can) (vI r) (gJ 2 1 eI [(vI wv_1.f_camps)] wv_1.f_can):=by
 refine FnM.of_wHg (cs:=[(vI wv_1.f_camps)]) ⟨Tryz.prog,7,[],[]⟩ rfl Tryz.func31 rfl rfl (lb_ rfl) (by kernel_rfl) ?_
 unfold gZ at hF
 refine ai (aa (vI 0) (af (ai (aa (vI i_2) (aa (vI (w64 (2+i_2))) (aa (vI (w64 (2+i_2))) (af ?_)))))))
 obtain rfl:=ae hF
 exact aA (MW (k:=2) (cs:=[(vI wv_1.f_camps)]) (cs':=[(vI wv_1.f_camps)]) (rows:=wv_1.f_can) (rows':=wv_1.f_can) ([]:Hp) (.inr rfl) [(vI (w64 (2+i_2)))] ⟨rfl,trivial⟩ rfl rfl rfl rfl rfl rfl)
theorem rW {x_1:ByteArray} {r:Bool} (hF:cmp_isNaN_string x_1=some r) :
  FnM Tryz.prog 97 [(vS x_1)] [] (vB r) []:=by
 refine FnM.of_wH ⟨Tryz.prog,6,[],[]⟩ rfl Tryz.func97 rfl rfl (lb_ rfl) (by kernel_rfl) ?_
 unfold cmp_isNaN_string at hF
 refine ai (aa (vB false) (af (ai (aa (vS x_1) (aa (vS x_1) (aa (vB (sNe x_1 x_1)) (aa (vB (sNe x_1 x_1)) (af ?_))))))))
 obtain rfl:=ae hF
 exact aA (aL [(vB (sNe x_1 x_1))] ⟨rfl,trivial⟩)
theorem zX {x_1:ByteArray} {y_2:ByteArray} {r:Bool} (hF:cmp_Less_string x_1 y_2=some r) :
  FnM Tryz.prog 73 [(vS x_1),(vS y_2)] [] (vB r) []:=by
 refine FnM.of_wH ⟨Tryz.prog,17,[],[]⟩ rfl Tryz.func73 rfl rfl (lb_ rfl) (by kernel_rfl) ?_
 unfold cmp_Less_string at hF
 refine ai (aa (vB false) (af (ak ?_)))
 obtain ⟨v_3,h_4,hF⟩:=bind_some hF
 refine aS [(4,(vB v_3))] [] ?_ ?_
 ·refine au (aa (vS x_1) ?_)
  obtain ⟨r_5,hr_6,h_4⟩:=bind_some h_4
  refine aF (rW hr_6) rfl hb97 rfl rfl rfl rfl wz ?_
  rcases aj h_4 with⟨hc_7,h_4⟩|⟨hc_7,h_4⟩
  ·refine aD rfl hc_7 wz (aJ (vS y_2) wa rfl ?_)
   obtain ⟨r_8,hr_9,h_4⟩:=bind_some h_4
   refine aF (rW hr_9) rfl hb97 rfl rfl rfl rfl wa (aJ (vB (!r_8)) wa rfl (aa (vB (!r_8)) ?_))
   rcases aj h_4 with⟨hc_10,h_4⟩|⟨hc_10,h_4⟩
   ·refine aD rfl hc_10 wz (ah (ah (ah (aa (vB true) (aa (vB true) (af ?_))))))
    obtain rfl:=ae h_4
    exact cu
   ·refine aD rfl hc_10 wz (aJ (vS x_1) wa rfl (aJ (vS y_2) wa rfl (aJ (vB (sLt x_1 y_2)) wa rfl (aa (vB (sLt x_1 y_2)) (aa (vB (sLt x_1 y_2)) (af ?_))))))
    obtain rfl:=ae h_4
    exact cu
  ·refine aD rfl hc_7 wz (ah (ah (ah (aa (vB false) (aa (vB false) (aJ (vS x_1) wa rfl (aJ (vS y_2) wa rfl (aJ (vB (sLt x_1 y_2)) wa rfl (aa (vB (sLt x_1 y_2)) (aa (vB (sLt x_1 y_2)) (af ?_)))))))))))
   obtain rfl:=ae h_4
   exact cu
 ·rintro ⟨⟩ _ sl_ H_ hp_ hq_
  refine aO _ hp_ hq_ ?_
  obtain rfl:=ae hF
  exact aA (aL [(vB v_3)] ⟨rfl,trivial⟩)
theorem pF {x_1:ByteArray} {r:Bool} (hF:slices_isNaN_string x_1=some r) :
  FnM Tryz.prog 74 [(vS x_1)] [] (vB r) []:=by
 refine FnM.of_wH ⟨Tryz.prog,6,[],[]⟩ rfl Tryz.func74 rfl rfl (lb_ rfl) (by kernel_rfl) ?_
 unfold slices_isNaN_string at hF
 refine ai (aa (vB false) (af (ai (aa (vS x_1) (aa (vS x_1) (aa (vB (sNe x_1 x_1)) (aa (vB (sNe x_1 x_1)) (af ?_))))))))
 obtain rfl:=ae hF
 exact aA (aL [(vB (sNe x_1 x_1))] ⟨rfl,trivial⟩)
end Go.Proofs.YtkjlhdminmpmkacGreatDoor.Law

