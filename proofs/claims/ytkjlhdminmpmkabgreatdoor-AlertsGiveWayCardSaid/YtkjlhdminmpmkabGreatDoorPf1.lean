/-
 The machine computes these plain functions (written by a program of ours).
-/
import Derived.Test.YtkjlhdminmpmkabGreatDoorFacts
import Derived.Test.YtkjlhdminmpmkabGreatDoorDefs
import Derived.Test.YtkjlhdminmpmkabGreatDoorShelf
open Go Go.Eng Go.Proofs
namespace Go.Proofs.YtkjlhdminmpmkabGreatDoor.Law
set_option maxRecDepth 100000
set_option linter.unusedVariables false
set_option maxHeartbeats 1000000
theorem yz {x_1:Int} {n_2:Int} {r:Int} (hF:sJ x_1 n_2=some r) :
  FnM Tryz.prog 24 [(vI x_1),(vI n_2)] [] (vI r) []:=by
 refine FnM.of_wH ⟨Tryz.prog,16,[],[]⟩ rfl Tryz.func24 rfl rfl (lb_ rfl) (by kernel_rfl) ?_
 unfold sJ at hF
 refine ai (aa (vI 0) (ah (ak (ai (aa (vI n_2) (aa (vB (decide (n_2<1))) (ah ?_)))))))
 rcases aj hF with⟨hc_3,hF⟩|⟨hc_3,hF⟩
 ·refine ay rfl hc_3 (ai (aa (vI 0) (ah ?_)))
  obtain rfl:=ae hF
  exact aA (aK [(vI 0)] ⟨rfl,trivial⟩)
 ·refine ax rfl hc_3 (av (ai (aa (vI x_1) (aa (vI n_2) ?_))))
  obtain ⟨q_4,hz_5,hF⟩:=bind_some hF
  refine Qv rfl rfl hz_5 wz (aa (vI q_4) (ah (ak (ai (aa (vI q_4) (aa (vB (decide (q_4<0))) (ah ?_)))))))
  obtain ⟨v_6,h_7,hF⟩:=bind_some hF
  refine aP [(0,(vI v_6))] [] ?_ ?_
  ·rcases aj h_7 with⟨hc_8,h_7⟩|⟨hc_8,h_7⟩
   ·refine ay rfl hc_8 (au (aa (vI q_4) (aa (vI n_2) (aa (vI (w64 (q_4+n_2))) (aa (vI (w64 (q_4+n_2))) (ah ?_))))))
    obtain rfl:=ae h_7
    exact cu
   ·refine ax rfl hc_8 (av ?_)
    obtain rfl:=ae h_7
    exact cu
  ·rintro ⟨⟩ _ sl_ H_ hp_ hq_
   refine aN _ hp_ hq_ (ai (aa (vI v_6) (aa (vI v_6) (ah ?_))))
   obtain rfl:=ae hF
   exact aA (aK [(vI v_6)] ⟨rfl,trivial⟩)
theorem jV {s_1:Stream} {n_2:Int} {r:Int×Stream} (hF:iB s_1 n_2=some r) :
  FnM Tryz.prog 6 [(.ref (aD 0) 0 0),(vI n_2)] [(.cells 2 [(vL eI s_1.L),(vI s_1.f_at)])] (vI r.1) [some (.cells 2 [(vL eI r.2.L),(vI r.2.f_at)])]:=by
 refine FnM.of_wH ⟨Tryz.prog,64,[],[]⟩ rfl Tryz.func6 rfl rfl (lb_ rfl) (by kernel_rfl) ?_
 unfold iB at hF
 refine ai (aa (vI 0) (ah (ai (aa (.ref (aD 0) 0 0) (aa (.ref (aD 0) 0 0) (aG Fx rfl 1 rfl wz (aC 0 0 il ft sz3 ag3 rfl rfl (vI s_1.f_at) rfl wz (aa (vI (w64 (s_1.f_at+1))) (aa (.ref (aD 0) 0 0) (aG Fx rfl 1 rfl wz (fB 0 il ft 0 sz3 rfl rfl [(vL eI s_1.L),(vI (w64 (s_1.f_at+1)))] rfl wz (ah (ak (ai (aa (.ref (aD 0) 0 0) (aa (.ref (aD 0) 0 0) (aG Ig rfl 0 rfl wz (aC 0 0 il ft DD Jf rfl rfl (vL eI s_1.L) rfl wz (bG vJ rfl wz (aa (vB ((s_1.L.length:Int)==0)) (ah ?_)))))))))))))))))))))
 rcases aj hF with⟨hc_3,hF⟩|⟨hc_3,hF⟩
 ·refine ay rfl hc_3 (ai (aa (.ref (aD 0) 0 0) (aa (.ref (aD 0) 0 0) (aG Fx rfl 1 rfl wz (aC 0 0 il ft sz3 ag3 rfl rfl (vI (w64 (s_1.f_at+1))) rfl wz (aa (vI (w64 ((w64 (s_1.f_at+1))*7919))) (aa (vI n_2) ?_)))))))
  obtain ⟨r_4,hr_5,hF⟩:=bind_some hF
  refine aF (yz hr_5) rfl hb24 rfl rfl rfl rfl wz (aa (vI r_4) (ah ?_))
  obtain rfl:=ae hF
  exact aA (Cw (.inr rfl) [(vI r_4)] _ [0] [aD 0] ⟨rfl,trivial⟩ (.cons (kH rfl rfl) (.nil)) (by kernel_rfl) ⟨(by kernel_rfl),trivial⟩ (by decide) (by kernel_rfl))
 ·refine ax rfl hc_3 (av (ak (bC (aa (.ref (aD 0) 0 0) (aa (.ref (aD 0) 0 0) (aG Fx rfl 1 rfl wz (aC 3 0 (.inr (by kernel_rfl)) (λ_ _ ag=>trivial) sz3 ag3 rfl rfl (vI (w64 (s_1.f_at+1))) rfl wz (aa (vI (w64 ((w64 (s_1.f_at+1))-1))) (aa (.ref (aD 0) 0 0) (aa (.ref (aD 0) 0 0) (aG Ig rfl 0 rfl wz (aC 8 0 (.inr (by kernel_rfl)) (λ_ _ ag=>⟨.inl ⟨rfl,rfl⟩,trivial⟩) DD Jf rfl rfl (vL eI s_1.L) rfl wz (bG vJ rfl wz ?_)))))))))))))
  obtain ⟨q_6,hz_7,hF⟩:=bind_some hF
  refine Qv rfl rfl hz_7 wz (aa (vI q_6) (ah (ak (bC (aa (.ref (aD 0) 0 0) (aa (.ref (aD 0) 0 0) (aG Fx rfl 1 rfl wz (aC 3 0 (.inr (by kernel_rfl)) (λ_ _ ag=>trivial) sz3 ag3 rfl rfl (vI (w64 (s_1.f_at+1))) rfl wz (aa (vI (w64 ((w64 (s_1.f_at+1))-1))) (aa (.ref (aD 0) 0 0) (aa (.ref (aD 0) 0 0) (aG Ig rfl 0 rfl wz (aC 8 0 (.inr (by kernel_rfl)) (λ_ _ ag=>⟨.inl ⟨rfl,rfl⟩,trivial⟩) DD Jf rfl rfl (vL eI s_1.L) rfl wz (bG vJ rfl wz ?_))))))))))))))
  obtain ⟨q_8,hz_9,hF⟩:=bind_some hF
  refine PT rfl rfl hz_9 wz (aa (vI q_8) (ah (aN (H0:=([((aD 0),some (.cells 2 [(vL eI s_1.L),(vI (w64 (s_1.f_at+1)))]))]:Hp)) ([(0,(.ref (aD 0) 0 0)),(1,(vI n_2)),(5,(vI q_6)),(6,(vI q_8))]:SL_) (by kernel_rfl) (zZ (by kernel_rfl)) (ai (aa (.ref (aD 0) 0 0) (aa (.ref (aD 0) 0 0) (aG Ig rfl 0 rfl wz (aC 0 0 il ft DD Jf rfl rfl (vL eI s_1.L) rfl wz (aa (vI q_6) ?_)))))))))
  obtain ⟨y_10,hy_11,hF⟩:=bind_some hF
  refine dY ni rfl rfl hy_11 rfl wz (bI sz3 ag3 rfl (vI y_10) rfl wz ?_)
  obtain ⟨r_12,hr_13,hF⟩:=bind_some hF
  refine aF (yz hr_13) rfl hb24 rfl rfl rfl rfl wz (aa (vI q_8) (aa (vI q_6) (aa (vI (w64 (7919+q_6))) (aa (vI (w64 (q_8*(w64 (7919+q_6))))) (aa (vI (w64 (r_12+(w64 (q_8*(w64 (7919+q_6))))))) (aa (vI n_2) ?_))))))
  obtain ⟨r_14,hr_15,hF⟩:=bind_some hF
  refine aF (yz hr_15) rfl hb24 rfl rfl rfl rfl wz (aa (vI r_14) (ah ?_))
  obtain rfl:=ae hF
  exact aA (Cw (.inr rfl) [(vI r_14)] _ [0] [aD 0] ⟨rfl,trivial⟩ (.cons (kH rfl rfl) (.nil)) (by kernel_rfl) ⟨(by kernel_rfl),trivial⟩ (by decide) (by kernel_rfl))
theorem fI {s_1:Stream} {low_2:Int} {high_3:Int} {r:Int×Stream} (hF:dI s_1 low_2 high_3=some r) :
  FnM Tryz.prog 5 [(.ref (aD 0) 0 0),(vI low_2),(vI high_3)] [(.cells 2 [(vL eI s_1.L),(vI s_1.f_at)])] (vI r.1) [some (.cells 2 [(vL eI r.2.L),(vI r.2.f_at)])]:=by
 refine FnM.of_wH ⟨Tryz.prog,19,[],[]⟩ rfl Tryz.func5 rfl rfl (lb_ rfl) (by kernel_rfl) ?_
 unfold dI at hF
 refine ai (aa (vI 0) (ah (ak (ai (aa (vI high_3) (aa (vI low_2) (aa (vB (decide (high_3<low_2))) (ah ?_))))))))
 rcases aj hF with⟨hc_4,hF⟩|⟨hc_4,hF⟩
 ·refine ay rfl hc_4 (ai (aa (vI low_2) (aa (vI low_2) (ah ?_))))
  obtain rfl:=ae hF
  exact aA (Cw (.inr rfl) [(vI low_2)] _ [0] [aD 0] ⟨rfl,trivial⟩ (.cons (kH rfl rfl) (.nil)) (by kernel_rfl) ⟨(by kernel_rfl),trivial⟩ (by decide) (by kernel_rfl))
 ·refine ax rfl hc_4 (av (ai (aa (vI low_2) (aa (.ref (aD 0) 0 0) (aa (vI high_3) (aa (vI low_2) (aa (vI (w64 (high_3-low_2))) (aa (vI (w64 ((w64 (high_3-low_2))+1))) ?_))))))))
  obtain ⟨r_5,hr_6,hF⟩:=bind_some hF
  refine gu 0 [0] il ft (jV hr_6) rfl hb6 rfl (by kernel_rfl) (by kernel_rfl) (by kernel_rfl) (by kernel_rfl) (by kernel_rfl) (by kernel_rfl) (by kernel_rfl) (by decide) (by kernel_rfl) wz (vI r_5.1) (by kernel_rfl) ([((aD 0),some (.cells 2 [(vL eI r_5.2.L),(vI r_5.2.f_at)]))]:Hp) (by kernel_rfl) (aa (vI (w64 (low_2+r_5.1))) (aa (vI (w64 (low_2+r_5.1))) (ah ?_)))
  obtain rfl:=ae hF
  exact aA (Cw (.inr rfl) [(vI (w64 (low_2+r_5.1)))] _ [0] [aD 0] ⟨rfl,trivial⟩ (.cons (kH rfl rfl) (.nil)) (by kernel_rfl) ⟨(by kernel_rfl),trivial⟩ (by decide) (by kernel_rfl))
theorem o7 {s_1:Stream} {l_2:(List ByteArray)} {r:ByteArray×Stream} (hF:iU s_1 l_2=some r) :
  FnM Tryz.prog 18 [(.ref (aD 0) 0 0),(vL eS l_2)] [(.cells 2 [(vL eI s_1.L),(vI s_1.f_at)])] (vS r.1) [some (.cells 2 [(vL eI r.2.L),(vI r.2.f_at)])]:=by
 refine FnM.of_wH ⟨Tryz.prog,12,[],[]⟩ rfl Tryz.func18 rfl rfl (lb_ rfl) (by kernel_rfl) ?_
 unfold iU at hF
 refine ai (aa (vS (⟨#[]⟩:ByteArray)) (ah (ai (aa (vL eS l_2) (aa (.ref (aD 0) 0 0) (aa (vL eS l_2) (bG uT rfl wz ?_)))))))
 obtain ⟨r_3,hr_4,hF⟩:=bind_some hF
 refine gu 0 [0] il ft (jV hr_4) rfl hb6 rfl (by kernel_rfl) (by kernel_rfl) (by kernel_rfl) (by kernel_rfl) (by kernel_rfl) (by kernel_rfl) (by kernel_rfl) (by decide) (by kernel_rfl) wz (vI r_3.1) (by kernel_rfl) ([((aD 0),some (.cells 2 [(vL eI r_3.2.L),(vI r_3.2.f_at)]))]:Hp) (by kernel_rfl) ?_
 obtain ⟨y_6,hy_7,hF⟩:=bind_some hF
 refine dY nM rfl rfl hy_7 rfl wz (bI sz9 ag9 rfl (vS y_6) rfl wz (aa (vS y_6) (ah ?_)))
 obtain rfl:=ae hF
 exact aA (Cw (.inr rfl) [(vS y_6)] _ [0] [aD 0] ⟨rfl,trivial⟩ (.cons (kH rfl rfl) (.nil)) (by kernel_rfl) ⟨(by kernel_rfl),trivial⟩ (by decide) (by kernel_rfl))
theorem o8 {s_1:Stream} {l_2:(List Int)} {r:Int×Stream} (hF:jv s_1 l_2=some r) :
  FnM Tryz.prog 19 [(.ref (aD 0) 0 0),(vL eI l_2)] [(.cells 2 [(vL eI s_1.L),(vI s_1.f_at)])] (vI r.1) [some (.cells 2 [(vL eI r.2.L),(vI r.2.f_at)])]:=by
 refine FnM.of_wH ⟨Tryz.prog,12,[],[]⟩ rfl Tryz.func19 rfl rfl (lb_ rfl) (by kernel_rfl) ?_
 unfold jv at hF
 refine ai (aa (vI 0) (ah (ai (aa (vL eI l_2) (aa (.ref (aD 0) 0 0) (aa (vL eI l_2) (bG vJ rfl wz ?_)))))))
 obtain ⟨r_3,hr_4,hF⟩:=bind_some hF
 refine gu 0 [0] il ft (jV hr_4) rfl hb6 rfl (by kernel_rfl) (by kernel_rfl) (by kernel_rfl) (by kernel_rfl) (by kernel_rfl) (by kernel_rfl) (by kernel_rfl) (by decide) (by kernel_rfl) wz (vI r_3.1) (by kernel_rfl) ([((aD 0),some (.cells 2 [(vL eI r_3.2.L),(vI r_3.2.f_at)]))]:Hp) (by kernel_rfl) ?_
 obtain ⟨y_6,hy_7,hF⟩:=bind_some hF
 refine dY ni rfl rfl hy_7 rfl wz (bI sz3 ag3 rfl (vI y_6) rfl wz (aa (vI y_6) (ah ?_)))
 obtain rfl:=ae hF
 exact aA (Cw (.inr rfl) [(vI y_6)] _ [0] [aD 0] ⟨rfl,trivial⟩ (.cons (kH rfl rfl) (.nil)) (by kernel_rfl) ⟨(by kernel_rfl),trivial⟩ (by decide) (by kernel_rfl))
theorem Bg {s_1:Stream} {n_2:Int} {r:Bool×Stream} (hF:mG s_1 n_2=some r) :
  FnM Tryz.prog 20 [(.ref (aD 0) 0 0),(vI n_2)] [(.cells 2 [(vL eI s_1.L),(vI s_1.f_at)])] (vB r.1) [some (.cells 2 [(vL eI r.2.L),(vI r.2.f_at)])]:=by
 refine FnM.of_wH ⟨Tryz.prog,9,[],[]⟩ rfl Tryz.func20 rfl rfl (lb_ rfl) (by kernel_rfl) ?_
 unfold mG at hF
 refine ai (aa (vB false) (ah (ai (aa (.ref (aD 0) 0 0) (aa (vI n_2) ?_)))))
 obtain ⟨r_3,hr_4,hF⟩:=bind_some hF
 refine gu 0 [0] il ft (jV hr_4) rfl hb6 rfl (by kernel_rfl) (by kernel_rfl) (by kernel_rfl) (by kernel_rfl) (by kernel_rfl) (by kernel_rfl) (by kernel_rfl) (by decide) (by kernel_rfl) wz (vI r_3.1) (by kernel_rfl) ([((aD 0),some (.cells 2 [(vL eI r_3.2.L),(vI r_3.2.f_at)]))]:Hp) (by kernel_rfl) (aa (vB (r_3.1==0)) (aa (vB (r_3.1==0)) (ah ?_)))
 obtain rfl:=ae hF
 exact aA (Cw (.inr rfl) [(vB (r_3.1==0))] _ [0] [aD 0] ⟨rfl,trivial⟩ (.cons (kH rfl rfl) (.nil)) (by kernel_rfl) ⟨(by kernel_rfl),trivial⟩ (by decide) (by kernel_rfl))
theorem wm {s_1:Stream} {r:Rect×Stream} (hF:jf s_1=some r) :
  FnM Tryz.prog 21 [(.ref (aD 0) 0 0)] [(.cells 2 [(vL eI s_1.L),(vI s_1.f_at)])] (.d (.agg (Rect.enc r.1))) [some (.cells 2 [(vL eI r.2.L),(vI r.2.f_at)])]:=by
 refine FnM.of_wH ⟨Tryz.prog,12,[],[]⟩ rfl Tryz.func21 rfl rfl (lb_ rfl) (by kernel_rfl) ?_
 unfold jf at hF
 refine ai (dC 0 (.inl rfl) z53 rfl wz (λn_2=>ah (ai (aa (.ref (aD 0) 0 0) ?_))))
 obtain ⟨r_3,hr_4,hF⟩:=bind_some hF
 refine gu 0 [0] il ft (fI hr_4) rfl hb5 rfl (by kernel_rfl) (by kernel_rfl) (by kernel_rfl) (by kernel_rfl) (by kernel_rfl) (by kernel_rfl) (by kernel_rfl) (by decide) (by kernel_rfl) wz (vI r_3.1) (by kernel_rfl) ([((aD 0),some (.cells 2 [(vL eI r_3.2.L),(vI r_3.2.f_at)])),(n_2,some (.cells 4 [(vI 0),(vI 0),(vI 0),(vI 0)]))]:Hp) (by kernel_rfl) (aa (.ref (aD 0) 0 0) ?_)
 obtain ⟨r_6,hr_7,hF⟩:=bind_some hF
 refine gu 0 [0] il ft (fI hr_7) rfl hb5 rfl (by kernel_rfl) (by kernel_rfl) (by kernel_rfl) (by kernel_rfl) (by kernel_rfl) (by kernel_rfl) (by kernel_rfl) (by decide) (by kernel_rfl) wz (vI r_6.1) (by kernel_rfl) ([((aD 0),some (.cells 2 [(vL eI r_6.2.L),(vI r_6.2.f_at)])),(n_2,some (.cells 4 [(vI 0),(vI 0),(vI 0),(vI 0)]))]:Hp) (by kernel_rfl) (aa (.ref (aD 0) 0 0) ?_)
 obtain ⟨r_9,hr_10,hF⟩:=bind_some hF
 refine gu 0 [0] il ft (fI hr_10) rfl hb5 rfl (by kernel_rfl) (by kernel_rfl) (by kernel_rfl) (by kernel_rfl) (by kernel_rfl) (by kernel_rfl) (by kernel_rfl) (by decide) (by kernel_rfl) wz (vI r_9.1) (by kernel_rfl) ([((aD 0),some (.cells 2 [(vL eI r_9.2.L),(vI r_9.2.f_at)])),(n_2,some (.cells 4 [(vI 0),(vI 0),(vI 0),(vI 0)]))]:Hp) (by kernel_rfl) (aa (.ref (aD 0) 0 0) ?_)
 obtain ⟨r_12,hr_13,hF⟩:=bind_some hF
 refine gu 0 [0] il ft (fI hr_13) rfl hb5 rfl (by kernel_rfl) (by kernel_rfl) (by kernel_rfl) (by kernel_rfl) (by kernel_rfl) (by kernel_rfl) (by kernel_rfl) (by decide) (by kernel_rfl) wz (vI r_12.1) (by kernel_rfl) ([((aD 0),some (.cells 2 [(vL eI r_12.2.L),(vI r_12.2.f_at)])),(n_2,some (.cells 4 [(vI 0),(vI 0),(vI 0),(vI 0)]))]:Hp) (by kernel_rfl) (aJ (.d (.agg (Rect.enc (⟨r_3.1,r_6.1,r_9.1,r_12.1⟩:Rect)))) wz (by kernel_rfl) (fB 0 il ft 1 q8 rfl rfl [(vI r_3.1),(vI r_6.1),(vI r_9.1),(vI r_12.1)] rfl wz (ah ?_)))
 obtain rfl:=ae hF
 exact aA (Cw (.inr rfl) [(.d (.agg (Rect.enc (⟨r_3.1,r_6.1,r_9.1,r_12.1⟩:Rect))))] _ [0] [aD 0] ⟨⟨1,_,_,_,_,_,_,_,rfl,rfl,q8,Du,rfl⟩,trivial⟩ (.cons (kH rfl rfl) (.nil)) (by kernel_rfl) ⟨(by kernel_rfl),trivial⟩ (by decide) (by kernel_rfl))
theorem Cz {a_1:Alert} {b_2:Alert} {r:Int} (hF:lY a_1 b_2=some r) :
  FnM Tryz.prog 23 [(.d (.agg (Alert.enc a_1))),(.d (.agg (Alert.enc b_2)))] [] (vI r) []:=by
 refine FnM.of_wH ⟨Tryz.prog,20,[],[]⟩ rfl Tryz.func23 rfl rfl (lb_ rfl) (by kernel_rfl) ?_
 unfold lY at hF
 refine ai (gQ 0 (.inl rfl) (Alert.v a_1) rfl rfl wz (λn_3=>gQ 0 (.inl rfl) (Alert.v b_2) rfl rfl wz (λn_4=>aa (vI 0) (ah (ak (ai (aG kz rfl 4 rfl wz (aC 0 0 il ft sz3 ag3 rfl rfl (vI a_1.At) rfl wz (aG kz rfl 4 rfl wz (aC 0 1 il ft sz3 ag3 rfl rfl (vI b_2.At) rfl wz (aa (vB (a_1.At != b_2.At)) (ah ?_))))))))))))
 rcases aj hF with⟨hc_5,hF⟩|⟨hc_5,hF⟩
 ·refine ay rfl hc_5 (ai (aG kz rfl 4 rfl wz (aC 0 0 il ft sz3 ag3 rfl rfl (vI a_1.At) rfl wz (aG kz rfl 4 rfl wz (aC 0 1 il ft sz3 ag3 rfl rfl (vI b_2.At) rfl wz (aa (vI (w64 (a_1.At-b_2.At))) (aa (vI (w64 (a_1.At-b_2.At))) (ah ?_))))))))
  obtain rfl:=ae hF
  exact aA (aK [(vI (w64 (a_1.At-b_2.At)))] ⟨rfl,trivial⟩)
 ·refine ax rfl hc_5 (av (ak (ai (aG jA rfl 0 rfl wz (aC 0 0 il ft sz9 ag9 rfl rfl (vS a_1.Id) rfl wz (aG jA rfl 0 rfl wz (aC 0 1 il ft sz9 ag9 rfl rfl (vS b_2.Id) rfl wz (aa (vB (sLt a_1.Id b_2.Id)) (ah ?_)))))))))
  rcases aj hF with⟨hc_6,hF⟩|⟨hc_6,hF⟩
  ·refine ay rfl hc_6 (ai (aa (vI (-1)) (ah ?_)))
   obtain rfl:=ae hF
   exact aA (aK [(vI (-1))] ⟨rfl,trivial⟩)
  ·refine ax rfl hc_6 (av (ai (aa (vI 1) (ah ?_))))
   obtain rfl:=ae hF
   exact aA (aK [(vI 1)] ⟨rfl,trivial⟩)
theorem z8 {x_1:Int} {r:Int} (hF:rz x_1=some r) :
  FnM Tryz.prog 81 [(.d (.int .u64 x_1))] [] (vI r) []:=by
 refine FnM.of_wH ⟨Tryz.prog,25,[],[]⟩ rfl Tryz.func81 rfl rfl (lb_ rfl) (by kernel_rfl) ?_
 unfold rz at hF
 refine ai (aa (vI 0) (ah (ak (ai (aa (.d (.int .u64 x_1)) (aa (vB (decide (x_1>=4294967296))) (ah ?_)))))))
 obtain ⟨v_2,h_3,hF⟩:=bind_some hF
 refine aP [(0,(.d (.int .u64 v_2.1))),(2,(vI v_2.2))] [] ?_ ?_
 ·rcases aj h_3 with⟨hc_4,h_3⟩|⟨hc_4,h_3⟩
  ·refine ay rfl hc_4 (ai (aa (.d (.int .u64 x_1)) ?_))
   obtain ⟨q_5,hz_6,h_3⟩:=bind_some h_3
   refine Na rfl rfl hz_6 wz (aa (.d (.int .u64 q_5)) (ah (au (aa (vI 32) (ah ?_)))))
   obtain rfl:=ae h_3
   exact cu
  ·refine ax rfl hc_4 (av ?_)
   obtain rfl:=ae h_3
   exact cu
 ·rintro ⟨⟩ _ sl_ H_ hp_ hq_
  refine aN _ hp_ hq_ (ak (ai (aa (.d (.int .u64 v_2.1)) (aa (vB (decide (v_2.1>=65536))) (ah ?_)))))
  obtain ⟨v_7,h_8,hF⟩:=bind_some hF
  refine aP [(0,(.d (.int .u64 v_7.1))),(2,(vI v_7.2))] [] ?_ ?_
  ·rcases aj h_8 with⟨hc_9,h_8⟩|⟨hc_9,h_8⟩
   ·refine ay rfl hc_9 (ai (aa (.d (.int .u64 v_2.1)) ?_))
    obtain ⟨q_10,hz_11,h_8⟩:=bind_some h_8
    refine Na rfl rfl hz_11 wz (aa (.d (.int .u64 q_10)) (ah (au (aa (vI v_2.2) (aa (vI (w64 (v_2.2+16))) (aa (vI (w64 (v_2.2+16))) (ah ?_)))))))
    obtain rfl:=ae h_8
    exact cu
   ·refine ax rfl hc_9 (av ?_)
    obtain rfl:=ae h_8
    exact cu
  ·rintro ⟨⟩ _ sl_ H_ hp_ hq_
   refine aN _ hp_ hq_ (ak (ai (aa (.d (.int .u64 v_7.1)) (aa (vB (decide (v_7.1>=256))) (ah ?_)))))
   obtain ⟨v_12,h_13,hF⟩:=bind_some hF
   refine aP [(0,(.d (.int .u64 v_12.1))),(2,(vI v_12.2))] [] ?_ ?_
   ·rcases aj h_13 with⟨hc_14,h_13⟩|⟨hc_14,h_13⟩
    ·refine ay rfl hc_14 (ai (aa (.d (.int .u64 v_7.1)) ?_))
     obtain ⟨q_15,hz_16,h_13⟩:=bind_some h_13
     refine Na rfl rfl hz_16 wz (aa (.d (.int .u64 q_15)) (ah (au (aa (vI v_7.2) (aa (vI (w64 (v_7.2+8))) (aa (vI (w64 (v_7.2+8))) (ah ?_)))))))
     obtain rfl:=ae h_13
     exact cu
    ·refine ax rfl hc_14 (av ?_)
     obtain rfl:=ae h_13
     exact cu
   ·rintro ⟨⟩ _ sl_ H_ hp_ hq_
    refine aN _ hp_ hq_ (ai (aa (vI v_12.2) (aa (.d (.int .u64 v_12.1)) (yC un135 un5 rfl wz ?_))))
    obtain ⟨b_17,hy_18,hF⟩:=bind_some hF
    refine wB un9 rfl rfl hy_18 wz (yC un5 un3 rfl wz (aa (vI (w64 (v_12.2+(w64 (b_17.toNat:Int))))) (aa (vI (w64 (v_12.2+(w64 (b_17.toNat:Int))))) (ah ?_))))
    obtain rfl:=ae hF
    exact aA (aK [(vI (w64 (v_12.2+(w64 (b_17.toNat:Int)))))] ⟨rfl,trivial⟩)
theorem nG {x_1:Int} {r:Int} (hF:gJ x_1=some r) :
  FnM Tryz.prog 45 [(.d (.int .u64 x_1))] [] (vI r) []:=by
 refine FnM.of_wH ⟨Tryz.prog,8,[],[]⟩ rfl Tryz.func45 rfl rfl (lb_ rfl) (by kernel_rfl) ?_
 unfold gJ at hF
 refine ai (aa (vI 0) (ah (ak (ax rfl rfl (av (ai (aa (.d (.int .u64 x_1)) ?_)))))))
 obtain ⟨r_2,hr_3,hF⟩:=bind_some hF
 refine aF (z8 hr_3) rfl hb81 rfl rfl rfl rfl wz (aa (vI r_2) (ah ?_))
 obtain rfl:=ae hF
 exact aA (aK [(vI r_2)] ⟨rfl,trivial⟩)
theorem lm {data_1:(List Alert)} {a_2:Int} {b_3:Int} {r:(List Alert)} (hF:fq data_1 a_2 b_3=some r) :
  FnM Tryz.prog 72 [(dV (aD 0) 9 data_1),(vI a_2),(vI b_3),(.fn 23 [])] (([]:List Box)++gI 9 Alert.enc data_1) (.tup []) (([]:List Box).map some++gT data_1 (gB 9 Alert.enc r)):=by
 refine FnM.of_wHv ⟨Tryz.prog,53,[],[]⟩ rfl Tryz.func72 rfl rfl (lb_ rfl) (by kernel_rfl) ?_
 unfold fq at hF
 refine ai (aa (vI a_2) (aa (vI (w64 (a_2+1))) (aa (vI (w64 (a_2+1))) (ah ?_))))
 obtain ⟨o_13,hj_14,hF⟩:=bind_some hF
 obtain ⟨nq_51,hj_14⟩:=dw hj_14
 refine eZ (λ(s_10:(List Alert)×Int)=>[]) (λ(s_10:(List Alert)×Int)=>[((aD 0),gB 9 Alert.enc s_10.1)]) (λ(k_5:Nat)=>(λ(s_10:(List Alert)×Int)=>[(0,(dV (aD 0) 9 s_10.1)),(1,(vI a_2)),(2,(vI b_3)),(3,(.fn 23 [])),(8,(vI s_10.2))])) (λs=>eB b_3 a_2 s) o_13 nq_51 (data_1,(w64 (a_2+1))) hj_14 rfl (aH rfl) ?_ ?_
 ·rintro ⟨k_5,s_10⟩ hL_12
  dsimp only at hL_12
  cases k_5 with
  | zero=>cases hL_12
  | succ k_5 =>
   obtain ⟨c_,hc_11,hL_12⟩:=bind_some hL_12
   unfold eB at hc_11
   refine ak (ai (aa (vI s_10.2) (aa (vI b_3) (aa (vB (decide (s_10.2<b_3))) (ah ?_)))))
   rcases aj hc_11 with⟨hc_15,hc_11⟩|⟨hc_15,hc_11⟩
   ·refine ay rfl hc_15 (av (ak (aL (ai (aa (vI s_10.2) (aa (vI s_10.2) (ah ?_)))))))
    obtain ⟨o_24,hj_25,hc_11⟩:=bind_some hc_11
    obtain ⟨nq_50,hj_25⟩:=dw hj_25
    refine eZ (λ(s_21:(List Alert)×Int)=>[(0,(dV (aD 0) 9 s_21.1)),(1,(vI a_2)),(2,(vI b_3)),(3,(.fn 23 [])),(8,(vI s_10.2))]) (λ(s_21:(List Alert)×Int)=>[((aD 0),gB 9 Alert.enc s_21.1)]) (λ(k_16:Nat)=>(λ(s_21:(List Alert)×Int)=>[(0,(dV (aD 0) 9 s_21.1)),(1,(vI a_2)),(2,(vI b_3)),(3,(.fn 23 [])),(8,(vI s_10.2)),(9,(vI s_21.2))])) (λs=>eF a_2 s) o_24 nq_50 (s_10.1,s_10.2) hj_25 rfl (aH rfl) ?_ ?_
    ·rintro ⟨k_16,s_21⟩ hL_23
     dsimp only at hL_23
     cases k_16 with
     | zero=>cases hL_23
     | succ k_16 =>
      obtain ⟨c_,hc_22,hL_23⟩:=bind_some hL_23
      unfold eF at hc_22
      refine ak (ak ?_)
      obtain ⟨v_26,h_27,hc_22⟩:=bind_some hc_22
      refine aP [(0,(dV (aD 0) 9 s_21.1)),(1,(vI a_2)),(2,(vI b_3)),(3,(.fn 23 [])),(8,(vI s_10.2)),(9,(vI s_21.2)),(34,(vB v_26))] [((aD 0),gB 9 Alert.enc s_21.1)] ?_ ?_
      ·refine bC (aa (vI s_21.2) (aa (vI a_2) (aa (vB (decide (s_21.2>a_2))) ?_)))
       rcases aj h_27 with⟨hc_28,h_27⟩|⟨hc_28,h_27⟩
       ·refine aB rfl hc_28 wz (aJ (.fn 23 []) wa rfl (aJ (dV (aD 0) 9 s_21.1) wa rfl (aJ (vI s_21.2) wa rfl ?_)))
        obtain ⟨_,hi_29,h_27⟩:=bind_some h_27
        refine iP mo rfl rfl (iV hi_29) (fD hi_29) wa ?_
        obtain ⟨e_30,hy_31,h_27⟩:=bind_some h_27
        refine jr 8 0 (.inr (by kernel_rfl)) (λ_ _ ag=>trivial) eO jo rfl rfl hy_31 (.d (.agg (Alert.enc e_30))) rfl wa (aJ (dV (aD 0) 9 s_21.1) wa rfl (aJ (vI s_21.2) wa rfl (aJ (vI (w64 (s_21.2-1))) wa rfl ?_)))
        obtain ⟨_,hi_32,h_27⟩:=bind_some h_27
        refine iP mo rfl rfl (iV hi_32) (fD hi_32) wa ?_
        obtain ⟨e_33,hy_34,h_27⟩:=bind_some h_27
        refine jr 13 0 (.inr (by kernel_rfl)) (λ_ _ ag=>⟨.inl ⟨rfl,rfl⟩,trivial⟩) eO jo rfl rfl hy_34 (.d (.agg (Alert.enc e_33))) rfl wa ?_
        obtain ⟨r_35,hr_36,h_27⟩:=bind_some h_27
        refine aF (Cz hr_36) rfl hb23 rfl rfl rfl rfl wa (aJ (vB (decide (r_35<0))) wa rfl (aa (vB (decide (r_35<0))) (ah ?_)))
        obtain rfl:=ae h_27
        exact cu
       ·refine aB rfl hc_28 wz (af (af (af (af (af (af (af (af (af (af (af (af (aa (vB false) (ah ?_))))))))))))))
        obtain rfl:=ae h_27
        exact cu
      ·rintro ⟨⟩ _ sl_ H_ hp_ hq_
       refine aN _ hp_ hq_ ?_
       rcases aj hc_22 with⟨hc_37,hc_22⟩|⟨hc_37,hc_22⟩
       ·refine ay rfl hc_37 (av (ak (aL (bC (aa (dV (aD 0) 9 s_21.1) (aa (vI s_21.2) (aa (dV (aD 0) 9 s_21.1) (aa (vI s_21.2) (aa (vI (w64 (s_21.2-1))) (aa (dV (aD 0) 9 s_21.1) (aa (vI s_21.2) (aa (vI (w64 (s_21.2-1))) ?_))))))))))))
        obtain ⟨_,hi_38,hc_22⟩:=bind_some hc_22
        refine iP mo rfl rfl (iV hi_38) (fD hi_38) wz ?_
        obtain ⟨e_39,hy_40,hc_22⟩:=bind_some hc_22
        refine jr 9 0 (.inr (by kernel_rfl)) (λ_ _ ag=>trivial) eO jo rfl rfl hy_40 (.d (.agg (Alert.enc e_39))) rfl wz (aa (dV (aD 0) 9 s_21.1) (aa (vI s_21.2) ?_))
        obtain ⟨_,hi_41,hc_22⟩:=bind_some hc_22
        refine iP mo rfl rfl (iV hi_41) (fD hi_41) wz ?_
        obtain ⟨e_42,hy_43,hc_22⟩:=bind_some hc_22
        refine jr 13 0 (.inr (by kernel_rfl)) (λ_ _ ag=>⟨.inl ⟨rfl,rfl⟩,trivial⟩) eO jo rfl rfl hy_43 (.d (.agg (Alert.enc e_42))) rfl wz ?_
        obtain ⟨_,hi_44,hc_22⟩:=bind_some hc_22
        refine iP mo rfl rfl (iV hi_44) (fD hi_44) wz ?_
        obtain ⟨e_45,hy_46,hc_22⟩:=bind_some hc_22
        refine tX 15 (.inr (by kernel_rfl)) (λ_ _ ag=>⟨.inr (.inr (by kernel_rfl)),⟨.inr (.inr (by kernel_rfl)),trivial⟩⟩) 0 eO rfl rfl hy_46 e_39 rfl wz (dH (v':=(dV (aD 0) 9 (s_21.1.set (0+(s_21.2).toNat) e_39))) 0 rfl (bL (by simp)) (dH (v':=(dV (aD 0) 9 (s_21.1.set (0+(s_21.2).toNat) e_39))) 37 rfl (bL (by simp)) (dH (v':=(dV (aD 0) 9 (s_21.1.set (0+(s_21.2).toNat) e_39))) 39 rfl (bL (by simp)) (dH (v':=(dV (aD 0) 9 (s_21.1.set (0+(s_21.2).toNat) e_39))) 42 rfl (bL (by simp)) (dH (v':=(dV (aD 0) 9 (s_21.1.set (0+(s_21.2).toNat) e_39))) 47 rfl (bL (by simp)) ?_)))))
        obtain ⟨_,hi_47,hc_22⟩:=bind_some hc_22
        refine iP mo rfl rfl (iV hi_47) (fD hi_47) wz ?_
        obtain ⟨e_48,hy_49,hc_22⟩:=bind_some hc_22
        refine tX 17 (.inr (by kernel_rfl)) (λ_ _ ag=>⟨.inr (.inr (by kernel_rfl)),⟨.inr (.inr (by kernel_rfl)),⟨.inr (.inr (by kernel_rfl)),trivial⟩⟩⟩) 0 eO rfl rfl hy_49 e_42 rfl wz (dH (v':=(dV (aD 0) 9 ((s_21.1.set (0+(s_21.2).toNat) e_39).set (0+((w64 (s_21.2-1))).toNat) e_42))) 0 rfl (bL (by simp)) (dH (v':=(dV (aD 0) 9 ((s_21.1.set (0+(s_21.2).toNat) e_39).set (0+((w64 (s_21.2-1))).toNat) e_42))) 37 rfl (bL (by simp)) (dH (v':=(dV (aD 0) 9 ((s_21.1.set (0+(s_21.2).toNat) e_39).set (0+((w64 (s_21.2-1))).toNat) e_42))) 39 rfl (bL (by simp)) (dH (v':=(dV (aD 0) 9 ((s_21.1.set (0+(s_21.2).toNat) e_39).set (0+((w64 (s_21.2-1))).toNat) e_42))) 42 rfl (bL (by simp)) (dH (v':=(dV (aD 0) 9 ((s_21.1.set (0+(s_21.2).toNat) e_39).set (0+((w64 (s_21.2-1))).toNat) e_42))) 47 rfl (bL (by simp)) (ah (au (aa (vI s_21.2) (aa (vI (w64 (s_21.2-1))) (aa (vI (w64 (s_21.2-1))) (ah ?_)))))))))))
        obtain rfl:=ae hc_22
        exact aU (k_16,(((s_21.1.set (0+(s_21.2).toNat) e_39).set (0+((w64 (s_21.2-1))).toNat) e_42),(w64 (s_21.2-1)))) hL_23 (ls_ _) rfl (aH rfl)
       ·refine ax rfl hc_37 (aW ?_)
        obtain rfl:=ae hc_22
        obtain rfl:=ae hL_23
        exact aS ((s_21.1,s_21.2)) rfl rfl (aH rfl)
    ·rintro s_21 ho_ sl_ H_ hp_ hq_
     subst ho_
     refine aN _ hp_ hq_ (au (aa (vI s_10.2) (aa (vI (w64 (s_10.2+1))) (aa (vI (w64 (s_10.2+1))) (ah ?_)))))
     obtain rfl:=ae hc_11
     exact aU (k_5,(s_21.1,(w64 (s_10.2+1)))) hL_12 (ls_ _) rfl (aH rfl)
   ·refine ax rfl hc_15 (aW ?_)
    obtain rfl:=ae hc_11
    obtain rfl:=ae hL_12
    exact aS ((s_10.1,s_10.2)) rfl rfl (aH rfl)
 ·rintro s_10 ho_ sl_ H_ hp_ hq_
  subst ho_
  show qZ _ _ _ _ _ _ _ _
  obtain rfl:=ae hF
  exact uy (H0:=([((aD 0),gB 9 Alert.enc s_10.1)]:Hp)) (sl':=envS []) hq_ (xh (bs:=([]:List Box)) (os:=([]:List Box)) (xs:=data_1) (o:=gB 9 Alert.enc s_10.1) (.inl rfl) [] trivial rfl rfl rfl rfl rfl (by kernel_rfl) jX rfl)
theorem nu {data_1:(List Alert)} {a_2:Int} {b_3:Int} {limit_4:Int} {r:(List Alert)} (hF:gY data_1 a_2 b_3 limit_4=some r) :
  FnM Tryz.prog 44 [(dV (aD 0) 9 data_1),(vI a_2),(vI b_3),(vI limit_4),(.fn 23 [])] (([]:List Box)++gI 9 Alert.enc data_1) (.tup []) (([]:List Box).map some++gT data_1 (gB 9 Alert.enc r)):=by
 refine FnM.of_wHv ⟨Tryz.prog,148,[],[]⟩ rfl Tryz.func44 rfl rfl (lb_ rfl) (by kernel_rfl) ?_
 unfold gY at hF
 refine ai (aa (vB true) (ah (ai (aa (vB true) (ah ?_)))))
 obtain ⟨o_14,hj_15,hF⟩:=bind_some hF
 obtain ⟨nq_21,hj_15⟩:=dw hj_15
 refine eZ (λ(s_11:Unit)=>[]) (λ(s_11:Unit)=>[((aD 0),gB 9 Alert.enc data_1)]) (λ(k_6:Nat)=>(λ(s_11:Unit)=>[(0,(dV (aD 0) 9 data_1)),(1,(vI a_2)),(2,(vI b_3)),(3,(vI limit_4)),(4,(.fn 23 [])),(10,(vB true)),(11,(vB true))])) (λs=>fM b_3 a_2 data_1 limit_4 s) o_14 nq_21 () hj_15 rfl (aH rfl) ?_ ?_
 ·rintro ⟨k_6,s_11⟩ hL_13
  dsimp only at hL_13
  cases k_6 with
  | zero=>cases hL_13
  | succ k_6 =>
   obtain ⟨c_,hc_12,hL_13⟩:=bind_some hL_13
   unfold fM at hc_12
   refine aL (ai (aa (vI b_3) (aa (vI a_2) (aa (vI (w64 (b_3-a_2))) (aa (vI (w64 (b_3-a_2))) (ah (ak (ai (aa (vI (w64 (b_3-a_2))) (aa (vB (decide ((w64 (b_3-a_2))<=12))) (ah ?_)))))))))))
   rcases aj hc_12 with⟨hc_16,hc_12⟩|⟨hc_16,hc_12⟩
   ·refine ay rfl hc_16 (ai (aa (dV (aD 0) 9 data_1) (aa (vI a_2) (aa (vI b_3) (aa (.fn 23 []) ?_)))))
    obtain ⟨r_17,hr_18,hc_12⟩:=bind_some hc_12
    obtain ⟨_,hs_19,hc_12⟩:=bind_some hc_12
    replace hs_19:=kQ hs_19
    refine mh 0 [] 0 0 il ft (lm hr_18) rfl hb72 rfl rfl rfl (by kernel_rfl) rfl (.inr (.inl rfl)) rfl (by kernel_rfl) (by kernel_rfl) (by kernel_rfl) (by kernel_rfl) rfl (by decide) (by kernel_rfl) jX (vZ hs_19) wz ([((aD 0),gB 9 Alert.enc r_17)]:Hp) (by kernel_rfl) (dH (v':=(dV (aD 0) 9 r_17)) 0 rfl (bL hs_19.symm) (dH (v':=(dV (aD 0) 9 r_17)) 26 rfl (bL hs_19.symm) (ah ?_)))
    obtain rfl:=ae hc_12
    obtain rfl:=ae hL_13
    obtain rfl:=ae hF
    exact aA (xh (bs:=([]:List Box)) (os:=([]:List Box)) (xs:=data_1) (o:=gB 9 Alert.enc r_17) (.inr rfl) [] trivial rfl rfl rfl rfl rfl (by kernel_rfl) jX rfl)
   ·refine ax rfl hc_16 (av (ak (ai (aa (vI limit_4) (aa (vB (limit_4==0)) (ah ?_))))))
    rcases aj hc_12 with⟨hc_20,hc_12⟩|⟨hc_20,hc_12⟩
    ·refine ay rfl hc_20 (ai (aa (dV (aD 0) 9 data_1) (aa (vI a_2) (aa (vI b_3) (aa (.fn 23 []) ?_)))))
     cases hc_12
    ·refine ax rfl hc_20 (av (ak (ai (aa (vB true) (aa (vB false) (ah (ax rfl rfl (av (ai (aa (dV (aD 0) 9 data_1) (aa (vI a_2) (aa (vI b_3) (aa (.fn 23 []) ?_)))))))))))))
     cases hc_12
 ·rintro s_11 ho_ sl_ H_ hp_ hq_
  subst ho_
  show qZ _ _ _ _ _ _ _ _
  obtain rfl:=ae hF
  exact uy (H0:=([((aD 0),gB 9 Alert.enc data_1)]:Hp)) (sl':=envS []) hq_ (xh (bs:=([]:List Box)) (os:=([]:List Box)) (xs:=data_1) (o:=gB 9 Alert.enc data_1) (.inl rfl) [] trivial rfl rfl rfl rfl rfl (by kernel_rfl) jX rfl)
theorem lS {x_1:(List Alert)} {r:(List Alert)} (hF:cB x_1=some r) :
  FnM Tryz.prog 22 [(dV (aD 0) 9 x_1),(.fn 23 [])] (([]:List Box)++gI 9 Alert.enc x_1) (.tup []) (([]:List Box).map some++gT x_1 (gB 9 Alert.enc r)):=by
 refine FnM.of_wHv ⟨Tryz.prog,14,[],[]⟩ rfl Tryz.func22 rfl rfl (lb_ rfl) (by kernel_rfl) ?_
 unfold cB at hF
 refine ai (aa (dV (aD 0) 9 x_1) (BN tq rfl wz (aa (vI (x_1.length:Int)) (ah (au (aa (dV (aD 0) 9 x_1) (aa (vI (x_1.length:Int)) (aa (vI (x_1.length:Int)) (yC un3 Ov rfl wz ?_)))))))))
 obtain ⟨r_3,hr_4,hF⟩:=bind_some hF
 refine aF (nG hr_4) rfl hb45 rfl rfl rfl rfl wz (aa (.fn 23 []) ?_)
 obtain ⟨r_5,hr_6,hF⟩:=bind_some hF
 obtain ⟨_,hs_7,hF⟩:=bind_some hF
 replace hs_7:=kQ hs_7
 refine mh 0 [] 0 0 il ft (nu hr_6) rfl hb44 rfl rfl rfl (by kernel_rfl) rfl (.inr (.inl rfl)) rfl (by kernel_rfl) (by kernel_rfl) (by kernel_rfl) (by kernel_rfl) rfl (by decide) (by kernel_rfl) jX (vZ hs_7) wz ([((aD 0),gB 9 Alert.enc r_5)]:Hp) (by kernel_rfl) (dH (v':=(dV (aD 0) 9 r_5)) 0 rfl (bL hs_7.symm) (dH (v':=(dV (aD 0) 9 r_5)) 5 rfl (bL hs_7.symm) (dH (v':=(dV (aD 0) 9 r_5)) 7 rfl (bL hs_7.symm) (ah ?_))))
 show qZ _ _ _ _ _ _ _ _
 obtain rfl:=ae hF
 exact xh (bs:=([]:List Box)) (os:=([]:List Box)) (xs:=x_1) (o:=gB 9 Alert.enc r_5) (.inl rfl) [] trivial rfl rfl rfl rfl rfl (by kernel_rfl) jX rfl
theorem uL {s_1:Stream} {most_2:Int} {r:(List Alert)×Stream} (hF:gG s_1 most_2=some r) :
  FnM Tryz.prog 4 [(.ref (aD 0) 0 0),(vI most_2)] [(.cells 2 [(vL eI s_1.L),(vI s_1.f_at)])] (vL Alert.enc r.1) [some (.cells 2 [(vL eI r.2.L),(vI r.2.f_at)])]:=by
 refine FnM.of_wH ⟨Tryz.prog,101,[],[]⟩ rfl Tryz.func4 rfl rfl (lb_ rfl) (by kernel_rfl) ?_
 unfold gG at hF
 refine ai (aa .nil (ah (ai (aa .nil (ah (ak (ai (eT (([(⟨#[97,97]⟩:ByteArray),(⟨#[97,98]⟩:ByteArray),(⟨#[97,99]⟩:ByteArray),(⟨#[97,100]⟩:ByteArray),(⟨#[97,101]⟩:ByteArray),(⟨#[97,102]⟩:ByteArray)]:List ByteArray).map eS) nM Dr rfl rfl rfl rfl rfl wz (aa (.ref (aD 0) 0 0) (aa (vI most_2) ?_))))))))))
 obtain ⟨r_3,hr_4,hF⟩:=bind_some hF
 refine gu 0 [0] il ft (fI hr_4) rfl hb5 rfl (by kernel_rfl) (by kernel_rfl) (by kernel_rfl) (by kernel_rfl) (by kernel_rfl) (by kernel_rfl) (by kernel_rfl) (by decide) (by kernel_rfl) wz (vI r_3.1) (by kernel_rfl) ([((aD 0),some (.cells 2 [(vL eI r_3.2.L),(vI r_3.2.f_at)]))]:Hp) (by kernel_rfl) ?_
 obtain ⟨y_6,hy_7,hF⟩:=bind_some hF
 refine DC uT sz9 (λ_=>rfl) rfl rfl hy_7 wz (bG uT rfl wz (aa (vI 0) (ah (l6 (λn_14 => ?_)))))
 obtain ⟨o_19,hj_20,hF⟩:=bind_some hF
 obtain ⟨hn_12,hj_20⟩:=aX hj_20
 refine ic (σ:=(List Alert)×(List Int)×Int) (N:=Nm) (λp=>(λ(s_13:(List Alert)×(List Int)×Int) (n_16:Nm)=>([(5,(gV n_16 9 s_13.1))]:SL_)) p.1 p.2) (λp=>(λ(s_13:(List Alert)×(List Int)×Int) (n_16:Nm)=>([((aD 0),some (.cells 2 [(vL eI s_13.2.1),(vI s_13.2.2)])),(n_16,gB 9 Alert.enc s_13.1)]:Hp)) p.1 p.2) (λ(k_8:Nat)=>(λp=>(λ(s_13:(List Alert)×(List Int)×Int) (n_16:Nm)=>([(0,(.ref (aD 0) 0 0)),(5,(gV n_16 9 s_13.1)),(15,(vL eS y_6)),(16,(vI (y_6.length:Int))),(17,(vI (k_8:Int)))]:SL_)) p.1 p.2)) (λk x s=>fe k x s) o_19 y_6 ((([]:List Alert),r_3.2.L,r_3.2.f_at),n_14) hj_20 rfl (aH rfl) ?_ ?_
 ·rintro ⟨k_8,l_9,s_13,n_16⟩ ⟨hL_18,hD_11⟩
  dsimp only at hL_18 hD_11
  cases l_9 with
  | nil =>
   obtain rfl:=ae hL_18
   refine ai (aa (vB (decide ((k_8:Int)<(y_6.length:Int)))) (ah ?_))
   refine ak (ax rfl (drop_nil hD_11) (aW ?_))
   exact aS (s_13,n_16) rfl rfl (aH rfl)
  | cons x_10 l_9 =>
   obtain ⟨c_,hc_17,hL_18⟩:=bind_some hL_18
   refine ai (aa (vB (decide ((k_8:Int)<(y_6.length:Int)))) (ah ?_))
   refine ak (ay rfl (aZ hD_11) (av ?_))
   unfold fe at hc_17
   refine ak (aL (ai (dY nM rfl rfl (bz hD_11) rfl wz (bI sz9 ag9 rfl (vS x_10) rfl wz (aa (vS x_10) (ah (ai (aa (vS x_10) (aa (.ref (aD 0) 0 0) (eT (([(⟨#[119,120]⟩:ByteArray),(⟨#[119,120]⟩:ByteArray),(⟨#[102,105,114,101]⟩:ByteArray)]:List ByteArray).map eS) nM Dr rfl rfl rfl rfl rfl wz ?_))))))))))
   obtain ⟨r_21,hr_22,hc_17⟩:=bind_some hc_17
   refine gu 0 [0] il ft (o7 hr_22) rfl hb18 rfl (by kernel_rfl) (by kernel_rfl) (by kernel_rfl) (by kernel_rfl) (by kernel_rfl) (by kernel_rfl) (by kernel_rfl) (by decide) (by kernel_rfl) wz (vS r_21.1) (by kernel_rfl) ([((aD 0),some (.cells 2 [(vL eI r_21.2.L),(vI r_21.2.f_at)])),(n_16,gB 9 Alert.enc s_13.1)]:Hp) (by kernel_rfl) (aa (.ref (aD 0) 0 0) (eT (([1,1,2,2,3]:List Int).map eI) ni BG rfl rfl rfl rfl rfl wz ?_))
   obtain ⟨r_24,hr_25,hc_17⟩:=bind_some hc_17
   refine gu 0 [0] il ft (o8 hr_25) rfl hb19 rfl (by kernel_rfl) (by kernel_rfl) (by kernel_rfl) (by kernel_rfl) (by kernel_rfl) (by kernel_rfl) (by kernel_rfl) (by decide) (by kernel_rfl) wz (vI r_24.1) (by kernel_rfl) ([((aD 0),some (.cells 2 [(vL eI r_24.2.L),(vI r_24.2.f_at)])),(n_16,gB 9 Alert.enc s_13.1)]:Hp) (by kernel_rfl) (aa (.ref (aD 0) 0 0) ?_)
   obtain ⟨r_27,hr_28,hc_17⟩:=bind_some hc_17
   refine gu 0 [0] il ft (fI hr_28) rfl hb5 rfl (by kernel_rfl) (by kernel_rfl) (by kernel_rfl) (by kernel_rfl) (by kernel_rfl) (by kernel_rfl) (by kernel_rfl) (by decide) (by kernel_rfl) wz (vI r_27.1) (by kernel_rfl) ([((aD 0),some (.cells 2 [(vL eI r_27.2.L),(vI r_27.2.f_at)])),(n_16,gB 9 Alert.enc s_13.1)]:Hp) (by kernel_rfl) (aa (vI (w64 (r_27.1*5))) (aa (.ref (aD 0) 0 0) (eT (([1,5,5,9]:List Int).map eI) ni BG rfl rfl rfl rfl rfl wz ?_)))
   obtain ⟨r_30,hr_31,hc_17⟩:=bind_some hc_17
   refine gu 0 [0] il ft (o8 hr_31) rfl hb19 rfl (by kernel_rfl) (by kernel_rfl) (by kernel_rfl) (by kernel_rfl) (by kernel_rfl) (by kernel_rfl) (by kernel_rfl) (by decide) (by kernel_rfl) wz (vI r_30.1) (by kernel_rfl) ([((aD 0),some (.cells 2 [(vL eI r_30.2.L),(vI r_30.2.f_at)])),(n_16,gB 9 Alert.enc s_13.1)]:Hp) (by kernel_rfl) (aa (.ref (aD 0) 0 0) (eT (([(⟨#[102,108,111,111,100]⟩:ByteArray),(⟨#[102,105,114,101,32,105,110,32,116,104,101,32,109,97,108,108]⟩:ByteArray)]:List ByteArray).map eS) nM Dr rfl rfl rfl rfl rfl wz ?_))
   obtain ⟨r_33,hr_34,hc_17⟩:=bind_some hc_17
   refine gu 0 [0] il ft (o7 hr_34) rfl hb18 rfl (by kernel_rfl) (by kernel_rfl) (by kernel_rfl) (by kernel_rfl) (by kernel_rfl) (by kernel_rfl) (by kernel_rfl) (by decide) (by kernel_rfl) wz (vS r_33.1) (by kernel_rfl) ([((aD 0),some (.cells 2 [(vL eI r_33.2.L),(vI r_33.2.f_at)])),(n_16,gB 9 Alert.enc s_13.1)]:Hp) (by kernel_rfl) (aJ (.agg [(vS x_10),(vS r_21.1),(vI r_24.1),.nil,(vI (w64 (r_27.1*5))),(vI 0),(vI r_30.1),.nil,(vS r_33.1)]) wz (by kernel_rfl) (dC 0 (.inl rfl) z32 rfl wz (λn_36=>fB 0 il ft 2 eO rfl rfl [(vS x_10),(vS r_21.1),(vI r_24.1),.nil,(vI (w64 (r_27.1*5))),(vI 0),(vI r_30.1),.nil,(vS r_33.1)] rfl wz (ah (ak (bC (aG kz rfl 4 rfl wz (aC 1 2 (.inr (by kernel_rfl)) (λ_ _ ag=>trivial) sz3 ag3 rfl rfl (vI (w64 (r_27.1*5))) rfl wz (aa (.ref (aD 0) 0 0) (eT (([1,10,20,50]:List Int).map eI) ni BG rfl rfl rfl rfl rfl wz ?_))))))))))
   obtain ⟨r_37,hr_38,hc_17⟩:=bind_some hc_17
   refine gu 4 [0] (.inr (by kernel_rfl)) (λ_ _ ag=>by exact⟨.inr (.inl (dis1 (uf ag (i:=0) (j:=2) rfl rfl (by decide)))),trivial⟩) (o8 hr_38) rfl hb19 rfl (by kernel_rfl) (by kernel_rfl) (by kernel_rfl) (by kernel_rfl) (by kernel_rfl) (by kernel_rfl) (by kernel_rfl) (by decide) (by kernel_rfl) wz (vI r_37.1) (by kernel_rfl) ([((aD 0),some (.cells 2 [(vL eI r_37.2.L),(vI r_37.2.f_at)])),(n_16,gB 9 Alert.enc s_13.1),(n_36,some (.cells 9 [(vS x_10),(vS r_21.1),(vI r_24.1),.nil,(vI (w64 (r_27.1*5))),(vI 0),(vI r_30.1),.nil,(vS r_33.1)]))]:Hp) (by kernel_rfl) (aa (vI (w64 ((w64 (r_27.1*5))+r_37.1))) (aG Ah rfl 5 rfl wz (fB 7 (.inr (by kernel_rfl)) (λ_ _ ag=>⟨.inr (.inr (by kernel_rfl)),⟨.inr (.inr (by kernel_rfl)),trivial⟩⟩) 2 sz3 rfl rfl [(vS x_10),(vS r_21.1),(vI r_24.1),.nil,(vI (w64 (r_27.1*5))),(vI (w64 ((w64 (r_27.1*5))+r_37.1))),(vI r_30.1),.nil,(vS r_33.1)] rfl wz (ah (aN (H0:=([((aD 0),some (.cells 2 [(vL eI r_37.2.L),(vI r_37.2.f_at)])),(n_16,gB 9 Alert.enc s_13.1),(n_36,some (.cells 9 [(vS x_10),(vS r_21.1),(vI r_24.1),.nil,(vI (w64 (r_27.1*5))),(vI (w64 ((w64 (r_27.1*5))+r_37.1))),(vI r_30.1),.nil,(vS r_33.1)]))]:Hp)) ([(0,(.ref (aD 0) 0 0)),(5,(gV n_16 9 s_13.1)),(7,(vS x_10)),(8,(.ref n_36 0 0)),(15,(vL eS y_6)),(16,(vI (y_6.length:Int))),(17,(vI (k_8:Int)))]:SL_) (by kernel_rfl) (zZ (by kernel_rfl)) (ak (ai (aG uQ rfl 2 rfl wz (aC 0 2 il ft sz3 ag3 rfl rfl (vI r_24.1) rfl wz (aa (vB (r_24.1 != 1)) (ah ?_)))))))))))
   obtain ⟨v_42,h_43,hc_17⟩:=bind_some hc_17
   refine Pe (β:=Unit) (λ_=>([(0,(.ref (aD 0) 0 0)),(5,(gV n_16 9 s_13.1)),(8,(.ref n_36 0 0)),(15,(vL eS y_6)),(16,(vI (y_6.length:Int))),(17,(vI (k_8:Int)))]:SL_)) (λ_=>([((aD 0),some (.cells 2 [(vL eI v_42.1),(vI v_42.2.1)])),(n_16,gB 9 Alert.enc s_13.1),(n_36,some (.cells 9 [(vS x_10),(vS r_21.1),(vI r_24.1),(vL eS v_42.2.2),(vI (w64 (r_27.1*5))),(vI (w64 ((w64 (r_27.1*5))+r_37.1))),(vI r_30.1),.nil,(vS r_33.1)]))]:Hp)) (λ_=>True) ?_ ?_
   ·rcases aj h_43 with⟨hc_44,h_43⟩|⟨hc_44,h_43⟩
    ·refine ay rfl hc_44 (ak (ai (eT (([(⟨#[97,97]⟩:ByteArray),(⟨#[97,98]⟩:ByteArray),(⟨#[97,99]⟩:ByteArray),(⟨#[97,100]⟩:ByteArray),(⟨#[122,122]⟩:ByteArray)]:List ByteArray).map eS) nM Dr rfl rfl rfl rfl rfl wz (bG uT rfl wz (aa (vI 0) (ah (l6 (λn_51 => ?_))))))))
     obtain ⟨o_56,hj_57,h_43⟩:=bind_some h_43
     obtain ⟨hn_49,hj_57⟩:=aX hj_57
     refine ic (σ:=(List ByteArray)×(List Int)×Int) (N:=Nm) (λp=>(λ(s_50:(List ByteArray)×(List Int)×Int) (n_53:Nm)=>([(0,(.ref (aD 0) 0 0)),(5,(gV n_16 9 s_13.1)),(8,(.ref n_36 0 0)),(15,(vL eS y_6)),(16,(vI (y_6.length:Int))),(17,(vI (k_8:Int)))]:SL_)) p.1 p.2) (λp=>(λ(s_50:(List ByteArray)×(List Int)×Int) (n_53:Nm)=>([((aD 0),some (.cells 2 [(vL eI s_50.2.1),(vI s_50.2.2)])),(n_16,gB 9 Alert.enc s_13.1),(n_36,some (.cells 9 [(vS x_10),(vS r_21.1),(vI r_24.1),(gV n_53 1 s_50.1),(vI (w64 (r_27.1*5))),(vI (w64 ((w64 (r_27.1*5))+r_37.1))),(vI r_30.1),.nil,(vS r_33.1)])),(n_53,gB 1 eS s_50.1)]:Hp)) p.1 p.2) (λ(k_45:Nat)=>(λp=>(λ(s_50:(List ByteArray)×(List Int)×Int) (n_53:Nm)=>([(0,(.ref (aD 0) 0 0)),(5,(gV n_16 9 s_13.1)),(7,(vS x_10)),(8,(.ref n_36 0 0)),(15,(vL eS y_6)),(16,(vI (y_6.length:Int))),(17,(vI (k_8:Int))),(48,(vL eS ([(⟨#[97,97]⟩:ByteArray),(⟨#[97,98]⟩:ByteArray),(⟨#[97,99]⟩:ByteArray),(⟨#[97,100]⟩:ByteArray),(⟨#[122,122]⟩:ByteArray)]:List ByteArray))),(49,(vI (([(⟨#[97,97]⟩:ByteArray),(⟨#[97,98]⟩:ByteArray),(⟨#[97,99]⟩:ByteArray),(⟨#[97,100]⟩:ByteArray),(⟨#[122,122]⟩:ByteArray)]:List ByteArray).length:Int))),(50,(vI (k_45:Int)))]:SL_)) p.1 p.2)) (λk x s=>dP x_10 k x s) o_56 ([(⟨#[97,97]⟩:ByteArray),(⟨#[97,98]⟩:ByteArray),(⟨#[97,99]⟩:ByteArray),(⟨#[97,100]⟩:ByteArray),(⟨#[122,122]⟩:ByteArray)]:List ByteArray) ((([]:List ByteArray),r_37.2.L,r_37.2.f_at),n_51) hj_57 rfl (aH rfl) ?_ ?_
     ·rintro ⟨k_45,l_46,s_50,n_53⟩ ⟨hL_55,hD_48⟩
      dsimp only at hL_55 hD_48
      cases l_46 with
      | nil =>
       obtain rfl:=ae hL_55
       refine ai (aa (vB (decide ((k_45:Int)<(([(⟨#[97,97]⟩:ByteArray),(⟨#[97,98]⟩:ByteArray),(⟨#[97,99]⟩:ByteArray),(⟨#[97,100]⟩:ByteArray),(⟨#[122,122]⟩:ByteArray)]:List ByteArray).length:Int)))) (ah ?_))
       refine ak (ax rfl (drop_nil hD_48) (aW ?_))
       exact aS (s_50,n_53) rfl rfl (aH rfl)
      | cons x_47 l_46 =>
       obtain ⟨c_,hc_54,hL_55⟩:=bind_some hL_55
       refine ai (aa (vB (decide ((k_45:Int)<(([(⟨#[97,97]⟩:ByteArray),(⟨#[97,98]⟩:ByteArray),(⟨#[97,99]⟩:ByteArray),(⟨#[97,100]⟩:ByteArray),(⟨#[122,122]⟩:ByteArray)]:List ByteArray).length:Int)))) (ah ?_))
       refine ak (ay rfl (aZ hD_48) (av ?_))
       unfold dP at hc_54
       refine ak (aL (ai (dY nM rfl rfl (bz hD_48) rfl wz (bI sz9 ag9 rfl (vS x_47) rfl wz (aa (vS x_47) (ah (ak ?_)))))))
       obtain ⟨v_58,h_59,hc_54⟩:=bind_some hc_54
       refine aP [(0,(.ref (aD 0) 0 0)),(5,(gV n_16 9 s_13.1)),(7,(vS x_10)),(8,(.ref n_36 0 0)),(10,(vS x_47)),(15,(vL eS y_6)),(16,(vI (y_6.length:Int))),(17,(vI (k_8:Int))),(48,(vL eS ([(⟨#[97,97]⟩:ByteArray),(⟨#[97,98]⟩:ByteArray),(⟨#[97,99]⟩:ByteArray),(⟨#[97,100]⟩:ByteArray),(⟨#[122,122]⟩:ByteArray)]:List ByteArray))),(49,(vI (([(⟨#[97,97]⟩:ByteArray),(⟨#[97,98]⟩:ByteArray),(⟨#[97,99]⟩:ByteArray),(⟨#[97,100]⟩:ByteArray),(⟨#[122,122]⟩:ByteArray)]:List ByteArray).length:Int))),(50,(vI (k_45:Int))),(60,(vB v_58.1))] [((aD 0),some (.cells 2 [(vL eI v_58.2.1),(vI v_58.2.2)])),(n_16,gB 9 Alert.enc s_13.1),(n_36,some (.cells 9 [(vS x_10),(vS r_21.1),(vI r_24.1),(gV n_53 1 s_50.1),(vI (w64 (r_27.1*5))),(vI (w64 ((w64 (r_27.1*5))+r_37.1))),(vI r_30.1),.nil,(vS r_33.1)])),(n_53,gB 1 eS s_50.1)] ?_ ?_
       ·refine au (aa (vS x_47) (aa (vS x_10) (aa (vB (sNe x_47 x_10)) ?_)))
        rcases aj h_59 with⟨hc_60,h_59⟩|⟨hc_60,h_59⟩
        ·refine aB rfl hc_60 wz (aJ (.ref (aD 0) 0 0) wa rfl ?_)
         obtain ⟨r_61,hr_62,h_59⟩:=bind_some h_59
         refine gu 0 [0] il ft (Bg hr_62) rfl hb20 rfl (by kernel_rfl) (by kernel_rfl) (by kernel_rfl) (by kernel_rfl) (by kernel_rfl) (by kernel_rfl) (by kernel_rfl) (by decide) (by kernel_rfl) wa (vB r_61.1) (by kernel_rfl) ([((aD 0),some (.cells 2 [(vL eI r_61.2.L),(vI r_61.2.f_at)])),(n_16,gB 9 Alert.enc s_13.1),(n_36,some (.cells 9 [(vS x_10),(vS r_21.1),(vI r_24.1),(gV n_53 1 s_50.1),(vI (w64 (r_27.1*5))),(vI (w64 ((w64 (r_27.1*5))+r_37.1))),(vI r_30.1),.nil,(vS r_33.1)])),(n_53,gB 1 eS s_50.1)]:Hp) (by kernel_rfl) (aa (vB r_61.1) (ah ?_))
         obtain rfl:=ae h_59
         exact cu
        ·refine aB rfl hc_60 wz (af (af (aa (vB false) (ah ?_))))
         obtain rfl:=ae h_59
         exact cu
       ·rintro ⟨⟩ _ sl_ H_ hp_ hq_
        refine aN _ hp_ hq_ ?_
        obtain ⟨v_64,h_65,hc_54⟩:=bind_some hc_54
        refine jW (β:=Nm) (λ(n_66:Nm)=>([(0,(.ref (aD 0) 0 0)),(5,(gV n_16 9 s_13.1)),(7,(vS x_10)),(8,(.ref n_36 0 0)),(15,(vL eS y_6)),(16,(vI (y_6.length:Int))),(17,(vI (k_8:Int))),(48,(vL eS ([(⟨#[97,97]⟩:ByteArray),(⟨#[97,98]⟩:ByteArray),(⟨#[97,99]⟩:ByteArray),(⟨#[97,100]⟩:ByteArray),(⟨#[122,122]⟩:ByteArray)]:List ByteArray))),(49,(vI (([(⟨#[97,97]⟩:ByteArray),(⟨#[97,98]⟩:ByteArray),(⟨#[97,99]⟩:ByteArray),(⟨#[97,100]⟩:ByteArray),(⟨#[122,122]⟩:ByteArray)]:List ByteArray).length:Int))),(50,(vI (k_45:Int)))]:SL_)) (λ(n_66:Nm)=>([((aD 0),some (.cells 2 [(vL eI v_58.2.1),(vI v_58.2.2)])),(n_16,gB 9 Alert.enc s_13.1),(n_36,some (.cells 9 [(vS x_10),(vS r_21.1),(vI r_24.1),(gV n_66 1 v_64),(vI (w64 (r_27.1*5))),(vI (w64 ((w64 (r_27.1*5))+r_37.1))),(vI r_30.1),.nil,(vS r_33.1)])),(n_66,gB 1 eS v_64)]:Hp)) (λ_=>True) ?_ ?_
        ·rcases aj h_65 with⟨hc_67,h_65⟩|⟨hc_67,h_65⟩
         ·refine ay rfl hc_67 (au (aG nJ rfl 3 rfl wz (aC 0 2 il ft xK zW rfl rfl (gV n_53 1 s_50.1) rfl wz (aa (vS x_47) (eT (([x_47]:List ByteArray).map eS) nM Dr rfl rfl rfl rfl rfl wz ?_)))))
          obtain ⟨a_68,hz_69,h_65⟩:=bind_some h_65
          refine jB 0 il ft (i:=3) Ga Ga sz9 z9 rfl (by decide) by9 (by decide) (λ_=>rfl) rfl rfl rfl hz_69 wz (λn_70=>aG nJ rfl 3 rfl wz (fB 0 il ft 2 xK rfl rfl [(vS x_10),(vS r_21.1),(vI r_24.1),(gV n_70 1 a_68),(vI (w64 (r_27.1*5))),(vI (w64 ((w64 (r_27.1*5))+r_37.1))),(vI r_30.1),.nil,(vS r_33.1)] (stC_g rfl) wz (ah ?_)))
          obtain rfl:=ae h_65
          exact aS n_70 trivial rfl (aH rfl)
         ·refine ax rfl hc_67 (av ?_)
          obtain rfl:=ae h_65
          exact aS n_53 trivial rfl (aH rfl)
        ·rintro n_66 _ sl_ H_ hp_ hq_
         refine aN _ hp_ hq_ (au (dZ (bn hD_48 hn_49) wz rfl (aa (vI ((k_45+1:Nat):Int)) (ah ?_))))
         obtain rfl:=ae hc_54
         exact aU (k_45+1,l_46,(v_64,v_58.2.1,v_58.2.2),n_66) ⟨hL_55,aR hD_48⟩ (ls_ _) rfl (aH rfl)
     ·rintro ⟨s_50,n_53⟩ ho_ sl_ H_ hp_ hq_
      subst ho_
      refine aN _ hp_ hq_ (ai (aG nJ rfl 3 rfl wz (aC 0 2 il ft xK zW rfl rfl (gV n_53 1 s_50.1) rfl wz (BI uT rfl wz (aa (vB ((s_50.1.length:Int)==0)) (ah ?_))))))
      rcases aj h_43 with⟨hc_71,h_43⟩|⟨hc_71,h_43⟩
      ·refine ay rfl hc_71 (au (eT (([(⟨#[122,121]⟩:ByteArray)]:List ByteArray).map eS) nM Dr rfl rfl rfl rfl rfl wz (aG nJ rfl 3 rfl wz (fB 0 il ft 2 xK rfl rfl [(vS x_10),(vS r_21.1),(vI r_24.1),(vL eS ([(⟨#[122,121]⟩:ByteArray)]:List ByteArray)),(vI (w64 (r_27.1*5))),(vI (w64 ((w64 (r_27.1*5))+r_37.1))),(vI r_30.1),.nil,(vS r_33.1)] rfl wz (ah ?_)))))
       intro C_ b_ Q_ key_
       obtain rfl:=ae h_43
       exact key_ () trivial _ _ rfl (aH rfl)
      ·refine ax rfl hc_71 (av ?_)
       intro C_ b_ Q_ key_
       refine gK 3 rfl (dE 69 3 rfl rfl (wH_coc3 3 2 [false,false,false,true,false,false,false,false,false] [(vS x_10),(vS r_21.1),(vI r_24.1),(vL eS s_50.1),(vI (w64 (r_27.1*5))),(vI (w64 ((w64 (r_27.1*5))+r_37.1))),(vI r_30.1),.nil,(vS r_33.1)] rfl rfl rfl (λS hS=>jK (rfl) (jK (rfl) (jK (rfl) (jK (hS) (jK (rfl) (jK (rfl) (jK (rfl) (jK (rfl) (jK (rfl) (rfl)))))))))) ?_))
       obtain rfl:=ae h_43
       exact key_ () trivial _ _ rfl (aH rfl)
    ·refine ax rfl hc_44 (av ?_)
     intro C_ b_ Q_ key_
     refine wH_coc1 2 [false,false,false,true,false,false,false,false,false] [(vS x_10),(vS r_21.1),(vI r_24.1),(vL eS ([]:List ByteArray)),(vI (w64 (r_27.1*5))),(vI (w64 ((w64 (r_27.1*5))+r_37.1))),(vI r_30.1),.nil,(vS r_33.1)] rfl rfl (λ_=>rfl) ?_
     obtain rfl:=ae h_43
     exact key_ () trivial _ _ rfl (aH rfl)
   ·rintro ⟨⟩ _ sl_ H_ hp_ hq_
    refine aN _ hp_ hq_ (ak (ai (aG uQ rfl 2 rfl wz (aC 0 2 il ft sz3 ag3 rfl rfl (vI r_24.1) rfl wz (aa (vB (r_24.1==3)) (ah (l6 (λn_74 => ?_))))))))
    obtain ⟨v_75,h_76,hc_17⟩:=bind_some hc_17
    refine jW (β:=Nm) (λ(n_77:Nm)=>([(0,(.ref (aD 0) 0 0)),(5,(gV n_16 9 s_13.1)),(8,(.ref n_36 0 0)),(15,(vL eS y_6)),(16,(vI (y_6.length:Int))),(17,(vI (k_8:Int)))]:SL_)) (λ(n_77:Nm)=>([((aD 0),some (.cells 2 [(vL eI v_75.2.1),(vI v_75.2.2.1)])),(n_16,gB 9 Alert.enc s_13.1),(n_36,some (.cells 9 [(vS x_10),(vS r_21.1),(vI r_24.1),(vL eS v_42.2.2),(vI (w64 (r_27.1*5))),(vI (w64 ((w64 (r_27.1*5))+r_37.1))),(vI r_30.1),(gV n_77 4 v_75.1),(vS v_75.2.2.2)])),(n_77,gB 4 Rect.enc v_75.1)]:Hp)) (λ_=>True) ?_ ?_
    ·rcases aj h_76 with⟨hc_78,h_76⟩|⟨hc_78,h_76⟩
     ·refine ay rfl hc_78 (au (aa (.ref (aD 0) 0 0) (eT (([(⟨#[]⟩:ByteArray),(⟨#[111,118,101,114]⟩:ByteArray)]:List ByteArray).map eS) nM Dr rfl rfl rfl rfl rfl wz ?_)))
      obtain ⟨r_79,hr_80,h_76⟩:=bind_some h_76
      refine gu 0 [0] il ft (o7 hr_80) rfl hb18 rfl (by kernel_rfl) (by kernel_rfl) (by kernel_rfl) (by kernel_rfl) (by kernel_rfl) (by kernel_rfl) (by kernel_rfl) (by decide) (by kernel_rfl) wz (vS r_79.1) (by kernel_rfl) ([((aD 0),some (.cells 2 [(vL eI r_79.2.L),(vI r_79.2.f_at)])),(n_16,gB 9 Alert.enc s_13.1),(n_36,some (.cells 9 [(vS x_10),(vS r_21.1),(vI r_24.1),(vL eS v_42.2.2),(vI (w64 (r_27.1*5))),(vI (w64 ((w64 (r_27.1*5))+r_37.1))),(vI r_30.1),(gV n_74 4 ([]:List Rect)),(vS r_33.1)])),(n_74,gB 4 Rect.enc ([]:List Rect))]:Hp) (by kernel_rfl) (aG yK rfl 8 rfl wz (fB 0 il ft 2 sz9 rfl rfl [(vS x_10),(vS r_21.1),(vI r_24.1),(vL eS v_42.2.2),(vI (w64 (r_27.1*5))),(vI (w64 ((w64 (r_27.1*5))+r_37.1))),(vI r_30.1),(gV n_74 4 ([]:List Rect)),(vS r_79.1)] rfl wz (ah ?_)))
      obtain rfl:=ae h_76
      exact aS n_74 trivial rfl (aH rfl)
     ·refine ax rfl hc_78 (ai (aa (.ref (aD 0) 0 0) ?_))
      obtain ⟨r_82,hr_83,h_76⟩:=bind_some h_76
      refine gu 0 [0] il ft (fI hr_83) rfl hb5 rfl (by kernel_rfl) (by kernel_rfl) (by kernel_rfl) (by kernel_rfl) (by kernel_rfl) (by kernel_rfl) (by kernel_rfl) (by decide) (by kernel_rfl) wz (vI r_82.1) (by kernel_rfl) ([((aD 0),some (.cells 2 [(vL eI r_82.2.L),(vI r_82.2.f_at)])),(n_16,gB 9 Alert.enc s_13.1),(n_36,some (.cells 9 [(vS x_10),(vS r_21.1),(vI r_24.1),(vL eS v_42.2.2),(vI (w64 (r_27.1*5))),(vI (w64 ((w64 (r_27.1*5))+r_37.1))),(vI r_30.1),(gV n_74 4 ([]:List Rect)),(vS r_33.1)])),(n_74,gB 4 Rect.enc ([]:List Rect))]:Hp) (by kernel_rfl) (aa (vI 0) (ah ?_))
      obtain ⟨o_95,hj_96,h_76⟩:=bind_some h_76
      obtain ⟨hn_89,hj_96⟩:=aX hj_96
      refine ic (σ:=(List Rect)×(List Int)×Int) (N:=Nm) (λp=>(λ(s_90:(List Rect)×(List Int)×Int) (n_92:Nm)=>([(0,(.ref (aD 0) 0 0)),(5,(gV n_16 9 s_13.1)),(8,(.ref n_36 0 0)),(15,(vL eS y_6)),(16,(vI (y_6.length:Int))),(17,(vI (k_8:Int)))]:SL_)) p.1 p.2) (λp=>(λ(s_90:(List Rect)×(List Int)×Int) (n_92:Nm)=>([((aD 0),some (.cells 2 [(vL eI s_90.2.1),(vI s_90.2.2)])),(n_16,gB 9 Alert.enc s_13.1),(n_36,some (.cells 9 [(vS x_10),(vS r_21.1),(vI r_24.1),(vL eS v_42.2.2),(vI (w64 (r_27.1*5))),(vI (w64 ((w64 (r_27.1*5))+r_37.1))),(vI r_30.1),(gV n_92 4 s_90.1),(vS r_33.1)])),(n_92,gB 4 Rect.enc s_90.1)]:Hp)) p.1 p.2) (λ(k_85:Nat)=>(λp=>(λ(s_90:(List Rect)×(List Int)×Int) (n_92:Nm)=>([(0,(.ref (aD 0) 0 0)),(5,(gV n_16 9 s_13.1)),(8,(.ref n_36 0 0)),(15,(vL eS y_6)),(16,(vI (y_6.length:Int))),(17,(vI (k_8:Int))),(82,(vI r_82.1)),(83,(vI (k_85:Int)))]:SL_)) p.1 p.2)) (λk x s=>dN k x s) o_95 (List.range (r_82.1).toNat) ((([]:List Rect),r_82.2.L,r_82.2.f_at),n_74) hj_96 rfl (aH rfl) ?_ ?_
      ·rintro ⟨k_85,l_86,s_90,n_92⟩ ⟨hL_94,hD_88⟩
       dsimp only at hL_94 hD_88
       cases l_86 with
       | nil =>
        obtain rfl:=ae hL_94
        refine ai (aa (vB (decide ((k_85:Int)<r_82.1))) (ah ?_))
        refine ak (ax rfl (y7 hD_88) (aW ?_))
        exact aS (s_90,n_92) rfl rfl (aH rfl)
       | cons x_87 l_86 =>
        obtain ⟨c_,hc_93,hL_94⟩:=bind_some hL_94
        refine ai (aa (vB (decide ((k_85:Int)<r_82.1))) (ah ?_))
        refine ak (ay rfl (wY hD_88) (av ?_))
        unfold dN at hc_93
        refine ak (aL (bC (aG sI rfl 7 rfl wz (aC 1 2 (.inr (by kernel_rfl)) (λ_ _ ag=>trivial) Ch EC rfl rfl (gV n_92 4 s_90.1) rfl wz (aa (.ref (aD 0) 0 0) ?_)))))
        obtain ⟨r_97,hr_98,hc_93⟩:=bind_some hc_93
        refine gu 3 [0] (.inr (by kernel_rfl)) (λ_ _ ag=>by exact⟨.inr (.inl (dis1 (uf ag (i:=0) (j:=2) rfl rfl (by decide)))),trivial⟩) (wm hr_98) rfl hb21 rfl (by kernel_rfl) (by kernel_rfl) (by kernel_rfl) (by kernel_rfl) (by kernel_rfl) (by kernel_rfl) (by kernel_rfl) (by decide) (by kernel_rfl) wz (.d (.agg (Rect.enc r_97.1))) (by kernel_rfl) ([((aD 0),some (.cells 2 [(vL eI r_97.2.L),(vI r_97.2.f_at)])),(n_16,gB 9 Alert.enc s_13.1),(n_36,some (.cells 9 [(vS x_10),(vS r_21.1),(vI r_24.1),(vL eS v_42.2.2),(vI (w64 (r_27.1*5))),(vI (w64 ((w64 (r_27.1*5))+r_37.1))),(vI r_30.1),(gV n_92 4 s_90.1),(vS r_33.1)])),(n_92,gB 4 Rect.enc s_90.1)]:Hp) (by kernel_rfl) (eT (([r_97.1]:List Rect).map Rect.enc) Au PN rfl rfl rfl rfl rfl wz ?_)
        obtain ⟨a_100,hz_101,hc_93⟩:=bind_some hc_93
        refine jB 5 (.inr (by kernel_rfl)) (λ_ _ ag=>⟨.inr (.inr (by kernel_rfl)),⟨.inr (.inr (by kernel_rfl)),trivial⟩⟩) (i:=3) El El q8 z53 rfl (by decide) O5 (by decide) (λ_=>rfl) rfl rfl rfl hz_101 wz (λn_102=>aG sI rfl 7 rfl wz (fB 7 (.inr (by kernel_rfl)) (λ_ _ ag=>⟨.inr (.inr (by kernel_rfl)),⟨.inr (.inr (by kernel_rfl)),⟨.inr (.inr (by kernel_rfl)),trivial⟩⟩⟩) 2 Ch rfl rfl [(vS x_10),(vS r_21.1),(vI r_24.1),(vL eS v_42.2.2),(vI (w64 (r_27.1*5))),(vI (w64 ((w64 (r_27.1*5))+r_37.1))),(vI r_30.1),(gV n_102 4 a_100),(vS r_33.1)] (stC_g rfl) wz (ah (au (dZ (yO hD_88 hn_89) wz rfl (aa (vI ((k_85+1:Nat):Int)) (ah ?_)))))))
        obtain rfl:=ae hc_93
        exact aU (k_85+1,l_86,(a_100,r_97.2.L,r_97.2.f_at),n_102) ⟨hL_94,aR hD_88⟩ (ls_ _) rfl (aH rfl)
      ·rintro ⟨s_90,n_92⟩ ho_ sl_ H_ hp_ hq_
       subst ho_
       obtain rfl:=ae h_76
       exact aS n_92 trivial (pick_at [0,1,2,3,4,5] hp_ rfl) (pre_at hq_ (aH rfl))
    ·rintro n_77 _ sl_ H_ hp_ hq_
     refine aN _ hp_ hq_ (gK 3 rfl (wH_coc 3 2 [(vS x_10),(vS r_21.1),(vI r_24.1),(vL eS v_42.2.2),(vI (w64 (r_27.1*5))),(vI (w64 ((w64 (r_27.1*5))+r_37.1))),(vI r_30.1),(vL Rect.enc v_75.1),(vS v_75.2.2.2)] rfl rfl (λS hS=>jK (rfl) (jK (rfl) (jK (rfl) (jK (rfl) (jK (rfl) (jK (rfl) (jK (rfl) (jK (hS) (jK (rfl) (rfl)))))))))) (au (aa (gV n_16 9 s_13.1) (aC 0 2 il ft eO jo rfl rfl (.d (.agg (Alert.enc (⟨x_10,r_21.1,r_24.1,v_42.2.2,(w64 (r_27.1*5)),(w64 ((w64 (r_27.1*5))+r_37.1)),r_30.1,v_75.1,v_75.2.2.2⟩:Alert)))) rfl wz (eT (([(⟨x_10,r_21.1,r_24.1,v_42.2.2,(w64 (r_27.1*5)),(w64 ((w64 (r_27.1*5))+r_37.1)),r_30.1,v_75.1,v_75.2.2.2⟩:Alert)]:List Alert).map Alert.enc) mo Iw rfl rfl rfl rfl rfl wz ?_))))))
     obtain ⟨a_103,hz_104,hc_17⟩:=bind_some hc_17
     refine jB 0 il ft (i:=1) yo yo eO z32 rfl (by decide) J5 (by decide) (λ_=>rfl) rfl rfl rfl hz_104 wz (λn_105=>aa (gV n_105 9 a_103) (ah (au (dZ (bn hD_11 hn_12) wz rfl (aa (vI ((k_8+1:Nat):Int)) (ah ?_))))))
     obtain rfl:=ae hc_17
     exact aU (k_8+1,l_9,(a_103,v_75.2.1,v_75.2.2.1),n_105) ⟨hL_18,aR hD_11⟩ (ls_ _) rfl (aH rfl)
 ·rintro ⟨s_13,n_16⟩ ho_ sl_ H_ hp_ hq_
  subst ho_
  refine aN _ hp_ hq_ (ai (aa (gV n_16 9 s_13.1) ?_))
  obtain ⟨r_106,hr_107,hF⟩:=bind_some hF
  obtain ⟨_,hs_108,hF⟩:=bind_some hF
  replace hs_108:=kQ hs_108
  refine mh 0 [] 1 0 il ft (lS hr_107) rfl hb22 rfl rfl rfl (by kernel_rfl) rfl (.inl rfl) rfl (by kernel_rfl) (by kernel_rfl) (by kernel_rfl) (by kernel_rfl) rfl (by decide) (by kernel_rfl) jX (vZ hs_108) wz ([((aD 0),some (.cells 2 [(vL eI s_13.2.1),(vI s_13.2.2)])),(n_16,gB 9 Alert.enc r_106)]:Hp) (by kernel_rfl) (dH (v':=(gV n_16 9 r_106)) 5 rfl (kJ hs_108.symm) (dH (v':=(gV n_16 9 r_106)) 98 rfl (kJ hs_108.symm) (ah (ai (aa (gV n_16 9 r_106) (aa (gV n_16 9 r_106) (ah (gK 1 rfl (dE 4 1 rfl rfl (dE 5 1 rfl rfl (dE 98 1 rfl rfl (dE 100 1 rfl rfl ?_))))))))))))
  obtain rfl:=ae hF
  exact aA (Cw (.inr rfl) [(vL Alert.enc r_106)] _ [0] [aD 0] ⟨rfl,trivial⟩ (.cons (kH rfl rfl) (.nil)) (by kernel_rfl) ⟨(by kernel_rfl),trivial⟩ (by decide) (by kernel_rfl))
theorem iy {s_1:ByteArray} {r:Bool} (hF:kit_IsKey s_1=some r) :
  FnM Tryz.prog 82 [(vS s_1)] [] (vB r) []:=by
 refine FnM.of_wH ⟨Tryz.prog,48,[],[]⟩ rfl Tryz.func82 rfl rfl (lb_ rfl) (by kernel_rfl) ?_
 unfold kit_IsKey at hF
 refine ai (aa (vB false) (ah (ak (ai (aa (vI 0) (ah ?_))))))
 obtain ⟨o_10,hj_11,hF⟩:=bind_some hF
 obtain ⟨nq_33,hj_11⟩:=dw hj_11
 refine eZ (λ(s_7:Int)=>[(0,(vS s_1))]) (λ(s_7:Int)=>[]) (λ(k_2:Nat)=>(λ(s_7:Int)=>[(0,(vS s_1)),(3,(vI s_7))])) (λs=>ko s_1 s) o_10 nq_33 0 hj_11 rfl (aH rfl) ?_ ?_
 ·rintro ⟨k_2,s_7⟩ hL_9
  dsimp only at hL_9
  cases k_2 with
  | zero=>cases hL_9
  | succ k_2 =>
   obtain ⟨c_,hc_8,hL_9⟩:=bind_some hL_9
   unfold ko at hc_8
   refine ak (ai (aa (vI s_7) (aa (vS s_1) (xn un9 rfl wz (aa (vB (decide (s_7<(s_1.size:Int)))) (ah ?_))))))
   rcases aj hc_8 with⟨hc_12,hc_8⟩|⟨hc_12,hc_8⟩
   ·refine ay rfl hc_12 (av (ak (aL (ai (aa (vS s_1) (aa (vI s_7) ?_))))))
    obtain ⟨b_13,hy_14,hc_8⟩:=bind_some hc_8
    refine wB un9 rfl rfl hy_14 wz (aa (.d (.int .u8 (b_13.toNat:Int))) (ah (ak ?_)))
    obtain ⟨v_15,h_16,hc_8⟩:=bind_some hc_8
    refine aP [(0,(vS s_1)),(3,(vI s_7)),(40,(vB v_15))] [] ?_ ?_
    ·refine au (aa (.d (.int .u8 (b_13.toNat:Int))) (aa (vB (decide ((b_13.toNat:Int)>=97))) ?_))
     rcases aj h_16 with⟨hc_17,h_16⟩|⟨hc_17,h_16⟩
     ·refine aB rfl hc_17 wz (aJ (.d (.int .u8 (b_13.toNat:Int))) wa rfl (aJ (vB (decide ((b_13.toNat:Int)<=122))) wa rfl (aa (vB (decide ((b_13.toNat:Int)<=122))) ?_)))
      rcases aj h_16 with⟨hc_18,h_16⟩|⟨hc_18,h_16⟩
      ·refine aB rfl hc_18 wz (af (af (af (dx (wn rfl rfl) (dx (wn rfl rfl) (dx (wn rfl rfl) (dx (wn rfl rfl) (dx (wn rfl rfl) (dx (wn rfl rfl) (dx (wn rfl rfl) (dx (wn rfl rfl) (dx (wn rfl rfl) (dx (wn rfl rfl) (dx (wn rfl rfl) (dx (wn rfl rfl) (dx (wn rfl rfl) (dx (wn rfl rfl) (af (aa (vB true) (aa (vB false) (ah ?_)))))))))))))))))))))
       obtain rfl:=ae h_16
       exact cu
      ·refine aB rfl hc_18 wz (aJ (vI s_7) wa rfl (aJ (vB (decide (s_7>0))) wa rfl ?_))
       rcases aj h_16 with⟨hc_19,h_16⟩|⟨hc_19,h_16⟩
       ·refine aB rfl hc_19 wa (aJ (.d (.int .u8 (b_13.toNat:Int))) wa rfl (aJ (vB (decide ((b_13.toNat:Int)>=48))) wa rfl ?_))
        rcases aj h_16 with⟨hc_20,h_16⟩|⟨hc_20,h_16⟩
        ·refine aB rfl hc_20 wa (aJ (.d (.int .u8 (b_13.toNat:Int))) wa rfl (aJ (vB (decide ((b_13.toNat:Int)<=57))) wa rfl (aJ (vB (decide ((b_13.toNat:Int)<=57))) wa rfl ?_)))
         rcases aj h_16 with⟨hc_21,h_16⟩|⟨hc_21,h_16⟩
         ·refine aB rfl hc_21 wa (af (af (aJ (vB true) wa rfl (aJ (vB true) wa rfl (af (af (aJ (vB true) wa rfl (aJ (vB true) wa rfl (aa (vB true) (aa (vB false) (ah ?_)))))))))))
          obtain rfl:=ae h_16
          exact cu
         ·refine aB rfl hc_21 wa (aJ (.d (.int .u8 (b_13.toNat:Int))) wa rfl (aJ (vB ((b_13.toNat:Int)==45)) wa rfl (aJ (vB ((b_13.toNat:Int)==45)) wa rfl ?_)))
          rcases aj h_16 with⟨hc_22,h_16⟩|⟨hc_22,h_16⟩
          ·refine aB rfl hc_22 wa (af (af (aJ (vB true) wa rfl (aJ (vB true) wa rfl (aa (vB true) (aa (vB false) (ah ?_)))))))
           obtain rfl:=ae h_16
           exact cu
          ·refine aB rfl hc_22 wa (aJ (.d (.int .u8 (b_13.toNat:Int))) wa rfl (aJ (vB ((b_13.toNat:Int)==95)) wa rfl (aJ (vB ((b_13.toNat:Int)==95)) wa rfl (aJ (vB ((b_13.toNat:Int)==95)) wa rfl (aa (vB ((b_13.toNat:Int)==95)) (aa (vB (!((b_13.toNat:Int)==95))) (ah ?_)))))))
           obtain rfl:=ae h_16
           exact cu
        ·refine aB rfl hc_20 wa (af (af (aJ (vB false) wa rfl (aJ (vB false) wa rfl (aJ (.d (.int .u8 (b_13.toNat:Int))) wa rfl (aJ (vB ((b_13.toNat:Int)==45)) wa rfl (aJ (vB ((b_13.toNat:Int)==45)) wa rfl ?_)))))))
         rcases aj h_16 with⟨hc_23,h_16⟩|⟨hc_23,h_16⟩
         ·refine aB rfl hc_23 wa (af (af (aJ (vB true) wa rfl (aJ (vB true) wa rfl (aa (vB true) (aa (vB false) (ah ?_)))))))
          obtain rfl:=ae h_16
          exact cu
         ·refine aB rfl hc_23 wa (aJ (.d (.int .u8 (b_13.toNat:Int))) wa rfl (aJ (vB ((b_13.toNat:Int)==95)) wa rfl (aJ (vB ((b_13.toNat:Int)==95)) wa rfl (aJ (vB ((b_13.toNat:Int)==95)) wa rfl (aa (vB ((b_13.toNat:Int)==95)) (aa (vB (!((b_13.toNat:Int)==95))) (ah ?_)))))))
          obtain rfl:=ae h_16
          exact cu
       ·refine aB rfl hc_19 wa (af (af (af (dx (wn rfl rfl) (dx (wn rfl rfl) (af (af (dx (wn rfl rfl) (dx (wn rfl rfl) (af (af (dx (wn rfl rfl) (dx (wn rfl rfl) (af (aJ (vB false) wa rfl (aa (vB false) (aa (vB true) (ah ?_))))))))))))))))))
        obtain rfl:=ae h_16
        exact cu
     ·refine aB rfl hc_17 wz (af (af (aa (vB false) (aa (vB false) (aJ (vI s_7) wa rfl (aJ (vB (decide (s_7>0))) wa rfl ?_))))))
      rcases aj h_16 with⟨hc_24,h_16⟩|⟨hc_24,h_16⟩
      ·refine aB rfl hc_24 wa (aJ (.d (.int .u8 (b_13.toNat:Int))) wa rfl (aJ (vB (decide ((b_13.toNat:Int)>=48))) wa rfl ?_))
       rcases aj h_16 with⟨hc_25,h_16⟩|⟨hc_25,h_16⟩
       ·refine aB rfl hc_25 wa (aJ (.d (.int .u8 (b_13.toNat:Int))) wa rfl (aJ (vB (decide ((b_13.toNat:Int)<=57))) wa rfl (aJ (vB (decide ((b_13.toNat:Int)<=57))) wa rfl ?_)))
        rcases aj h_16 with⟨hc_26,h_16⟩|⟨hc_26,h_16⟩
        ·refine aB rfl hc_26 wa (af (af (aJ (vB true) wa rfl (aJ (vB true) wa rfl (af (af (aJ (vB true) wa rfl (aJ (vB true) wa rfl (aa (vB true) (aa (vB false) (ah ?_)))))))))))
         obtain rfl:=ae h_16
         exact cu
        ·refine aB rfl hc_26 wa (aJ (.d (.int .u8 (b_13.toNat:Int))) wa rfl (aJ (vB ((b_13.toNat:Int)==45)) wa rfl (aJ (vB ((b_13.toNat:Int)==45)) wa rfl ?_)))
         rcases aj h_16 with⟨hc_27,h_16⟩|⟨hc_27,h_16⟩
         ·refine aB rfl hc_27 wa (af (af (aJ (vB true) wa rfl (aJ (vB true) wa rfl (aa (vB true) (aa (vB false) (ah ?_)))))))
          obtain rfl:=ae h_16
          exact cu
         ·refine aB rfl hc_27 wa (aJ (.d (.int .u8 (b_13.toNat:Int))) wa rfl (aJ (vB ((b_13.toNat:Int)==95)) wa rfl (aJ (vB ((b_13.toNat:Int)==95)) wa rfl (aJ (vB ((b_13.toNat:Int)==95)) wa rfl (aa (vB ((b_13.toNat:Int)==95)) (aa (vB (!((b_13.toNat:Int)==95))) (ah ?_)))))))
          obtain rfl:=ae h_16
          exact cu
       ·refine aB rfl hc_25 wa (af (af (aJ (vB false) wa rfl (aJ (vB false) wa rfl (aJ (.d (.int .u8 (b_13.toNat:Int))) wa rfl (aJ (vB ((b_13.toNat:Int)==45)) wa rfl (aJ (vB ((b_13.toNat:Int)==45)) wa rfl ?_)))))))
        rcases aj h_16 with⟨hc_28,h_16⟩|⟨hc_28,h_16⟩
        ·refine aB rfl hc_28 wa (af (af (aJ (vB true) wa rfl (aJ (vB true) wa rfl (aa (vB true) (aa (vB false) (ah ?_)))))))
         obtain rfl:=ae h_16
         exact cu
        ·refine aB rfl hc_28 wa (aJ (.d (.int .u8 (b_13.toNat:Int))) wa rfl (aJ (vB ((b_13.toNat:Int)==95)) wa rfl (aJ (vB ((b_13.toNat:Int)==95)) wa rfl (aJ (vB ((b_13.toNat:Int)==95)) wa rfl (aa (vB ((b_13.toNat:Int)==95)) (aa (vB (!((b_13.toNat:Int)==95))) (ah ?_)))))))
         obtain rfl:=ae h_16
         exact cu
      ·refine aB rfl hc_24 wa (af (af (af (dx (wn rfl rfl) (dx (wn rfl rfl) (af (af (dx (wn rfl rfl) (dx (wn rfl rfl) (af (af (dx (wn rfl rfl) (dx (wn rfl rfl) (af (aJ (vB false) wa rfl (aa (vB false) (aa (vB true) (ah ?_))))))))))))))))))
       obtain rfl:=ae h_16
       exact cu
    ·rintro ⟨⟩ _ sl_ H_ hp_ hq_
     refine aN _ hp_ hq_ ?_
     rcases aj hc_8 with⟨hc_29,hc_8⟩|⟨hc_29,hc_8⟩
     ·refine ay rfl hc_29 (ai (aa (vB false) (ah ?_)))
      obtain rfl:=ae hc_8
      obtain rfl:=ae hL_9
      obtain rfl:=ae hF
      exact aA (aK [(vB false)] ⟨rfl,trivial⟩)
     ·refine ax rfl hc_29 (av (au (aa (vI s_7) (aa (vI (w64 (s_7+1))) (aa (vI (w64 (s_7+1))) (ah ?_))))))
      obtain rfl:=ae hc_8
      exact aU (k_2,(w64 (s_7+1))) hL_9 (ls_ _) rfl (aH rfl)
   ·refine ax rfl hc_12 (aW ?_)
    obtain rfl:=ae hc_8
    obtain rfl:=ae hL_9
    exact aS (s_7) rfl rfl (aH rfl)
 ·rintro s_7 ho_ sl_ H_ hp_ hq_
  subst ho_
  refine aN _ hp_ hq_ (ak ?_)
  obtain ⟨v_30,h_31,hF⟩:=bind_some hF
  refine aP [(2,(vB v_30))] [] ?_ ?_
  ·refine au (aa (vS s_1) (aa (vB (sNe s_1 (⟨#[]⟩:ByteArray))) ?_))
   rcases aj h_31 with⟨hc_32,h_31⟩|⟨hc_32,h_31⟩
   ·refine aB rfl hc_32 wz (aJ (vS s_1) wa rfl (xn un9 rfl wa (aJ (vB (decide ((s_1.size:Int)<=40))) wa rfl (aa (vB (decide ((s_1.size:Int)<=40))) (aa (vB (decide ((s_1.size:Int)<=40))) (ah ?_))))))
    obtain rfl:=ae h_31
    exact cu
   ·refine aB rfl hc_32 wz (af (af (af (aa (vB false) (aa (vB false) (ah ?_))))))
    obtain rfl:=ae h_31
    exact cu
  ·rintro ⟨⟩ _ sl_ H_ hp_ hq_
   refine aN _ hp_ hq_ ?_
   obtain rfl:=ae hF
   exact aA (aK [(vB v_30)] ⟨rfl,trivial⟩)
theorem bB {n_1:Int} {low_2:Int} {high_3:Int} {r:Bool} (hF:aQ n_1 low_2 high_3=some r) :
  FnM Tryz.prog 63 [(vI n_1),(vI low_2),(vI high_3)] [] (vB r) []:=by
 refine FnM.of_wH ⟨Tryz.prog,15,[],[]⟩ rfl Tryz.func63 rfl rfl (lb_ rfl) (by kernel_rfl) ?_
 unfold aQ at hF
 refine ai (aa (vB false) (ah (ak ?_)))
 obtain ⟨v_4,h_5,hF⟩:=bind_some hF
 refine aP [(6,(vB v_4))] [] ?_ ?_
 ·refine au (aa (vI n_1) (aa (vI low_2) (aa (vB (decide (n_1<low_2))) ?_)))
  rcases aj h_5 with⟨hc_6,h_5⟩|⟨hc_6,h_5⟩
  ·refine aB rfl hc_6 wz (af (af (af (aa (vB true) (aa (vB true) (ah ?_))))))
   obtain rfl:=ae h_5
   exact cu
  ·refine aB rfl hc_6 wz (aJ (vI n_1) wa rfl (aJ (vI high_3) wa rfl (aJ (vB (decide (n_1>high_3))) wa rfl (aa (vB (decide (n_1>high_3))) (aa (vB (decide (n_1>high_3))) (ah ?_))))))
   obtain rfl:=ae h_5
   exact cu
 ·rintro ⟨⟩ _ sl_ H_ hp_ hq_
  refine aN _ hp_ hq_ ?_
  obtain rfl:=ae hF
  exact aA (aK [(vB v_4)] ⟨rfl,trivial⟩)
theorem zT {a_1:Alert} {r:Int} (hF:gN a_1=some r) :
  FnM Tryz.prog 83 [(.d (.agg (Alert.enc a_1)))] [] (vI r) []:=by
 refine FnM.of_wH ⟨Tryz.prog,48,[],[]⟩ rfl Tryz.func83 rfl rfl (lb_ rfl) (by kernel_rfl) ?_
 unfold gN at hF
 refine ai (gQ 0 (.inl rfl) (Alert.v a_1) rfl rfl wz (λn_2=>aa (vI 0) (ah (ak (ai (aG nJ rfl 3 rfl wz (aC 0 0 il ft xK zW rfl rfl (vL eS a_1.Refs) rfl wz (bG uT rfl wz (aa (vB (decide ((a_1.Refs.length:Int)>20))) (ah ?_))))))))))
 rcases aj hF with⟨hc_3,hF⟩|⟨hc_3,hF⟩
 ·refine ay rfl hc_3 (ai (aa (vI 2) (ah ?_)))
  obtain rfl:=ae hF
  exact aA (aK [(vI 2)] ⟨rfl,trivial⟩)
 ·refine ax rfl hc_3 (av (ak (ai (aG nJ rfl 3 rfl wz (aC 0 0 il ft xK zW rfl rfl (vL eS a_1.Refs) rfl wz (bG uT rfl wz (aa (vI 0) (ah ?_))))))))
  obtain ⟨o_12,hj_13,hF⟩:=bind_some hF
  obtain ⟨hn_8,hj_13⟩:=aX hj_13
  refine bP (λ(s_9:Unit)=>[(1,(.ref n_2 0 0))]) (λ(s_9:Unit)=>[(n_2,some (.cells 9 (Alert.v a_1)))]) (λ(k_4:Nat)=>(λ(s_9:Unit)=>[(1,(.ref n_2 0 0)),(10,(vL eS a_1.Refs)),(11,(vI (a_1.Refs.length:Int))),(12,(vI (k_4:Int)))])) (λk x s=>dQ a_1 k x s) o_12 a_1.Refs () hj_13 rfl (aH rfl) ?_ ?_
  ·rintro ⟨k_4,l_5,s_9⟩ ⟨hL_11,hD_7⟩
   dsimp only at hL_11 hD_7
   cases l_5 with
   | nil =>
    obtain rfl:=ae hL_11
    refine ai (aa (vB (decide ((k_4:Int)<(a_1.Refs.length:Int)))) (ah ?_))
    refine ak (ax rfl (drop_nil hD_7) (aW ?_))
    exact aS (s_9) rfl rfl (aH rfl)
   | cons x_6 l_5 =>
    obtain ⟨c_,hc_10,hL_11⟩:=bind_some hL_11
    refine ai (aa (vB (decide ((k_4:Int)<(a_1.Refs.length:Int)))) (ah ?_))
    refine ak (ay rfl (aZ hD_7) (av ?_))
    unfold dQ at hc_10
    refine ak (aL (ai (aa (vI (k_4:Int)) (dY nM rfl rfl (bz hD_7) rfl wz (bI sz9 ag9 rfl (vS x_6) rfl wz (aa (vI (k_4:Int)) (aa (vS x_6) (ah (aL (ai (aa (vS x_6) ?_)))))))))))
    obtain ⟨r_14,hr_15,hc_10⟩:=bind_some hc_10
    refine aF (iy hr_15) rfl Ep rfl rfl rfl rfl wz (aa (vB (!r_14)) (aa (vB (!r_14)) (ah ?_)))
    rcases aj hc_10 with⟨hc_16,hc_10⟩|⟨hc_16,hc_10⟩
    ·refine ay rfl hc_16 (ai (aa (vI 5) (ah ?_)))
     obtain rfl:=ae hc_10
     obtain rfl:=ae hL_11
     obtain rfl:=ae hF
     exact aA (aK [(vI 5)] ⟨rfl,trivial⟩)
    ·refine ax rfl hc_16 (ak ?_)
     obtain ⟨v_17,h_18,hc_10⟩:=bind_some hc_10
     refine aP [(1,(.ref n_2 0 0)),(4,(vS x_6)),(10,(vL eS a_1.Refs)),(11,(vI (a_1.Refs.length:Int))),(12,(vI (k_4:Int))),(21,(vB v_17))] [(n_2,some (.cells 9 (Alert.v a_1)))] ?_ ?_
     ·refine au (aa (vI (k_4:Int)) (aa (vB (decide ((k_4:Int)>0))) ?_))
      rcases aj h_18 with⟨hc_19,h_18⟩|⟨hc_19,h_18⟩
      ·refine aB rfl hc_19 wz (aJ (vS x_6) wa rfl (aG nJ rfl 3 rfl wa (aC 0 0 il ft xK zW rfl rfl (vL eS a_1.Refs) rfl wa (aJ (vI (k_4:Int)) wa rfl (aJ (vI (w64 ((k_4:Int)-1))) wa rfl ?_)))))
       obtain ⟨y_20,hy_21,h_18⟩:=bind_some h_18
       refine dY nM rfl rfl hy_21 rfl wa (bI sz9 ag9 rfl (vS y_20) rfl wa (aJ (vB (sLe x_6 y_20)) wa rfl (aa (vB (sLe x_6 y_20)) (aa (vB (sLe x_6 y_20)) (ah ?_)))))
       obtain rfl:=ae h_18
       exact cu
      ·refine aB rfl hc_19 wz (af (af (af (af (af (af (af (af (aa (vB false) (aa (vB false) (ah ?_)))))))))))
       obtain rfl:=ae h_18
       exact cu
     ·rintro ⟨⟩ _ sl_ H_ hp_ hq_
      refine aN _ hp_ hq_ ?_
      rcases aj hc_10 with⟨hc_22,hc_10⟩|⟨hc_22,hc_10⟩
      ·refine ay rfl hc_22 (ai (aa (vI 7) (ah ?_)))
       obtain rfl:=ae hc_10
       obtain rfl:=ae hL_11
       obtain rfl:=ae hF
       exact aA (aK [(vI 7)] ⟨rfl,trivial⟩)
      ·refine ax rfl hc_22 (ai (aa (vS x_6) (aG jA rfl 0 rfl wz (aC 0 0 il ft sz9 ag9 rfl rfl (vS a_1.Id) rfl wz (aa (vB (sEq x_6 a_1.Id)) (aa (vB (sEq x_6 a_1.Id)) (ah ?_)))))))
       rcases aj hc_10 with⟨hc_23,hc_10⟩|⟨hc_23,hc_10⟩
       ·refine ay rfl hc_23 (ai (aa (vI 14) (ah ?_)))
        obtain rfl:=ae hc_10
        obtain rfl:=ae hL_11
        obtain rfl:=ae hF
        exact aA (aK [(vI 14)] ⟨rfl,trivial⟩)
       ·refine ax rfl hc_23 (av (au (dZ (bn hD_7 hn_8) wz rfl (aa (vI ((k_4+1:Nat):Int)) (ah ?_)))))
        obtain rfl:=ae hc_10
        exact aU (k_4+1,l_5,()) ⟨hL_11,aR hD_7⟩ (ls_ _) rfl (aH rfl)
  ·rintro s_9 ho_ sl_ H_ hp_ hq_
   subst ho_
   refine aN _ hp_ hq_ (ak (ai (aG uQ rfl 2 rfl wz (aC 0 0 il ft sz3 ag3 rfl rfl (vI a_1.Kind) rfl wz (aa (vB (a_1.Kind==1)) (aG nJ rfl 3 rfl wz (aC 0 0 il ft xK zW rfl rfl (vL eS a_1.Refs) rfl wz (bG uT rfl wz (aa (vB ((a_1.Refs.length:Int)==0)) (BH un4 rfl rfl wz (ah ?_)))))))))))
   rcases aj hF with⟨hc_24,hF⟩|⟨hc_24,hF⟩
   ·refine ay rfl hc_24 (ai (aa (vI 3) (ah ?_)))
    obtain rfl:=ae hF
    exact aA (aK [(vI 3)] ⟨rfl,trivial⟩)
   ·refine ax rfl hc_24 (av (ai (aa (vI 0) (ah ?_))))
    obtain rfl:=ae hF
    exact aA (aK [(vI 0)] ⟨rfl,trivial⟩)
theorem iC {n_1:Int} {r:Bool} (hF:di n_1=some r) :
  FnM Tryz.prog 54 [(vI n_1)] [] (vB r) []:=by
 refine FnM.of_wH ⟨Tryz.prog,9,[],[]⟩ rfl Tryz.func54 rfl rfl (lb_ rfl) (by kernel_rfl) ?_
 unfold di at hF
 refine ai (aa (vB false) (ah (ak ?_)))
 obtain ⟨v_2,h_3,hF⟩:=bind_some hF
 refine aP [(2,(vB v_2))] [] ?_ ?_
 ·refine au (aa (vI n_1) (aa (vB (decide (n_1>=0))) ?_))
  rcases aj h_3 with⟨hc_4,h_3⟩|⟨hc_4,h_3⟩
  ·refine aB rfl hc_4 wz (aJ (vI n_1) wa rfl (aJ (vB (decide (n_1<345686400000))) wa rfl (aa (vB (decide (n_1<345686400000))) (aa (vB (decide (n_1<345686400000))) (ah ?_)))))
   obtain rfl:=ae h_3
   exact cu
  ·refine aB rfl hc_4 wz (af (af (aa (vB false) (aa (vB false) (ah ?_)))))
   obtain rfl:=ae h_3
   exact cu
 ·rintro ⟨⟩ _ sl_ H_ hp_ hq_
  refine aN _ hp_ hq_ ?_
  obtain rfl:=ae hF
  exact aA (aK [(vB v_2)] ⟨rfl,trivial⟩)
theorem rR {r_1:Rect} {r:Int} (hF:iK r_1=some r) :
  FnM Tryz.prog 84 [(.d (.agg (Rect.enc r_1)))] [] (vI r) []:=by
 refine FnM.of_wH ⟨Tryz.prog,25,[],[]⟩ rfl Tryz.func84 rfl rfl (lb_ rfl) (by kernel_rfl) ?_
 unfold iK at hF
 refine ai (gQ 0 (.inl rfl) (Rect.v r_1) rfl rfl wz (λn_2=>aa (vI 0) (ah (ak (ak ?_)))))
 obtain ⟨v_3,h_4,hF⟩:=bind_some hF
 refine aP [(1,(.ref n_2 0 0)),(10,(vB v_3))] [(n_2,some (.cells 4 (Rect.v r_1)))] ?_ ?_
 ·refine au (aG zR rfl 0 rfl wz (aC 0 0 il ft sz3 ag3 rfl rfl (vI r_1.X) rfl wz ?_))
  obtain ⟨r_5,hr_6,h_4⟩:=bind_some h_4
  refine aF (bB hr_6) rfl sW rfl rfl rfl rfl wz ?_
  rcases aj h_4 with⟨hc_7,h_4⟩|⟨hc_7,h_4⟩
  ·refine aB rfl hc_7 wz (af (af (af (aa (vB true) (ah ?_)))))
   obtain rfl:=ae h_4
   exact cu
  ·refine aB rfl hc_7 wz (aG xA rfl 1 rfl wa (aC 0 0 il ft sz3 ag3 rfl rfl (vI r_1.Y) rfl wa ?_))
   obtain ⟨r_8,hr_9,h_4⟩:=bind_some h_4
   refine aF (bB hr_9) rfl sW rfl rfl rfl rfl wa (aa (vB r_8) (ah ?_))
   obtain rfl:=ae h_4
   exact cu
 ·rintro ⟨⟩ _ sl_ H_ hp_ hq_
  refine aN _ hp_ hq_ ?_
  rcases aj hF with⟨hc_10,hF⟩|⟨hc_10,hF⟩
  ·refine ay rfl hc_10 (ai (aa (vI 1) (ah ?_)))
   obtain rfl:=ae hF
   exact aA (aK [(vI 1)] ⟨rfl,trivial⟩)
  ·refine ax rfl hc_10 (av (ak (ak ?_)))
   obtain ⟨v_11,h_12,hF⟩:=bind_some hF
   refine aP [(24,(vB v_11))] [(n_2,some (.cells 4 (Rect.v r_1)))] ?_ ?_
   ·refine au (aG Ej rfl 2 rfl wz (aC 0 0 il ft sz3 ag3 rfl rfl (vI r_1.W) rfl wz (aG zR rfl 0 rfl wz (aC 0 0 il ft sz3 ag3 rfl rfl (vI r_1.X) rfl wz (aa (vI (w64 (100000-r_1.X))) ?_)))))
    obtain ⟨r_13,hr_14,h_12⟩:=bind_some h_12
    refine aF (bB hr_14) rfl sW rfl rfl rfl rfl wz ?_
    rcases aj h_12 with⟨hc_15,h_12⟩|⟨hc_15,h_12⟩
    ·refine aB rfl hc_15 wz (af (af (af (af (af (af (aa (vB true) (ah ?_))))))))
     obtain rfl:=ae h_12
     exact cu
    ·refine aB rfl hc_15 wz (aG BA rfl 3 rfl wa (aC 0 0 il ft sz3 ag3 rfl rfl (vI r_1.H) rfl wa (aG xA rfl 1 rfl wa (aC 0 0 il ft sz3 ag3 rfl rfl (vI r_1.Y) rfl wa (aJ (vI (w64 (100000-r_1.Y))) wa rfl ?_)))))
     obtain ⟨r_16,hr_17,h_12⟩:=bind_some h_12
     refine aF (bB hr_17) rfl sW rfl rfl rfl rfl wa (aa (vB r_16) (ah ?_))
     obtain rfl:=ae h_12
     exact cu
   ·rintro ⟨⟩ _ sl_ H_ hp_ hq_
    refine aN _ hp_ hq_ ?_
    rcases aj hF with⟨hc_18,hF⟩|⟨hc_18,hF⟩
    ·refine ay rfl hc_18 (ai (aa (vI 1) (ah ?_)))
     obtain rfl:=ae hF
     exact aA (aK [(vI 1)] ⟨rfl,trivial⟩)
    ·refine ax rfl hc_18 (av (ai (aa (vI 0) (ah ?_))))
     obtain rfl:=ae hF
     exact aA (aK [(vI 0)] ⟨rfl,trivial⟩)
theorem r9 {x0:ByteArray} {r:Bool} (hF:kE x0=some r) :
  FnM Tryz.prog 121 [(vS x0)] [] (vB r) [] :=
 P6 rfl Tryz.utf8_ValidString NZ hF
theorem uY {s_1:ByteArray} {c_2:Int} {r:ByteArray} (hF:strings_trimRightByte s_1 c_2=some r) :
  FnM Tryz.prog 146 [(vS s_1),(.d (.int .u8 c_2))] [] (vS r) []:=by
 refine FnM.of_wH ⟨Tryz.prog,23,[],[]⟩ rfl Tryz.func146 rfl rfl (lb_ rfl) (by kernel_rfl) ?_
 unfold strings_trimRightByte at hF
 refine ai (aa (vS (⟨#[]⟩:ByteArray)) (ah (ak ?_)))
 obtain ⟨o_11,hj_12,hF⟩:=bind_some hF
 obtain ⟨nq_21,hj_12⟩:=dw hj_12
 refine eZ (λ(s_8:ByteArray)=>[(0,(vS s_8))]) (λ(s_8:ByteArray)=>[]) (λ(k_3:Nat)=>(λ(s_8:ByteArray)=>[(0,(vS s_8)),(1,(.d (.int .u8 c_2)))])) (λs=>iO c_2 s) o_11 nq_21 s_1 hj_12 rfl (aH rfl) ?_ ?_
 ·rintro ⟨k_3,s_8⟩ hL_10
  dsimp only at hL_10
  cases k_3 with
  | zero=>cases hL_10
  | succ k_3 =>
   obtain ⟨c_,hc_9,hL_10⟩:=bind_some hL_10
   unfold iO at hc_9
   refine ak (ak ?_)
   obtain ⟨v_13,h_14,hc_9⟩:=bind_some hc_9
   refine aP [(0,(vS s_8)),(1,(.d (.int .u8 c_2))),(16,(vB v_13))] [] ?_ ?_
   ·refine au (aa (vS s_8) (xn un9 rfl wz (aa (vB (decide ((s_8.size:Int)>0))) ?_)))
    rcases aj h_14 with⟨hc_15,h_14⟩|⟨hc_15,h_14⟩
    ·refine aB rfl hc_15 wz (aJ (vS s_8) wa rfl (aJ (vS s_8) wa rfl (xn un9 rfl wa (aJ (vI (w64 ((s_8.size:Int)-1))) wa rfl ?_))))
     obtain ⟨b_16,hy_17,h_14⟩:=bind_some h_14
     refine wB un9 rfl rfl hy_17 wa (aJ (.d (.int .u8 c_2)) wa rfl (aJ (vB ((b_16.toNat:Int)==c_2)) wa rfl (aa (vB ((b_16.toNat:Int)==c_2)) (ah ?_))))
     obtain rfl:=ae h_14
     exact cu
    ·refine aB rfl hc_15 wz (af (af (af (af (af (af (af (aa (vB false) (ah ?_)))))))))
     obtain rfl:=ae h_14
     exact cu
   ·rintro ⟨⟩ _ sl_ H_ hp_ hq_
    refine aN _ hp_ hq_ ?_
    rcases aj hc_9 with⟨hc_18,hc_9⟩|⟨hc_18,hc_9⟩
    ·refine ay rfl hc_18 (av (aL (au (aa (vS s_8) (aa (vS s_8) (xn un9 rfl wz (aa (vI (w64 ((s_8.size:Int)-1))) ?_)))))))
     obtain ⟨y_19,hy_20,hc_9⟩:=bind_some hc_9
     refine EU un9 rfl rfl hy_20 wz (aa (vS y_19) (ah ?_))
     obtain rfl:=ae hc_9
     exact aU (k_3,y_19) hL_10 (ls_ _) rfl (aH rfl)
    ·refine ax rfl hc_18 (aW ?_)
     obtain rfl:=ae hc_9
     obtain rfl:=ae hL_10
     exact aS (s_8) rfl rfl (aH rfl)
 ·rintro s_8 ho_ sl_ H_ hp_ hq_
  subst ho_
  refine aN _ hp_ hq_ (ai (aa (vS s_8) (aa (vS s_8) (ah ?_))))
  obtain rfl:=ae hF
  exact aA (aK [(vS s_8)] ⟨rfl,trivial⟩)
theorem vE {s_1:ByteArray} {c_2:Int} {r:ByteArray} (hF:strings_trimLeftByte s_1 c_2=some r) :
  FnM Tryz.prog 145 [(vS s_1),(.d (.int .u8 c_2))] [] (vS r) []:=by
 refine FnM.of_wH ⟨Tryz.prog,17,[],[]⟩ rfl Tryz.func145 rfl rfl (lb_ rfl) (by kernel_rfl) ?_
 unfold strings_trimLeftByte at hF
 refine ai (aa (vS (⟨#[]⟩:ByteArray)) (ah (ak ?_)))
 obtain ⟨o_11,hj_12,hF⟩:=bind_some hF
 obtain ⟨nq_21,hj_12⟩:=dw hj_12
 refine eZ (λ(s_8:ByteArray)=>[(0,(vS s_8))]) (λ(s_8:ByteArray)=>[]) (λ(k_3:Nat)=>(λ(s_8:ByteArray)=>[(0,(vS s_8)),(1,(.d (.int .u8 c_2)))])) (λs=>iZ c_2 s) o_11 nq_21 s_1 hj_12 rfl (aH rfl) ?_ ?_
 ·rintro ⟨k_3,s_8⟩ hL_10
  dsimp only at hL_10
  cases k_3 with
  | zero=>cases hL_10
  | succ k_3 =>
   obtain ⟨c_,hc_9,hL_10⟩:=bind_some hL_10
   unfold iZ at hc_9
   refine ak (ak ?_)
   obtain ⟨v_13,h_14,hc_9⟩:=bind_some hc_9
   refine aP [(0,(vS s_8)),(1,(.d (.int .u8 c_2))),(13,(vB v_13))] [] ?_ ?_
   ·refine au (aa (vS s_8) (xn un9 rfl wz (aa (vB (decide ((s_8.size:Int)>0))) ?_)))
    rcases aj h_14 with⟨hc_15,h_14⟩|⟨hc_15,h_14⟩
    ·refine aB rfl hc_15 wz (aJ (vS s_8) wa rfl ?_)
     obtain ⟨b_16,hy_17,h_14⟩:=bind_some h_14
     refine wB un9 rfl rfl hy_17 wa (aJ (.d (.int .u8 c_2)) wa rfl (aJ (vB ((b_16.toNat:Int)==c_2)) wa rfl (aa (vB ((b_16.toNat:Int)==c_2)) (ah ?_))))
     obtain rfl:=ae h_14
     exact cu
    ·refine aB rfl hc_15 wz (af (af (af (af (aa (vB false) (ah ?_))))))
     obtain rfl:=ae h_14
     exact cu
   ·rintro ⟨⟩ _ sl_ H_ hp_ hq_
    refine aN _ hp_ hq_ ?_
    rcases aj hc_9 with⟨hc_18,hc_9⟩|⟨hc_18,hc_9⟩
    ·refine ay rfl hc_18 (av (aL (au (aa (vS s_8) ?_))))
     obtain ⟨y_19,hy_20,hc_9⟩:=bind_some hc_9
     refine FH un9 rfl rfl hy_20 wz (aa (vS y_19) (ah ?_))
     obtain rfl:=ae hc_9
     exact aU (k_3,y_19) hL_10 (ls_ _) rfl (aH rfl)
    ·refine ax rfl hc_18 (aW ?_)
     obtain rfl:=ae hc_9
     obtain rfl:=ae hL_10
     exact aS (s_8) rfl rfl (aH rfl)
 ·rintro s_8 ho_ sl_ H_ hp_ hq_
  subst ho_
  refine aN _ hp_ hq_ (ai (aa (vS s_8) (aa (vS s_8) (ah ?_))))
  obtain rfl:=ae hF
  exact aA (aK [(vS s_8)] ⟨rfl,trivial⟩)
theorem Dv {s_1:ByteArray} {cutset_2:ByteArray} {r:ByteArray} (hF:pU s_1 cutset_2=some r) :
  FnM Tryz.prog 122 [(vS s_1),(vS cutset_2)] [] (vS r) []:=by
 refine FnM.of_wH ⟨Tryz.prog,43,[],[]⟩ rfl Tryz.func122 rfl rfl (lb_ rfl) (by kernel_rfl) ?_
 unfold pU at hF
 refine ai (aa (vS (⟨#[]⟩:ByteArray)) (ah (ak (ak ?_))))
 obtain ⟨v_3,h_4,hF⟩:=bind_some hF
 refine aP [(0,(vS s_1)),(1,(vS cutset_2)),(12,(vB v_3))] [] ?_ ?_
 ·refine au (aa (vS s_1) (aa (vB (sEq s_1 (⟨#[]⟩:ByteArray))) ?_))
  rcases aj h_4 with⟨hc_5,h_4⟩|⟨hc_5,h_4⟩
  ·refine aB rfl hc_5 wz (af (af (aa (vB true) (ah ?_))))
   obtain rfl:=ae h_4
   exact cu
  ·refine aB rfl hc_5 wz (aJ (vS cutset_2) wa rfl (aJ (vB (sEq cutset_2 (⟨#[]⟩:ByteArray))) wa rfl (aa (vB (sEq cutset_2 (⟨#[]⟩:ByteArray))) (ah ?_))))
   obtain rfl:=ae h_4
   exact cu
 ·rintro ⟨⟩ _ sl_ H_ hp_ hq_
  refine aN _ hp_ hq_ ?_
  rcases aj hF with⟨hc_6,hF⟩|⟨hc_6,hF⟩
  ·refine ay rfl hc_6 (ai (aa (vS s_1) (aa (vS s_1) (ah ?_))))
   obtain rfl:=ae hF
   exact aA (aK [(vS s_1)] ⟨rfl,trivial⟩)
  ·refine ax rfl hc_6 (av (ak (ak ?_)))
   obtain ⟨v_7,h_8,hF⟩:=bind_some hF
   refine aP [(0,(vS s_1)),(1,(vS cutset_2)),(21,(vB v_7))] [] ?_ ?_
   ·refine au (aa (vS cutset_2) (xn un9 rfl wz (aa (vB ((cutset_2.size:Int)==1)) ?_)))
    rcases aj h_8 with⟨hc_9,h_8⟩|⟨hc_9,h_8⟩
    ·refine aB rfl hc_9 wz (aJ (vS cutset_2) wa rfl ?_)
     obtain ⟨b_10,hy_11,h_8⟩:=bind_some h_8
     refine wB un9 rfl rfl hy_11 wa (aJ (vB (decide ((b_10.toNat:Int)<128))) wa rfl (aa (vB (decide ((b_10.toNat:Int)<128))) (ah ?_)))
     obtain rfl:=ae h_8
     exact cu
    ·refine aB rfl hc_9 wz (af (af (af (aa (vB false) (ah ?_)))))
     obtain rfl:=ae h_8
     exact cu
   ·rintro ⟨⟩ _ sl_ H_ hp_ hq_
    refine aN _ hp_ hq_ ?_
    rcases aj hF with⟨hc_12,hF⟩|⟨hc_12,hF⟩
    ·refine ay rfl hc_12 (ak (bC (aa (vS s_1) (aa (vS cutset_2) ?_))))
     obtain ⟨b_13,hy_14,hF⟩:=bind_some hF
     refine wB un9 rfl rfl hy_14 wz ?_
     obtain ⟨r_15,hr_16,hF⟩:=bind_some hF
     refine aF (uY hr_16) rfl hb146 rfl rfl rfl rfl wz (aa (vS cutset_2) ?_)
     obtain ⟨b_17,hy_18,hF⟩:=bind_some hF
     refine wB un9 rfl rfl hy_18 wz ?_
     obtain ⟨r_19,hr_20,hF⟩:=bind_some hF
     refine aF (vE hr_20) rfl hb145 rfl rfl rfl rfl wz (aa (vS r_19) (ah ?_))
     obtain rfl:=ae hF
     exact aA (aK [(vS r_19)] ⟨rfl,trivial⟩)
    ·refine ax rfl hc_12 (av (ak (ai (aa (vS cutset_2) ?_))))
     cases hF
theorem zh {x0:ByteArray} {x1:ByteArray} {r:Bool} (hF:strings_Contains x0 x1=some r) :
  FnM Tryz.prog 123 [(vS x0),(vS x1)] [] (vB r) [] :=
 Jq Tryz.strings_Contains JL hF
theorem FT {s_1:ByteArray} {r:Bool} (hF:lw s_1=some r) :
  FnM Tryz.prog 85 [(vS s_1)] [] (vB r) []:=by
 refine FnM.of_wH ⟨Tryz.prog,33,[],[]⟩ rfl Tryz.func85 rfl rfl (lb_ rfl) (by kernel_rfl) ?_
 unfold lw at hF
 refine ai (aa (vB false) (ah (ak (ai (aa (vI 0) (ah ?_))))))
 obtain ⟨o_10,hj_11,hF⟩:=bind_some hF
 obtain ⟨nq_31,hj_11⟩:=dw hj_11
 refine eZ (λ(s_7:Int)=>[(0,(vS s_1))]) (λ(s_7:Int)=>[]) (λ(k_2:Nat)=>(λ(s_7:Int)=>[(0,(vS s_1)),(3,(vI s_7))])) (λs=>pz s_1 s) o_10 nq_31 0 hj_11 rfl (aH rfl) ?_ ?_
 ·rintro ⟨k_2,s_7⟩ hL_9
  dsimp only at hL_9
  cases k_2 with
  | zero=>cases hL_9
  | succ k_2 =>
   obtain ⟨c_,hc_8,hL_9⟩:=bind_some hL_9
   unfold pz at hc_8
   refine ak (ai (aa (vI s_7) (aa (vS s_1) (xn un9 rfl wz (aa (vB (decide (s_7<(s_1.size:Int)))) (ah ?_))))))
   rcases aj hc_8 with⟨hc_12,hc_8⟩|⟨hc_12,hc_8⟩
   ·refine ay rfl hc_12 (av (ak (aL (ak ?_))))
    obtain ⟨v_13,h_14,hc_8⟩:=bind_some hc_8
    refine aP [(0,(vS s_1)),(3,(vI s_7)),(19,(vB v_13))] [] ?_ ?_
    ·refine au (aa (vS s_1) (aa (vI s_7) ?_))
     obtain ⟨b_15,hy_16,h_14⟩:=bind_some h_14
     refine wB un9 rfl rfl hy_16 wz (aa (vB (decide ((b_15.toNat:Int)<32))) ?_)
     rcases aj h_14 with⟨hc_17,h_14⟩|⟨hc_17,h_14⟩
     ·refine aB rfl hc_17 wz (af (af (af (af (aa (vB true) (ah ?_))))))
      obtain rfl:=ae h_14
      exact cu
     ·refine aB rfl hc_17 wz (aJ (vS s_1) wa rfl (aJ (vI s_7) wa rfl ?_))
      obtain ⟨b_18,hy_19,h_14⟩:=bind_some h_14
      refine wB un9 rfl rfl hy_19 wa (aJ (vB ((b_18.toNat:Int)==127)) wa rfl (aa (vB ((b_18.toNat:Int)==127)) (ah ?_)))
      obtain rfl:=ae h_14
      exact cu
    ·rintro ⟨⟩ _ sl_ H_ hp_ hq_
     refine aN _ hp_ hq_ ?_
     rcases aj hc_8 with⟨hc_20,hc_8⟩|⟨hc_20,hc_8⟩
     ·refine ay rfl hc_20 (ai (aa (vB false) (ah ?_)))
      obtain rfl:=ae hc_8
      obtain rfl:=ae hL_9
      obtain rfl:=ae hF
      exact aA (aK [(vB false)] ⟨rfl,trivial⟩)
     ·refine ax rfl hc_20 (av (au (aa (vI s_7) (aa (vI (w64 (s_7+1))) (aa (vI (w64 (s_7+1))) (ah ?_))))))
      obtain rfl:=ae hc_8
      exact aU (k_2,(w64 (s_7+1))) hL_9 (ls_ _) rfl (aH rfl)
   ·refine ax rfl hc_12 (aW ?_)
    obtain rfl:=ae hc_8
    obtain rfl:=ae hL_9
    exact aS (s_7) rfl rfl (aH rfl)
 ·rintro s_7 ho_ sl_ H_ hp_ hq_
  subst ho_
  refine aN _ hp_ hq_ (ak ?_)
  obtain ⟨v_21,h_22,hF⟩:=bind_some hF
  refine aP [(2,(vB v_21))] [] ?_ ?_
  ·refine au (aa (vS s_1) ?_)
   obtain ⟨r_23,hr_24,h_22⟩:=bind_some h_22
   refine aF (r9 hr_24) rfl hb121 rfl rfl rfl rfl wz ?_
   rcases aj h_22 with⟨hc_25,h_22⟩|⟨hc_25,h_22⟩
   ·refine aB rfl hc_25 wz (aJ (vS s_1) wa rfl ?_)
    obtain ⟨r_26,hr_27,h_22⟩:=bind_some h_22
    refine aF (Dv hr_27) rfl hb122 rfl rfl rfl rfl wa (aJ (vS s_1) wa rfl (aJ (vB (sEq r_26 s_1)) wa rfl (aa (vB (sEq r_26 s_1)) ?_)))
    rcases aj h_22 with⟨hc_28,h_22⟩|⟨hc_28,h_22⟩
    ·refine aB rfl hc_28 wz (aJ (vS s_1) wa rfl ?_)
     obtain ⟨r_29,hr_30,h_22⟩:=bind_some h_22
     refine aF (zh hr_30) rfl hb123 rfl rfl rfl rfl wa (aJ (vB (!r_29)) wa rfl (aa (vB (!r_29)) (aa (vB (!r_29)) (ah ?_))))
     obtain rfl:=ae h_22
     exact cu
    ·refine aB rfl hc_28 wz (af (af (af (aa (vB false) (aa (vB false) (ah ?_))))))
     obtain rfl:=ae h_22
     exact cu
   ·refine aB rfl hc_25 wz (af (af (af (af (aa (vB false) (aa (vB false) (af (af (af (aa (vB false) (aa (vB false) (ah ?_))))))))))))
    obtain rfl:=ae h_22
    exact cu
  ·rintro ⟨⟩ _ sl_ H_ hp_ hq_
   refine aN _ hp_ hq_ ?_
   obtain rfl:=ae hF
   exact aA (aK [(vB v_21)] ⟨rfl,trivial⟩)
end Go.Proofs.YtkjlhdminmpmkabGreatDoor.Law

