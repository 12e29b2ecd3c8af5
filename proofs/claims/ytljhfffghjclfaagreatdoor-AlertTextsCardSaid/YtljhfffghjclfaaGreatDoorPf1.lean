/-
 The machine computes these plain functions (written by a program of ours).
-/
import Derived.Test.YtljhfffghjclfaaGreatDoorFacts
import Derived.Test.YtljhfffghjclfaaGreatDoorDefs
open Go Go.Eng Go.Proofs
namespace Go.Proofs.YtljhfffghjclfaaGreatDoor.Law
set_option maxRecDepth 100000
set_option linter.unusedVariables false
set_option maxHeartbeats 1000000
theorem uR {x_1:Int} {n_2:Int} {r:Int} (hF:pV x_1 n_2=some r) :
  FnM Tryz.prog 41 [(vI x_1),(vI n_2)] [] (vI r) []:=by
 refine FnM.of_wH ⟨Tryz.prog,16,[],[]⟩ rfl Tryz.func41 rfl rfl (lb_ rfl) (by kernel_rfl) ?_
 unfold pV at hF
 refine ai (aa (vI 0) (ah (au (ai (aa (vI n_2) (aa (vB (decide (n_2<1))) (ah ?_)))))))
 rcases aj hF with⟨hc_3,hF⟩|⟨hc_3,hF⟩
 ·refine aC rfl hc_3 (ai (aa (vI 0) (ah ?_)))
  obtain rfl:=ae hF
  exact ax (aK [(vI 0)] ⟨rfl,trivial⟩)
 ·refine aB rfl hc_3 (aA (ai (aa (vI x_1) (aa (vI n_2) ?_))))
  obtain ⟨q_4,hz_5,hF⟩:=bind_some hF
  refine h_rem rfl rfl hz_5 wz (aa (vI q_4) (ah (au (ai (aa (vI q_4) (aa (vB (decide (q_4<0))) (ah ?_)))))))
  obtain ⟨v_6,h_7,hF⟩:=bind_some hF
  refine aN [(0,(vI v_6))] [] ?_ ?_
  ·rcases aj h_7 with⟨hc_8,h_7⟩|⟨hc_8,h_7⟩
   ·refine aC rfl hc_8 (av (aa (vI q_4) (aa (vI n_2) (aa (vI (w64 (q_4+n_2))) (aa (vI (w64 (q_4+n_2))) (ah ?_))))))
    obtain rfl:=ae h_7
    exact cu
   ·refine aB rfl hc_8 (aA ?_)
    obtain rfl:=ae h_7
    exact cu
  ·rintro ⟨⟩ _ sl_ H_ hp_ hq_
   refine aP _ hp_ hq_ (ai (aa (vI v_6) (aa (vI v_6) (ah ?_))))
   obtain rfl:=ae hF
   exact ax (aK [(vI v_6)] ⟨rfl,trivial⟩)
theorem cK {s_1:Stream} {n_2:Int} {r:Int×Stream} (hF:bW s_1 n_2=some r) :
  FnM Tryz.prog 16 [(.ref (ak 0) 0 0),(vI n_2)] [(.cells 2 [(vL eI s_1.L),(vI s_1.f_at)])] (vI r.1) [some (.cells 2 [(vL eI r.2.L),(vI r.2.f_at)])]:=by
 refine FnM.of_wH ⟨Tryz.prog,64,[],[]⟩ rfl Tryz.func16 rfl rfl (lb_ rfl) (by kernel_rfl) ?_
 unfold bW at hF
 refine ai (aa (vI 0) (ah (ai (aa (.ref (ak 0) 0 0) (aa (.ref (ak 0) 0 0) (aG Bq rfl 1 rfl wz (aI 0 0 il ft sz3 ag3 rfl rfl (vI s_1.f_at) rfl wz (aa (vI (w64 (s_1.f_at+1))) (aa (.ref (ak 0) 0 0) (aG Bq rfl 1 rfl wz (fe 0 il ft 0 sz3 rfl rfl [(vL eI s_1.L),(vI (w64 (s_1.f_at+1)))] rfl wz (ah (au (ai (aa (.ref (ak 0) 0 0) (aa (.ref (ak 0) 0 0) (aG Ea rfl 0 rfl wz (aI 0 0 il ft sz22 ag22 rfl rfl (vL eI s_1.L) rfl wz (dz IA rfl wz (aa (vB ((s_1.L.length:Int)==0)) (ah ?_)))))))))))))))))))))
 rcases aj hF with⟨hc_3,hF⟩|⟨hc_3,hF⟩
 ·refine aC rfl hc_3 (ai (aa (.ref (ak 0) 0 0) (aa (.ref (ak 0) 0 0) (aG Bq rfl 1 rfl wz (aI 0 0 il ft sz3 ag3 rfl rfl (vI (w64 (s_1.f_at+1))) rfl wz (aa (vI (w64 ((w64 (s_1.f_at+1))*7919))) (aa (vI n_2) ?_)))))))
  obtain ⟨r_4,hr_5,hF⟩:=bind_some hF
  refine aD (uR hr_5) rfl hb41 rfl rfl rfl rfl wz (aa (vI r_4) (ah ?_))
  obtain rfl:=ae hF
  exact ax (rD (.inr rfl) [(vI r_4)] _ [0] [ak 0] ⟨rfl,trivial⟩ (.cons (fB rfl rfl) (.nil)) (by kernel_rfl) ⟨(by kernel_rfl),trivial⟩ (by decide) (by kernel_rfl))
 ·refine aB rfl hc_3 (aA (au (bQ (aa (.ref (ak 0) 0 0) (aa (.ref (ak 0) 0 0) (aG Bq rfl 1 rfl wz (aI 3 0 (.inr (by kernel_rfl)) (λ_ _ ag=>trivial) sz3 ag3 rfl rfl (vI (w64 (s_1.f_at+1))) rfl wz (aa (vI (w64 ((w64 (s_1.f_at+1))-1))) (aa (.ref (ak 0) 0 0) (aa (.ref (ak 0) 0 0) (aG Ea rfl 0 rfl wz (aI 8 0 (.inr (by kernel_rfl)) (λ_ _ ag=>⟨.inl ⟨rfl,rfl⟩,trivial⟩) sz22 ag22 rfl rfl (vL eI s_1.L) rfl wz (dz IA rfl wz ?_)))))))))))))
  obtain ⟨q_6,hz_7,hF⟩:=bind_some hF
  refine h_rem rfl rfl hz_7 wz (aa (vI q_6) (ah (au (bQ (aa (.ref (ak 0) 0 0) (aa (.ref (ak 0) 0 0) (aG Bq rfl 1 rfl wz (aI 3 0 (.inr (by kernel_rfl)) (λ_ _ ag=>trivial) sz3 ag3 rfl rfl (vI (w64 (s_1.f_at+1))) rfl wz (aa (vI (w64 ((w64 (s_1.f_at+1))-1))) (aa (.ref (ak 0) 0 0) (aa (.ref (ak 0) 0 0) (aG Ea rfl 0 rfl wz (aI 8 0 (.inr (by kernel_rfl)) (λ_ _ ag=>⟨.inl ⟨rfl,rfl⟩,trivial⟩) sz22 ag22 rfl rfl (vL eI s_1.L) rfl wz (dz IA rfl wz ?_))))))))))))))
  obtain ⟨q_8,hz_9,hF⟩:=bind_some hF
  refine h_quo rfl rfl hz_9 wz (aa (vI q_8) (ah (aP (H0:=([((ak 0),some (.cells 2 [(vL eI s_1.L),(vI (w64 (s_1.f_at+1)))]))]:Hp)) ([(0,(.ref (ak 0) 0 0)),(1,(vI n_2)),(5,(vI q_6)),(6,(vI q_8))]:SL_) (by kernel_rfl) (qb (by kernel_rfl)) (ai (aa (.ref (ak 0) 0 0) (aa (.ref (ak 0) 0 0) (aG Ea rfl 0 rfl wz (aI 0 0 il ft sz22 ag22 rfl rfl (vL eI s_1.L) rfl wz (aa (vI q_6) ?_)))))))))
  obtain ⟨y_10,hy_11,hF⟩:=bind_some hF
  refine eD jZ rfl rfl hy_11 rfl wz (bK sz3 ag3 rfl (vI y_10) rfl wz ?_)
  obtain ⟨r_12,hr_13,hF⟩:=bind_some hF
  refine aD (uR hr_13) rfl hb41 rfl rfl rfl rfl wz (aa (vI q_8) (aa (vI q_6) (aa (vI (w64 (7919+q_6))) (aa (vI (w64 (q_8*(w64 (7919+q_6))))) (aa (vI (w64 (r_12+(w64 (q_8*(w64 (7919+q_6))))))) (aa (vI n_2) ?_))))))
  obtain ⟨r_14,hr_15,hF⟩:=bind_some hF
  refine aD (uR hr_15) rfl hb41 rfl rfl rfl rfl wz (aa (vI r_14) (ah ?_))
  obtain rfl:=ae hF
  exact ax (rD (.inr rfl) [(vI r_14)] _ [0] [ak 0] ⟨rfl,trivial⟩ (.cons (fB rfl rfl) (.nil)) (by kernel_rfl) ⟨(by kernel_rfl),trivial⟩ (by decide) (by kernel_rfl))
theorem bI {s_1:Stream} {low_2:Int} {high_3:Int} {r:Int×Stream} (hF:bT s_1 low_2 high_3=some r) :
  FnM Tryz.prog 37 [(.ref (ak 0) 0 0),(vI low_2),(vI high_3)] [(.cells 2 [(vL eI s_1.L),(vI s_1.f_at)])] (vI r.1) [some (.cells 2 [(vL eI r.2.L),(vI r.2.f_at)])]:=by
 refine FnM.of_wH ⟨Tryz.prog,19,[],[]⟩ rfl Tryz.func37 rfl rfl (lb_ rfl) (by kernel_rfl) ?_
 unfold bT at hF
 refine ai (aa (vI 0) (ah (au (ai (aa (vI high_3) (aa (vI low_2) (aa (vB (decide (high_3<low_2))) (ah ?_))))))))
 rcases aj hF with⟨hc_4,hF⟩|⟨hc_4,hF⟩
 ·refine aC rfl hc_4 (ai (aa (vI low_2) (aa (vI low_2) (ah ?_))))
  obtain rfl:=ae hF
  exact ax (rD (.inr rfl) [(vI low_2)] _ [0] [ak 0] ⟨rfl,trivial⟩ (.cons (fB rfl rfl) (.nil)) (by kernel_rfl) ⟨(by kernel_rfl),trivial⟩ (by decide) (by kernel_rfl))
 ·refine aB rfl hc_4 (aA (ai (aa (vI low_2) (aa (.ref (ak 0) 0 0) (aa (vI high_3) (aa (vI low_2) (aa (vI (w64 (high_3-low_2))) (aa (vI (w64 ((w64 (high_3-low_2))+1))) ?_))))))))
  obtain ⟨r_5,hr_6,hF⟩:=bind_some hF
  refine aS 0 [0] il ft (cK hr_6) rfl BP rfl (by kernel_rfl) (by kernel_rfl) (by kernel_rfl) (by kernel_rfl) (by kernel_rfl) (by kernel_rfl) (by kernel_rfl) (by decide) (by kernel_rfl) wz (vI r_5.1) (by kernel_rfl) ([((ak 0),some (.cells 2 [(vL eI r_5.2.L),(vI r_5.2.f_at)]))]:Hp) (by kernel_rfl) (aa (vI (w64 (low_2+r_5.1))) (aa (vI (w64 (low_2+r_5.1))) (ah ?_)))
  obtain rfl:=ae hF
  exact ax (rD (.inr rfl) [(vI (w64 (low_2+r_5.1)))] _ [0] [ak 0] ⟨rfl,trivial⟩ (.cons (fB rfl rfl) (.nil)) (by kernel_rfl) ⟨(by kernel_rfl),trivial⟩ (by decide) (by kernel_rfl))
theorem dD {s_1:Stream} {l_2:(List ByteArray)} {r:ByteArray×Stream} (hF:dJ s_1 l_2=some r) :
  FnM Tryz.prog 17 [(.ref (ak 0) 0 0),(vL eS l_2)] [(.cells 2 [(vL eI s_1.L),(vI s_1.f_at)])] (vS r.1) [some (.cells 2 [(vL eI r.2.L),(vI r.2.f_at)])]:=by
 refine FnM.of_wH ⟨Tryz.prog,12,[],[]⟩ rfl Tryz.func17 rfl rfl (lb_ rfl) (by kernel_rfl) ?_
 unfold dJ at hF
 refine ai (aa (vS (⟨#[]⟩:ByteArray)) (ah (ai (aa (vL eS l_2) (aa (.ref (ak 0) 0 0) (aa (vL eS l_2) (dz kQ rfl wz ?_)))))))
 obtain ⟨r_3,hr_4,hF⟩:=bind_some hF
 refine aS 0 [0] il ft (cK hr_4) rfl BP rfl (by kernel_rfl) (by kernel_rfl) (by kernel_rfl) (by kernel_rfl) (by kernel_rfl) (by kernel_rfl) (by kernel_rfl) (by decide) (by kernel_rfl) wz (vI r_3.1) (by kernel_rfl) ([((ak 0),some (.cells 2 [(vL eI r_3.2.L),(vI r_3.2.f_at)]))]:Hp) (by kernel_rfl) ?_
 obtain ⟨y_6,hy_7,hF⟩:=bind_some hF
 refine eD fO rfl rfl hy_7 rfl wz (bK sz9 ag9 rfl (vS y_6) rfl wz (aa (vS y_6) (ah ?_)))
 obtain rfl:=ae hF
 exact ax (rD (.inr rfl) [(vS y_6)] _ [0] [ak 0] ⟨rfl,trivial⟩ (.cons (fB rfl rfl) (.nil)) (by kernel_rfl) ⟨(by kernel_rfl),trivial⟩ (by decide) (by kernel_rfl))
theorem dE {s_1:Stream} {l_2:(List Int)} {r:Int×Stream} (hF:dQ s_1 l_2=some r) :
  FnM Tryz.prog 20 [(.ref (ak 0) 0 0),(vL eI l_2)] [(.cells 2 [(vL eI s_1.L),(vI s_1.f_at)])] (vI r.1) [some (.cells 2 [(vL eI r.2.L),(vI r.2.f_at)])]:=by
 refine FnM.of_wH ⟨Tryz.prog,12,[],[]⟩ rfl Tryz.func20 rfl rfl (lb_ rfl) (by kernel_rfl) ?_
 unfold dQ at hF
 refine ai (aa (vI 0) (ah (ai (aa (vL eI l_2) (aa (.ref (ak 0) 0 0) (aa (vL eI l_2) (dz IA rfl wz ?_)))))))
 obtain ⟨r_3,hr_4,hF⟩:=bind_some hF
 refine aS 0 [0] il ft (cK hr_4) rfl BP rfl (by kernel_rfl) (by kernel_rfl) (by kernel_rfl) (by kernel_rfl) (by kernel_rfl) (by kernel_rfl) (by kernel_rfl) (by decide) (by kernel_rfl) wz (vI r_3.1) (by kernel_rfl) ([((ak 0),some (.cells 2 [(vL eI r_3.2.L),(vI r_3.2.f_at)]))]:Hp) (by kernel_rfl) ?_
 obtain ⟨y_6,hy_7,hF⟩:=bind_some hF
 refine eD jZ rfl rfl hy_7 rfl wz (bK sz3 ag3 rfl (vI y_6) rfl wz (aa (vI y_6) (ah ?_)))
 obtain rfl:=ae hF
 exact ax (rD (.inr rfl) [(vI y_6)] _ [0] [ak 0] ⟨rfl,trivial⟩ (.cons (fB rfl rfl) (.nil)) (by kernel_rfl) ⟨(by kernel_rfl),trivial⟩ (by decide) (by kernel_rfl))
theorem fu {s_1:Stream} {n_2:Int} {r:Bool×Stream} (hF:eU s_1 n_2=some r) :
  FnM Tryz.prog 15 [(.ref (ak 0) 0 0),(vI n_2)] [(.cells 2 [(vL eI s_1.L),(vI s_1.f_at)])] (vB r.1) [some (.cells 2 [(vL eI r.2.L),(vI r.2.f_at)])]:=by
 refine FnM.of_wH ⟨Tryz.prog,9,[],[]⟩ rfl Tryz.func15 rfl rfl (lb_ rfl) (by kernel_rfl) ?_
 unfold eU at hF
 refine ai (aa (vB false) (ah (ai (aa (.ref (ak 0) 0 0) (aa (vI n_2) ?_)))))
 obtain ⟨r_3,hr_4,hF⟩:=bind_some hF
 refine aS 0 [0] il ft (cK hr_4) rfl BP rfl (by kernel_rfl) (by kernel_rfl) (by kernel_rfl) (by kernel_rfl) (by kernel_rfl) (by kernel_rfl) (by kernel_rfl) (by decide) (by kernel_rfl) wz (vI r_3.1) (by kernel_rfl) ([((ak 0),some (.cells 2 [(vL eI r_3.2.L),(vI r_3.2.f_at)]))]:Hp) (by kernel_rfl) (aa (vB (r_3.1==0)) (aa (vB (r_3.1==0)) (ah ?_)))
 obtain rfl:=ae hF
 exact ax (rD (.inr rfl) [(vB (r_3.1==0))] _ [0] [ak 0] ⟨rfl,trivial⟩ (.cons (fB rfl rfl) (.nil)) (by kernel_rfl) ⟨(by kernel_rfl),trivial⟩ (by decide) (by kernel_rfl))
theorem ik {s_1:Stream} {r:Rect×Stream} (hF:dA s_1=some r) :
  FnM Tryz.prog 38 [(.ref (ak 0) 0 0)] [(.cells 2 [(vL eI s_1.L),(vI s_1.f_at)])] (.d (.agg (Rect.enc r.1))) [some (.cells 2 [(vL eI r.2.L),(vI r.2.f_at)])]:=by
 refine FnM.of_wH ⟨Tryz.prog,12,[],[]⟩ rfl Tryz.func38 rfl rfl (lb_ rfl) (by kernel_rfl) ?_
 unfold dA at hF
 refine ai (gN 0 (.inl rfl) z64 rfl wz (λn_2=>ah (ai (aa (.ref (ak 0) 0 0) ?_))))
 obtain ⟨r_3,hr_4,hF⟩:=bind_some hF
 refine aS 0 [0] il ft (bI hr_4) rfl zA rfl (by kernel_rfl) (by kernel_rfl) (by kernel_rfl) (by kernel_rfl) (by kernel_rfl) (by kernel_rfl) (by kernel_rfl) (by decide) (by kernel_rfl) wz (vI r_3.1) (by kernel_rfl) ([((ak 0),some (.cells 2 [(vL eI r_3.2.L),(vI r_3.2.f_at)])),(n_2,some (.cells 4 [(vI 0),(vI 0),(vI 0),(vI 0)]))]:Hp) (by kernel_rfl) (aa (.ref (ak 0) 0 0) ?_)
 obtain ⟨r_6,hr_7,hF⟩:=bind_some hF
 refine aS 0 [0] il ft (bI hr_7) rfl zA rfl (by kernel_rfl) (by kernel_rfl) (by kernel_rfl) (by kernel_rfl) (by kernel_rfl) (by kernel_rfl) (by kernel_rfl) (by decide) (by kernel_rfl) wz (vI r_6.1) (by kernel_rfl) ([((ak 0),some (.cells 2 [(vL eI r_6.2.L),(vI r_6.2.f_at)])),(n_2,some (.cells 4 [(vI 0),(vI 0),(vI 0),(vI 0)]))]:Hp) (by kernel_rfl) (aa (.ref (ak 0) 0 0) ?_)
 obtain ⟨r_9,hr_10,hF⟩:=bind_some hF
 refine aS 0 [0] il ft (bI hr_10) rfl zA rfl (by kernel_rfl) (by kernel_rfl) (by kernel_rfl) (by kernel_rfl) (by kernel_rfl) (by kernel_rfl) (by kernel_rfl) (by decide) (by kernel_rfl) wz (vI r_9.1) (by kernel_rfl) ([((ak 0),some (.cells 2 [(vL eI r_9.2.L),(vI r_9.2.f_at)])),(n_2,some (.cells 4 [(vI 0),(vI 0),(vI 0),(vI 0)]))]:Hp) (by kernel_rfl) (aa (.ref (ak 0) 0 0) ?_)
 obtain ⟨r_12,hr_13,hF⟩:=bind_some hF
 refine aS 0 [0] il ft (bI hr_13) rfl zA rfl (by kernel_rfl) (by kernel_rfl) (by kernel_rfl) (by kernel_rfl) (by kernel_rfl) (by kernel_rfl) (by kernel_rfl) (by decide) (by kernel_rfl) wz (vI r_12.1) (by kernel_rfl) ([((ak 0),some (.cells 2 [(vL eI r_12.2.L),(vI r_12.2.f_at)])),(n_2,some (.cells 4 [(vI 0),(vI 0),(vI 0),(vI 0)]))]:Hp) (by kernel_rfl) (aH (.d (.agg (Rect.enc (⟨r_3.1,r_6.1,r_9.1,r_12.1⟩:Rect)))) wz (by kernel_rfl) (fe 0 il ft 1 nW rfl rfl [(vI r_3.1),(vI r_6.1),(vI r_9.1),(vI r_12.1)] rfl wz (ah ?_)))
 obtain rfl:=ae hF
 exact ax (rD (.inr rfl) [(.d (.agg (Rect.enc (⟨r_3.1,r_6.1,r_9.1,r_12.1⟩:Rect))))] _ [0] [ak 0] ⟨⟨1,_,_,_,_,_,_,_,rfl,rfl,nW,Aj,rfl⟩,trivial⟩ (.cons (fB rfl rfl) (.nil)) (by kernel_rfl) ⟨(by kernel_rfl),trivial⟩ (by decide) (by kernel_rfl))
theorem yD {a_1:Alert} {b_2:Alert} {r:Int} (hF:jL a_1 b_2=some r) :
  FnM Tryz.prog 40 [(.d (.agg (Alert.enc a_1))),(.d (.agg (Alert.enc b_2)))] [] (vI r) []:=by
 refine FnM.of_wH ⟨Tryz.prog,20,[],[]⟩ rfl Tryz.func40 rfl rfl (lb_ rfl) (by kernel_rfl) ?_
 unfold jL at hF
 refine ai (lY 0 (.inl rfl) (Alert.v a_1) rfl rfl wz (λn_3=>lY 0 (.inl rfl) (Alert.v b_2) rfl rfl wz (λn_4=>aa (vI 0) (ah (au (ai (aG jb rfl 4 rfl wz (aI 0 0 il ft sz3 ag3 rfl rfl (vI a_1.At) rfl wz (aG jb rfl 4 rfl wz (aI 0 1 il ft sz3 ag3 rfl rfl (vI b_2.At) rfl wz (aa (vB (a_1.At != b_2.At)) (ah ?_))))))))))))
 rcases aj hF with⟨hc_5,hF⟩|⟨hc_5,hF⟩
 ·refine aC rfl hc_5 (ai (aG jb rfl 4 rfl wz (aI 0 0 il ft sz3 ag3 rfl rfl (vI a_1.At) rfl wz (aG jb rfl 4 rfl wz (aI 0 1 il ft sz3 ag3 rfl rfl (vI b_2.At) rfl wz (aa (vI (w64 (a_1.At-b_2.At))) (aa (vI (w64 (a_1.At-b_2.At))) (ah ?_))))))))
  obtain rfl:=ae hF
  exact ax (aK [(vI (w64 (a_1.At-b_2.At)))] ⟨rfl,trivial⟩)
 ·refine aB rfl hc_5 (aA (au (ai (aG jT rfl 0 rfl wz (aI 0 0 il ft sz9 ag9 rfl rfl (vS a_1.Id) rfl wz (aG jT rfl 0 rfl wz (aI 0 1 il ft sz9 ag9 rfl rfl (vS b_2.Id) rfl wz (aa (vB (sLt a_1.Id b_2.Id)) (ah ?_)))))))))
  rcases aj hF with⟨hc_6,hF⟩|⟨hc_6,hF⟩
  ·refine aC rfl hc_6 (ai (aa (vI (-1)) (ah ?_)))
   obtain rfl:=ae hF
   exact ax (aK [(vI (-1))] ⟨rfl,trivial⟩)
  ·refine aB rfl hc_6 (aA (ai (aa (vI 1) (ah ?_))))
   obtain rfl:=ae hF
   exact ax (aK [(vI 1)] ⟨rfl,trivial⟩)
theorem wo {x_1:Int} {r:Int} (hF:oq x_1=some r) :
  FnM Tryz.prog 103 [(.d (.int .u64 x_1))] [] (vI r) []:=by
 refine FnM.of_wH ⟨Tryz.prog,25,[],[]⟩ rfl Tryz.func103 rfl rfl (lb_ rfl) (by kernel_rfl) ?_
 unfold oq at hF
 refine ai (aa (vI 0) (ah (au (ai (aa (.d (.int .u64 x_1)) (aa (vB (decide (x_1>=4294967296))) (ah ?_)))))))
 obtain ⟨v_2,h_3,hF⟩:=bind_some hF
 refine aN [(0,(.d (.int .u64 v_2.1))),(2,(vI v_2.2))] [] ?_ ?_
 ·rcases aj h_3 with⟨hc_4,h_3⟩|⟨hc_4,h_3⟩
  ·refine aC rfl hc_4 (ai (aa (.d (.int .u64 x_1)) ?_))
   obtain ⟨q_5,hz_6,h_3⟩:=bind_some h_3
   refine MZ rfl rfl hz_6 wz (aa (.d (.int .u64 q_5)) (ah (av (aa (vI 32) (ah ?_)))))
   obtain rfl:=ae h_3
   exact cu
  ·refine aB rfl hc_4 (aA ?_)
   obtain rfl:=ae h_3
   exact cu
 ·rintro ⟨⟩ _ sl_ H_ hp_ hq_
  refine aP _ hp_ hq_ (au (ai (aa (.d (.int .u64 v_2.1)) (aa (vB (decide (v_2.1>=65536))) (ah ?_)))))
  obtain ⟨v_7,h_8,hF⟩:=bind_some hF
  refine aN [(0,(.d (.int .u64 v_7.1))),(2,(vI v_7.2))] [] ?_ ?_
  ·rcases aj h_8 with⟨hc_9,h_8⟩|⟨hc_9,h_8⟩
   ·refine aC rfl hc_9 (ai (aa (.d (.int .u64 v_2.1)) ?_))
    obtain ⟨q_10,hz_11,h_8⟩:=bind_some h_8
    refine MZ rfl rfl hz_11 wz (aa (.d (.int .u64 q_10)) (ah (av (aa (vI v_2.2) (aa (vI (w64 (v_2.2+16))) (aa (vI (w64 (v_2.2+16))) (ah ?_)))))))
    obtain rfl:=ae h_8
    exact cu
   ·refine aB rfl hc_9 (aA ?_)
    obtain rfl:=ae h_8
    exact cu
  ·rintro ⟨⟩ _ sl_ H_ hp_ hq_
   refine aP _ hp_ hq_ (au (ai (aa (.d (.int .u64 v_7.1)) (aa (vB (decide (v_7.1>=256))) (ah ?_)))))
   obtain ⟨v_12,h_13,hF⟩:=bind_some hF
   refine aN [(0,(.d (.int .u64 v_12.1))),(2,(vI v_12.2))] [] ?_ ?_
   ·rcases aj h_13 with⟨hc_14,h_13⟩|⟨hc_14,h_13⟩
    ·refine aC rfl hc_14 (ai (aa (.d (.int .u64 v_7.1)) ?_))
     obtain ⟨q_15,hz_16,h_13⟩:=bind_some h_13
     refine MZ rfl rfl hz_16 wz (aa (.d (.int .u64 q_15)) (ah (av (aa (vI v_7.2) (aa (vI (w64 (v_7.2+8))) (aa (vI (w64 (v_7.2+8))) (ah ?_)))))))
     obtain rfl:=ae h_13
     exact cu
    ·refine aB rfl hc_14 (aA ?_)
     obtain rfl:=ae h_13
     exact cu
   ·rintro ⟨⟩ _ sl_ H_ hp_ hq_
    refine aP _ hp_ hq_ (ai (aa (vI v_12.2) (aa (.d (.int .u64 v_12.1)) (BV un130 un5 rfl wz ?_))))
    obtain ⟨b_17,hy_18,hF⟩:=bind_some hF
    refine qE un9 rfl rfl hy_18 wz (BV un5 un3 rfl wz (aa (vI (w64 (v_12.2+(w64 (b_17.toNat:Int))))) (aa (vI (w64 (v_12.2+(w64 (b_17.toNat:Int))))) (ah ?_))))
    obtain rfl:=ae hF
    exact ax (aK [(vI (w64 (v_12.2+(w64 (b_17.toNat:Int)))))] ⟨rfl,trivial⟩)
theorem yo {x_1:Int} {r:Int} (hF:jP x_1=some r) :
  FnM Tryz.prog 66 [(.d (.int .u64 x_1))] [] (vI r) []:=by
 refine FnM.of_wH ⟨Tryz.prog,8,[],[]⟩ rfl Tryz.func66 rfl rfl (lb_ rfl) (by kernel_rfl) ?_
 unfold jP at hF
 refine ai (aa (vI 0) (ah (au (aB rfl rfl (aA (ai (aa (.d (.int .u64 x_1)) ?_)))))))
 obtain ⟨r_2,hr_3,hF⟩:=bind_some hF
 refine aD (wo hr_3) rfl hb103 rfl rfl rfl rfl wz (aa (vI r_2) (ah ?_))
 obtain rfl:=ae hF
 exact ax (aK [(vI r_2)] ⟨rfl,trivial⟩)
theorem jw {data_1:(List Alert)} {a_2:Int} {b_3:Int} {r:(List Alert)} (hF:dM data_1 a_2 b_3=some r) :
  FnM Tryz.prog 94 [(dV (ak 0) 9 data_1),(vI a_2),(vI b_3),(.fn 40 [])] (([]:List Box)++gI 9 Alert.enc data_1) (.tup []) (([]:List Box).map some++gT data_1 (gB 9 Alert.enc r)):=by
 refine FnM.of_wHv ⟨Tryz.prog,53,[],[]⟩ rfl Tryz.func94 rfl rfl (lb_ rfl) (by kernel_rfl) ?_
 unfold dM at hF
 refine ai (aa (vI a_2) (aa (vI (w64 (a_2+1))) (aa (vI (w64 (a_2+1))) (ah ?_))))
 obtain ⟨o_13,hj_14,hF⟩:=bind_some hF
 obtain ⟨nq_51,hj_14⟩:=lU hj_14
 refine oP (λ(s_10:(List Alert)×Int)=>[]) (λ(s_10:(List Alert)×Int)=>[((ak 0),gB 9 Alert.enc s_10.1)]) (λ(k_5:Nat)=>(λ(s_10:(List Alert)×Int)=>[(0,(dV (ak 0) 9 s_10.1)),(1,(vI a_2)),(2,(vI b_3)),(3,(.fn 40 [])),(8,(vI s_10.2))])) (λs=>dF b_3 a_2 s) o_13 nq_51 (data_1,(w64 (a_2+1))) hj_14 rfl (aM rfl) ?_ ?_
 ·rintro ⟨k_5,s_10⟩ hL_12
  dsimp only at hL_12
  cases k_5 with
  | zero=>cases hL_12
  | succ k_5 =>
   obtain ⟨c_,hc_11,hL_12⟩:=bind_some hL_12
   unfold dF at hc_11
   refine au (ai (aa (vI s_10.2) (aa (vI b_3) (aa (vB (decide (s_10.2<b_3))) (ah ?_)))))
   rcases aj hc_11 with⟨hc_15,hc_11⟩|⟨hc_15,hc_11⟩
   ·refine aC rfl hc_15 (aA (au (aR (ai (aa (vI s_10.2) (aa (vI s_10.2) (ah ?_)))))))
    obtain ⟨o_24,hj_25,hc_11⟩:=bind_some hc_11
    obtain ⟨nq_50,hj_25⟩:=lU hj_25
    refine oP (λ(s_21:(List Alert)×Int)=>[(0,(dV (ak 0) 9 s_21.1)),(1,(vI a_2)),(2,(vI b_3)),(3,(.fn 40 [])),(8,(vI s_10.2))]) (λ(s_21:(List Alert)×Int)=>[((ak 0),gB 9 Alert.enc s_21.1)]) (λ(k_16:Nat)=>(λ(s_21:(List Alert)×Int)=>[(0,(dV (ak 0) 9 s_21.1)),(1,(vI a_2)),(2,(vI b_3)),(3,(.fn 40 [])),(8,(vI s_10.2)),(9,(vI s_21.2))])) (λs=>dG a_2 s) o_24 nq_50 (s_10.1,s_10.2) hj_25 rfl (aM rfl) ?_ ?_
    ·rintro ⟨k_16,s_21⟩ hL_23
     dsimp only at hL_23
     cases k_16 with
     | zero=>cases hL_23
     | succ k_16 =>
      obtain ⟨c_,hc_22,hL_23⟩:=bind_some hL_23
      unfold dG at hc_22
      refine au (au ?_)
      obtain ⟨v_26,h_27,hc_22⟩:=bind_some hc_22
      refine aN [(0,(dV (ak 0) 9 s_21.1)),(1,(vI a_2)),(2,(vI b_3)),(3,(.fn 40 [])),(8,(vI s_10.2)),(9,(vI s_21.2)),(34,(vB v_26))] [((ak 0),gB 9 Alert.enc s_21.1)] ?_ ?_
      ·refine bQ (aa (vI s_21.2) (aa (vI a_2) (aa (vB (decide (s_21.2>a_2))) ?_)))
       rcases aj h_27 with⟨hc_28,h_27⟩|⟨hc_28,h_27⟩
       ·refine ay rfl hc_28 wz (aH (.fn 40 []) wa rfl (aH (dV (ak 0) 9 s_21.1) wa rfl (aH (vI s_21.2) wa rfl ?_)))
        obtain ⟨_,hi_29,h_27⟩:=bind_some h_27
        refine yB lJ rfl rfl (qA hi_29) (mg hi_29) wa ?_
        obtain ⟨e_30,hy_31,h_27⟩:=bind_some h_27
        refine yS 8 0 (.inr (by kernel_rfl)) (λ_ _ ag=>trivial) iT mQ rfl rfl hy_31 (.d (.agg (Alert.enc e_30))) rfl wa (aH (dV (ak 0) 9 s_21.1) wa rfl (aH (vI s_21.2) wa rfl (aH (vI (w64 (s_21.2-1))) wa rfl ?_)))
        obtain ⟨_,hi_32,h_27⟩:=bind_some h_27
        refine yB lJ rfl rfl (qA hi_32) (mg hi_32) wa ?_
        obtain ⟨e_33,hy_34,h_27⟩:=bind_some h_27
        refine yS 13 0 (.inr (by kernel_rfl)) (λ_ _ ag=>⟨.inl ⟨rfl,rfl⟩,trivial⟩) iT mQ rfl rfl hy_34 (.d (.agg (Alert.enc e_33))) rfl wa ?_
        obtain ⟨r_35,hr_36,h_27⟩:=bind_some h_27
        refine aD (yD hr_36) rfl hb40 rfl rfl rfl rfl wa (aH (vB (decide (r_35<0))) wa rfl (aa (vB (decide (r_35<0))) (ah ?_)))
        obtain rfl:=ae h_27
        exact cu
       ·refine ay rfl hc_28 wz (af (af (af (af (af (af (af (af (af (af (af (af (aa (vB false) (ah ?_))))))))))))))
        obtain rfl:=ae h_27
        exact cu
      ·rintro ⟨⟩ _ sl_ H_ hp_ hq_
       refine aP _ hp_ hq_ ?_
       rcases aj hc_22 with⟨hc_37,hc_22⟩|⟨hc_37,hc_22⟩
       ·refine aC rfl hc_37 (aA (au (aR (bQ (aa (dV (ak 0) 9 s_21.1) (aa (vI s_21.2) (aa (dV (ak 0) 9 s_21.1) (aa (vI s_21.2) (aa (vI (w64 (s_21.2-1))) (aa (dV (ak 0) 9 s_21.1) (aa (vI s_21.2) (aa (vI (w64 (s_21.2-1))) ?_))))))))))))
        obtain ⟨_,hi_38,hc_22⟩:=bind_some hc_22
        refine yB lJ rfl rfl (qA hi_38) (mg hi_38) wz ?_
        obtain ⟨e_39,hy_40,hc_22⟩:=bind_some hc_22
        refine yS 9 0 (.inr (by kernel_rfl)) (λ_ _ ag=>trivial) iT mQ rfl rfl hy_40 (.d (.agg (Alert.enc e_39))) rfl wz (aa (dV (ak 0) 9 s_21.1) (aa (vI s_21.2) ?_))
        obtain ⟨_,hi_41,hc_22⟩:=bind_some hc_22
        refine yB lJ rfl rfl (qA hi_41) (mg hi_41) wz ?_
        obtain ⟨e_42,hy_43,hc_22⟩:=bind_some hc_22
        refine yS 13 0 (.inr (by kernel_rfl)) (λ_ _ ag=>⟨.inl ⟨rfl,rfl⟩,trivial⟩) iT mQ rfl rfl hy_43 (.d (.agg (Alert.enc e_42))) rfl wz ?_
        obtain ⟨_,hi_44,hc_22⟩:=bind_some hc_22
        refine yB lJ rfl rfl (qA hi_44) (mg hi_44) wz ?_
        obtain ⟨e_45,hy_46,hc_22⟩:=bind_some hc_22
        refine pU 15 (.inr (by kernel_rfl)) (λ_ _ ag=>⟨.inr (.inr (by kernel_rfl)),⟨.inr (.inr (by kernel_rfl)),trivial⟩⟩) 0 iT rfl rfl hy_46 e_39 rfl wz (fq (v':=(dV (ak 0) 9 (s_21.1.set (0+(s_21.2).toNat) e_39))) 0 rfl (lL (by simp)) (fq (v':=(dV (ak 0) 9 (s_21.1.set (0+(s_21.2).toNat) e_39))) 37 rfl (lL (by simp)) (fq (v':=(dV (ak 0) 9 (s_21.1.set (0+(s_21.2).toNat) e_39))) 39 rfl (lL (by simp)) (fq (v':=(dV (ak 0) 9 (s_21.1.set (0+(s_21.2).toNat) e_39))) 42 rfl (lL (by simp)) (fq (v':=(dV (ak 0) 9 (s_21.1.set (0+(s_21.2).toNat) e_39))) 47 rfl (lL (by simp)) ?_)))))
        obtain ⟨_,hi_47,hc_22⟩:=bind_some hc_22
        refine yB lJ rfl rfl (qA hi_47) (mg hi_47) wz ?_
        obtain ⟨e_48,hy_49,hc_22⟩:=bind_some hc_22
        refine pU 17 (.inr (by kernel_rfl)) (λ_ _ ag=>⟨.inr (.inr (by kernel_rfl)),⟨.inr (.inr (by kernel_rfl)),⟨.inr (.inr (by kernel_rfl)),trivial⟩⟩⟩) 0 iT rfl rfl hy_49 e_42 rfl wz (fq (v':=(dV (ak 0) 9 ((s_21.1.set (0+(s_21.2).toNat) e_39).set (0+((w64 (s_21.2-1))).toNat) e_42))) 0 rfl (lL (by simp)) (fq (v':=(dV (ak 0) 9 ((s_21.1.set (0+(s_21.2).toNat) e_39).set (0+((w64 (s_21.2-1))).toNat) e_42))) 37 rfl (lL (by simp)) (fq (v':=(dV (ak 0) 9 ((s_21.1.set (0+(s_21.2).toNat) e_39).set (0+((w64 (s_21.2-1))).toNat) e_42))) 39 rfl (lL (by simp)) (fq (v':=(dV (ak 0) 9 ((s_21.1.set (0+(s_21.2).toNat) e_39).set (0+((w64 (s_21.2-1))).toNat) e_42))) 42 rfl (lL (by simp)) (fq (v':=(dV (ak 0) 9 ((s_21.1.set (0+(s_21.2).toNat) e_39).set (0+((w64 (s_21.2-1))).toNat) e_42))) 47 rfl (lL (by simp)) (ah (av (aa (vI s_21.2) (aa (vI (w64 (s_21.2-1))) (aa (vI (w64 (s_21.2-1))) (ah ?_)))))))))))
        obtain rfl:=ae hc_22
        exact bN (k_16,(((s_21.1.set (0+(s_21.2).toNat) e_39).set (0+((w64 (s_21.2-1))).toNat) e_42),(w64 (s_21.2-1)))) hL_23 (ls_ _) rfl (aM rfl)
       ·refine aB rfl hc_37 (bO ?_)
        obtain rfl:=ae hc_22
        obtain rfl:=ae hL_23
        exact bD ((s_21.1,s_21.2)) rfl rfl (aM rfl)
    ·rintro s_21 ho_ sl_ H_ hp_ hq_
     subst ho_
     refine aP _ hp_ hq_ (av (aa (vI s_10.2) (aa (vI (w64 (s_10.2+1))) (aa (vI (w64 (s_10.2+1))) (ah ?_)))))
     obtain rfl:=ae hc_11
     exact bN (k_5,(s_21.1,(w64 (s_10.2+1)))) hL_12 (ls_ _) rfl (aM rfl)
   ·refine aB rfl hc_15 (bO ?_)
    obtain rfl:=ae hc_11
    obtain rfl:=ae hL_12
    exact bD ((s_10.1,s_10.2)) rfl rfl (aM rfl)
 ·rintro s_10 ho_ sl_ H_ hp_ hq_
  subst ho_
  show xN _ _ _ _ _ _ _ _
  obtain rfl:=ae hF
  exact JE (H0:=([((ak 0),gB 9 Alert.enc s_10.1)]:Hp)) (sl':=envS []) hq_ (finV (bs:=([]:List Box)) (os:=([]:List Box)) (xs:=data_1) (o:=gB 9 Alert.enc s_10.1) (.inl rfl) [] trivial rfl rfl rfl rfl rfl (by kernel_rfl) ze rfl)
theorem kN {data_1:(List Alert)} {a_2:Int} {b_3:Int} {limit_4:Int} {r:(List Alert)} (hF:eY data_1 a_2 b_3 limit_4=some r) :
  FnM Tryz.prog 65 [(dV (ak 0) 9 data_1),(vI a_2),(vI b_3),(vI limit_4),(.fn 40 [])] (([]:List Box)++gI 9 Alert.enc data_1) (.tup []) (([]:List Box).map some++gT data_1 (gB 9 Alert.enc r)):=by
 refine FnM.of_wHv ⟨Tryz.prog,148,[],[]⟩ rfl Tryz.func65 rfl rfl (lb_ rfl) (by kernel_rfl) ?_
 unfold eY at hF
 refine ai (aa (vB true) (ah (ai (aa (vB true) (ah ?_)))))
 obtain ⟨o_14,hj_15,hF⟩:=bind_some hF
 obtain ⟨nq_21,hj_15⟩:=lU hj_15
 refine oP (λ(s_11:Unit)=>[]) (λ(s_11:Unit)=>[((ak 0),gB 9 Alert.enc data_1)]) (λ(k_6:Nat)=>(λ(s_11:Unit)=>[(0,(dV (ak 0) 9 data_1)),(1,(vI a_2)),(2,(vI b_3)),(3,(vI limit_4)),(4,(.fn 40 [])),(10,(vB true)),(11,(vB true))])) (λs=>d9 b_3 a_2 data_1 limit_4 s) o_14 nq_21 () hj_15 rfl (aM rfl) ?_ ?_
 ·rintro ⟨k_6,s_11⟩ hL_13
  dsimp only at hL_13
  cases k_6 with
  | zero=>cases hL_13
  | succ k_6 =>
   obtain ⟨c_,hc_12,hL_13⟩:=bind_some hL_13
   unfold d9 at hc_12
   refine aR (ai (aa (vI b_3) (aa (vI a_2) (aa (vI (w64 (b_3-a_2))) (aa (vI (w64 (b_3-a_2))) (ah (au (ai (aa (vI (w64 (b_3-a_2))) (aa (vB (decide ((w64 (b_3-a_2))<=12))) (ah ?_)))))))))))
   rcases aj hc_12 with⟨hc_16,hc_12⟩|⟨hc_16,hc_12⟩
   ·refine aC rfl hc_16 (ai (aa (dV (ak 0) 9 data_1) (aa (vI a_2) (aa (vI b_3) (aa (.fn 40 []) ?_)))))
    obtain ⟨r_17,hr_18,hc_12⟩:=bind_some hc_12
    obtain ⟨_,hs_19,hc_12⟩:=bind_some hc_12
    replace hs_19:=x8 hs_19
    refine zM 0 [] 0 0 il ft (jw hr_18) rfl hb94 rfl rfl rfl (by kernel_rfl) rfl (.inr (.inl rfl)) rfl (by kernel_rfl) (by kernel_rfl) (by kernel_rfl) (by kernel_rfl) rfl (by decide) (by kernel_rfl) ze (JL hs_19) wz ([((ak 0),gB 9 Alert.enc r_17)]:Hp) (by kernel_rfl) (fq (v':=(dV (ak 0) 9 r_17)) 0 rfl (lL hs_19.symm) (fq (v':=(dV (ak 0) 9 r_17)) 26 rfl (lL hs_19.symm) (ah ?_)))
    obtain rfl:=ae hc_12
    obtain rfl:=ae hL_13
    obtain rfl:=ae hF
    exact ax (finV (bs:=([]:List Box)) (os:=([]:List Box)) (xs:=data_1) (o:=gB 9 Alert.enc r_17) (.inr rfl) [] trivial rfl rfl rfl rfl rfl (by kernel_rfl) ze rfl)
   ·refine aB rfl hc_16 (aA (au (ai (aa (vI limit_4) (aa (vB (limit_4==0)) (ah ?_))))))
    rcases aj hc_12 with⟨hc_20,hc_12⟩|⟨hc_20,hc_12⟩
    ·refine aC rfl hc_20 (ai (aa (dV (ak 0) 9 data_1) (aa (vI a_2) (aa (vI b_3) (aa (.fn 40 []) ?_)))))
     cases hc_12
    ·refine aB rfl hc_20 (aA (au (ai (aa (vB true) (aa (vB false) (ah (aB rfl rfl (aA (ai (aa (dV (ak 0) 9 data_1) (aa (vI a_2) (aa (vI b_3) (aa (.fn 40 []) ?_)))))))))))))
     cases hc_12
 ·rintro s_11 ho_ sl_ H_ hp_ hq_
  subst ho_
  show xN _ _ _ _ _ _ _ _
  obtain rfl:=ae hF
  exact JE (H0:=([((ak 0),gB 9 Alert.enc data_1)]:Hp)) (sl':=envS []) hq_ (finV (bs:=([]:List Box)) (os:=([]:List Box)) (xs:=data_1) (o:=gB 9 Alert.enc data_1) (.inl rfl) [] trivial rfl rfl rfl rfl rfl (by kernel_rfl) ze rfl)
theorem fM {x_1:(List Alert)} {r:(List Alert)} (hF:bE x_1=some r) :
  FnM Tryz.prog 39 [(dV (ak 0) 9 x_1),(.fn 40 [])] (([]:List Box)++gI 9 Alert.enc x_1) (.tup []) (([]:List Box).map some++gT x_1 (gB 9 Alert.enc r)):=by
 refine FnM.of_wHv ⟨Tryz.prog,14,[],[]⟩ rfl Tryz.func39 rfl rfl (lb_ rfl) (by kernel_rfl) ?_
 unfold bE at hF
 refine ai (aa (dV (ak 0) 9 x_1) (h_lend oK rfl wz (aa (vI (x_1.length:Int)) (ah (av (aa (dV (ak 0) 9 x_1) (aa (vI (x_1.length:Int)) (aa (vI (x_1.length:Int)) (BV un3 un107 rfl wz ?_)))))))))
 obtain ⟨r_3,hr_4,hF⟩:=bind_some hF
 refine aD (yo hr_4) rfl hb66 rfl rfl rfl rfl wz (aa (.fn 40 []) ?_)
 obtain ⟨r_5,hr_6,hF⟩:=bind_some hF
 obtain ⟨_,hs_7,hF⟩:=bind_some hF
 replace hs_7:=x8 hs_7
 refine zM 0 [] 0 0 il ft (kN hr_6) rfl hb65 rfl rfl rfl (by kernel_rfl) rfl (.inr (.inl rfl)) rfl (by kernel_rfl) (by kernel_rfl) (by kernel_rfl) (by kernel_rfl) rfl (by decide) (by kernel_rfl) ze (JL hs_7) wz ([((ak 0),gB 9 Alert.enc r_5)]:Hp) (by kernel_rfl) (fq (v':=(dV (ak 0) 9 r_5)) 0 rfl (lL hs_7.symm) (fq (v':=(dV (ak 0) 9 r_5)) 5 rfl (lL hs_7.symm) (fq (v':=(dV (ak 0) 9 r_5)) 7 rfl (lL hs_7.symm) (ah ?_))))
 show xN _ _ _ _ _ _ _ _
 obtain rfl:=ae hF
 exact finV (bs:=([]:List Box)) (os:=([]:List Box)) (xs:=x_1) (o:=gB 9 Alert.enc r_5) (.inl rfl) [] trivial rfl rfl rfl rfl rfl (by kernel_rfl) ze rfl
theorem qF {s_1:Stream} {most_2:Int} {r:(List Alert)×Stream} (hF:bX s_1 most_2=some r) :
  FnM Tryz.prog 14 [(.ref (ak 0) 0 0),(vI most_2)] [(.cells 2 [(vL eI s_1.L),(vI s_1.f_at)])] (vL Alert.enc r.1) [some (.cells 2 [(vL eI r.2.L),(vI r.2.f_at)])]:=by
 refine FnM.of_wH ⟨Tryz.prog,101,[],[]⟩ rfl Tryz.func14 rfl rfl (lb_ rfl) (by kernel_rfl) ?_
 unfold bX at hF
 refine ai (aa .nil (ah (ai (aa .nil (ah (au (ai (di (([(⟨#[97,97]⟩:ByteArray),(⟨#[97,98]⟩:ByteArray),(⟨#[97,99]⟩:ByteArray),(⟨#[97,100]⟩:ByteArray),(⟨#[97,101]⟩:ByteArray),(⟨#[97,102]⟩:ByteArray)]:List ByteArray).map eS) fO nE rfl rfl rfl rfl rfl wz (aa (.ref (ak 0) 0 0) (aa (vI most_2) ?_))))))))))
 obtain ⟨r_3,hr_4,hF⟩:=bind_some hF
 refine aS 0 [0] il ft (bI hr_4) rfl zA rfl (by kernel_rfl) (by kernel_rfl) (by kernel_rfl) (by kernel_rfl) (by kernel_rfl) (by kernel_rfl) (by kernel_rfl) (by decide) (by kernel_rfl) wz (vI r_3.1) (by kernel_rfl) ([((ak 0),some (.cells 2 [(vL eI r_3.2.L),(vI r_3.2.f_at)]))]:Hp) (by kernel_rfl) ?_
 obtain ⟨y_6,hy_7,hF⟩:=bind_some hF
 refine nX kQ sz9 (λ_=>rfl) rfl rfl hy_7 wz (dz kQ rfl wz (aa (vI 0) (ah (ni (λn_14 => ?_)))))
 obtain ⟨o_19,hj_20,hF⟩:=bind_some hF
 obtain ⟨hn_12,hj_20⟩:=bu hj_20
 refine iZ (σ:=(List Alert)×(List Int)×Int) (N:=Nm) (λp=>(λ(s_13:(List Alert)×(List Int)×Int) (n_16:Nm)=>([(5,(gV n_16 9 s_13.1))]:SL_)) p.1 p.2) (λp=>(λ(s_13:(List Alert)×(List Int)×Int) (n_16:Nm)=>([((ak 0),some (.cells 2 [(vL eI s_13.2.1),(vI s_13.2.2)])),(n_16,gB 9 Alert.enc s_13.1)]:Hp)) p.1 p.2) (λ(k_8:Nat)=>(λp=>(λ(s_13:(List Alert)×(List Int)×Int) (n_16:Nm)=>([(0,(.ref (ak 0) 0 0)),(5,(gV n_16 9 s_13.1)),(15,(vL eS y_6)),(16,(vI (y_6.length:Int))),(17,(vI (k_8:Int)))]:SL_)) p.1 p.2)) (λk x s=>bR k x s) o_19 y_6 ((([]:List Alert),r_3.2.L,r_3.2.f_at),n_14) hj_20 rfl (aM rfl) ?_ ?_
 ·rintro ⟨k_8,l_9,s_13,n_16⟩ ⟨hL_18,hD_11⟩
  dsimp only at hL_18 hD_11
  cases l_9 with
  | nil =>
   obtain rfl:=ae hL_18
   refine ai (aa (vB (decide ((k_8:Int)<(y_6.length:Int)))) (ah ?_))
   refine au (aB rfl (drop_nil hD_11) (bO ?_))
   exact bD (s_13,n_16) rfl rfl (aM rfl)
  | cons x_10 l_9 =>
   obtain ⟨c_,hc_17,hL_18⟩:=bind_some hL_18
   refine ai (aa (vB (decide ((k_8:Int)<(y_6.length:Int)))) (ah ?_))
   refine au (aC rfl (bL hD_11) (aA ?_))
   unfold bR at hc_17
   refine au (aR (ai (eD fO rfl rfl (dh hD_11) rfl wz (bK sz9 ag9 rfl (vS x_10) rfl wz (aa (vS x_10) (ah (ai (aa (vS x_10) (aa (.ref (ak 0) 0 0) (di (([(⟨#[119,120]⟩:ByteArray),(⟨#[119,120]⟩:ByteArray),(⟨#[102,105,114,101]⟩:ByteArray)]:List ByteArray).map eS) fO nE rfl rfl rfl rfl rfl wz ?_))))))))))
   obtain ⟨r_21,hr_22,hc_17⟩:=bind_some hc_17
   refine aS 0 [0] il ft (dD hr_22) rfl Cr rfl (by kernel_rfl) (by kernel_rfl) (by kernel_rfl) (by kernel_rfl) (by kernel_rfl) (by kernel_rfl) (by kernel_rfl) (by decide) (by kernel_rfl) wz (vS r_21.1) (by kernel_rfl) ([((ak 0),some (.cells 2 [(vL eI r_21.2.L),(vI r_21.2.f_at)])),(n_16,gB 9 Alert.enc s_13.1)]:Hp) (by kernel_rfl) (aa (.ref (ak 0) 0 0) (di (([1,1,2,2,3]:List Int).map eI) jZ uy rfl rfl rfl rfl rfl wz ?_))
   obtain ⟨r_24,hr_25,hc_17⟩:=bind_some hc_17
   refine aS 0 [0] il ft (dE hr_25) rfl Ct rfl (by kernel_rfl) (by kernel_rfl) (by kernel_rfl) (by kernel_rfl) (by kernel_rfl) (by kernel_rfl) (by kernel_rfl) (by decide) (by kernel_rfl) wz (vI r_24.1) (by kernel_rfl) ([((ak 0),some (.cells 2 [(vL eI r_24.2.L),(vI r_24.2.f_at)])),(n_16,gB 9 Alert.enc s_13.1)]:Hp) (by kernel_rfl) (aa (.ref (ak 0) 0 0) ?_)
   obtain ⟨r_27,hr_28,hc_17⟩:=bind_some hc_17
   refine aS 0 [0] il ft (bI hr_28) rfl zA rfl (by kernel_rfl) (by kernel_rfl) (by kernel_rfl) (by kernel_rfl) (by kernel_rfl) (by kernel_rfl) (by kernel_rfl) (by decide) (by kernel_rfl) wz (vI r_27.1) (by kernel_rfl) ([((ak 0),some (.cells 2 [(vL eI r_27.2.L),(vI r_27.2.f_at)])),(n_16,gB 9 Alert.enc s_13.1)]:Hp) (by kernel_rfl) (aa (vI (w64 (r_27.1*5))) (aa (.ref (ak 0) 0 0) (di (([1,5,5,9]:List Int).map eI) jZ uy rfl rfl rfl rfl rfl wz ?_)))
   obtain ⟨r_30,hr_31,hc_17⟩:=bind_some hc_17
   refine aS 0 [0] il ft (dE hr_31) rfl Ct rfl (by kernel_rfl) (by kernel_rfl) (by kernel_rfl) (by kernel_rfl) (by kernel_rfl) (by kernel_rfl) (by kernel_rfl) (by decide) (by kernel_rfl) wz (vI r_30.1) (by kernel_rfl) ([((ak 0),some (.cells 2 [(vL eI r_30.2.L),(vI r_30.2.f_at)])),(n_16,gB 9 Alert.enc s_13.1)]:Hp) (by kernel_rfl) (aa (.ref (ak 0) 0 0) (di (([(⟨#[102,108,111,111,100]⟩:ByteArray),(⟨#[102,105,114,101,32,105,110,32,116,104,101,32,109,97,108,108]⟩:ByteArray)]:List ByteArray).map eS) fO nE rfl rfl rfl rfl rfl wz ?_))
   obtain ⟨r_33,hr_34,hc_17⟩:=bind_some hc_17
   refine aS 0 [0] il ft (dD hr_34) rfl Cr rfl (by kernel_rfl) (by kernel_rfl) (by kernel_rfl) (by kernel_rfl) (by kernel_rfl) (by kernel_rfl) (by kernel_rfl) (by decide) (by kernel_rfl) wz (vS r_33.1) (by kernel_rfl) ([((ak 0),some (.cells 2 [(vL eI r_33.2.L),(vI r_33.2.f_at)])),(n_16,gB 9 Alert.enc s_13.1)]:Hp) (by kernel_rfl) (aH (.agg [(vS x_10),(vS r_21.1),(vI r_24.1),.nil,(vI (w64 (r_27.1*5))),(vI 0),(vI r_30.1),.nil,(vS r_33.1)]) wz (by kernel_rfl) (gN 0 (.inl rfl) z40 rfl wz (λn_36=>fe 0 il ft 2 iT rfl rfl [(vS x_10),(vS r_21.1),(vI r_24.1),.nil,(vI (w64 (r_27.1*5))),(vI 0),(vI r_30.1),.nil,(vS r_33.1)] rfl wz (ah (au (bQ (aG jb rfl 4 rfl wz (aI 1 2 (.inr (by kernel_rfl)) (λ_ _ ag=>trivial) sz3 ag3 rfl rfl (vI (w64 (r_27.1*5))) rfl wz (aa (.ref (ak 0) 0 0) (di (([1,10,20,50]:List Int).map eI) jZ uy rfl rfl rfl rfl rfl wz ?_))))))))))
   obtain ⟨r_37,hr_38,hc_17⟩:=bind_some hc_17
   refine aS 4 [0] (.inr (by kernel_rfl)) (λ_ _ ag=>by exact⟨.inr (.inl (K9 (CJ ag (i:=0) (j:=2) rfl rfl (by decide)))),trivial⟩) (dE hr_38) rfl Ct rfl (by kernel_rfl) (by kernel_rfl) (by kernel_rfl) (by kernel_rfl) (by kernel_rfl) (by kernel_rfl) (by kernel_rfl) (by decide) (by kernel_rfl) wz (vI r_37.1) (by kernel_rfl) ([((ak 0),some (.cells 2 [(vL eI r_37.2.L),(vI r_37.2.f_at)])),(n_16,gB 9 Alert.enc s_13.1),(n_36,some (.cells 9 [(vS x_10),(vS r_21.1),(vI r_24.1),.nil,(vI (w64 (r_27.1*5))),(vI 0),(vI r_30.1),.nil,(vS r_33.1)]))]:Hp) (by kernel_rfl) (aa (vI (w64 ((w64 (r_27.1*5))+r_37.1))) (aG wC rfl 5 rfl wz (fe 7 (.inr (by kernel_rfl)) (λ_ _ ag=>⟨.inr (.inr (by kernel_rfl)),⟨.inr (.inr (by kernel_rfl)),trivial⟩⟩) 2 sz3 rfl rfl [(vS x_10),(vS r_21.1),(vI r_24.1),.nil,(vI (w64 (r_27.1*5))),(vI (w64 ((w64 (r_27.1*5))+r_37.1))),(vI r_30.1),.nil,(vS r_33.1)] rfl wz (ah (aP (H0:=([((ak 0),some (.cells 2 [(vL eI r_37.2.L),(vI r_37.2.f_at)])),(n_16,gB 9 Alert.enc s_13.1),(n_36,some (.cells 9 [(vS x_10),(vS r_21.1),(vI r_24.1),.nil,(vI (w64 (r_27.1*5))),(vI (w64 ((w64 (r_27.1*5))+r_37.1))),(vI r_30.1),.nil,(vS r_33.1)]))]:Hp)) ([(0,(.ref (ak 0) 0 0)),(5,(gV n_16 9 s_13.1)),(7,(vS x_10)),(8,(.ref n_36 0 0)),(15,(vL eS y_6)),(16,(vI (y_6.length:Int))),(17,(vI (k_8:Int)))]:SL_) (by kernel_rfl) (qb (by kernel_rfl)) (au (ai (aG mr rfl 2 rfl wz (aI 0 2 il ft sz3 ag3 rfl rfl (vI r_24.1) rfl wz (aa (vB (r_24.1 != 1)) (ah ?_)))))))))))
   obtain ⟨v_42,h_43,hc_17⟩:=bind_some hc_17
   refine GL (β:=Unit) (λ_=>([(0,(.ref (ak 0) 0 0)),(5,(gV n_16 9 s_13.1)),(8,(.ref n_36 0 0)),(15,(vL eS y_6)),(16,(vI (y_6.length:Int))),(17,(vI (k_8:Int)))]:SL_)) (λ_=>([((ak 0),some (.cells 2 [(vL eI v_42.1),(vI v_42.2.1)])),(n_16,gB 9 Alert.enc s_13.1),(n_36,some (.cells 9 [(vS x_10),(vS r_21.1),(vI r_24.1),(vL eS v_42.2.2),(vI (w64 (r_27.1*5))),(vI (w64 ((w64 (r_27.1*5))+r_37.1))),(vI r_30.1),.nil,(vS r_33.1)]))]:Hp)) (λ_=>True) ?_ ?_
   ·rcases aj h_43 with⟨hc_44,h_43⟩|⟨hc_44,h_43⟩
    ·refine aC rfl hc_44 (au (ai (di (([(⟨#[97,97]⟩:ByteArray),(⟨#[97,98]⟩:ByteArray),(⟨#[97,99]⟩:ByteArray),(⟨#[97,100]⟩:ByteArray),(⟨#[122,122]⟩:ByteArray)]:List ByteArray).map eS) fO nE rfl rfl rfl rfl rfl wz (dz kQ rfl wz (aa (vI 0) (ah (ni (λn_51 => ?_))))))))
     obtain ⟨o_56,hj_57,h_43⟩:=bind_some h_43
     obtain ⟨hn_49,hj_57⟩:=bu hj_57
     refine iZ (σ:=(List ByteArray)×(List Int)×Int) (N:=Nm) (λp=>(λ(s_50:(List ByteArray)×(List Int)×Int) (n_53:Nm)=>([(0,(.ref (ak 0) 0 0)),(5,(gV n_16 9 s_13.1)),(8,(.ref n_36 0 0)),(15,(vL eS y_6)),(16,(vI (y_6.length:Int))),(17,(vI (k_8:Int)))]:SL_)) p.1 p.2) (λp=>(λ(s_50:(List ByteArray)×(List Int)×Int) (n_53:Nm)=>([((ak 0),some (.cells 2 [(vL eI s_50.2.1),(vI s_50.2.2)])),(n_16,gB 9 Alert.enc s_13.1),(n_36,some (.cells 9 [(vS x_10),(vS r_21.1),(vI r_24.1),(gV n_53 1 s_50.1),(vI (w64 (r_27.1*5))),(vI (w64 ((w64 (r_27.1*5))+r_37.1))),(vI r_30.1),.nil,(vS r_33.1)])),(n_53,gB 1 eS s_50.1)]:Hp)) p.1 p.2) (λ(k_45:Nat)=>(λp=>(λ(s_50:(List ByteArray)×(List Int)×Int) (n_53:Nm)=>([(0,(.ref (ak 0) 0 0)),(5,(gV n_16 9 s_13.1)),(7,(vS x_10)),(8,(.ref n_36 0 0)),(15,(vL eS y_6)),(16,(vI (y_6.length:Int))),(17,(vI (k_8:Int))),(48,(vL eS ([(⟨#[97,97]⟩:ByteArray),(⟨#[97,98]⟩:ByteArray),(⟨#[97,99]⟩:ByteArray),(⟨#[97,100]⟩:ByteArray),(⟨#[122,122]⟩:ByteArray)]:List ByteArray))),(49,(vI (([(⟨#[97,97]⟩:ByteArray),(⟨#[97,98]⟩:ByteArray),(⟨#[97,99]⟩:ByteArray),(⟨#[97,100]⟩:ByteArray),(⟨#[122,122]⟩:ByteArray)]:List ByteArray).length:Int))),(50,(vI (k_45:Int)))]:SL_)) p.1 p.2)) (λk x s=>bC x_10 k x s) o_56 ([(⟨#[97,97]⟩:ByteArray),(⟨#[97,98]⟩:ByteArray),(⟨#[97,99]⟩:ByteArray),(⟨#[97,100]⟩:ByteArray),(⟨#[122,122]⟩:ByteArray)]:List ByteArray) ((([]:List ByteArray),r_37.2.L,r_37.2.f_at),n_51) hj_57 rfl (aM rfl) ?_ ?_
     ·rintro ⟨k_45,l_46,s_50,n_53⟩ ⟨hL_55,hD_48⟩
      dsimp only at hL_55 hD_48
      cases l_46 with
      | nil =>
       obtain rfl:=ae hL_55
       refine ai (aa (vB (decide ((k_45:Int)<(([(⟨#[97,97]⟩:ByteArray),(⟨#[97,98]⟩:ByteArray),(⟨#[97,99]⟩:ByteArray),(⟨#[97,100]⟩:ByteArray),(⟨#[122,122]⟩:ByteArray)]:List ByteArray).length:Int)))) (ah ?_))
       refine au (aB rfl (drop_nil hD_48) (bO ?_))
       exact bD (s_50,n_53) rfl rfl (aM rfl)
      | cons x_47 l_46 =>
       obtain ⟨c_,hc_54,hL_55⟩:=bind_some hL_55
       refine ai (aa (vB (decide ((k_45:Int)<(([(⟨#[97,97]⟩:ByteArray),(⟨#[97,98]⟩:ByteArray),(⟨#[97,99]⟩:ByteArray),(⟨#[97,100]⟩:ByteArray),(⟨#[122,122]⟩:ByteArray)]:List ByteArray).length:Int)))) (ah ?_))
       refine au (aC rfl (bL hD_48) (aA ?_))
       unfold bC at hc_54
       refine au (aR (ai (eD fO rfl rfl (dh hD_48) rfl wz (bK sz9 ag9 rfl (vS x_47) rfl wz (aa (vS x_47) (ah (au ?_)))))))
       obtain ⟨v_58,h_59,hc_54⟩:=bind_some hc_54
       refine aN [(0,(.ref (ak 0) 0 0)),(5,(gV n_16 9 s_13.1)),(7,(vS x_10)),(8,(.ref n_36 0 0)),(10,(vS x_47)),(15,(vL eS y_6)),(16,(vI (y_6.length:Int))),(17,(vI (k_8:Int))),(48,(vL eS ([(⟨#[97,97]⟩:ByteArray),(⟨#[97,98]⟩:ByteArray),(⟨#[97,99]⟩:ByteArray),(⟨#[97,100]⟩:ByteArray),(⟨#[122,122]⟩:ByteArray)]:List ByteArray))),(49,(vI (([(⟨#[97,97]⟩:ByteArray),(⟨#[97,98]⟩:ByteArray),(⟨#[97,99]⟩:ByteArray),(⟨#[97,100]⟩:ByteArray),(⟨#[122,122]⟩:ByteArray)]:List ByteArray).length:Int))),(50,(vI (k_45:Int))),(60,(vB v_58.1))] [((ak 0),some (.cells 2 [(vL eI v_58.2.1),(vI v_58.2.2)])),(n_16,gB 9 Alert.enc s_13.1),(n_36,some (.cells 9 [(vS x_10),(vS r_21.1),(vI r_24.1),(gV n_53 1 s_50.1),(vI (w64 (r_27.1*5))),(vI (w64 ((w64 (r_27.1*5))+r_37.1))),(vI r_30.1),.nil,(vS r_33.1)])),(n_53,gB 1 eS s_50.1)] ?_ ?_
       ·refine av (aa (vS x_47) (aa (vS x_10) (aa (vB (sNe x_47 x_10)) ?_)))
        rcases aj h_59 with⟨hc_60,h_59⟩|⟨hc_60,h_59⟩
        ·refine ay rfl hc_60 wz (aH (.ref (ak 0) 0 0) wa rfl ?_)
         obtain ⟨r_61,hr_62,h_59⟩:=bind_some h_59
         refine aS 0 [0] il ft (fu hr_62) rfl IL rfl (by kernel_rfl) (by kernel_rfl) (by kernel_rfl) (by kernel_rfl) (by kernel_rfl) (by kernel_rfl) (by kernel_rfl) (by decide) (by kernel_rfl) wa (vB r_61.1) (by kernel_rfl) ([((ak 0),some (.cells 2 [(vL eI r_61.2.L),(vI r_61.2.f_at)])),(n_16,gB 9 Alert.enc s_13.1),(n_36,some (.cells 9 [(vS x_10),(vS r_21.1),(vI r_24.1),(gV n_53 1 s_50.1),(vI (w64 (r_27.1*5))),(vI (w64 ((w64 (r_27.1*5))+r_37.1))),(vI r_30.1),.nil,(vS r_33.1)])),(n_53,gB 1 eS s_50.1)]:Hp) (by kernel_rfl) (aa (vB r_61.1) (ah ?_))
         obtain rfl:=ae h_59
         exact cu
        ·refine ay rfl hc_60 wz (af (af (aa (vB false) (ah ?_))))
         obtain rfl:=ae h_59
         exact cu
       ·rintro ⟨⟩ _ sl_ H_ hp_ hq_
        refine aP _ hp_ hq_ ?_
        obtain ⟨v_64,h_65,hc_54⟩:=bind_some hc_54
        refine lG (β:=Nm) (λ(n_66:Nm)=>([(0,(.ref (ak 0) 0 0)),(5,(gV n_16 9 s_13.1)),(7,(vS x_10)),(8,(.ref n_36 0 0)),(15,(vL eS y_6)),(16,(vI (y_6.length:Int))),(17,(vI (k_8:Int))),(48,(vL eS ([(⟨#[97,97]⟩:ByteArray),(⟨#[97,98]⟩:ByteArray),(⟨#[97,99]⟩:ByteArray),(⟨#[97,100]⟩:ByteArray),(⟨#[122,122]⟩:ByteArray)]:List ByteArray))),(49,(vI (([(⟨#[97,97]⟩:ByteArray),(⟨#[97,98]⟩:ByteArray),(⟨#[97,99]⟩:ByteArray),(⟨#[97,100]⟩:ByteArray),(⟨#[122,122]⟩:ByteArray)]:List ByteArray).length:Int))),(50,(vI (k_45:Int)))]:SL_)) (λ(n_66:Nm)=>([((ak 0),some (.cells 2 [(vL eI v_58.2.1),(vI v_58.2.2)])),(n_16,gB 9 Alert.enc s_13.1),(n_36,some (.cells 9 [(vS x_10),(vS r_21.1),(vI r_24.1),(gV n_66 1 v_64),(vI (w64 (r_27.1*5))),(vI (w64 ((w64 (r_27.1*5))+r_37.1))),(vI r_30.1),.nil,(vS r_33.1)])),(n_66,gB 1 eS v_64)]:Hp)) (λ_=>True) ?_ ?_
        ·rcases aj h_65 with⟨hc_67,h_65⟩|⟨hc_67,h_65⟩
         ·refine aC rfl hc_67 (av (aG iK rfl 3 rfl wz (aI 0 2 il ft oI uP rfl rfl (gV n_53 1 s_50.1) rfl wz (aa (vS x_47) (di (([x_47]:List ByteArray).map eS) fO nE rfl rfl rfl rfl rfl wz ?_)))))
          obtain ⟨a_68,hz_69,h_65⟩:=bind_some h_65
          refine lS 0 il ft (i:=3) Cu Cu sz9 z9 rfl (by decide) by9 (by decide) (λ_=>rfl) rfl rfl rfl hz_69 wz (λn_70=>aG iK rfl 3 rfl wz (fe 0 il ft 2 oI rfl rfl [(vS x_10),(vS r_21.1),(vI r_24.1),(gV n_70 1 a_68),(vI (w64 (r_27.1*5))),(vI (w64 ((w64 (r_27.1*5))+r_37.1))),(vI r_30.1),.nil,(vS r_33.1)] (xJ rfl) wz (ah ?_)))
          obtain rfl:=ae h_65
          exact bD n_70 trivial rfl (aM rfl)
         ·refine aB rfl hc_67 (aA ?_)
          obtain rfl:=ae h_65
          exact bD n_53 trivial rfl (aM rfl)
        ·rintro n_66 _ sl_ H_ hp_ hq_
         refine aP _ hp_ hq_ (av (gY (cZ hD_48 hn_49) wz rfl (aa (vI ((k_45+1:Nat):Int)) (ah ?_))))
         obtain rfl:=ae hc_54
         exact bN (k_45+1,l_46,(v_64,v_58.2.1,v_58.2.2),n_66) ⟨hL_55,bn hD_48⟩ (ls_ _) rfl (aM rfl)
     ·rintro ⟨s_50,n_53⟩ ho_ sl_ H_ hp_ hq_
      subst ho_
      refine aP _ hp_ hq_ (ai (aG iK rfl 3 rfl wz (aI 0 2 il ft oI uP rfl rfl (gV n_53 1 s_50.1) rfl wz (mo kQ rfl wz (aa (vB ((s_50.1.length:Int)==0)) (ah ?_))))))
      rcases aj h_43 with⟨hc_71,h_43⟩|⟨hc_71,h_43⟩
      ·refine aC rfl hc_71 (av (di (([(⟨#[122,121]⟩:ByteArray)]:List ByteArray).map eS) fO nE rfl rfl rfl rfl rfl wz (aG iK rfl 3 rfl wz (fe 0 il ft 2 oI rfl rfl [(vS x_10),(vS r_21.1),(vI r_24.1),(vL eS ([(⟨#[122,121]⟩:ByteArray)]:List ByteArray)),(vI (w64 (r_27.1*5))),(vI (w64 ((w64 (r_27.1*5))+r_37.1))),(vI r_30.1),.nil,(vS r_33.1)] rfl wz (ah ?_)))))
       intro C_ b_ Q_ key_
       obtain rfl:=ae h_43
       exact key_ () trivial _ _ rfl (aM rfl)
      ·refine aB rfl hc_71 (aA ?_)
       intro C_ b_ Q_ key_
       refine iW 3 rfl (ji 69 3 rfl rfl (JC 3 2 [false,false,false,true,false,false,false,false,false] [(vS x_10),(vS r_21.1),(vI r_24.1),(vL eS s_50.1),(vI (w64 (r_27.1*5))),(vI (w64 ((w64 (r_27.1*5))+r_37.1))),(vI r_30.1),.nil,(vS r_33.1)] rfl rfl rfl (λS hS=>bU (rfl) (bU (rfl) (bU (rfl) (bU (hS) (bU (rfl) (bU (rfl) (bU (rfl) (bU (rfl) (bU (rfl) (rfl)))))))))) ?_))
       obtain rfl:=ae h_43
       exact key_ () trivial _ _ rfl (aM rfl)
    ·refine aB rfl hc_44 (aA ?_)
     intro C_ b_ Q_ key_
     refine Jp 2 [false,false,false,true,false,false,false,false,false] [(vS x_10),(vS r_21.1),(vI r_24.1),(vL eS ([]:List ByteArray)),(vI (w64 (r_27.1*5))),(vI (w64 ((w64 (r_27.1*5))+r_37.1))),(vI r_30.1),.nil,(vS r_33.1)] rfl rfl (λ_=>rfl) ?_
     obtain rfl:=ae h_43
     exact key_ () trivial _ _ rfl (aM rfl)
   ·rintro ⟨⟩ _ sl_ H_ hp_ hq_
    refine aP _ hp_ hq_ (au (ai (aG mr rfl 2 rfl wz (aI 0 2 il ft sz3 ag3 rfl rfl (vI r_24.1) rfl wz (aa (vB (r_24.1==3)) (ah (ni (λn_74 => ?_))))))))
    obtain ⟨v_75,h_76,hc_17⟩:=bind_some hc_17
    refine lG (β:=Nm) (λ(n_77:Nm)=>([(0,(.ref (ak 0) 0 0)),(5,(gV n_16 9 s_13.1)),(8,(.ref n_36 0 0)),(15,(vL eS y_6)),(16,(vI (y_6.length:Int))),(17,(vI (k_8:Int)))]:SL_)) (λ(n_77:Nm)=>([((ak 0),some (.cells 2 [(vL eI v_75.2.1),(vI v_75.2.2.1)])),(n_16,gB 9 Alert.enc s_13.1),(n_36,some (.cells 9 [(vS x_10),(vS r_21.1),(vI r_24.1),(vL eS v_42.2.2),(vI (w64 (r_27.1*5))),(vI (w64 ((w64 (r_27.1*5))+r_37.1))),(vI r_30.1),(gV n_77 4 v_75.1),(vS v_75.2.2.2)])),(n_77,gB 4 Rect.enc v_75.1)]:Hp)) (λ_=>True) ?_ ?_
    ·rcases aj h_76 with⟨hc_78,h_76⟩|⟨hc_78,h_76⟩
     ·refine aC rfl hc_78 (av (aa (.ref (ak 0) 0 0) (di (([(⟨#[]⟩:ByteArray),(⟨#[111,118,101,114]⟩:ByteArray)]:List ByteArray).map eS) fO nE rfl rfl rfl rfl rfl wz ?_)))
      obtain ⟨r_79,hr_80,h_76⟩:=bind_some h_76
      refine aS 0 [0] il ft (dD hr_80) rfl Cr rfl (by kernel_rfl) (by kernel_rfl) (by kernel_rfl) (by kernel_rfl) (by kernel_rfl) (by kernel_rfl) (by kernel_rfl) (by decide) (by kernel_rfl) wz (vS r_79.1) (by kernel_rfl) ([((ak 0),some (.cells 2 [(vL eI r_79.2.L),(vI r_79.2.f_at)])),(n_16,gB 9 Alert.enc s_13.1),(n_36,some (.cells 9 [(vS x_10),(vS r_21.1),(vI r_24.1),(vL eS v_42.2.2),(vI (w64 (r_27.1*5))),(vI (w64 ((w64 (r_27.1*5))+r_37.1))),(vI r_30.1),(gV n_74 4 ([]:List Rect)),(vS r_33.1)])),(n_74,gB 4 Rect.enc ([]:List Rect))]:Hp) (by kernel_rfl) (aG kC rfl 8 rfl wz (fe 0 il ft 2 sz9 rfl rfl [(vS x_10),(vS r_21.1),(vI r_24.1),(vL eS v_42.2.2),(vI (w64 (r_27.1*5))),(vI (w64 ((w64 (r_27.1*5))+r_37.1))),(vI r_30.1),(gV n_74 4 ([]:List Rect)),(vS r_79.1)] rfl wz (ah ?_)))
      obtain rfl:=ae h_76
      exact bD n_74 trivial rfl (aM rfl)
     ·refine aB rfl hc_78 (ai (aa (.ref (ak 0) 0 0) ?_))
      obtain ⟨r_82,hr_83,h_76⟩:=bind_some h_76
      refine aS 0 [0] il ft (bI hr_83) rfl zA rfl (by kernel_rfl) (by kernel_rfl) (by kernel_rfl) (by kernel_rfl) (by kernel_rfl) (by kernel_rfl) (by kernel_rfl) (by decide) (by kernel_rfl) wz (vI r_82.1) (by kernel_rfl) ([((ak 0),some (.cells 2 [(vL eI r_82.2.L),(vI r_82.2.f_at)])),(n_16,gB 9 Alert.enc s_13.1),(n_36,some (.cells 9 [(vS x_10),(vS r_21.1),(vI r_24.1),(vL eS v_42.2.2),(vI (w64 (r_27.1*5))),(vI (w64 ((w64 (r_27.1*5))+r_37.1))),(vI r_30.1),(gV n_74 4 ([]:List Rect)),(vS r_33.1)])),(n_74,gB 4 Rect.enc ([]:List Rect))]:Hp) (by kernel_rfl) (aa (vI 0) (ah ?_))
      obtain ⟨o_95,hj_96,h_76⟩:=bind_some h_76
      obtain ⟨hn_89,hj_96⟩:=bu hj_96
      refine iZ (σ:=(List Rect)×(List Int)×Int) (N:=Nm) (λp=>(λ(s_90:(List Rect)×(List Int)×Int) (n_92:Nm)=>([(0,(.ref (ak 0) 0 0)),(5,(gV n_16 9 s_13.1)),(8,(.ref n_36 0 0)),(15,(vL eS y_6)),(16,(vI (y_6.length:Int))),(17,(vI (k_8:Int)))]:SL_)) p.1 p.2) (λp=>(λ(s_90:(List Rect)×(List Int)×Int) (n_92:Nm)=>([((ak 0),some (.cells 2 [(vL eI s_90.2.1),(vI s_90.2.2)])),(n_16,gB 9 Alert.enc s_13.1),(n_36,some (.cells 9 [(vS x_10),(vS r_21.1),(vI r_24.1),(vL eS v_42.2.2),(vI (w64 (r_27.1*5))),(vI (w64 ((w64 (r_27.1*5))+r_37.1))),(vI r_30.1),(gV n_92 4 s_90.1),(vS r_33.1)])),(n_92,gB 4 Rect.enc s_90.1)]:Hp)) p.1 p.2) (λ(k_85:Nat)=>(λp=>(λ(s_90:(List Rect)×(List Int)×Int) (n_92:Nm)=>([(0,(.ref (ak 0) 0 0)),(5,(gV n_16 9 s_13.1)),(8,(.ref n_36 0 0)),(15,(vL eS y_6)),(16,(vI (y_6.length:Int))),(17,(vI (k_8:Int))),(82,(vI r_82.1)),(83,(vI (k_85:Int)))]:SL_)) p.1 p.2)) (λk x s=>bA k x s) o_95 (List.range (r_82.1).toNat) ((([]:List Rect),r_82.2.L,r_82.2.f_at),n_74) hj_96 rfl (aM rfl) ?_ ?_
      ·rintro ⟨k_85,l_86,s_90,n_92⟩ ⟨hL_94,hD_88⟩
       dsimp only at hL_94 hD_88
       cases l_86 with
       | nil =>
        obtain rfl:=ae hL_94
        refine ai (aa (vB (decide ((k_85:Int)<r_82.1))) (ah ?_))
        refine au (aB rfl (ru hD_88) (bO ?_))
        exact bD (s_90,n_92) rfl rfl (aM rfl)
       | cons x_87 l_86 =>
        obtain ⟨c_,hc_93,hL_94⟩:=bind_some hL_94
        refine ai (aa (vB (decide ((k_85:Int)<r_82.1))) (ah ?_))
        refine au (aC rfl (pQ hD_88) (aA ?_))
        unfold bA at hc_93
        refine au (aR (bQ (aG jE rfl 7 rfl wz (aI 1 2 (.inr (by kernel_rfl)) (λ_ _ ag=>trivial) rR xZ rfl rfl (gV n_92 4 s_90.1) rfl wz (aa (.ref (ak 0) 0 0) ?_)))))
        obtain ⟨r_97,hr_98,hc_93⟩:=bind_some hc_93
        refine aS 3 [0] (.inr (by kernel_rfl)) (λ_ _ ag=>by exact⟨.inr (.inl (K9 (CJ ag (i:=0) (j:=2) rfl rfl (by decide)))),trivial⟩) (ik hr_98) rfl hb38 rfl (by kernel_rfl) (by kernel_rfl) (by kernel_rfl) (by kernel_rfl) (by kernel_rfl) (by kernel_rfl) (by kernel_rfl) (by decide) (by kernel_rfl) wz (.d (.agg (Rect.enc r_97.1))) (by kernel_rfl) ([((ak 0),some (.cells 2 [(vL eI r_97.2.L),(vI r_97.2.f_at)])),(n_16,gB 9 Alert.enc s_13.1),(n_36,some (.cells 9 [(vS x_10),(vS r_21.1),(vI r_24.1),(vL eS v_42.2.2),(vI (w64 (r_27.1*5))),(vI (w64 ((w64 (r_27.1*5))+r_37.1))),(vI r_30.1),(gV n_92 4 s_90.1),(vS r_33.1)])),(n_92,gB 4 Rect.enc s_90.1)]:Hp) (by kernel_rfl) (di (([r_97.1]:List Rect).map Rect.enc) Au J2 rfl rfl rfl rfl rfl wz ?_)
        obtain ⟨a_100,hz_101,hc_93⟩:=bind_some hc_93
        refine lS 5 (.inr (by kernel_rfl)) (λ_ _ ag=>⟨.inr (.inr (by kernel_rfl)),⟨.inr (.inr (by kernel_rfl)),trivial⟩⟩) (i:=3) Ci Ci nW z64 rfl (by decide) MV (by decide) (λ_=>rfl) rfl rfl rfl hz_101 wz (λn_102=>aG jE rfl 7 rfl wz (fe 7 (.inr (by kernel_rfl)) (λ_ _ ag=>⟨.inr (.inr (by kernel_rfl)),⟨.inr (.inr (by kernel_rfl)),⟨.inr (.inr (by kernel_rfl)),trivial⟩⟩⟩) 2 rR rfl rfl [(vS x_10),(vS r_21.1),(vI r_24.1),(vL eS v_42.2.2),(vI (w64 (r_27.1*5))),(vI (w64 ((w64 (r_27.1*5))+r_37.1))),(vI r_30.1),(gV n_102 4 a_100),(vS r_33.1)] (xJ rfl) wz (ah (av (gY (rA hD_88 hn_89) wz rfl (aa (vI ((k_85+1:Nat):Int)) (ah ?_)))))))
        obtain rfl:=ae hc_93
        exact bN (k_85+1,l_86,(a_100,r_97.2.L,r_97.2.f_at),n_102) ⟨hL_94,bn hD_88⟩ (ls_ _) rfl (aM rfl)
      ·rintro ⟨s_90,n_92⟩ ho_ sl_ H_ hp_ hq_
       subst ho_
       obtain rfl:=ae h_76
       exact bD n_92 trivial (Jy [0,1,2,3,4,5] hp_ rfl) (Ma hq_ (aM rfl))
    ·rintro n_77 _ sl_ H_ hp_ hq_
     refine aP _ hp_ hq_ (iW 3 rfl (Hw 3 2 [(vS x_10),(vS r_21.1),(vI r_24.1),(vL eS v_42.2.2),(vI (w64 (r_27.1*5))),(vI (w64 ((w64 (r_27.1*5))+r_37.1))),(vI r_30.1),(vL Rect.enc v_75.1),(vS v_75.2.2.2)] rfl rfl (λS hS=>bU (rfl) (bU (rfl) (bU (rfl) (bU (rfl) (bU (rfl) (bU (rfl) (bU (rfl) (bU (hS) (bU (rfl) (rfl)))))))))) (av (aa (gV n_16 9 s_13.1) (aI 0 2 il ft iT mQ rfl rfl (.d (.agg (Alert.enc (⟨x_10,r_21.1,r_24.1,v_42.2.2,(w64 (r_27.1*5)),(w64 ((w64 (r_27.1*5))+r_37.1)),r_30.1,v_75.1,v_75.2.2.2⟩:Alert)))) rfl wz (di (([(⟨x_10,r_21.1,r_24.1,v_42.2.2,(w64 (r_27.1*5)),(w64 ((w64 (r_27.1*5))+r_37.1)),r_30.1,v_75.1,v_75.2.2.2⟩:Alert)]:List Alert).map Alert.enc) lJ IG rfl rfl rfl rfl rfl wz ?_))))))
     obtain ⟨a_103,hz_104,hc_17⟩:=bind_some hc_17
     refine lS 0 il ft (i:=1) Gg Gg iT z40 rfl (by decide) by40 (by decide) (λ_=>rfl) rfl rfl rfl hz_104 wz (λn_105=>aa (gV n_105 9 a_103) (ah (av (gY (cZ hD_11 hn_12) wz rfl (aa (vI ((k_8+1:Nat):Int)) (ah ?_))))))
     obtain rfl:=ae hc_17
     exact bN (k_8+1,l_9,(a_103,v_75.2.1,v_75.2.2.1),n_105) ⟨hL_18,bn hD_11⟩ (ls_ _) rfl (aM rfl)
 ·rintro ⟨s_13,n_16⟩ ho_ sl_ H_ hp_ hq_
  subst ho_
  refine aP _ hp_ hq_ (ai (aa (gV n_16 9 s_13.1) ?_))
  obtain ⟨r_106,hr_107,hF⟩:=bind_some hF
  obtain ⟨_,hs_108,hF⟩:=bind_some hF
  replace hs_108:=x8 hs_108
  refine zM 0 [] 1 0 il ft (fM hr_107) rfl hb39 rfl rfl rfl (by kernel_rfl) rfl (.inl rfl) rfl (by kernel_rfl) (by kernel_rfl) (by kernel_rfl) (by kernel_rfl) rfl (by decide) (by kernel_rfl) ze (JL hs_108) wz ([((ak 0),some (.cells 2 [(vL eI s_13.2.1),(vI s_13.2.2)])),(n_16,gB 9 Alert.enc r_106)]:Hp) (by kernel_rfl) (fq (v':=(gV n_16 9 r_106)) 5 rfl (cB hs_108.symm) (fq (v':=(gV n_16 9 r_106)) 98 rfl (cB hs_108.symm) (ah (ai (aa (gV n_16 9 r_106) (aa (gV n_16 9 r_106) (ah (iW 1 rfl (ji 4 1 rfl rfl (ji 5 1 rfl rfl (ji 98 1 rfl rfl (ji 100 1 rfl rfl ?_))))))))))))
  obtain rfl:=ae hF
  exact ax (rD (.inr rfl) [(vL Alert.enc r_106)] _ [0] [ak 0] ⟨rfl,trivial⟩ (.cons (fB rfl rfl) (.nil)) (by kernel_rfl) ⟨(by kernel_rfl),trivial⟩ (by decide) (by kernel_rfl))
theorem qc {s_1:Stream} {most_2:Int} {r:(List Alert)×Stream} (hF:bX s_1 most_2=some r) :
  FnM Tryz.prog 14 [(.ref (ak 0) 0 0),(vI most_2)] [(.cells 2 [(vL eI s_1.L),(vI s_1.f_at)])] (gV (ak 1) 9 r.1) (([(.cells 2 [(vL eI r.2.L),(vI r.2.f_at)])]:List Box).map some++gO 9 Alert.enc r.1):=by
 refine FnM.of_wH ⟨Tryz.prog,101,[],[]⟩ rfl Tryz.func14 rfl rfl (lb_ rfl) (by kernel_rfl) ?_
 unfold bX at hF
 refine ai (aa .nil (ah (ai (aa .nil (ah (au (ai (di (([(⟨#[97,97]⟩:ByteArray),(⟨#[97,98]⟩:ByteArray),(⟨#[97,99]⟩:ByteArray),(⟨#[97,100]⟩:ByteArray),(⟨#[97,101]⟩:ByteArray),(⟨#[97,102]⟩:ByteArray)]:List ByteArray).map eS) fO nE rfl rfl rfl rfl rfl wz (aa (.ref (ak 0) 0 0) (aa (vI most_2) ?_))))))))))
 obtain ⟨r_3,hr_4,hF⟩:=bind_some hF
 refine aS 0 [0] il ft (bI hr_4) rfl zA rfl (by kernel_rfl) (by kernel_rfl) (by kernel_rfl) (by kernel_rfl) (by kernel_rfl) (by kernel_rfl) (by kernel_rfl) (by decide) (by kernel_rfl) wz (vI r_3.1) (by kernel_rfl) ([((ak 0),some (.cells 2 [(vL eI r_3.2.L),(vI r_3.2.f_at)]))]:Hp) (by kernel_rfl) ?_
 obtain ⟨y_6,hy_7,hF⟩:=bind_some hF
 refine nX kQ sz9 (λ_=>rfl) rfl rfl hy_7 wz (dz kQ rfl wz (aa (vI 0) (ah (ni (λn_14 => ?_)))))
 obtain ⟨o_19,hj_20,hF⟩:=bind_some hF
 obtain ⟨hn_12,hj_20⟩:=bu hj_20
 refine iZ (σ:=(List Alert)×(List Int)×Int) (N:=Nm) (λp=>(λ(s_13:(List Alert)×(List Int)×Int) (n_16:Nm)=>([(5,(gV n_16 9 s_13.1))]:SL_)) p.1 p.2) (λp=>(λ(s_13:(List Alert)×(List Int)×Int) (n_16:Nm)=>([((ak 0),some (.cells 2 [(vL eI s_13.2.1),(vI s_13.2.2)])),(n_16,gB 9 Alert.enc s_13.1)]:Hp)) p.1 p.2) (λ(k_8:Nat)=>(λp=>(λ(s_13:(List Alert)×(List Int)×Int) (n_16:Nm)=>([(0,(.ref (ak 0) 0 0)),(5,(gV n_16 9 s_13.1)),(15,(vL eS y_6)),(16,(vI (y_6.length:Int))),(17,(vI (k_8:Int)))]:SL_)) p.1 p.2)) (λk x s=>bR k x s) o_19 y_6 ((([]:List Alert),r_3.2.L,r_3.2.f_at),n_14) hj_20 rfl (aM rfl) ?_ ?_
 ·rintro ⟨k_8,l_9,s_13,n_16⟩ ⟨hL_18,hD_11⟩
  dsimp only at hL_18 hD_11
  cases l_9 with
  | nil =>
   obtain rfl:=ae hL_18
   refine ai (aa (vB (decide ((k_8:Int)<(y_6.length:Int)))) (ah ?_))
   refine au (aB rfl (drop_nil hD_11) (bO ?_))
   exact bD (s_13,n_16) rfl rfl (aM rfl)
  | cons x_10 l_9 =>
   obtain ⟨c_,hc_17,hL_18⟩:=bind_some hL_18
   refine ai (aa (vB (decide ((k_8:Int)<(y_6.length:Int)))) (ah ?_))
   refine au (aC rfl (bL hD_11) (aA ?_))
   unfold bR at hc_17
   refine au (aR (ai (eD fO rfl rfl (dh hD_11) rfl wz (bK sz9 ag9 rfl (vS x_10) rfl wz (aa (vS x_10) (ah (ai (aa (vS x_10) (aa (.ref (ak 0) 0 0) (di (([(⟨#[119,120]⟩:ByteArray),(⟨#[119,120]⟩:ByteArray),(⟨#[102,105,114,101]⟩:ByteArray)]:List ByteArray).map eS) fO nE rfl rfl rfl rfl rfl wz ?_))))))))))
   obtain ⟨r_21,hr_22,hc_17⟩:=bind_some hc_17
   refine aS 0 [0] il ft (dD hr_22) rfl Cr rfl (by kernel_rfl) (by kernel_rfl) (by kernel_rfl) (by kernel_rfl) (by kernel_rfl) (by kernel_rfl) (by kernel_rfl) (by decide) (by kernel_rfl) wz (vS r_21.1) (by kernel_rfl) ([((ak 0),some (.cells 2 [(vL eI r_21.2.L),(vI r_21.2.f_at)])),(n_16,gB 9 Alert.enc s_13.1)]:Hp) (by kernel_rfl) (aa (.ref (ak 0) 0 0) (di (([1,1,2,2,3]:List Int).map eI) jZ uy rfl rfl rfl rfl rfl wz ?_))
   obtain ⟨r_24,hr_25,hc_17⟩:=bind_some hc_17
   refine aS 0 [0] il ft (dE hr_25) rfl Ct rfl (by kernel_rfl) (by kernel_rfl) (by kernel_rfl) (by kernel_rfl) (by kernel_rfl) (by kernel_rfl) (by kernel_rfl) (by decide) (by kernel_rfl) wz (vI r_24.1) (by kernel_rfl) ([((ak 0),some (.cells 2 [(vL eI r_24.2.L),(vI r_24.2.f_at)])),(n_16,gB 9 Alert.enc s_13.1)]:Hp) (by kernel_rfl) (aa (.ref (ak 0) 0 0) ?_)
   obtain ⟨r_27,hr_28,hc_17⟩:=bind_some hc_17
   refine aS 0 [0] il ft (bI hr_28) rfl zA rfl (by kernel_rfl) (by kernel_rfl) (by kernel_rfl) (by kernel_rfl) (by kernel_rfl) (by kernel_rfl) (by kernel_rfl) (by decide) (by kernel_rfl) wz (vI r_27.1) (by kernel_rfl) ([((ak 0),some (.cells 2 [(vL eI r_27.2.L),(vI r_27.2.f_at)])),(n_16,gB 9 Alert.enc s_13.1)]:Hp) (by kernel_rfl) (aa (vI (w64 (r_27.1*5))) (aa (.ref (ak 0) 0 0) (di (([1,5,5,9]:List Int).map eI) jZ uy rfl rfl rfl rfl rfl wz ?_)))
   obtain ⟨r_30,hr_31,hc_17⟩:=bind_some hc_17
   refine aS 0 [0] il ft (dE hr_31) rfl Ct rfl (by kernel_rfl) (by kernel_rfl) (by kernel_rfl) (by kernel_rfl) (by kernel_rfl) (by kernel_rfl) (by kernel_rfl) (by decide) (by kernel_rfl) wz (vI r_30.1) (by kernel_rfl) ([((ak 0),some (.cells 2 [(vL eI r_30.2.L),(vI r_30.2.f_at)])),(n_16,gB 9 Alert.enc s_13.1)]:Hp) (by kernel_rfl) (aa (.ref (ak 0) 0 0) (di (([(⟨#[102,108,111,111,100]⟩:ByteArray),(⟨#[102,105,114,101,32,105,110,32,116,104,101,32,109,97,108,108]⟩:ByteArray)]:List ByteArray).map eS) fO nE rfl rfl rfl rfl rfl wz ?_))
   obtain ⟨r_33,hr_34,hc_17⟩:=bind_some hc_17
   refine aS 0 [0] il ft (dD hr_34) rfl Cr rfl (by kernel_rfl) (by kernel_rfl) (by kernel_rfl) (by kernel_rfl) (by kernel_rfl) (by kernel_rfl) (by kernel_rfl) (by decide) (by kernel_rfl) wz (vS r_33.1) (by kernel_rfl) ([((ak 0),some (.cells 2 [(vL eI r_33.2.L),(vI r_33.2.f_at)])),(n_16,gB 9 Alert.enc s_13.1)]:Hp) (by kernel_rfl) (aH (.agg [(vS x_10),(vS r_21.1),(vI r_24.1),.nil,(vI (w64 (r_27.1*5))),(vI 0),(vI r_30.1),.nil,(vS r_33.1)]) wz (by kernel_rfl) (gN 0 (.inl rfl) z40 rfl wz (λn_36=>fe 0 il ft 2 iT rfl rfl [(vS x_10),(vS r_21.1),(vI r_24.1),.nil,(vI (w64 (r_27.1*5))),(vI 0),(vI r_30.1),.nil,(vS r_33.1)] rfl wz (ah (au (bQ (aG jb rfl 4 rfl wz (aI 1 2 (.inr (by kernel_rfl)) (λ_ _ ag=>trivial) sz3 ag3 rfl rfl (vI (w64 (r_27.1*5))) rfl wz (aa (.ref (ak 0) 0 0) (di (([1,10,20,50]:List Int).map eI) jZ uy rfl rfl rfl rfl rfl wz ?_))))))))))
   obtain ⟨r_37,hr_38,hc_17⟩:=bind_some hc_17
   refine aS 4 [0] (.inr (by kernel_rfl)) (λ_ _ ag=>by exact⟨.inr (.inl (K9 (CJ ag (i:=0) (j:=2) rfl rfl (by decide)))),trivial⟩) (dE hr_38) rfl Ct rfl (by kernel_rfl) (by kernel_rfl) (by kernel_rfl) (by kernel_rfl) (by kernel_rfl) (by kernel_rfl) (by kernel_rfl) (by decide) (by kernel_rfl) wz (vI r_37.1) (by kernel_rfl) ([((ak 0),some (.cells 2 [(vL eI r_37.2.L),(vI r_37.2.f_at)])),(n_16,gB 9 Alert.enc s_13.1),(n_36,some (.cells 9 [(vS x_10),(vS r_21.1),(vI r_24.1),.nil,(vI (w64 (r_27.1*5))),(vI 0),(vI r_30.1),.nil,(vS r_33.1)]))]:Hp) (by kernel_rfl) (aa (vI (w64 ((w64 (r_27.1*5))+r_37.1))) (aG wC rfl 5 rfl wz (fe 7 (.inr (by kernel_rfl)) (λ_ _ ag=>⟨.inr (.inr (by kernel_rfl)),⟨.inr (.inr (by kernel_rfl)),trivial⟩⟩) 2 sz3 rfl rfl [(vS x_10),(vS r_21.1),(vI r_24.1),.nil,(vI (w64 (r_27.1*5))),(vI (w64 ((w64 (r_27.1*5))+r_37.1))),(vI r_30.1),.nil,(vS r_33.1)] rfl wz (ah (aP (H0:=([((ak 0),some (.cells 2 [(vL eI r_37.2.L),(vI r_37.2.f_at)])),(n_16,gB 9 Alert.enc s_13.1),(n_36,some (.cells 9 [(vS x_10),(vS r_21.1),(vI r_24.1),.nil,(vI (w64 (r_27.1*5))),(vI (w64 ((w64 (r_27.1*5))+r_37.1))),(vI r_30.1),.nil,(vS r_33.1)]))]:Hp)) ([(0,(.ref (ak 0) 0 0)),(5,(gV n_16 9 s_13.1)),(7,(vS x_10)),(8,(.ref n_36 0 0)),(15,(vL eS y_6)),(16,(vI (y_6.length:Int))),(17,(vI (k_8:Int)))]:SL_) (by kernel_rfl) (qb (by kernel_rfl)) (au (ai (aG mr rfl 2 rfl wz (aI 0 2 il ft sz3 ag3 rfl rfl (vI r_24.1) rfl wz (aa (vB (r_24.1 != 1)) (ah ?_)))))))))))
   obtain ⟨v_42,h_43,hc_17⟩:=bind_some hc_17
   refine GL (β:=Unit) (λ_=>([(0,(.ref (ak 0) 0 0)),(5,(gV n_16 9 s_13.1)),(8,(.ref n_36 0 0)),(15,(vL eS y_6)),(16,(vI (y_6.length:Int))),(17,(vI (k_8:Int)))]:SL_)) (λ_=>([((ak 0),some (.cells 2 [(vL eI v_42.1),(vI v_42.2.1)])),(n_16,gB 9 Alert.enc s_13.1),(n_36,some (.cells 9 [(vS x_10),(vS r_21.1),(vI r_24.1),(vL eS v_42.2.2),(vI (w64 (r_27.1*5))),(vI (w64 ((w64 (r_27.1*5))+r_37.1))),(vI r_30.1),.nil,(vS r_33.1)]))]:Hp)) (λ_=>True) ?_ ?_
   ·rcases aj h_43 with⟨hc_44,h_43⟩|⟨hc_44,h_43⟩
    ·refine aC rfl hc_44 (au (ai (di (([(⟨#[97,97]⟩:ByteArray),(⟨#[97,98]⟩:ByteArray),(⟨#[97,99]⟩:ByteArray),(⟨#[97,100]⟩:ByteArray),(⟨#[122,122]⟩:ByteArray)]:List ByteArray).map eS) fO nE rfl rfl rfl rfl rfl wz (dz kQ rfl wz (aa (vI 0) (ah (ni (λn_51 => ?_))))))))
     obtain ⟨o_56,hj_57,h_43⟩:=bind_some h_43
     obtain ⟨hn_49,hj_57⟩:=bu hj_57
     refine iZ (σ:=(List ByteArray)×(List Int)×Int) (N:=Nm) (λp=>(λ(s_50:(List ByteArray)×(List Int)×Int) (n_53:Nm)=>([(0,(.ref (ak 0) 0 0)),(5,(gV n_16 9 s_13.1)),(8,(.ref n_36 0 0)),(15,(vL eS y_6)),(16,(vI (y_6.length:Int))),(17,(vI (k_8:Int)))]:SL_)) p.1 p.2) (λp=>(λ(s_50:(List ByteArray)×(List Int)×Int) (n_53:Nm)=>([((ak 0),some (.cells 2 [(vL eI s_50.2.1),(vI s_50.2.2)])),(n_16,gB 9 Alert.enc s_13.1),(n_36,some (.cells 9 [(vS x_10),(vS r_21.1),(vI r_24.1),(gV n_53 1 s_50.1),(vI (w64 (r_27.1*5))),(vI (w64 ((w64 (r_27.1*5))+r_37.1))),(vI r_30.1),.nil,(vS r_33.1)])),(n_53,gB 1 eS s_50.1)]:Hp)) p.1 p.2) (λ(k_45:Nat)=>(λp=>(λ(s_50:(List ByteArray)×(List Int)×Int) (n_53:Nm)=>([(0,(.ref (ak 0) 0 0)),(5,(gV n_16 9 s_13.1)),(7,(vS x_10)),(8,(.ref n_36 0 0)),(15,(vL eS y_6)),(16,(vI (y_6.length:Int))),(17,(vI (k_8:Int))),(48,(vL eS ([(⟨#[97,97]⟩:ByteArray),(⟨#[97,98]⟩:ByteArray),(⟨#[97,99]⟩:ByteArray),(⟨#[97,100]⟩:ByteArray),(⟨#[122,122]⟩:ByteArray)]:List ByteArray))),(49,(vI (([(⟨#[97,97]⟩:ByteArray),(⟨#[97,98]⟩:ByteArray),(⟨#[97,99]⟩:ByteArray),(⟨#[97,100]⟩:ByteArray),(⟨#[122,122]⟩:ByteArray)]:List ByteArray).length:Int))),(50,(vI (k_45:Int)))]:SL_)) p.1 p.2)) (λk x s=>bC x_10 k x s) o_56 ([(⟨#[97,97]⟩:ByteArray),(⟨#[97,98]⟩:ByteArray),(⟨#[97,99]⟩:ByteArray),(⟨#[97,100]⟩:ByteArray),(⟨#[122,122]⟩:ByteArray)]:List ByteArray) ((([]:List ByteArray),r_37.2.L,r_37.2.f_at),n_51) hj_57 rfl (aM rfl) ?_ ?_
     ·rintro ⟨k_45,l_46,s_50,n_53⟩ ⟨hL_55,hD_48⟩
      dsimp only at hL_55 hD_48
      cases l_46 with
      | nil =>
       obtain rfl:=ae hL_55
       refine ai (aa (vB (decide ((k_45:Int)<(([(⟨#[97,97]⟩:ByteArray),(⟨#[97,98]⟩:ByteArray),(⟨#[97,99]⟩:ByteArray),(⟨#[97,100]⟩:ByteArray),(⟨#[122,122]⟩:ByteArray)]:List ByteArray).length:Int)))) (ah ?_))
       refine au (aB rfl (drop_nil hD_48) (bO ?_))
       exact bD (s_50,n_53) rfl rfl (aM rfl)
      | cons x_47 l_46 =>
       obtain ⟨c_,hc_54,hL_55⟩:=bind_some hL_55
       refine ai (aa (vB (decide ((k_45:Int)<(([(⟨#[97,97]⟩:ByteArray),(⟨#[97,98]⟩:ByteArray),(⟨#[97,99]⟩:ByteArray),(⟨#[97,100]⟩:ByteArray),(⟨#[122,122]⟩:ByteArray)]:List ByteArray).length:Int)))) (ah ?_))
       refine au (aC rfl (bL hD_48) (aA ?_))
       unfold bC at hc_54
       refine au (aR (ai (eD fO rfl rfl (dh hD_48) rfl wz (bK sz9 ag9 rfl (vS x_47) rfl wz (aa (vS x_47) (ah (au ?_)))))))
       obtain ⟨v_58,h_59,hc_54⟩:=bind_some hc_54
       refine aN [(0,(.ref (ak 0) 0 0)),(5,(gV n_16 9 s_13.1)),(7,(vS x_10)),(8,(.ref n_36 0 0)),(10,(vS x_47)),(15,(vL eS y_6)),(16,(vI (y_6.length:Int))),(17,(vI (k_8:Int))),(48,(vL eS ([(⟨#[97,97]⟩:ByteArray),(⟨#[97,98]⟩:ByteArray),(⟨#[97,99]⟩:ByteArray),(⟨#[97,100]⟩:ByteArray),(⟨#[122,122]⟩:ByteArray)]:List ByteArray))),(49,(vI (([(⟨#[97,97]⟩:ByteArray),(⟨#[97,98]⟩:ByteArray),(⟨#[97,99]⟩:ByteArray),(⟨#[97,100]⟩:ByteArray),(⟨#[122,122]⟩:ByteArray)]:List ByteArray).length:Int))),(50,(vI (k_45:Int))),(60,(vB v_58.1))] [((ak 0),some (.cells 2 [(vL eI v_58.2.1),(vI v_58.2.2)])),(n_16,gB 9 Alert.enc s_13.1),(n_36,some (.cells 9 [(vS x_10),(vS r_21.1),(vI r_24.1),(gV n_53 1 s_50.1),(vI (w64 (r_27.1*5))),(vI (w64 ((w64 (r_27.1*5))+r_37.1))),(vI r_30.1),.nil,(vS r_33.1)])),(n_53,gB 1 eS s_50.1)] ?_ ?_
       ·refine av (aa (vS x_47) (aa (vS x_10) (aa (vB (sNe x_47 x_10)) ?_)))
        rcases aj h_59 with⟨hc_60,h_59⟩|⟨hc_60,h_59⟩
        ·refine ay rfl hc_60 wz (aH (.ref (ak 0) 0 0) wa rfl ?_)
         obtain ⟨r_61,hr_62,h_59⟩:=bind_some h_59
         refine aS 0 [0] il ft (fu hr_62) rfl IL rfl (by kernel_rfl) (by kernel_rfl) (by kernel_rfl) (by kernel_rfl) (by kernel_rfl) (by kernel_rfl) (by kernel_rfl) (by decide) (by kernel_rfl) wa (vB r_61.1) (by kernel_rfl) ([((ak 0),some (.cells 2 [(vL eI r_61.2.L),(vI r_61.2.f_at)])),(n_16,gB 9 Alert.enc s_13.1),(n_36,some (.cells 9 [(vS x_10),(vS r_21.1),(vI r_24.1),(gV n_53 1 s_50.1),(vI (w64 (r_27.1*5))),(vI (w64 ((w64 (r_27.1*5))+r_37.1))),(vI r_30.1),.nil,(vS r_33.1)])),(n_53,gB 1 eS s_50.1)]:Hp) (by kernel_rfl) (aa (vB r_61.1) (ah ?_))
         obtain rfl:=ae h_59
         exact cu
        ·refine ay rfl hc_60 wz (af (af (aa (vB false) (ah ?_))))
         obtain rfl:=ae h_59
         exact cu
       ·rintro ⟨⟩ _ sl_ H_ hp_ hq_
        refine aP _ hp_ hq_ ?_
        obtain ⟨v_64,h_65,hc_54⟩:=bind_some hc_54
        refine lG (β:=Nm) (λ(n_66:Nm)=>([(0,(.ref (ak 0) 0 0)),(5,(gV n_16 9 s_13.1)),(7,(vS x_10)),(8,(.ref n_36 0 0)),(15,(vL eS y_6)),(16,(vI (y_6.length:Int))),(17,(vI (k_8:Int))),(48,(vL eS ([(⟨#[97,97]⟩:ByteArray),(⟨#[97,98]⟩:ByteArray),(⟨#[97,99]⟩:ByteArray),(⟨#[97,100]⟩:ByteArray),(⟨#[122,122]⟩:ByteArray)]:List ByteArray))),(49,(vI (([(⟨#[97,97]⟩:ByteArray),(⟨#[97,98]⟩:ByteArray),(⟨#[97,99]⟩:ByteArray),(⟨#[97,100]⟩:ByteArray),(⟨#[122,122]⟩:ByteArray)]:List ByteArray).length:Int))),(50,(vI (k_45:Int)))]:SL_)) (λ(n_66:Nm)=>([((ak 0),some (.cells 2 [(vL eI v_58.2.1),(vI v_58.2.2)])),(n_16,gB 9 Alert.enc s_13.1),(n_36,some (.cells 9 [(vS x_10),(vS r_21.1),(vI r_24.1),(gV n_66 1 v_64),(vI (w64 (r_27.1*5))),(vI (w64 ((w64 (r_27.1*5))+r_37.1))),(vI r_30.1),.nil,(vS r_33.1)])),(n_66,gB 1 eS v_64)]:Hp)) (λ_=>True) ?_ ?_
        ·rcases aj h_65 with⟨hc_67,h_65⟩|⟨hc_67,h_65⟩
         ·refine aC rfl hc_67 (av (aG iK rfl 3 rfl wz (aI 0 2 il ft oI uP rfl rfl (gV n_53 1 s_50.1) rfl wz (aa (vS x_47) (di (([x_47]:List ByteArray).map eS) fO nE rfl rfl rfl rfl rfl wz ?_)))))
          obtain ⟨a_68,hz_69,h_65⟩:=bind_some h_65
          refine lS 0 il ft (i:=3) Cu Cu sz9 z9 rfl (by decide) by9 (by decide) (λ_=>rfl) rfl rfl rfl hz_69 wz (λn_70=>aG iK rfl 3 rfl wz (fe 0 il ft 2 oI rfl rfl [(vS x_10),(vS r_21.1),(vI r_24.1),(gV n_70 1 a_68),(vI (w64 (r_27.1*5))),(vI (w64 ((w64 (r_27.1*5))+r_37.1))),(vI r_30.1),.nil,(vS r_33.1)] (xJ rfl) wz (ah ?_)))
          obtain rfl:=ae h_65
          exact bD n_70 trivial rfl (aM rfl)
         ·refine aB rfl hc_67 (aA ?_)
          obtain rfl:=ae h_65
          exact bD n_53 trivial rfl (aM rfl)
        ·rintro n_66 _ sl_ H_ hp_ hq_
         refine aP _ hp_ hq_ (av (gY (cZ hD_48 hn_49) wz rfl (aa (vI ((k_45+1:Nat):Int)) (ah ?_))))
         obtain rfl:=ae hc_54
         exact bN (k_45+1,l_46,(v_64,v_58.2.1,v_58.2.2),n_66) ⟨hL_55,bn hD_48⟩ (ls_ _) rfl (aM rfl)
     ·rintro ⟨s_50,n_53⟩ ho_ sl_ H_ hp_ hq_
      subst ho_
      refine aP _ hp_ hq_ (ai (aG iK rfl 3 rfl wz (aI 0 2 il ft oI uP rfl rfl (gV n_53 1 s_50.1) rfl wz (mo kQ rfl wz (aa (vB ((s_50.1.length:Int)==0)) (ah ?_))))))
      rcases aj h_43 with⟨hc_71,h_43⟩|⟨hc_71,h_43⟩
      ·refine aC rfl hc_71 (av (di (([(⟨#[122,121]⟩:ByteArray)]:List ByteArray).map eS) fO nE rfl rfl rfl rfl rfl wz (aG iK rfl 3 rfl wz (fe 0 il ft 2 oI rfl rfl [(vS x_10),(vS r_21.1),(vI r_24.1),(vL eS ([(⟨#[122,121]⟩:ByteArray)]:List ByteArray)),(vI (w64 (r_27.1*5))),(vI (w64 ((w64 (r_27.1*5))+r_37.1))),(vI r_30.1),.nil,(vS r_33.1)] rfl wz (ah ?_)))))
       intro C_ b_ Q_ key_
       obtain rfl:=ae h_43
       exact key_ () trivial _ _ rfl (aM rfl)
      ·refine aB rfl hc_71 (aA ?_)
       intro C_ b_ Q_ key_
       refine iW 3 rfl (ji 69 3 rfl rfl (JC 3 2 [false,false,false,true,false,false,false,false,false] [(vS x_10),(vS r_21.1),(vI r_24.1),(vL eS s_50.1),(vI (w64 (r_27.1*5))),(vI (w64 ((w64 (r_27.1*5))+r_37.1))),(vI r_30.1),.nil,(vS r_33.1)] rfl rfl rfl (λS hS=>bU (rfl) (bU (rfl) (bU (rfl) (bU (hS) (bU (rfl) (bU (rfl) (bU (rfl) (bU (rfl) (bU (rfl) (rfl)))))))))) ?_))
       obtain rfl:=ae h_43
       exact key_ () trivial _ _ rfl (aM rfl)
    ·refine aB rfl hc_44 (aA ?_)
     intro C_ b_ Q_ key_
     refine Jp 2 [false,false,false,true,false,false,false,false,false] [(vS x_10),(vS r_21.1),(vI r_24.1),(vL eS ([]:List ByteArray)),(vI (w64 (r_27.1*5))),(vI (w64 ((w64 (r_27.1*5))+r_37.1))),(vI r_30.1),.nil,(vS r_33.1)] rfl rfl (λ_=>rfl) ?_
     obtain rfl:=ae h_43
     exact key_ () trivial _ _ rfl (aM rfl)
   ·rintro ⟨⟩ _ sl_ H_ hp_ hq_
    refine aP _ hp_ hq_ (au (ai (aG mr rfl 2 rfl wz (aI 0 2 il ft sz3 ag3 rfl rfl (vI r_24.1) rfl wz (aa (vB (r_24.1==3)) (ah (ni (λn_74 => ?_))))))))
    obtain ⟨v_75,h_76,hc_17⟩:=bind_some hc_17
    refine lG (β:=Nm) (λ(n_77:Nm)=>([(0,(.ref (ak 0) 0 0)),(5,(gV n_16 9 s_13.1)),(8,(.ref n_36 0 0)),(15,(vL eS y_6)),(16,(vI (y_6.length:Int))),(17,(vI (k_8:Int)))]:SL_)) (λ(n_77:Nm)=>([((ak 0),some (.cells 2 [(vL eI v_75.2.1),(vI v_75.2.2.1)])),(n_16,gB 9 Alert.enc s_13.1),(n_36,some (.cells 9 [(vS x_10),(vS r_21.1),(vI r_24.1),(vL eS v_42.2.2),(vI (w64 (r_27.1*5))),(vI (w64 ((w64 (r_27.1*5))+r_37.1))),(vI r_30.1),(gV n_77 4 v_75.1),(vS v_75.2.2.2)])),(n_77,gB 4 Rect.enc v_75.1)]:Hp)) (λ_=>True) ?_ ?_
    ·rcases aj h_76 with⟨hc_78,h_76⟩|⟨hc_78,h_76⟩
     ·refine aC rfl hc_78 (av (aa (.ref (ak 0) 0 0) (di (([(⟨#[]⟩:ByteArray),(⟨#[111,118,101,114]⟩:ByteArray)]:List ByteArray).map eS) fO nE rfl rfl rfl rfl rfl wz ?_)))
      obtain ⟨r_79,hr_80,h_76⟩:=bind_some h_76
      refine aS 0 [0] il ft (dD hr_80) rfl Cr rfl (by kernel_rfl) (by kernel_rfl) (by kernel_rfl) (by kernel_rfl) (by kernel_rfl) (by kernel_rfl) (by kernel_rfl) (by decide) (by kernel_rfl) wz (vS r_79.1) (by kernel_rfl) ([((ak 0),some (.cells 2 [(vL eI r_79.2.L),(vI r_79.2.f_at)])),(n_16,gB 9 Alert.enc s_13.1),(n_36,some (.cells 9 [(vS x_10),(vS r_21.1),(vI r_24.1),(vL eS v_42.2.2),(vI (w64 (r_27.1*5))),(vI (w64 ((w64 (r_27.1*5))+r_37.1))),(vI r_30.1),(gV n_74 4 ([]:List Rect)),(vS r_33.1)])),(n_74,gB 4 Rect.enc ([]:List Rect))]:Hp) (by kernel_rfl) (aG kC rfl 8 rfl wz (fe 0 il ft 2 sz9 rfl rfl [(vS x_10),(vS r_21.1),(vI r_24.1),(vL eS v_42.2.2),(vI (w64 (r_27.1*5))),(vI (w64 ((w64 (r_27.1*5))+r_37.1))),(vI r_30.1),(gV n_74 4 ([]:List Rect)),(vS r_79.1)] rfl wz (ah ?_)))
      obtain rfl:=ae h_76
      exact bD n_74 trivial rfl (aM rfl)
     ·refine aB rfl hc_78 (ai (aa (.ref (ak 0) 0 0) ?_))
      obtain ⟨r_82,hr_83,h_76⟩:=bind_some h_76
      refine aS 0 [0] il ft (bI hr_83) rfl zA rfl (by kernel_rfl) (by kernel_rfl) (by kernel_rfl) (by kernel_rfl) (by kernel_rfl) (by kernel_rfl) (by kernel_rfl) (by decide) (by kernel_rfl) wz (vI r_82.1) (by kernel_rfl) ([((ak 0),some (.cells 2 [(vL eI r_82.2.L),(vI r_82.2.f_at)])),(n_16,gB 9 Alert.enc s_13.1),(n_36,some (.cells 9 [(vS x_10),(vS r_21.1),(vI r_24.1),(vL eS v_42.2.2),(vI (w64 (r_27.1*5))),(vI (w64 ((w64 (r_27.1*5))+r_37.1))),(vI r_30.1),(gV n_74 4 ([]:List Rect)),(vS r_33.1)])),(n_74,gB 4 Rect.enc ([]:List Rect))]:Hp) (by kernel_rfl) (aa (vI 0) (ah ?_))
      obtain ⟨o_95,hj_96,h_76⟩:=bind_some h_76
      obtain ⟨hn_89,hj_96⟩:=bu hj_96
      refine iZ (σ:=(List Rect)×(List Int)×Int) (N:=Nm) (λp=>(λ(s_90:(List Rect)×(List Int)×Int) (n_92:Nm)=>([(0,(.ref (ak 0) 0 0)),(5,(gV n_16 9 s_13.1)),(8,(.ref n_36 0 0)),(15,(vL eS y_6)),(16,(vI (y_6.length:Int))),(17,(vI (k_8:Int)))]:SL_)) p.1 p.2) (λp=>(λ(s_90:(List Rect)×(List Int)×Int) (n_92:Nm)=>([((ak 0),some (.cells 2 [(vL eI s_90.2.1),(vI s_90.2.2)])),(n_16,gB 9 Alert.enc s_13.1),(n_36,some (.cells 9 [(vS x_10),(vS r_21.1),(vI r_24.1),(vL eS v_42.2.2),(vI (w64 (r_27.1*5))),(vI (w64 ((w64 (r_27.1*5))+r_37.1))),(vI r_30.1),(gV n_92 4 s_90.1),(vS r_33.1)])),(n_92,gB 4 Rect.enc s_90.1)]:Hp)) p.1 p.2) (λ(k_85:Nat)=>(λp=>(λ(s_90:(List Rect)×(List Int)×Int) (n_92:Nm)=>([(0,(.ref (ak 0) 0 0)),(5,(gV n_16 9 s_13.1)),(8,(.ref n_36 0 0)),(15,(vL eS y_6)),(16,(vI (y_6.length:Int))),(17,(vI (k_8:Int))),(82,(vI r_82.1)),(83,(vI (k_85:Int)))]:SL_)) p.1 p.2)) (λk x s=>bA k x s) o_95 (List.range (r_82.1).toNat) ((([]:List Rect),r_82.2.L,r_82.2.f_at),n_74) hj_96 rfl (aM rfl) ?_ ?_
      ·rintro ⟨k_85,l_86,s_90,n_92⟩ ⟨hL_94,hD_88⟩
       dsimp only at hL_94 hD_88
       cases l_86 with
       | nil =>
        obtain rfl:=ae hL_94
        refine ai (aa (vB (decide ((k_85:Int)<r_82.1))) (ah ?_))
        refine au (aB rfl (ru hD_88) (bO ?_))
        exact bD (s_90,n_92) rfl rfl (aM rfl)
       | cons x_87 l_86 =>
        obtain ⟨c_,hc_93,hL_94⟩:=bind_some hL_94
        refine ai (aa (vB (decide ((k_85:Int)<r_82.1))) (ah ?_))
        refine au (aC rfl (pQ hD_88) (aA ?_))
        unfold bA at hc_93
        refine au (aR (bQ (aG jE rfl 7 rfl wz (aI 1 2 (.inr (by kernel_rfl)) (λ_ _ ag=>trivial) rR xZ rfl rfl (gV n_92 4 s_90.1) rfl wz (aa (.ref (ak 0) 0 0) ?_)))))
        obtain ⟨r_97,hr_98,hc_93⟩:=bind_some hc_93
        refine aS 3 [0] (.inr (by kernel_rfl)) (λ_ _ ag=>by exact⟨.inr (.inl (K9 (CJ ag (i:=0) (j:=2) rfl rfl (by decide)))),trivial⟩) (ik hr_98) rfl hb38 rfl (by kernel_rfl) (by kernel_rfl) (by kernel_rfl) (by kernel_rfl) (by kernel_rfl) (by kernel_rfl) (by kernel_rfl) (by decide) (by kernel_rfl) wz (.d (.agg (Rect.enc r_97.1))) (by kernel_rfl) ([((ak 0),some (.cells 2 [(vL eI r_97.2.L),(vI r_97.2.f_at)])),(n_16,gB 9 Alert.enc s_13.1),(n_36,some (.cells 9 [(vS x_10),(vS r_21.1),(vI r_24.1),(vL eS v_42.2.2),(vI (w64 (r_27.1*5))),(vI (w64 ((w64 (r_27.1*5))+r_37.1))),(vI r_30.1),(gV n_92 4 s_90.1),(vS r_33.1)])),(n_92,gB 4 Rect.enc s_90.1)]:Hp) (by kernel_rfl) (di (([r_97.1]:List Rect).map Rect.enc) Au J2 rfl rfl rfl rfl rfl wz ?_)
        obtain ⟨a_100,hz_101,hc_93⟩:=bind_some hc_93
        refine lS 5 (.inr (by kernel_rfl)) (λ_ _ ag=>⟨.inr (.inr (by kernel_rfl)),⟨.inr (.inr (by kernel_rfl)),trivial⟩⟩) (i:=3) Ci Ci nW z64 rfl (by decide) MV (by decide) (λ_=>rfl) rfl rfl rfl hz_101 wz (λn_102=>aG jE rfl 7 rfl wz (fe 7 (.inr (by kernel_rfl)) (λ_ _ ag=>⟨.inr (.inr (by kernel_rfl)),⟨.inr (.inr (by kernel_rfl)),⟨.inr (.inr (by kernel_rfl)),trivial⟩⟩⟩) 2 rR rfl rfl [(vS x_10),(vS r_21.1),(vI r_24.1),(vL eS v_42.2.2),(vI (w64 (r_27.1*5))),(vI (w64 ((w64 (r_27.1*5))+r_37.1))),(vI r_30.1),(gV n_102 4 a_100),(vS r_33.1)] (xJ rfl) wz (ah (av (gY (rA hD_88 hn_89) wz rfl (aa (vI ((k_85+1:Nat):Int)) (ah ?_)))))))
        obtain rfl:=ae hc_93
        exact bN (k_85+1,l_86,(a_100,r_97.2.L,r_97.2.f_at),n_102) ⟨hL_94,bn hD_88⟩ (ls_ _) rfl (aM rfl)
      ·rintro ⟨s_90,n_92⟩ ho_ sl_ H_ hp_ hq_
       subst ho_
       obtain rfl:=ae h_76
       exact bD n_92 trivial (Jy [0,1,2,3,4,5] hp_ rfl) (Ma hq_ (aM rfl))
    ·rintro n_77 _ sl_ H_ hp_ hq_
     refine aP _ hp_ hq_ (iW 3 rfl (Hw 3 2 [(vS x_10),(vS r_21.1),(vI r_24.1),(vL eS v_42.2.2),(vI (w64 (r_27.1*5))),(vI (w64 ((w64 (r_27.1*5))+r_37.1))),(vI r_30.1),(vL Rect.enc v_75.1),(vS v_75.2.2.2)] rfl rfl (λS hS=>bU (rfl) (bU (rfl) (bU (rfl) (bU (rfl) (bU (rfl) (bU (rfl) (bU (rfl) (bU (hS) (bU (rfl) (rfl)))))))))) (av (aa (gV n_16 9 s_13.1) (aI 0 2 il ft iT mQ rfl rfl (.d (.agg (Alert.enc (⟨x_10,r_21.1,r_24.1,v_42.2.2,(w64 (r_27.1*5)),(w64 ((w64 (r_27.1*5))+r_37.1)),r_30.1,v_75.1,v_75.2.2.2⟩:Alert)))) rfl wz (di (([(⟨x_10,r_21.1,r_24.1,v_42.2.2,(w64 (r_27.1*5)),(w64 ((w64 (r_27.1*5))+r_37.1)),r_30.1,v_75.1,v_75.2.2.2⟩:Alert)]:List Alert).map Alert.enc) lJ IG rfl rfl rfl rfl rfl wz ?_))))))
     obtain ⟨a_103,hz_104,hc_17⟩:=bind_some hc_17
     refine lS 0 il ft (i:=1) Gg Gg iT z40 rfl (by decide) by40 (by decide) (λ_=>rfl) rfl rfl rfl hz_104 wz (λn_105=>aa (gV n_105 9 a_103) (ah (av (gY (cZ hD_11 hn_12) wz rfl (aa (vI ((k_8+1:Nat):Int)) (ah ?_))))))
     obtain rfl:=ae hc_17
     exact bN (k_8+1,l_9,(a_103,v_75.2.1,v_75.2.2.1),n_105) ⟨hL_18,bn hD_11⟩ (ls_ _) rfl (aM rfl)
 ·rintro ⟨s_13,n_16⟩ ho_ sl_ H_ hp_ hq_
  subst ho_
  refine aP _ hp_ hq_ (ai (aa (gV n_16 9 s_13.1) ?_))
  obtain ⟨r_106,hr_107,hF⟩:=bind_some hF
  obtain ⟨_,hs_108,hF⟩:=bind_some hF
  replace hs_108:=x8 hs_108
  refine zM 0 [] 1 0 il ft (fM hr_107) rfl hb39 rfl rfl rfl (by kernel_rfl) rfl (.inl rfl) rfl (by kernel_rfl) (by kernel_rfl) (by kernel_rfl) (by kernel_rfl) rfl (by decide) (by kernel_rfl) ze (JL hs_108) wz ([((ak 0),some (.cells 2 [(vL eI s_13.2.1),(vI s_13.2.2)])),(n_16,gB 9 Alert.enc r_106)]:Hp) (by kernel_rfl) (fq (v':=(gV n_16 9 r_106)) 5 rfl (cB hs_108.symm) (fq (v':=(gV n_16 9 r_106)) 98 rfl (cB hs_108.symm) (ah (ai (aa (gV n_16 9 r_106) (aa (gV n_16 9 r_106) (ah ?_)))))))
  obtain rfl:=ae hF
  exact ax (finG (outs:=([(.cells 2 [(vL eI s_13.2.1),(vI s_13.2.2)])]:List Box)) (.inr rfl) 1 rfl rfl rfl (by kernel_rfl) (by kernel_rfl))
theorem gm {s_1:Stream} {low_2:Int} {high_3:Int} {r:Int×Stream} (hF:dL s_1 low_2 high_3=some r) :
  FnM Tryz.prog 18 [(.ref (ak 0) 0 0),(vI low_2),(vI high_3)] [(.cells 2 [(vL eI s_1.L),(vI s_1.f_at)])] (vI r.1) [some (.cells 2 [(vL eI r.2.L),(vI r.2.f_at)])]:=by
 refine FnM.of_wH ⟨Tryz.prog,22,[],[]⟩ rfl Tryz.func18 rfl rfl (lb_ rfl) (by kernel_rfl) ?_
 unfold dL at hF
 refine ai (aa (vI 0) (ah (au (ai (aa (.ref (ak 0) 0 0) ?_)))))
 obtain ⟨r_4,hr_5,hF⟩:=bind_some hF
 refine aS 0 [0] il ft (fu hr_5) rfl IL rfl (by kernel_rfl) (by kernel_rfl) (by kernel_rfl) (by kernel_rfl) (by kernel_rfl) (by kernel_rfl) (by kernel_rfl) (by decide) (by kernel_rfl) wz (vB r_4.1) (by kernel_rfl) ([((ak 0),some (.cells 2 [(vL eI r_4.2.L),(vI r_4.2.f_at)]))]:Hp) (by kernel_rfl) (ah ?_)
 rcases aj hF with⟨hc_7,hF⟩|⟨hc_7,hF⟩
 ·refine aC rfl hc_7 (ai (aa (.ref (ak 0) 0 0) (aa (vI low_2) (aa (vI (w64 (low_2-1))) (aa (vI high_3) (aa (vI (w64 (high_3+1))) (aa (vI low_2) (aa (vI high_3) (di (([(w64 (low_2-1)),(w64 (high_3+1)),low_2,high_3,(-1099511627776),1099511627776]:List Int).map eI) jZ uy rfl rfl rfl rfl rfl wz ?_)))))))))
  obtain ⟨r_8,hr_9,hF⟩:=bind_some hF
  refine aS 0 [0] il ft (dE hr_9) rfl Ct rfl (by kernel_rfl) (by kernel_rfl) (by kernel_rfl) (by kernel_rfl) (by kernel_rfl) (by kernel_rfl) (by kernel_rfl) (by decide) (by kernel_rfl) wz (vI r_8.1) (by kernel_rfl) ([((ak 0),some (.cells 2 [(vL eI r_8.2.L),(vI r_8.2.f_at)]))]:Hp) (by kernel_rfl) (aa (vI r_8.1) (ah ?_))
  obtain rfl:=ae hF
  exact ax (rD (.inr rfl) [(vI r_8.1)] _ [0] [ak 0] ⟨rfl,trivial⟩ (.cons (fB rfl rfl) (.nil)) (by kernel_rfl) ⟨(by kernel_rfl),trivial⟩ (by decide) (by kernel_rfl))
 ·refine aB rfl hc_7 (aA (ai (aa (.ref (ak 0) 0 0) (aa (vI low_2) (aa (vI high_3) ?_)))))
  obtain ⟨r_11,hr_12,hF⟩:=bind_some hF
  refine aS 0 [0] il ft (bI hr_12) rfl zA rfl (by kernel_rfl) (by kernel_rfl) (by kernel_rfl) (by kernel_rfl) (by kernel_rfl) (by kernel_rfl) (by kernel_rfl) (by decide) (by kernel_rfl) wz (vI r_11.1) (by kernel_rfl) ([((ak 0),some (.cells 2 [(vL eI r_11.2.L),(vI r_11.2.f_at)]))]:Hp) (by kernel_rfl) (aa (vI r_11.1) (ah ?_))
  obtain rfl:=ae hF
  exact ax (rD (.inr rfl) [(vI r_11.1)] _ [0] [ak 0] ⟨rfl,trivial⟩ (.cons (fB rfl rfl) (.nil)) (by kernel_rfl) ⟨(by kernel_rfl),trivial⟩ (by decide) (by kernel_rfl))
theorem xY {s_1:Stream} {r:Rect×Stream} (hF:ko s_1=some r) :
  FnM Tryz.prog 42 [(.ref (ak 0) 0 0)] [(.cells 2 [(vL eI s_1.L),(vI s_1.f_at)])] (.d (.agg (Rect.enc r.1))) [some (.cells 2 [(vL eI r.2.L),(vI r.2.f_at)])]:=by
 refine FnM.of_wH ⟨Tryz.prog,32,[],[]⟩ rfl Tryz.func42 rfl rfl (lb_ rfl) (by kernel_rfl) ?_
 unfold ko at hF
 refine ai (gN 0 (.inl rfl) z64 rfl wz (λn_2=>ah (ai (aa (.ref (ak 0) 0 0) ?_))))
 obtain ⟨r_3,hr_4,hF⟩:=bind_some hF
 refine aS 0 [0] il ft (ik hr_4) rfl hb38 rfl (by kernel_rfl) (by kernel_rfl) (by kernel_rfl) (by kernel_rfl) (by kernel_rfl) (by kernel_rfl) (by kernel_rfl) (by decide) (by kernel_rfl) wz (.d (.agg (Rect.enc r_3.1))) (by kernel_rfl) ([((ak 0),some (.cells 2 [(vL eI r_3.2.L),(vI r_3.2.f_at)])),(n_2,some (.cells 4 [(vI 0),(vI 0),(vI 0),(vI 0)]))]:Hp) (by kernel_rfl) (gN 0 (.inl rfl) z64 rfl wz (λn_6=>fe 0 il ft 2 nW rfl rfl (Rect.v r_3.1) rfl wz (ah (au (ai (aa (.ref (ak 0) 0 0) ?_))))))
 obtain ⟨r_7,hr_8,hF⟩:=bind_some hF
 refine aS 0 [0] il ft (fu hr_8) rfl IL rfl (by kernel_rfl) (by kernel_rfl) (by kernel_rfl) (by kernel_rfl) (by kernel_rfl) (by kernel_rfl) (by kernel_rfl) (by decide) (by kernel_rfl) wz (vB r_7.1) (by kernel_rfl) ([((ak 0),some (.cells 2 [(vL eI r_7.2.L),(vI r_7.2.f_at)])),(n_2,some (.cells 4 [(vI 0),(vI 0),(vI 0),(vI 0)])),(n_6,some (.cells 4 (Rect.v r_3.1)))]:Hp) (by kernel_rfl) (ah ?_)
 obtain ⟨v_10,h_11,hF⟩:=bind_some hF
 refine aN [(2,(.ref n_2 0 0)),(3,(.ref n_6 0 0))] [((ak 0),some (.cells 2 [(vL eI v_10.1),(vI v_10.2.1)])),(n_2,some (.cells 4 [(vI 0),(vI 0),(vI 0),(vI 0)])),(n_6,some (.cells 4 [(vI v_10.2.2.1),(vI v_10.2.2.2.1),(vI v_10.2.2.2.2.1),(vI v_10.2.2.2.2.2)]))] ?_ ?_
 ·rcases aj h_11 with⟨hc_12,h_11⟩|⟨hc_12,h_11⟩
  ·refine aC rfl hc_12 (ai (aa (.ref (ak 0) 0 0) ?_))
   obtain ⟨r_13,hr_14,h_11⟩:=bind_some h_11
   refine aS 0 [0] il ft (cK hr_14) rfl BP rfl (by kernel_rfl) (by kernel_rfl) (by kernel_rfl) (by kernel_rfl) (by kernel_rfl) (by kernel_rfl) (by kernel_rfl) (by decide) (by kernel_rfl) wz (vI r_13.1) (by kernel_rfl) ([((ak 0),some (.cells 2 [(vL eI r_13.2.L),(vI r_13.2.f_at)])),(n_2,some (.cells 4 [(vI 0),(vI 0),(vI 0),(vI 0)])),(n_6,some (.cells 4 (Rect.v r_3.1)))]:Hp) (by kernel_rfl) (ah (aR (ai (aa (vB (r_13.1==0)) (aa (vB (r_13.1==0)) (ah ?_))))))
   rcases aj h_11 with⟨hc_16,h_11⟩|⟨hc_16,h_11⟩
   ·refine aC rfl hc_16 (av (aa (.ref (ak 0) 0 0) ?_))
    obtain ⟨r_17,hr_18,h_11⟩:=bind_some h_11
    refine aS 0 [0] il ft (gm hr_18) rfl IX rfl (by kernel_rfl) (by kernel_rfl) (by kernel_rfl) (by kernel_rfl) (by kernel_rfl) (by kernel_rfl) (by kernel_rfl) (by decide) (by kernel_rfl) wz (vI r_17.1) (by kernel_rfl) ([((ak 0),some (.cells 2 [(vL eI r_17.2.L),(vI r_17.2.f_at)])),(n_2,some (.cells 4 [(vI 0),(vI 0),(vI 0),(vI 0)])),(n_6,some (.cells 4 (Rect.v r_3.1)))]:Hp) (by kernel_rfl) (aG rZ rfl 0 rfl wz (fe 0 il ft 2 sz3 rfl rfl [(vI r_17.1),(vI r_3.1.Y),(vI r_3.1.W),(vI r_3.1.H)] rfl wz (ah ?_)))
    obtain rfl:=ae h_11
    exact cu
   ·refine aB rfl hc_16 (ai (aa (vB (r_13.1==1)) (aa (vB (r_13.1==1)) (ah ?_))))
    rcases aj h_11 with⟨hc_20,h_11⟩|⟨hc_20,h_11⟩
    ·refine aC rfl hc_20 (av (aa (.ref (ak 0) 0 0) ?_))
     obtain ⟨r_21,hr_22,h_11⟩:=bind_some h_11
     refine aS 0 [0] il ft (gm hr_22) rfl IX rfl (by kernel_rfl) (by kernel_rfl) (by kernel_rfl) (by kernel_rfl) (by kernel_rfl) (by kernel_rfl) (by kernel_rfl) (by decide) (by kernel_rfl) wz (vI r_21.1) (by kernel_rfl) ([((ak 0),some (.cells 2 [(vL eI r_21.2.L),(vI r_21.2.f_at)])),(n_2,some (.cells 4 [(vI 0),(vI 0),(vI 0),(vI 0)])),(n_6,some (.cells 4 (Rect.v r_3.1)))]:Hp) (by kernel_rfl) (aa (.ref (ak 0) 0 0) ?_)
     obtain ⟨r_24,hr_25,h_11⟩:=bind_some h_11
     refine aS 0 [0] il ft (gm hr_25) rfl IX rfl (by kernel_rfl) (by kernel_rfl) (by kernel_rfl) (by kernel_rfl) (by kernel_rfl) (by kernel_rfl) (by kernel_rfl) (by decide) (by kernel_rfl) wz (vI r_24.1) (by kernel_rfl) ([((ak 0),some (.cells 2 [(vL eI r_24.2.L),(vI r_24.2.f_at)])),(n_2,some (.cells 4 [(vI 0),(vI 0),(vI 0),(vI 0)])),(n_6,some (.cells 4 (Rect.v r_3.1)))]:Hp) (by kernel_rfl) (aG yG rfl 2 rfl wz (fe 0 il ft 2 sz3 rfl rfl [(vI r_3.1.X),(vI r_3.1.Y),(vI r_21.1),(vI r_3.1.H)] rfl wz (aG wy rfl 3 rfl wz (fe 0 il ft 2 sz3 rfl rfl [(vI r_3.1.X),(vI r_3.1.Y),(vI r_21.1),(vI r_24.1)] rfl wz (ah ?_)))))
     obtain rfl:=ae h_11
     exact cu
    ·refine aB rfl hc_20 (av (aa (.ref (ak 0) 0 0) (di (([(-100000),99999]:List Int).map eI) jZ uy rfl rfl rfl rfl rfl wz ?_)))
     obtain ⟨r_27,hr_28,h_11⟩:=bind_some h_11
     refine aS 0 [0] il ft (dE hr_28) rfl Ct rfl (by kernel_rfl) (by kernel_rfl) (by kernel_rfl) (by kernel_rfl) (by kernel_rfl) (by kernel_rfl) (by kernel_rfl) (by decide) (by kernel_rfl) wz (vI r_27.1) (by kernel_rfl) ([((ak 0),some (.cells 2 [(vL eI r_27.2.L),(vI r_27.2.f_at)])),(n_2,some (.cells 4 [(vI 0),(vI 0),(vI 0),(vI 0)])),(n_6,some (.cells 4 (Rect.v r_3.1)))]:Hp) (by kernel_rfl) (aa (.ref (ak 0) 0 0) (di (([1,2,200000]:List Int).map eI) jZ uy rfl rfl rfl rfl rfl wz ?_))
     obtain ⟨r_30,hr_31,h_11⟩:=bind_some h_11
     refine aS 0 [0] il ft (dE hr_31) rfl Ct rfl (by kernel_rfl) (by kernel_rfl) (by kernel_rfl) (by kernel_rfl) (by kernel_rfl) (by kernel_rfl) (by kernel_rfl) (by decide) (by kernel_rfl) wz (vI r_30.1) (by kernel_rfl) ([((ak 0),some (.cells 2 [(vL eI r_30.2.L),(vI r_30.2.f_at)])),(n_2,some (.cells 4 [(vI 0),(vI 0),(vI 0),(vI 0)])),(n_6,some (.cells 4 (Rect.v r_3.1)))]:Hp) (by kernel_rfl) (aG sI rfl 1 rfl wz (fe 0 il ft 2 sz3 rfl rfl [(vI r_3.1.X),(vI r_27.1),(vI r_3.1.W),(vI r_3.1.H)] rfl wz (aG wy rfl 3 rfl wz (fe 0 il ft 2 sz3 rfl rfl [(vI r_3.1.X),(vI r_27.1),(vI r_3.1.W),(vI r_30.1)] rfl wz (ah ?_)))))
     obtain rfl:=ae h_11
     exact cu
  ·refine aB rfl hc_12 (aA ?_)
   obtain rfl:=ae h_11
   exact cu
 ·rintro ⟨⟩ _ sl_ H_ hp_ hq_
  refine aP _ hp_ hq_ (ai (aI 0 2 il ft nW Aj rfl rfl (.d (.agg (Rect.enc (⟨v_10.2.2.1,v_10.2.2.2.1,v_10.2.2.2.2.1,v_10.2.2.2.2.2⟩:Rect)))) rfl wz (fe 0 il ft 1 nW rfl rfl [(vI v_10.2.2.1),(vI v_10.2.2.2.1),(vI v_10.2.2.2.2.1),(vI v_10.2.2.2.2.2)] rfl wz (ah ?_))))
  obtain rfl:=ae hF
  exact ax (rD (.inr rfl) [(.d (.agg (Rect.enc (⟨v_10.2.2.1,v_10.2.2.2.1,v_10.2.2.2.2.1,v_10.2.2.2.2.2⟩:Rect))))] _ [0] [ak 0] ⟨⟨1,_,_,_,_,_,_,_,rfl,rfl,nW,Aj,rfl⟩,trivial⟩ (.cons (fB rfl rfl) (.nil)) (by kernel_rfl) ⟨(by kernel_rfl),trivial⟩ (by decide) (by kernel_rfl))
theorem wh {s_1:Stream} {most_2:Int} {r:(List Rect)×Stream} (hF:jH s_1 most_2=some r) :
  FnM Tryz.prog 19 [(.ref (ak 0) 0 0),(vI most_2)] [(.cells 2 [(vL eI s_1.L),(vI s_1.f_at)])] (vL Rect.enc r.1) [some (.cells 2 [(vL eI r.2.L),(vI r.2.f_at)])]:=by
 refine FnM.of_wH ⟨Tryz.prog,24,[],[]⟩ rfl Tryz.func19 rfl rfl (lb_ rfl) (by kernel_rfl) ?_
 unfold jH at hF
 refine ai (aa .nil (ah (ai (aa .nil (ah (au (ai (aa (.ref (ak 0) 0 0) (aa (vI most_2) ?_)))))))))
 obtain ⟨r_3,hr_4,hF⟩:=bind_some hF
 refine aS 0 [0] il ft (bI hr_4) rfl zA rfl (by kernel_rfl) (by kernel_rfl) (by kernel_rfl) (by kernel_rfl) (by kernel_rfl) (by kernel_rfl) (by kernel_rfl) (by decide) (by kernel_rfl) wz (vI r_3.1) (by kernel_rfl) ([((ak 0),some (.cells 2 [(vL eI r_3.2.L),(vI r_3.2.f_at)]))]:Hp) (by kernel_rfl) (aa (vI 0) (ah (ni (λn_12 => ?_))))
 obtain ⟨o_17,hj_18,hF⟩:=bind_some hF
 obtain ⟨hn_10,hj_18⟩:=bu hj_18
 refine iZ (σ:=(List Rect)×(List Int)×Int) (N:=Nm) (λp=>(λ(s_11:(List Rect)×(List Int)×Int) (n_14:Nm)=>([(5,(gV n_14 4 s_11.1))]:SL_)) p.1 p.2) (λp=>(λ(s_11:(List Rect)×(List Int)×Int) (n_14:Nm)=>([((ak 0),some (.cells 2 [(vL eI s_11.2.1),(vI s_11.2.2)])),(n_14,gB 4 Rect.enc s_11.1)]:Hp)) p.1 p.2) (λ(k_6:Nat)=>(λp=>(λ(s_11:(List Rect)×(List Int)×Int) (n_14:Nm)=>([(0,(.ref (ak 0) 0 0)),(5,(gV n_14 4 s_11.1)),(9,(vI r_3.1)),(10,(vI (k_6:Int)))]:SL_)) p.1 p.2)) (λk x s=>iL k x s) o_17 (List.range (r_3.1).toNat) ((([]:List Rect),r_3.2.L,r_3.2.f_at),n_12) hj_18 rfl (aM rfl) ?_ ?_
 ·rintro ⟨k_6,l_7,s_11,n_14⟩ ⟨hL_16,hD_9⟩
  dsimp only at hL_16 hD_9
  cases l_7 with
  | nil =>
   obtain rfl:=ae hL_16
   refine ai (aa (vB (decide ((k_6:Int)<r_3.1))) (ah ?_))
   refine au (aB rfl (ru hD_9) (bO ?_))
   exact bD (s_11,n_14) rfl rfl (aM rfl)
  | cons x_8 l_7 =>
   obtain ⟨c_,hc_15,hL_16⟩:=bind_some hL_16
   refine ai (aa (vB (decide ((k_6:Int)<r_3.1))) (ah ?_))
   refine au (aC rfl (pQ hD_9) (aA ?_))
   unfold iL at hc_15
   refine au (aR (ai (aa (.ref (ak 0) 0 0) ?_)))
   obtain ⟨r_19,hr_20,hc_15⟩:=bind_some hc_15
   refine aS 0 [0] il ft (ik hr_20) rfl hb38 rfl (by kernel_rfl) (by kernel_rfl) (by kernel_rfl) (by kernel_rfl) (by kernel_rfl) (by kernel_rfl) (by kernel_rfl) (by decide) (by kernel_rfl) wz (.d (.agg (Rect.enc r_19.1))) (by kernel_rfl) ([((ak 0),some (.cells 2 [(vL eI r_19.2.L),(vI r_19.2.f_at)])),(n_14,gB 4 Rect.enc s_11.1)]:Hp) (by kernel_rfl) (gN 0 (.inl rfl) z64 rfl wz (λn_22=>fe 0 il ft 2 nW rfl rfl (Rect.v r_19.1) rfl wz (ah (au (ai (aa (.ref (ak 0) 0 0) ?_))))))
   obtain ⟨r_23,hr_24,hc_15⟩:=bind_some hc_15
   refine aS 0 [0] il ft (fu hr_24) rfl IL rfl (by kernel_rfl) (by kernel_rfl) (by kernel_rfl) (by kernel_rfl) (by kernel_rfl) (by kernel_rfl) (by kernel_rfl) (by decide) (by kernel_rfl) wz (vB r_23.1) (by kernel_rfl) ([((ak 0),some (.cells 2 [(vL eI r_23.2.L),(vI r_23.2.f_at)])),(n_14,gB 4 Rect.enc s_11.1),(n_22,some (.cells 4 (Rect.v r_19.1)))]:Hp) (by kernel_rfl) (ah ?_)
   obtain ⟨v_26,h_27,hc_15⟩:=bind_some hc_15
   refine aN [(0,(.ref (ak 0) 0 0)),(5,(gV n_14 4 s_11.1)),(6,(.ref n_22 0 0)),(9,(vI r_3.1)),(10,(vI (k_6:Int)))] [((ak 0),some (.cells 2 [(vL eI v_26.1),(vI v_26.2.1)])),(n_14,gB 4 Rect.enc s_11.1),(n_22,some (.cells 4 [(vI v_26.2.2.1),(vI v_26.2.2.2.1),(vI v_26.2.2.2.2.1),(vI v_26.2.2.2.2.2)]))] ?_ ?_
   ·rcases aj h_27 with⟨hc_28,h_27⟩|⟨hc_28,h_27⟩
    ·refine aC rfl hc_28 (av (aa (.ref (ak 0) 0 0) ?_))
     obtain ⟨r_29,hr_30,h_27⟩:=bind_some h_27
     refine aS 0 [0] il ft (xY hr_30) rfl hb42 rfl (by kernel_rfl) (by kernel_rfl) (by kernel_rfl) (by kernel_rfl) (by kernel_rfl) (by kernel_rfl) (by kernel_rfl) (by decide) (by kernel_rfl) wz (.d (.agg (Rect.enc r_29.1))) (by kernel_rfl) ([((ak 0),some (.cells 2 [(vL eI r_29.2.L),(vI r_29.2.f_at)])),(n_14,gB 4 Rect.enc s_11.1),(n_22,some (.cells 4 (Rect.v r_19.1)))]:Hp) (by kernel_rfl) (fe 0 il ft 2 nW rfl rfl (Rect.v r_29.1) rfl wz (ah ?_))
     obtain rfl:=ae h_27
     exact cu
    ·refine aB rfl hc_28 (aA ?_)
     obtain rfl:=ae h_27
     exact cu
   ·rintro ⟨⟩ _ sl_ H_ hp_ hq_
    refine aP _ hp_ hq_ (av (aa (gV n_14 4 s_11.1) (aI 0 2 il ft nW Aj rfl rfl (.d (.agg (Rect.enc (⟨v_26.2.2.1,v_26.2.2.2.1,v_26.2.2.2.2.1,v_26.2.2.2.2.2⟩:Rect)))) rfl wz (di (([(⟨v_26.2.2.1,v_26.2.2.2.1,v_26.2.2.2.2.1,v_26.2.2.2.2.2⟩:Rect)]:List Rect).map Rect.enc) Au J2 rfl rfl rfl rfl rfl wz ?_))))
    obtain ⟨a_32,hz_33,hc_15⟩:=bind_some hc_15
    refine lS 0 il ft (i:=1) Ci Ci nW z64 rfl (by decide) MV (by decide) (λ_=>rfl) rfl rfl rfl hz_33 wz (λn_34=>aa (gV n_34 4 a_32) (ah (av (gY (rA hD_9 hn_10) wz rfl (aa (vI ((k_6+1:Nat):Int)) (ah ?_))))))
    obtain rfl:=ae hc_15
    exact bN (k_6+1,l_7,(a_32,v_26.1,v_26.2.1),n_34) ⟨hL_16,bn hD_9⟩ (ls_ _) rfl (aM rfl)
 ·rintro ⟨s_11,n_14⟩ ho_ sl_ H_ hp_ hq_
  subst ho_
  refine aP _ hp_ hq_ (ai (aa (gV n_14 4 s_11.1) (aa (gV n_14 4 s_11.1) (ah (iW 1 rfl (ji 4 1 rfl rfl (ji 5 1 rfl rfl (ji 23 1 rfl rfl ?_))))))))
  obtain rfl:=ae hF
  exact ax (rD (.inr rfl) [(vL Rect.enc s_11.1)] _ [0] [ak 0] ⟨rfl,trivial⟩ (.cons (fB rfl rfl) (.nil)) (by kernel_rfl) ⟨(by kernel_rfl),trivial⟩ (by decide) (by kernel_rfl))
end Go.Proofs.YtljhfffghjclfaaGreatDoor.Law

