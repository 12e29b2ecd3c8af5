/-
 The machine computes these plain functions (written by a program of ours).
-/
import Derived.Test.YtpmokglbipebcaaGreatDoorFacts
import Derived.Test.YtpmokglbipebcaaGreatDoorDefs
open Go Go.Eng Go.Proofs
namespace Go.Proofs.YtpmokglbipebcaaGreatDoor.Law
set_option maxRecDepth 100000
set_option linter.unusedVariables false
set_option maxHeartbeats 1000000
theorem rz {x_1:Int} {n_2:Int} {r:Int} (hF:oz x_1 n_2=some r) :
  FnM Tryz.prog 39 [(vI x_1),(vI n_2)] [] (vI r) []:=by
 refine FnM.of_wH ⟨Tryz.prog,16,[],[]⟩ rfl Tryz.func39 rfl rfl (lb_ rfl) (by kernel_rfl) ?_
 unfold oz at hF
 refine af (aa (ae (vI 0) wz rfl (aj (af (af (aa (ae (vI n_2) wz rfl (ae (vB (decide (n_2<1))) wz rfl (aj ?_)))))))))
 rcases ak hF with⟨hc_3,hF⟩|⟨hc_3,hF⟩
 ·refine aA rfl hc_3 (af (aa (ae (vI 0) wz rfl (aj ?_))))
  obtain rfl:=ah hF
  exact ay (aX (.inr rfl) [(vI 0)] ⟨rfl,trivial⟩ rfl rfl rfl)
 ·refine ax rfl hc_3 (av (af (aa (ae (vI x_1) wz rfl (ae (vI n_2) wz rfl ?_)))))
  obtain ⟨q_4,hz_5,hF⟩:=bind_some hF
  refine h_rem rfl rfl hz_5 wz (ae (vI q_4) wz rfl (aj (af (af (aa (ae (vI q_4) wz rfl (ae (vB (decide (q_4<0))) wz rfl (aj ?_))))))))
  obtain ⟨v_6,h_7,hF⟩:=bind_some hF
  refine aI (β:=Unit) (λ_=>([(0,(vI v_6))]:SL_)) (λ_=>([]:Hp)) (λ_=>True) ?_ ?_
  ·rcases ak h_7 with⟨hc_8,h_7⟩|⟨hc_8,h_7⟩
   ·refine aA rfl hc_8 (aa (ae (vI q_4) wz rfl (ae (vI n_2) wz rfl (ae (vI (w64 (q_4+n_2))) wz rfl (ae (vI (w64 (q_4+n_2))) wz rfl (aj ?_))))))
    obtain rfl:=ah h_7
    exact cu
   ·refine ax rfl hc_8 (av ?_)
    obtain rfl:=ah h_7
    exact cu
  ·rintro ⟨⟩ _ sl_ H_ hp_ hq_
   refine aV _ hp_ hq_ (af (aa (ae (vI v_6) wz rfl (ae (vI v_6) wz rfl (aj ?_)))))
   obtain rfl:=ah hF
   exact ay (aX (.inr rfl) [(vI v_6)] ⟨rfl,trivial⟩ rfl rfl rfl)
theorem dL {s_1:Stream} {n_2:Int} {r:Int×Stream} (hF:bQ s_1 n_2=some r) :
  FnM Tryz.prog 9 [(.ref (au 0) 0 0),(vI n_2)] [(.cells 2 [(vL eI s_1.L),(vI s_1.f_at)])] (vI r.1) [some (.cells 2 [(vL eI r.2.L),(vI r.2.f_at)])]:=by
 refine FnM.of_wH ⟨Tryz.prog,64,[],[]⟩ rfl Tryz.func9 rfl rfl (lb_ rfl) (by kernel_rfl) ?_
 unfold bQ at hF
 refine af (aa (ae (vI 0) wz rfl (aj (af (aa (ae (.ref (au 0) 0 0) wz rfl (ae (.ref (au 0) 0 0) wz rfl (aF x8 rfl 1 rfl wz (aD 0 0 il ft sz3 ag3 rfl rfl (vI s_1.f_at) rfl wz (ae (vI (w64 (s_1.f_at+1))) wz rfl (ae (.ref (au 0) 0 0) wz rfl (aF x8 rfl 1 rfl wz (fU 0 il ft 0 sz3 rfl rfl [(vL eI s_1.L),(vI (w64 (s_1.f_at+1)))] rfl wz (aj (af (af (aa (ae (.ref (au 0) 0 0) wz rfl (ae (.ref (au 0) 0 0) wz rfl (aF Bb rfl 0 rfl wz (aD 0 0 il ft sz22 ag22 rfl rfl (vL eI s_1.L) rfl wz (dA Gx rfl wz (ae (vB ((s_1.L.length:Int)==0)) wz rfl ?_)))))))))))))))))))))))
 refine aj ?_
 rcases ak hF with⟨hc_3,hF⟩|⟨hc_3,hF⟩
 ·refine aA rfl hc_3 (af (aa (ae (.ref (au 0) 0 0) wz rfl (ae (.ref (au 0) 0 0) wz rfl (aF x8 rfl 1 rfl wz (aD 0 0 il ft sz3 ag3 rfl rfl (vI (w64 (s_1.f_at+1))) rfl wz (ae (vI (w64 ((w64 (s_1.f_at+1))*7919))) wz rfl (ae (vI n_2) wz rfl ?_))))))))
  obtain ⟨r_4,hr_5,hF⟩:=bind_some hF
  refine aH (rz hr_5) rfl hb39 rfl rfl rfl rfl wz (ae (vI r_4) wz rfl (aj ?_))
  obtain rfl:=ah hF
  exact ay (uj (.inr rfl) [(vI r_4)] _ [0] [au 0] ⟨rfl,trivial⟩ (.cons (iq rfl rfl) (.nil)) (by kernel_rfl) ⟨(by kernel_rfl),trivial⟩ (by decide) (by kernel_rfl))
 ·refine ax rfl hc_3 (av (af (eu (ae (.ref (au 0) 0 0) wz rfl (ae (.ref (au 0) 0 0) wz rfl (aF x8 rfl 1 rfl wz (aD 3 0 (.inr (by kernel_rfl)) (λ_ _ ag=>trivial) sz3 ag3 rfl rfl (vI (w64 (s_1.f_at+1))) rfl wz (ae (vI (w64 ((w64 (s_1.f_at+1))-1))) wz rfl (ae (.ref (au 0) 0 0) wz rfl (ae (.ref (au 0) 0 0) wz rfl (aF Bb rfl 0 rfl wz (aD 8 0 (.inr (by kernel_rfl)) (λ_ _ ag=>⟨.inl ⟨rfl,rfl⟩,trivial⟩) sz22 ag22 rfl rfl (vL eI s_1.L) rfl wz (dA Gx rfl wz ?_)))))))))))))
  obtain ⟨q_6,hz_7,hF⟩:=bind_some hF
  refine h_rem rfl rfl hz_7 wz (ae (vI q_6) wz rfl (aj (af (eu (ae (.ref (au 0) 0 0) wz rfl (ae (.ref (au 0) 0 0) wz rfl (aF x8 rfl 1 rfl wz (aD 3 0 (.inr (by kernel_rfl)) (λ_ _ ag=>trivial) sz3 ag3 rfl rfl (vI (w64 (s_1.f_at+1))) rfl wz (ae (vI (w64 ((w64 (s_1.f_at+1))-1))) wz rfl (ae (.ref (au 0) 0 0) wz rfl (ae (.ref (au 0) 0 0) wz rfl (aF Bb rfl 0 rfl wz (aD 8 0 (.inr (by kernel_rfl)) (λ_ _ ag=>⟨.inl ⟨rfl,rfl⟩,trivial⟩) sz22 ag22 rfl rfl (vL eI s_1.L) rfl wz (dA Gx rfl wz ?_))))))))))))))
  obtain ⟨q_8,hz_9,hF⟩:=bind_some hF
  refine h_quo rfl rfl hz_9 wz (ae (vI q_8) wz rfl (aj (aV (H0:=([((au 0),some (.cells 2 [(vL eI s_1.L),(vI (w64 (s_1.f_at+1)))]))]:Hp)) ([(0,(.ref (au 0) 0 0)),(1,(vI n_2)),(5,(vI q_6)),(6,(vI q_8))]:SL_) (by kernel_rfl) (Ew (by kernel_rfl)) (af (aa (ae (.ref (au 0) 0 0) wz rfl (ae (.ref (au 0) 0 0) wz rfl (aF Bb rfl 0 rfl wz (aD 0 0 il ft sz22 ag22 rfl rfl (vL eI s_1.L) rfl wz (ae (vI q_6) wz rfl ?_))))))))))
  obtain ⟨y_10,hy_11,hF⟩:=bind_some hF
  refine jk wM rfl rfl hy_11 rfl wz (fA sz3 ag3 rfl (vI y_10) rfl wz ?_)
  obtain ⟨r_12,hr_13,hF⟩:=bind_some hF
  refine aH (rz hr_13) rfl hb39 rfl rfl rfl rfl wz (ae (vI q_8) wz rfl (ae (vI q_6) wz rfl (ae (vI (w64 (7919+q_6))) wz rfl (ae (vI (w64 (q_8*(w64 (7919+q_6))))) wz rfl (ae (vI (w64 (r_12+(w64 (q_8*(w64 (7919+q_6))))))) wz rfl (ae (vI n_2) wz rfl ?_))))))
  obtain ⟨r_14,hr_15,hF⟩:=bind_some hF
  refine aH (rz hr_15) rfl hb39 rfl rfl rfl rfl wz (ae (vI r_14) wz rfl (aj ?_))
  obtain rfl:=ah hF
  exact ay (uj (.inr rfl) [(vI r_14)] _ [0] [au 0] ⟨rfl,trivial⟩ (.cons (iq rfl rfl) (.nil)) (by kernel_rfl) ⟨(by kernel_rfl),trivial⟩ (by decide) (by kernel_rfl))
theorem bS {s_1:Stream} {low_2:Int} {high_3:Int} {r:Int×Stream} (hF:bg s_1 low_2 high_3=some r) :
  FnM Tryz.prog 10 [(.ref (au 0) 0 0),(vI low_2),(vI high_3)] [(.cells 2 [(vL eI s_1.L),(vI s_1.f_at)])] (vI r.1) [some (.cells 2 [(vL eI r.2.L),(vI r.2.f_at)])]:=by
 refine FnM.of_wH ⟨Tryz.prog,19,[],[]⟩ rfl Tryz.func10 rfl rfl (lb_ rfl) (by kernel_rfl) ?_
 unfold bg at hF
 refine af (aa (ae (vI 0) wz rfl (aj (af (af (aa (ae (vI high_3) wz rfl (ae (vI low_2) wz rfl (ae (vB (decide (high_3<low_2))) wz rfl (aj ?_))))))))))
 rcases ak hF with⟨hc_4,hF⟩|⟨hc_4,hF⟩
 ·refine aA rfl hc_4 (af (aa (ae (vI low_2) wz rfl (ae (vI low_2) wz rfl (aj ?_)))))
  obtain rfl:=ah hF
  exact ay (uj (.inr rfl) [(vI low_2)] _ [0] [au 0] ⟨rfl,trivial⟩ (.cons (iq rfl rfl) (.nil)) (by kernel_rfl) ⟨(by kernel_rfl),trivial⟩ (by decide) (by kernel_rfl))
 ·refine ax rfl hc_4 (av (af (aa (ae (vI low_2) wz rfl (ae (.ref (au 0) 0 0) wz rfl (ae (vI high_3) wz rfl (ae (vI low_2) wz rfl (ae (vI (w64 (high_3-low_2))) wz rfl (ae (vI (w64 ((w64 (high_3-low_2))+1))) wz rfl ?_)))))))))
  obtain ⟨r_5,hr_6,hF⟩:=bind_some hF
  refine aW 0 [0] il ft (dL hr_6) rfl hb9 rfl (by kernel_rfl) (by kernel_rfl) (by kernel_rfl) (by kernel_rfl) (by kernel_rfl) (by kernel_rfl) (by kernel_rfl) (by decide) (by kernel_rfl) wz (vI r_5.1) (by kernel_rfl) ([((au 0),some (.cells 2 [(vL eI r_5.2.L),(vI r_5.2.f_at)]))]:Hp) (by kernel_rfl) (ae (vI (w64 (low_2+r_5.1))) wz rfl (ae (vI (w64 (low_2+r_5.1))) wz rfl (aj ?_)))
  obtain rfl:=ah hF
  exact ay (uj (.inr rfl) [(vI (w64 (low_2+r_5.1)))] _ [0] [au 0] ⟨rfl,trivial⟩ (.cons (iq rfl rfl) (.nil)) (by kernel_rfl) ⟨(by kernel_rfl),trivial⟩ (by decide) (by kernel_rfl))
theorem gu {s_1:Stream} {l_2:(List ByteArray)} {r:ByteArray×Stream} (hF:dR s_1 l_2=some r) :
  FnM Tryz.prog 19 [(.ref (au 0) 0 0),(vL eS l_2)] [(.cells 2 [(vL eI s_1.L),(vI s_1.f_at)])] (vS r.1) [some (.cells 2 [(vL eI r.2.L),(vI r.2.f_at)])]:=by
 refine FnM.of_wH ⟨Tryz.prog,12,[],[]⟩ rfl Tryz.func19 rfl rfl (lb_ rfl) (by kernel_rfl) ?_
 unfold dR at hF
 refine af (aa (ae (vS (⟨#[]⟩:ByteArray)) wz rfl (aj (af (aa (ae (vL eS l_2) wz rfl (ae (.ref (au 0) 0 0) wz rfl (ae (vL eS l_2) wz rfl (dA sP rfl wz ?_)))))))))
 obtain ⟨r_3,hr_4,hF⟩:=bind_some hF
 refine aW 0 [0] il ft (dL hr_4) rfl hb9 rfl (by kernel_rfl) (by kernel_rfl) (by kernel_rfl) (by kernel_rfl) (by kernel_rfl) (by kernel_rfl) (by kernel_rfl) (by decide) (by kernel_rfl) wz (vI r_3.1) (by kernel_rfl) ([((au 0),some (.cells 2 [(vL eI r_3.2.L),(vI r_3.2.f_at)]))]:Hp) (by kernel_rfl) ?_
 obtain ⟨y_6,hy_7,hF⟩:=bind_some hF
 refine jk lW rfl rfl hy_7 rfl wz (fA sz9 ag9 rfl (vS y_6) rfl wz (ae (vS y_6) wz rfl (aj ?_)))
 obtain rfl:=ah hF
 exact ay (uj (.inr rfl) [(vS y_6)] _ [0] [au 0] ⟨rfl,trivial⟩ (.cons (iq rfl rfl) (.nil)) (by kernel_rfl) ⟨(by kernel_rfl),trivial⟩ (by decide) (by kernel_rfl))
theorem fV {s_1:Stream} {l_2:(List Int)} {r:Int×Stream} (hF:eH s_1 l_2=some r) :
  FnM Tryz.prog 20 [(.ref (au 0) 0 0),(vL eI l_2)] [(.cells 2 [(vL eI s_1.L),(vI s_1.f_at)])] (vI r.1) [some (.cells 2 [(vL eI r.2.L),(vI r.2.f_at)])]:=by
 refine FnM.of_wH ⟨Tryz.prog,12,[],[]⟩ rfl Tryz.func20 rfl rfl (lb_ rfl) (by kernel_rfl) ?_
 unfold eH at hF
 refine af (aa (ae (vI 0) wz rfl (aj (af (aa (ae (vL eI l_2) wz rfl (ae (.ref (au 0) 0 0) wz rfl (ae (vL eI l_2) wz rfl (dA Gx rfl wz ?_)))))))))
 obtain ⟨r_3,hr_4,hF⟩:=bind_some hF
 refine aW 0 [0] il ft (dL hr_4) rfl hb9 rfl (by kernel_rfl) (by kernel_rfl) (by kernel_rfl) (by kernel_rfl) (by kernel_rfl) (by kernel_rfl) (by kernel_rfl) (by decide) (by kernel_rfl) wz (vI r_3.1) (by kernel_rfl) ([((au 0),some (.cells 2 [(vL eI r_3.2.L),(vI r_3.2.f_at)]))]:Hp) (by kernel_rfl) ?_
 obtain ⟨y_6,hy_7,hF⟩:=bind_some hF
 refine jk wM rfl rfl hy_7 rfl wz (fA sz3 ag3 rfl (vI y_6) rfl wz (ae (vI y_6) wz rfl (aj ?_)))
 obtain rfl:=ah hF
 exact ay (uj (.inr rfl) [(vI y_6)] _ [0] [au 0] ⟨rfl,trivial⟩ (.cons (iq rfl rfl) (.nil)) (by kernel_rfl) ⟨(by kernel_rfl),trivial⟩ (by decide) (by kernel_rfl))
theorem fu {s_1:Stream} {n_2:Int} {r:Bool×Stream} (hF:cz s_1 n_2=some r) :
  FnM Tryz.prog 7 [(.ref (au 0) 0 0),(vI n_2)] [(.cells 2 [(vL eI s_1.L),(vI s_1.f_at)])] (vB r.1) [some (.cells 2 [(vL eI r.2.L),(vI r.2.f_at)])]:=by
 refine FnM.of_wH ⟨Tryz.prog,9,[],[]⟩ rfl Tryz.func7 rfl rfl (lb_ rfl) (by kernel_rfl) ?_
 unfold cz at hF
 refine af (aa (ae (vB false) wz rfl (aj (af (aa (ae (.ref (au 0) 0 0) wz rfl (ae (vI n_2) wz rfl ?_)))))))
 obtain ⟨r_3,hr_4,hF⟩:=bind_some hF
 refine aW 0 [0] il ft (dL hr_4) rfl hb9 rfl (by kernel_rfl) (by kernel_rfl) (by kernel_rfl) (by kernel_rfl) (by kernel_rfl) (by kernel_rfl) (by kernel_rfl) (by decide) (by kernel_rfl) wz (vI r_3.1) (by kernel_rfl) ([((au 0),some (.cells 2 [(vL eI r_3.2.L),(vI r_3.2.f_at)]))]:Hp) (by kernel_rfl) (ae (vB (r_3.1==0)) wz rfl (ae (vB (r_3.1==0)) wz rfl (aj ?_)))
 obtain rfl:=ah hF
 exact ay (uj (.inr rfl) [(vB (r_3.1==0))] _ [0] [au 0] ⟨rfl,trivial⟩ (.cons (iq rfl rfl) (.nil)) (by kernel_rfl) ⟨(by kernel_rfl),trivial⟩ (by decide) (by kernel_rfl))
theorem iZ {s_1:Stream} {r:Rect×Stream} (hF:bZ s_1=some r) :
  FnM Tryz.prog 65 [(.ref (au 0) 0 0)] [(.cells 2 [(vL eI s_1.L),(vI s_1.f_at)])] (.d (.agg (Rect.enc r.1))) [some (.cells 2 [(vL eI r.2.L),(vI r.2.f_at)])]:=by
 refine FnM.of_wH ⟨Tryz.prog,12,[],[]⟩ rfl Tryz.func65 rfl rfl (lb_ rfl) (by kernel_rfl) ?_
 unfold bZ at hF
 refine af (aa (fP 0 (.inl rfl) z77 rfl wz (λn_2=>aj (af (aa (ae (.ref (au 0) 0 0) wz rfl ?_))))))
 obtain ⟨r_3,hr_4,hF⟩:=bind_some hF
 refine aW 0 [0] il ft (bS hr_4) rfl zJ rfl (by kernel_rfl) (by kernel_rfl) (by kernel_rfl) (by kernel_rfl) (by kernel_rfl) (by kernel_rfl) (by kernel_rfl) (by decide) (by kernel_rfl) wz (vI r_3.1) (by kernel_rfl) ([((au 0),some (.cells 2 [(vL eI r_3.2.L),(vI r_3.2.f_at)])),(n_2,some (.cells 4 [(vI 0),(vI 0),(vI 0),(vI 0)]))]:Hp) (by kernel_rfl) (ae (.ref (au 0) 0 0) wz rfl ?_)
 obtain ⟨r_6,hr_7,hF⟩:=bind_some hF
 refine aW 0 [0] il ft (bS hr_7) rfl zJ rfl (by kernel_rfl) (by kernel_rfl) (by kernel_rfl) (by kernel_rfl) (by kernel_rfl) (by kernel_rfl) (by kernel_rfl) (by decide) (by kernel_rfl) wz (vI r_6.1) (by kernel_rfl) ([((au 0),some (.cells 2 [(vL eI r_6.2.L),(vI r_6.2.f_at)])),(n_2,some (.cells 4 [(vI 0),(vI 0),(vI 0),(vI 0)]))]:Hp) (by kernel_rfl) (ae (.ref (au 0) 0 0) wz rfl ?_)
 obtain ⟨r_9,hr_10,hF⟩:=bind_some hF
 refine aW 0 [0] il ft (bS hr_10) rfl zJ rfl (by kernel_rfl) (by kernel_rfl) (by kernel_rfl) (by kernel_rfl) (by kernel_rfl) (by kernel_rfl) (by kernel_rfl) (by decide) (by kernel_rfl) wz (vI r_9.1) (by kernel_rfl) ([((au 0),some (.cells 2 [(vL eI r_9.2.L),(vI r_9.2.f_at)])),(n_2,some (.cells 4 [(vI 0),(vI 0),(vI 0),(vI 0)]))]:Hp) (by kernel_rfl) (ae (.ref (au 0) 0 0) wz rfl ?_)
 obtain ⟨r_12,hr_13,hF⟩:=bind_some hF
 refine aW 0 [0] il ft (bS hr_13) rfl zJ rfl (by kernel_rfl) (by kernel_rfl) (by kernel_rfl) (by kernel_rfl) (by kernel_rfl) (by kernel_rfl) (by kernel_rfl) (by decide) (by kernel_rfl) wz (vI r_12.1) (by kernel_rfl) ([((au 0),some (.cells 2 [(vL eI r_12.2.L),(vI r_12.2.f_at)])),(n_2,some (.cells 4 [(vI 0),(vI 0),(vI 0),(vI 0)]))]:Hp) (by kernel_rfl) (ae (.d (.agg (Rect.enc (⟨r_3.1,r_6.1,r_9.1,r_12.1⟩:Rect)))) wz (by kernel_rfl) (fU 0 il ft 1 nW rfl rfl [(vI r_3.1),(vI r_6.1),(vI r_9.1),(vI r_12.1)] rfl wz (aj ?_)))
 obtain rfl:=ah hF
 exact ay (uj (.inr rfl) [(.d (.agg (Rect.enc (⟨r_3.1,r_6.1,r_9.1,r_12.1⟩:Rect))))] _ [0] [au 0] ⟨⟨1,_,_,_,_,_,_,_,rfl,rfl,nW,xM,rfl⟩,trivial⟩ (.cons (iq rfl rfl) (.nil)) (by kernel_rfl) ⟨(by kernel_rfl),trivial⟩ (by decide) (by kernel_rfl))
theorem wF {a_1:Alert} {b_2:Alert} {r:Int} (hF:jy a_1 b_2=some r) :
  FnM Tryz.prog 66 [(.d (.agg (Alert.enc a_1))),(.d (.agg (Alert.enc b_2)))] [] (vI r) []:=by
 refine FnM.of_wH ⟨Tryz.prog,20,[],[]⟩ rfl Tryz.func66 rfl rfl (lb_ rfl) (by kernel_rfl) ?_
 unfold jy at hF
 refine af (aa (jN 0 (.inl rfl) [(vS a_1.Id),(vS a_1.Sender),(vI a_1.Kind),(vL eS a_1.Refs),(vI a_1.At),(vI a_1.Until),(vI a_1.Weight),(vL Rect.enc a_1.Areas),(vS a_1.Text)] rfl rfl wz (λn_3=>jN 0 (.inl rfl) [(vS b_2.Id),(vS b_2.Sender),(vI b_2.Kind),(vL eS b_2.Refs),(vI b_2.At),(vI b_2.Until),(vI b_2.Weight),(vL Rect.enc b_2.Areas),(vS b_2.Text)] rfl rfl wz (λn_4=>ae (vI 0) wz rfl (aj (af (af (aa (aF iG rfl 4 rfl wz (aD 0 0 il ft sz3 ag3 rfl rfl (vI a_1.At) rfl wz (aF iG rfl 4 rfl wz (aD 0 1 il ft sz3 ag3 rfl rfl (vI b_2.At) rfl wz (ae (vB (a_1.At != b_2.At)) wz rfl (aj ?_))))))))))))))
 rcases ak hF with⟨hc_5,hF⟩|⟨hc_5,hF⟩
 ·refine aA rfl hc_5 (af (aa (aF iG rfl 4 rfl wz (aD 0 0 il ft sz3 ag3 rfl rfl (vI a_1.At) rfl wz (aF iG rfl 4 rfl wz (aD 0 1 il ft sz3 ag3 rfl rfl (vI b_2.At) rfl wz (ae (vI (w64 (a_1.At-b_2.At))) wz rfl (ae (vI (w64 (a_1.At-b_2.At))) wz rfl (aj ?_)))))))))
  obtain rfl:=ah hF
  exact ay (aX (.inr rfl) [(vI (w64 (a_1.At-b_2.At)))] ⟨rfl,trivial⟩ rfl rfl rfl)
 ·refine ax rfl hc_5 (av (af (af (aa (aF ic rfl 0 rfl wz (aD 0 0 il ft sz9 ag9 rfl rfl (vS a_1.Id) rfl wz (aF ic rfl 0 rfl wz (aD 0 1 il ft sz9 ag9 rfl rfl (vS b_2.Id) rfl wz (ae (vB (sLt a_1.Id b_2.Id)) wz rfl (aj ?_))))))))))
  rcases ak hF with⟨hc_6,hF⟩|⟨hc_6,hF⟩
  ·refine aA rfl hc_6 (af (aa (ae (vI (-1)) wz rfl (aj ?_))))
   obtain rfl:=ah hF
   exact ay (aX (.inr rfl) [(vI (-1))] ⟨rfl,trivial⟩ rfl rfl rfl)
  ·refine ax rfl hc_6 (av (af (aa (ae (vI 1) wz rfl (aj ?_)))))
   obtain rfl:=ah hF
   exact ay (aX (.inr rfl) [(vI 1)] ⟨rfl,trivial⟩ rfl rfl rfl)
theorem tV {x_1:Int} {r:Int} (hF:mZ x_1=some r) :
  FnM Tryz.prog 121 [(.d (.int .u64 x_1))] [] (vI r) []:=by
 refine FnM.of_wH ⟨Tryz.prog,25,[],[]⟩ rfl Tryz.func121 rfl rfl (lb_ rfl) (by kernel_rfl) ?_
 unfold mZ at hF
 refine af (aa (ae (vI 0) wz rfl (aj (af (af (aa (ae (.d (.int .u64 x_1)) wz rfl (ae (vB (decide (x_1>=4294967296))) wz rfl (aj ?_)))))))))
 obtain ⟨v_2,h_3,hF⟩:=bind_some hF
 refine aI (β:=Unit) (λ_=>([(0,(.d (.int .u64 v_2.1))),(2,(vI v_2.2))]:SL_)) (λ_=>([]:Hp)) (λ_=>True) ?_ ?_
 ·rcases ak h_3 with⟨hc_4,h_3⟩|⟨hc_4,h_3⟩
  ·refine aA rfl hc_4 (af (aa (ae (.d (.int .u64 x_1)) wz rfl ?_)))
   obtain ⟨q_5,hz_6,h_3⟩:=bind_some h_3
   refine IL rfl rfl hz_6 wz (ae (.d (.int .u64 q_5)) wz rfl (aj (aa (ae (vI 32) wz rfl (aj ?_)))))
   obtain rfl:=ah h_3
   exact cu
  ·refine ax rfl hc_4 (av ?_)
   obtain rfl:=ah h_3
   exact cu
 ·rintro ⟨⟩ _ sl_ H_ hp_ hq_
  refine aV _ hp_ hq_ (af (af (aa (ae (.d (.int .u64 v_2.1)) wz rfl (ae (vB (decide (v_2.1>=65536))) wz rfl (aj ?_))))))
  obtain ⟨v_7,h_8,hF⟩:=bind_some hF
  refine aI (β:=Unit) (λ_=>([(0,(.d (.int .u64 v_7.1))),(2,(vI v_7.2))]:SL_)) (λ_=>([]:Hp)) (λ_=>True) ?_ ?_
  ·rcases ak h_8 with⟨hc_9,h_8⟩|⟨hc_9,h_8⟩
   ·refine aA rfl hc_9 (af (aa (ae (.d (.int .u64 v_2.1)) wz rfl ?_)))
    obtain ⟨q_10,hz_11,h_8⟩:=bind_some h_8
    refine IL rfl rfl hz_11 wz (ae (.d (.int .u64 q_10)) wz rfl (aj (aa (ae (vI v_2.2) wz rfl (ae (vI (w64 (v_2.2+16))) wz rfl (ae (vI (w64 (v_2.2+16))) wz rfl (aj ?_)))))))
    obtain rfl:=ah h_8
    exact cu
   ·refine ax rfl hc_9 (av ?_)
    obtain rfl:=ah h_8
    exact cu
  ·rintro ⟨⟩ _ sl_ H_ hp_ hq_
   refine aV _ hp_ hq_ (af (af (aa (ae (.d (.int .u64 v_7.1)) wz rfl (ae (vB (decide (v_7.1>=256))) wz rfl (aj ?_))))))
   obtain ⟨v_12,h_13,hF⟩:=bind_some hF
   refine aI (β:=Unit) (λ_=>([(0,(.d (.int .u64 v_12.1))),(2,(vI v_12.2))]:SL_)) (λ_=>([]:Hp)) (λ_=>True) ?_ ?_
   ·rcases ak h_13 with⟨hc_14,h_13⟩|⟨hc_14,h_13⟩
    ·refine aA rfl hc_14 (af (aa (ae (.d (.int .u64 v_7.1)) wz rfl ?_)))
     obtain ⟨q_15,hz_16,h_13⟩:=bind_some h_13
     refine IL rfl rfl hz_16 wz (ae (.d (.int .u64 q_15)) wz rfl (aj (aa (ae (vI v_7.2) wz rfl (ae (vI (w64 (v_7.2+8))) wz rfl (ae (vI (w64 (v_7.2+8))) wz rfl (aj ?_)))))))
     obtain rfl:=ah h_13
     exact cu
    ·refine ax rfl hc_14 (av ?_)
     obtain rfl:=ah h_13
     exact cu
   ·rintro ⟨⟩ _ sl_ H_ hp_ hq_
    refine aV _ hp_ hq_ (af (aa (ae (vI v_12.2) wz rfl (ae (.d (.int .u64 v_12.1)) wz rfl (yc un152 un5 rfl wz ?_)))))
    obtain ⟨b_17,hy_18,hF⟩:=bind_some hF
    refine o9 un9 rfl rfl hy_18 wz (yc un5 un3 rfl wz (ae (vI (w64 (v_12.2+(w64 (b_17.toNat:Int))))) wz rfl (ae (vI (w64 (v_12.2+(w64 (b_17.toNat:Int))))) wz rfl (aj ?_))))
    obtain rfl:=ah hF
    exact ay (aX (.inr rfl) [(vI (w64 (v_12.2+(w64 (b_17.toNat:Int)))))] ⟨rfl,trivial⟩ rfl rfl rfl)
theorem mo {x_1:Int} {r:Int} (hF:fK x_1=some r) :
  FnM Tryz.prog 78 [(.d (.int .u64 x_1))] [] (vI r) []:=by
 refine FnM.of_wH ⟨Tryz.prog,8,[],[]⟩ rfl Tryz.func78 rfl rfl (lb_ rfl) (by kernel_rfl) ?_
 unfold fK at hF
 refine af (aa (ae (vI 0) wz rfl (aj (af (ax rfl rfl (av (af (aa (ae (.d (.int .u64 x_1)) wz rfl ?_)))))))))
 obtain ⟨r_2,hr_3,hF⟩:=bind_some hF
 refine aH (tV hr_3) rfl hb121 rfl rfl rfl rfl wz (ae (vI r_2) wz rfl (aj ?_))
 obtain rfl:=ah hF
 exact ay (aX (.inr rfl) [(vI r_2)] ⟨rfl,trivial⟩ rfl rfl rfl)
theorem iV {data_1:(List Alert)} {a_2:Int} {b_3:Int} {r:(List Alert)} (hF:dI data_1 a_2 b_3=some r) :
  FnM Tryz.prog 112 [(dV (au 0) 9 data_1),(vI a_2),(vI b_3),(.fn 66 [])] (([]:List Box)++gI 9 Alert.enc data_1) (.tup []) (([]:List Box).map some++gT data_1 (gB 9 Alert.enc r)):=by
 refine FnM.of_wHv ⟨Tryz.prog,53,[],[]⟩ rfl Tryz.func112 rfl rfl (lb_ rfl) (by kernel_rfl) ?_
 unfold dI at hF
 refine af (aa (ae (vI a_2) wz rfl (ae (vI (w64 (a_2+1))) wz rfl (ae (vI (w64 (a_2+1))) wz rfl (aj ?_)))))
 obtain ⟨o_13,hj_14,hF⟩:=bind_some hF
 obtain ⟨nq_51,hj_14⟩:=fE hj_14
 refine aI (β:=((List Alert)×Int)) (λ(s_10:(List Alert)×Int)=>([]:SL_)) (λ(s_10:(List Alert)×Int)=>([((au 0),gB 9 Alert.enc s_10.1)]:Hp)) (λp=>o_13 = .go p) ?_ ?_
 ·refine aB (bn (β:=Nat×((List Alert)×Int)) (λp=>(λ(k_5:Nat) (s_10:(List Alert)×Int)=>([(0,(dV (au 0) 9 s_10.1)),(1,(vI a_2)),(2,(vI b_3)),(3,(.fn 66 [])),(8,(vI s_10.2))]:SL_)) p.1 p.2) (λp=>(λ(k_5:Nat) (s_10:(List Alert)×Int)=>([((au 0),gB 9 Alert.enc s_10.1)]:Hp)) p.1 p.2) (λp=>iterN (λs=>cO b_3 a_2 s) p.1 p.2=some o_13) (λp=>p.1) (nq_51,(data_1,(w64 (a_2+1)))) hj_14 rfl (aK rfl) ?_)
  rintro ⟨k_5,s_10⟩ hL_12
  dsimp only at hL_12
  cases k_5 with
  | zero=>cases hL_12
  | succ k_5 =>
   obtain ⟨c_,hc_11,hL_12⟩:=bind_some hL_12
   unfold cO at hc_11
   refine af (af (aa (ae (vI s_10.2) wz rfl (ae (vI b_3) wz rfl (ae (vB (decide (s_10.2<b_3))) wz rfl (aj ?_))))))
   rcases ak hc_11 with⟨hc_15,hc_11⟩|⟨hc_15,hc_11⟩
   ·refine aA rfl hc_15 (av (af (aB (af (aa (ae (vI s_10.2) wz rfl (ae (vI s_10.2) wz rfl (aj ?_))))))))
    obtain ⟨o_24,hj_25,hc_11⟩:=bind_some hc_11
    obtain ⟨nq_50,hj_25⟩:=fE hj_25
    refine aI (β:=((List Alert)×Int)) (λ(s_21:(List Alert)×Int)=>([(0,(dV (au 0) 9 s_21.1)),(1,(vI a_2)),(2,(vI b_3)),(3,(.fn 66 [])),(8,(vI s_10.2))]:SL_)) (λ(s_21:(List Alert)×Int)=>([((au 0),gB 9 Alert.enc s_21.1)]:Hp)) (λp=>o_24 = .go p) ?_ ?_
    ·refine aB (bn (β:=Nat×((List Alert)×Int)) (λp=>(λ(k_16:Nat) (s_21:(List Alert)×Int)=>([(0,(dV (au 0) 9 s_21.1)),(1,(vI a_2)),(2,(vI b_3)),(3,(.fn 66 [])),(8,(vI s_10.2)),(9,(vI s_21.2))]:SL_)) p.1 p.2) (λp=>(λ(k_16:Nat) (s_21:(List Alert)×Int)=>([((au 0),gB 9 Alert.enc s_21.1)]:Hp)) p.1 p.2) (λp=>iterN (λs=>dx a_2 s) p.1 p.2=some o_24) (λp=>p.1) (nq_50,(s_10.1,s_10.2)) hj_25 rfl (aK rfl) ?_)
     rintro ⟨k_16,s_21⟩ hL_23
     dsimp only at hL_23
     cases k_16 with
     | zero=>cases hL_23
     | succ k_16 =>
      obtain ⟨c_,hc_22,hL_23⟩:=bind_some hL_23
      unfold dx at hc_22
      refine af (af ?_)
      obtain ⟨v_26,h_27,hc_22⟩:=bind_some hc_22
      refine aI (β:=Unit) (λ_=>([(0,(dV (au 0) 9 s_21.1)),(1,(vI a_2)),(2,(vI b_3)),(3,(.fn 66 [])),(8,(vI s_10.2)),(9,(vI s_21.2)),(34,(vB v_26))]:SL_)) (λ_=>([((au 0),gB 9 Alert.enc s_21.1)]:Hp)) (λ_=>True) ?_ ?_
      ·refine eu (ae (vI s_21.2) wz rfl (ae (vI a_2) wz rfl (ae (vB (decide (s_21.2>a_2))) wz rfl ?_)))
       rcases ak h_27 with⟨hc_28,h_27⟩|⟨hc_28,h_27⟩
       ·refine aC rfl hc_28 wz (ae (.fn 66 []) wa rfl (ae (dV (au 0) 9 s_21.1) wa rfl (ae (vI s_21.2) wa rfl ?_)))
        obtain ⟨_,hi_29,h_27⟩:=bind_some h_27
        refine jb iU rfl rfl (kC hi_29) (iy hi_29) wa ?_
        obtain ⟨e_30,hy_31,h_27⟩:=bind_some h_27
        refine kH 8 0 (.inr (by kernel_rfl)) (λ_ _ ag=>trivial) dM iw rfl rfl hy_31 (.d (.agg (Alert.enc e_30))) rfl wa (ae (dV (au 0) 9 s_21.1) wa rfl (ae (vI s_21.2) wa rfl (ae (vI (w64 (s_21.2-1))) wa rfl ?_)))
        obtain ⟨_,hi_32,h_27⟩:=bind_some h_27
        refine jb iU rfl rfl (kC hi_32) (iy hi_32) wa ?_
        obtain ⟨e_33,hy_34,h_27⟩:=bind_some h_27
        refine kH 13 0 (.inr (by kernel_rfl)) (λ_ _ ag=>⟨.inl ⟨rfl,rfl⟩,trivial⟩) dM iw rfl rfl hy_34 (.d (.agg (Alert.enc e_33))) rfl wa ?_
        obtain ⟨r_35,hr_36,h_27⟩:=bind_some h_27
        refine aH (wF hr_36) rfl hb66 rfl rfl rfl rfl wa (ae (vB (decide (r_35<0))) wa rfl (ae (vB (decide (r_35<0))) wz rfl (aj ?_)))
        obtain rfl:=ah h_27
        exact cu
       ·refine aC rfl hc_28 wz (ai wa (ai wa (ai wa (ai wa (ai wa (ai wa (ai wa (ai wa (ai wa (ai wa (ai wa (ai wa (ae (vB false) wz rfl (aj ?_))))))))))))))
        obtain rfl:=ah h_27
        exact cu
      ·rintro ⟨⟩ _ sl_ H_ hp_ hq_
       refine aV _ hp_ hq_ ?_
       rcases ak hc_22 with⟨hc_37,hc_22⟩|⟨hc_37,hc_22⟩
       ·refine aA rfl hc_37 (av (af (aB (eu (ae (dV (au 0) 9 s_21.1) wz rfl (ae (vI s_21.2) wz rfl (ae (dV (au 0) 9 s_21.1) wz rfl (ae (vI s_21.2) wz rfl (ae (vI (w64 (s_21.2-1))) wz rfl (ae (dV (au 0) 9 s_21.1) wz rfl (ae (vI s_21.2) wz rfl (ae (vI (w64 (s_21.2-1))) wz rfl ?_))))))))))))
        obtain ⟨_,hi_38,hc_22⟩:=bind_some hc_22
        refine jb iU rfl rfl (kC hi_38) (iy hi_38) wz ?_
        obtain ⟨e_39,hy_40,hc_22⟩:=bind_some hc_22
        refine kH 9 0 (.inr (by kernel_rfl)) (λ_ _ ag=>trivial) dM iw rfl rfl hy_40 (.d (.agg (Alert.enc e_39))) rfl wz (ae (dV (au 0) 9 s_21.1) wz rfl (ae (vI s_21.2) wz rfl ?_))
        obtain ⟨_,hi_41,hc_22⟩:=bind_some hc_22
        refine jb iU rfl rfl (kC hi_41) (iy hi_41) wz ?_
        obtain ⟨e_42,hy_43,hc_22⟩:=bind_some hc_22
        refine kH 13 0 (.inr (by kernel_rfl)) (λ_ _ ag=>⟨.inl ⟨rfl,rfl⟩,trivial⟩) dM iw rfl rfl hy_43 (.d (.agg (Alert.enc e_42))) rfl wz ?_
        obtain ⟨_,hi_44,hc_22⟩:=bind_some hc_22
        refine jb iU rfl rfl (kC hi_44) (iy hi_44) wz ?_
        obtain ⟨e_45,hy_46,hc_22⟩:=bind_some hc_22
        refine kL 15 (.inr (by kernel_rfl)) (λ_ _ ag=>⟨.inr (.inr (by kernel_rfl)),⟨.inr (.inr (by kernel_rfl)),trivial⟩⟩) 0 dM rfl rfl hy_46 e_39 rfl wz (cK (v':=(dV (au 0) 9 (s_21.1.set (0+(s_21.2).toNat) e_39))) 0 rfl (bO (by simp)) (cK (v':=(dV (au 0) 9 (s_21.1.set (0+(s_21.2).toNat) e_39))) 37 rfl (bO (by simp)) (cK (v':=(dV (au 0) 9 (s_21.1.set (0+(s_21.2).toNat) e_39))) 39 rfl (bO (by simp)) (cK (v':=(dV (au 0) 9 (s_21.1.set (0+(s_21.2).toNat) e_39))) 42 rfl (bO (by simp)) (cK (v':=(dV (au 0) 9 (s_21.1.set (0+(s_21.2).toNat) e_39))) 47 rfl (bO (by simp)) ?_)))))
        obtain ⟨_,hi_47,hc_22⟩:=bind_some hc_22
        refine jb iU rfl rfl (kC hi_47) (iy hi_47) wz ?_
        obtain ⟨e_48,hy_49,hc_22⟩:=bind_some hc_22
        refine kL 17 (.inr (by kernel_rfl)) (λ_ _ ag=>⟨.inr (.inr (by kernel_rfl)),⟨.inr (.inr (by kernel_rfl)),⟨.inr (.inr (by kernel_rfl)),trivial⟩⟩⟩) 0 dM rfl rfl hy_49 e_42 rfl wz (cK (v':=(dV (au 0) 9 ((s_21.1.set (0+(s_21.2).toNat) e_39).set (0+((w64 (s_21.2-1))).toNat) e_42))) 0 rfl (bO (by simp)) (cK (v':=(dV (au 0) 9 ((s_21.1.set (0+(s_21.2).toNat) e_39).set (0+((w64 (s_21.2-1))).toNat) e_42))) 37 rfl (bO (by simp)) (cK (v':=(dV (au 0) 9 ((s_21.1.set (0+(s_21.2).toNat) e_39).set (0+((w64 (s_21.2-1))).toNat) e_42))) 39 rfl (bO (by simp)) (cK (v':=(dV (au 0) 9 ((s_21.1.set (0+(s_21.2).toNat) e_39).set (0+((w64 (s_21.2-1))).toNat) e_42))) 42 rfl (bO (by simp)) (cK (v':=(dV (au 0) 9 ((s_21.1.set (0+(s_21.2).toNat) e_39).set (0+((w64 (s_21.2-1))).toNat) e_42))) 47 rfl (bO (by simp)) (aj (aa (ae (vI s_21.2) wz rfl (ae (vI (w64 (s_21.2-1))) wz rfl (ae (vI (w64 (s_21.2-1))) wz rfl (aj ?_)))))))))))
        obtain rfl:=ah hc_22
        exact bC (k_16,(((s_21.1.set (0+(s_21.2).toNat) e_39).set (0+((w64 (s_21.2-1))).toNat) e_42),(w64 (s_21.2-1)))) hL_23 (ls_ _) rfl (aK rfl)
       ·refine ax rfl hc_37 (bE ?_)
        obtain rfl:=ah hc_22
        obtain rfl:=ah hL_23
        exact bN ((s_21.1,s_21.2)) rfl rfl (aK rfl)
    ·rintro s_21 ho_ sl_ H_ hp_ hq_
     subst ho_
     refine aV _ hp_ hq_ (aa (ae (vI s_10.2) wz rfl (ae (vI (w64 (s_10.2+1))) wz rfl (ae (vI (w64 (s_10.2+1))) wz rfl (aj ?_)))))
     obtain rfl:=ah hc_11
     exact bC (k_5,(s_21.1,(w64 (s_10.2+1)))) hL_12 (ls_ _) rfl (aK rfl)
   ·refine ax rfl hc_15 (bE ?_)
    obtain rfl:=ah hc_11
    obtain rfl:=ah hL_12
    exact bN ((s_10.1,s_10.2)) rfl rfl (aK rfl)
 ·rintro s_10 ho_ sl_ H_ hp_ hq_
  subst ho_
  show pF _ _ _ _ _ _ _ _
  obtain rfl:=ah hF
  exact si (H0:=([((au 0),gB 9 Alert.enc s_10.1)]:Hp)) (sl':=envS []) hq_ (vg (bs:=([]:List Box)) (os:=([]:List Box)) (xs:=data_1) (o:=gB 9 Alert.enc s_10.1) (.inl rfl) [] trivial rfl rfl rfl rfl rfl (by kernel_rfl) jG rfl)
theorem kz {data_1:(List Alert)} {a_2:Int} {b_3:Int} {limit_4:Int} {r:(List Alert)} (hF:eU data_1 a_2 b_3 limit_4=some r) :
  FnM Tryz.prog 77 [(dV (au 0) 9 data_1),(vI a_2),(vI b_3),(vI limit_4),(.fn 66 [])] (([]:List Box)++gI 9 Alert.enc data_1) (.tup []) (([]:List Box).map some++gT data_1 (gB 9 Alert.enc r)):=by
 refine FnM.of_wHv ⟨Tryz.prog,148,[],[]⟩ rfl Tryz.func77 rfl rfl (lb_ rfl) (by kernel_rfl) ?_
 unfold eU at hF
 refine af (aa (ae (vB true) wz rfl (aj (af (aa (ae (vB true) wz rfl (aj ?_)))))))
 obtain ⟨o_14,hj_15,hF⟩:=bind_some hF
 obtain ⟨nq_21,hj_15⟩:=fE hj_15
 refine aI (β:=(Unit)) (λ(s_11:Unit)=>([]:SL_)) (λ(s_11:Unit)=>([((au 0),gB 9 Alert.enc data_1)]:Hp)) (λp=>o_14 = .go p) ?_ ?_
 ·refine aB (bn (β:=Nat×(Unit)) (λp=>(λ(k_6:Nat) (s_11:Unit)=>([(0,(dV (au 0) 9 data_1)),(1,(vI a_2)),(2,(vI b_3)),(3,(vI limit_4)),(4,(.fn 66 [])),(10,(vB true)),(11,(vB true))]:SL_)) p.1 p.2) (λp=>(λ(k_6:Nat) (s_11:Unit)=>([((au 0),gB 9 Alert.enc data_1)]:Hp)) p.1 p.2) (λp=>iterN (λs=>d9 b_3 a_2 data_1 limit_4 s) p.1 p.2=some o_14) (λp=>p.1) (nq_21,()) hj_15 rfl (aK rfl) ?_)
  rintro ⟨k_6,s_11⟩ hL_13
  dsimp only at hL_13
  cases k_6 with
  | zero=>cases hL_13
  | succ k_6 =>
   obtain ⟨c_,hc_12,hL_13⟩:=bind_some hL_13
   unfold d9 at hc_12
   refine aB (af (aa (ae (vI b_3) wz rfl (ae (vI a_2) wz rfl (ae (vI (w64 (b_3-a_2))) wz rfl (ae (vI (w64 (b_3-a_2))) wz rfl (aj (af (af (aa (ae (vI (w64 (b_3-a_2))) wz rfl (ae (vB (decide ((w64 (b_3-a_2))<=12))) wz rfl (aj ?_)))))))))))))
   rcases ak hc_12 with⟨hc_16,hc_12⟩|⟨hc_16,hc_12⟩
   ·refine aA rfl hc_16 (af (aa (ae (dV (au 0) 9 data_1) wz rfl (ae (vI a_2) wz rfl (ae (vI b_3) wz rfl (ae (.fn 66 []) wz rfl ?_))))))
    obtain ⟨r_17,hr_18,hc_12⟩:=bind_some hc_12
    obtain ⟨_,hs_19,hc_12⟩:=bind_some hc_12
    replace hs_19:=lV hs_19
    refine mJ 0 [] 0 0 il ft (iV hr_18) rfl H9 rfl rfl rfl (by kernel_rfl) rfl (.inr (.inl rfl)) rfl (by kernel_rfl) (by kernel_rfl) (by kernel_rfl) (by kernel_rfl) rfl (by decide) (by kernel_rfl) jG (sV hs_19) wz ([((au 0),gB 9 Alert.enc r_17)]:Hp) (by kernel_rfl) (cK (v':=(dV (au 0) 9 r_17)) 0 rfl (bO hs_19.symm) (cK (v':=(dV (au 0) 9 r_17)) 26 rfl (bO hs_19.symm) (aj ?_)))
    obtain rfl:=ah hc_12
    obtain rfl:=ah hL_13
    obtain rfl:=ah hF
    exact ay (vg (bs:=([]:List Box)) (os:=([]:List Box)) (xs:=data_1) (o:=gB 9 Alert.enc r_17) (.inr rfl) [] trivial rfl rfl rfl rfl rfl (by kernel_rfl) jG rfl)
   ·refine ax rfl hc_16 (av (af (af (aa (ae (vI limit_4) wz rfl (ae (vB (limit_4==0)) wz rfl (aj ?_)))))))
    rcases ak hc_12 with⟨hc_20,hc_12⟩|⟨hc_20,hc_12⟩
    ·refine aA rfl hc_20 (af (aa (ae (dV (au 0) 9 data_1) wz rfl (ae (vI a_2) wz rfl (ae (vI b_3) wz rfl (ae (.fn 66 []) wz rfl ?_))))))
     cases hc_12
    ·refine ax rfl hc_20 (av (af (af (aa (ae (vB true) wz rfl (ae (vB false) wz rfl (aj (ax rfl rfl (av (af (aa (ae (dV (au 0) 9 data_1) wz rfl (ae (vI a_2) wz rfl (ae (vI b_3) wz rfl (ae (.fn 66 []) wz rfl ?_)))))))))))))))
     cases hc_12
 ·rintro s_11 ho_ sl_ H_ hp_ hq_
  subst ho_
  show pF _ _ _ _ _ _ _ _
  obtain rfl:=ah hF
  exact si (H0:=([((au 0),gB 9 Alert.enc data_1)]:Hp)) (sl':=envS []) hq_ (vg (bs:=([]:List Box)) (os:=([]:List Box)) (xs:=data_1) (o:=gB 9 Alert.enc data_1) (.inl rfl) [] trivial rfl rfl rfl rfl rfl (by kernel_rfl) jG rfl)
theorem jf {x_1:(List Alert)} {r:(List Alert)} (hF:bB x_1=some r) :
  FnM Tryz.prog 43 [(dV (au 0) 9 x_1),(.fn 66 [])] (([]:List Box)++gI 9 Alert.enc x_1) (.tup []) (([]:List Box).map some++gT x_1 (gB 9 Alert.enc r)):=by
 refine FnM.of_wHv ⟨Tryz.prog,14,[],[]⟩ rfl Tryz.func43 rfl rfl (lb_ rfl) (by kernel_rfl) ?_
 unfold bB at hF
 refine af (aa (ae (dV (au 0) 9 x_1) wz rfl (BM lK rfl wz (ae (vI (x_1.length:Int)) wz rfl (aj (aa (ae (dV (au 0) 9 x_1) wz rfl (ae (vI (x_1.length:Int)) wz rfl (ae (vI (x_1.length:Int)) wz rfl (yc un3 IX rfl wz ?_))))))))))
 obtain ⟨r_3,hr_4,hF⟩:=bind_some hF
 refine aH (mo hr_4) rfl hb78 rfl rfl rfl rfl wz (ae (.fn 66 []) wz rfl ?_)
 obtain ⟨r_5,hr_6,hF⟩:=bind_some hF
 obtain ⟨_,hs_7,hF⟩:=bind_some hF
 replace hs_7:=lV hs_7
 refine mJ 0 [] 0 0 il ft (kz hr_6) rfl hb77 rfl rfl rfl (by kernel_rfl) rfl (.inr (.inl rfl)) rfl (by kernel_rfl) (by kernel_rfl) (by kernel_rfl) (by kernel_rfl) rfl (by decide) (by kernel_rfl) jG (sV hs_7) wz ([((au 0),gB 9 Alert.enc r_5)]:Hp) (by kernel_rfl) (cK (v':=(dV (au 0) 9 r_5)) 0 rfl (bO hs_7.symm) (cK (v':=(dV (au 0) 9 r_5)) 5 rfl (bO hs_7.symm) (cK (v':=(dV (au 0) 9 r_5)) 7 rfl (bO hs_7.symm) (aj ?_))))
 show pF _ _ _ _ _ _ _ _
 obtain rfl:=ah hF
 exact vg (bs:=([]:List Box)) (os:=([]:List Box)) (xs:=x_1) (o:=gB 9 Alert.enc r_5) (.inl rfl) [] trivial rfl rfl rfl rfl rfl (by kernel_rfl) jG rfl
theorem oP {s_1:Stream} {most_2:Int} {r:(List Alert)×Stream} (hF:eD s_1 most_2=some r) :
  FnM Tryz.prog 31 [(.ref (au 0) 0 0),(vI most_2)] [(.cells 2 [(vL eI s_1.L),(vI s_1.f_at)])] (gV (au 1) 9 r.1) (([(.cells 2 [(vL eI r.2.L),(vI r.2.f_at)])]:List Box).map some++gO 9 Alert.enc r.1):=by
 refine FnM.of_wH ⟨Tryz.prog,101,[],[]⟩ rfl Tryz.func31 rfl rfl (lb_ rfl) (by kernel_rfl) ?_
 unfold eD at hF
 refine af (aa (ae .nil wz rfl (aj (af (aa (ae .nil wz rfl (aj (af (af (aa (fB (([(⟨#[97,97]⟩:ByteArray),(⟨#[97,98]⟩:ByteArray),(⟨#[97,99]⟩:ByteArray),(⟨#[97,100]⟩:ByteArray),(⟨#[97,101]⟩:ByteArray),(⟨#[97,102]⟩:ByteArray)]:List ByteArray).map eS) lW rV rfl rfl rfl rfl rfl wz (ae (.ref (au 0) 0 0) wz rfl (ae (vI most_2) wz rfl ?_)))))))))))))
 obtain ⟨r_3,hr_4,hF⟩:=bind_some hF
 refine aW 0 [0] il ft (bS hr_4) rfl zJ rfl (by kernel_rfl) (by kernel_rfl) (by kernel_rfl) (by kernel_rfl) (by kernel_rfl) (by kernel_rfl) (by kernel_rfl) (by decide) (by kernel_rfl) wz (vI r_3.1) (by kernel_rfl) ([((au 0),some (.cells 2 [(vL eI r_3.2.L),(vI r_3.2.f_at)]))]:Hp) (by kernel_rfl) ?_
 obtain ⟨y_6,hy_7,hF⟩:=bind_some hF
 refine xQ sP sz9 (λ_=>rfl) rfl rfl hy_7 wz (dA sP rfl wz (ae (vI 0) wz rfl (aj (uf (λn_14 => ?_)))))
 obtain ⟨o_19,hj_20,hF⟩:=bind_some hF
 obtain ⟨hn_12,hj_20⟩:=bv hj_20
 refine aI (β:=((List Alert)×(List Int)×Int)×Nm) (λp=>(λ(s_13:(List Alert)×(List Int)×Int) (n_16:Nm)=>([(5,(gV n_16 9 s_13.1))]:SL_)) p.1 p.2) (λp=>(λ(s_13:(List Alert)×(List Int)×Int) (n_16:Nm)=>([((au 0),some (.cells 2 [(vL eI s_13.2.1),(vI s_13.2.2)])),(n_16,gB 9 Alert.enc s_13.1)]:Hp)) p.1 p.2) (λp=>o_19 = .go p.1) ?_ ?_
 ·refine aB (bn (β:=Nat×(List ByteArray)×((List Alert)×(List Int)×Int)×Nm) (λp=>(λ(k_8:Nat) (l_9:List ByteArray) (s_13:(List Alert)×(List Int)×Int) (n_16:Nm)=>([(0,(.ref (au 0) 0 0)),(5,(gV n_16 9 s_13.1)),(15,(vL eS y_6)),(16,(vI (y_6.length:Int))),(17,(vI (k_8:Int)))]:SL_)) p.1 p.2.1 p.2.2.1 p.2.2.2) (λp=>(λ(k_8:Nat) (l_9:List ByteArray) (s_13:(List Alert)×(List Int)×Int) (n_16:Nm)=>([((au 0),some (.cells 2 [(vL eI s_13.2.1),(vI s_13.2.2)])),(n_16,gB 9 Alert.enc s_13.1)]:Hp)) p.1 p.2.1 p.2.2.1 p.2.2.2) (λp=>forR (λk x s=>dE k x s) p.2.1 p.1 p.2.2.1=some o_19/\(y_6).drop p.1=p.2.1) (λp=>p.2.1.length) (0,y_6,(([]:List Alert),r_3.2.L,r_3.2.f_at),n_14) ⟨hj_20,rfl⟩ rfl (aK rfl) ?_)
  rintro ⟨k_8,l_9,s_13,n_16⟩ ⟨hL_18,hD_11⟩
  dsimp only at hL_18 hD_11
  cases l_9 with
  | nil =>
   obtain rfl:=ah hL_18
   refine af (aa (ae (vB (decide ((k_8:Int)<(y_6.length:Int)))) wz rfl (aj ?_)))
   refine af (ax rfl (drop_nil hD_11) (bE ?_))
   exact bN (s_13,n_16) rfl rfl (aK rfl)
  | cons x_10 l_9 =>
   obtain ⟨c_,hc_17,hL_18⟩:=bind_some hL_18
   refine af (aa (ae (vB (decide ((k_8:Int)<(y_6.length:Int)))) wz rfl (aj ?_)))
   refine af (aA rfl (bP hD_11) (av ?_))
   unfold dE at hc_17
   refine af (aB (af (aa (jk lW rfl rfl (dB hD_11) rfl wz (fA sz9 ag9 rfl (vS x_10) rfl wz (ae (vS x_10) wz rfl (aj (af (aa (ae (vS x_10) wz rfl (ae (.ref (au 0) 0 0) wz rfl (fB (([(⟨#[119,120]⟩:ByteArray),(⟨#[119,120]⟩:ByteArray),(⟨#[102,105,114,101]⟩:ByteArray)]:List ByteArray).map eS) lW rV rfl rfl rfl rfl rfl wz ?_))))))))))))
   obtain ⟨r_21,hr_22,hc_17⟩:=bind_some hc_17
   refine aW 0 [0] il ft (gu hr_22) rfl HY rfl (by kernel_rfl) (by kernel_rfl) (by kernel_rfl) (by kernel_rfl) (by kernel_rfl) (by kernel_rfl) (by kernel_rfl) (by decide) (by kernel_rfl) wz (vS r_21.1) (by kernel_rfl) ([((au 0),some (.cells 2 [(vL eI r_21.2.L),(vI r_21.2.f_at)])),(n_16,gB 9 Alert.enc s_13.1)]:Hp) (by kernel_rfl) (ae (.ref (au 0) 0 0) wz rfl (fB (([1,1,2,2,3]:List Int).map eI) wM BA rfl rfl rfl rfl rfl wz ?_))
   obtain ⟨r_24,hr_25,hc_17⟩:=bind_some hc_17
   refine aW 0 [0] il ft (fV hr_25) rfl GD rfl (by kernel_rfl) (by kernel_rfl) (by kernel_rfl) (by kernel_rfl) (by kernel_rfl) (by kernel_rfl) (by kernel_rfl) (by decide) (by kernel_rfl) wz (vI r_24.1) (by kernel_rfl) ([((au 0),some (.cells 2 [(vL eI r_24.2.L),(vI r_24.2.f_at)])),(n_16,gB 9 Alert.enc s_13.1)]:Hp) (by kernel_rfl) (ae (.ref (au 0) 0 0) wz rfl ?_)
   obtain ⟨r_27,hr_28,hc_17⟩:=bind_some hc_17
   refine aW 0 [0] il ft (bS hr_28) rfl zJ rfl (by kernel_rfl) (by kernel_rfl) (by kernel_rfl) (by kernel_rfl) (by kernel_rfl) (by kernel_rfl) (by kernel_rfl) (by decide) (by kernel_rfl) wz (vI r_27.1) (by kernel_rfl) ([((au 0),some (.cells 2 [(vL eI r_27.2.L),(vI r_27.2.f_at)])),(n_16,gB 9 Alert.enc s_13.1)]:Hp) (by kernel_rfl) (ae (vI (w64 (r_27.1*5))) wz rfl (ae (.ref (au 0) 0 0) wz rfl (fB (([1,5,5,9]:List Int).map eI) wM BA rfl rfl rfl rfl rfl wz ?_)))
   obtain ⟨r_30,hr_31,hc_17⟩:=bind_some hc_17
   refine aW 0 [0] il ft (fV hr_31) rfl GD rfl (by kernel_rfl) (by kernel_rfl) (by kernel_rfl) (by kernel_rfl) (by kernel_rfl) (by kernel_rfl) (by kernel_rfl) (by decide) (by kernel_rfl) wz (vI r_30.1) (by kernel_rfl) ([((au 0),some (.cells 2 [(vL eI r_30.2.L),(vI r_30.2.f_at)])),(n_16,gB 9 Alert.enc s_13.1)]:Hp) (by kernel_rfl) (ae (.ref (au 0) 0 0) wz rfl (fB (([(⟨#[102,108,111,111,100]⟩:ByteArray),(⟨#[102,105,114,101,32,105,110,32,116,104,101,32,109,97,108,108]⟩:ByteArray)]:List ByteArray).map eS) lW rV rfl rfl rfl rfl rfl wz ?_))
   obtain ⟨r_33,hr_34,hc_17⟩:=bind_some hc_17
   refine aW 0 [0] il ft (gu hr_34) rfl HY rfl (by kernel_rfl) (by kernel_rfl) (by kernel_rfl) (by kernel_rfl) (by kernel_rfl) (by kernel_rfl) (by kernel_rfl) (by decide) (by kernel_rfl) wz (vS r_33.1) (by kernel_rfl) ([((au 0),some (.cells 2 [(vL eI r_33.2.L),(vI r_33.2.f_at)])),(n_16,gB 9 Alert.enc s_13.1)]:Hp) (by kernel_rfl) (ae (.agg [(vS x_10),(vS r_21.1),(vI r_24.1),.nil,(vI (w64 (r_27.1*5))),(vI 0),(vI r_30.1),.nil,(vS r_33.1)]) wz (by kernel_rfl) (fP 0 (.inl rfl) z33 rfl wz (λn_36=>fU 0 il ft 2 dM rfl rfl [(vS x_10),(vS r_21.1),(vI r_24.1),.nil,(vI (w64 (r_27.1*5))),(vI 0),(vI r_30.1),.nil,(vS r_33.1)] rfl wz (aj (af (eu (aF iG rfl 4 rfl wz (aD 1 2 (.inr (by kernel_rfl)) (λ_ _ ag=>trivial) sz3 ag3 rfl rfl (vI (w64 (r_27.1*5))) rfl wz (ae (.ref (au 0) 0 0) wz rfl (fB (([1,10,20,50]:List Int).map eI) wM BA rfl rfl rfl rfl rfl wz ?_))))))))))
   obtain ⟨r_37,hr_38,hc_17⟩:=bind_some hc_17
   refine aW 4 [0] (.inr (by kernel_rfl)) (λ_ _ ag=>by exact⟨.inr (.inl (dis1 (Ja ag (i:=0) (j:=2) rfl rfl (by decide)))),trivial⟩) (fV hr_38) rfl GD rfl (by kernel_rfl) (by kernel_rfl) (by kernel_rfl) (by kernel_rfl) (by kernel_rfl) (by kernel_rfl) (by kernel_rfl) (by decide) (by kernel_rfl) wz (vI r_37.1) (by kernel_rfl) ([((au 0),some (.cells 2 [(vL eI r_37.2.L),(vI r_37.2.f_at)])),(n_16,gB 9 Alert.enc s_13.1),(n_36,some (.cells 9 [(vS x_10),(vS r_21.1),(vI r_24.1),.nil,(vI (w64 (r_27.1*5))),(vI 0),(vI r_30.1),.nil,(vS r_33.1)]))]:Hp) (by kernel_rfl) (ae (vI (w64 ((w64 (r_27.1*5))+r_37.1))) wz rfl (aF uA rfl 5 rfl wz (fU 7 (.inr (by kernel_rfl)) (λ_ _ ag=>⟨.inr (.inr (by kernel_rfl)),⟨.inr (.inr (by kernel_rfl)),trivial⟩⟩) 2 sz3 rfl rfl [(vS x_10),(vS r_21.1),(vI r_24.1),.nil,(vI (w64 (r_27.1*5))),(vI (w64 ((w64 (r_27.1*5))+r_37.1))),(vI r_30.1),.nil,(vS r_33.1)] rfl wz (aj (aV (H0:=([((au 0),some (.cells 2 [(vL eI r_37.2.L),(vI r_37.2.f_at)])),(n_16,gB 9 Alert.enc s_13.1),(n_36,some (.cells 9 [(vS x_10),(vS r_21.1),(vI r_24.1),.nil,(vI (w64 (r_27.1*5))),(vI (w64 ((w64 (r_27.1*5))+r_37.1))),(vI r_30.1),.nil,(vS r_33.1)]))]:Hp)) ([(0,(.ref (au 0) 0 0)),(5,(gV n_16 9 s_13.1)),(7,(vS x_10)),(8,(.ref n_36 0 0)),(15,(vL eS y_6)),(16,(vI (y_6.length:Int))),(17,(vI (k_8:Int)))]:SL_) (by kernel_rfl) (Ew (by kernel_rfl)) (af (af (aa (aF l5 rfl 2 rfl wz (aD 0 2 il ft sz3 ag3 rfl rfl (vI r_24.1) rfl wz (ae (vB (r_24.1 != 1)) wz rfl (aj ?_))))))))))))
   obtain ⟨v_42,h_43,hc_17⟩:=bind_some hc_17
   refine DV (β:=Unit) (λ_=>([(0,(.ref (au 0) 0 0)),(5,(gV n_16 9 s_13.1)),(8,(.ref n_36 0 0)),(15,(vL eS y_6)),(16,(vI (y_6.length:Int))),(17,(vI (k_8:Int)))]:SL_)) (λ_=>([((au 0),some (.cells 2 [(vL eI v_42.1),(vI v_42.2.1)])),(n_16,gB 9 Alert.enc s_13.1),(n_36,some (.cells 9 [(vS x_10),(vS r_21.1),(vI r_24.1),(vL eS v_42.2.2),(vI (w64 (r_27.1*5))),(vI (w64 ((w64 (r_27.1*5))+r_37.1))),(vI r_30.1),.nil,(vS r_33.1)]))]:Hp)) (λ_=>True) ?_ ?_
   ·rcases ak h_43 with⟨hc_44,h_43⟩|⟨hc_44,h_43⟩
    ·refine aA rfl hc_44 (af (af (aa (fB (([(⟨#[97,97]⟩:ByteArray),(⟨#[97,98]⟩:ByteArray),(⟨#[97,99]⟩:ByteArray),(⟨#[97,100]⟩:ByteArray),(⟨#[122,122]⟩:ByteArray)]:List ByteArray).map eS) lW rV rfl rfl rfl rfl rfl wz (dA sP rfl wz (ae (vI 0) wz rfl (aj (uf (λn_51 => ?_)))))))))
     obtain ⟨o_56,hj_57,h_43⟩:=bind_some h_43
     obtain ⟨hn_49,hj_57⟩:=bv hj_57
     refine aI (β:=((List ByteArray)×(List Int)×Int)×Nm) (λp=>(λ(s_50:(List ByteArray)×(List Int)×Int) (n_53:Nm)=>([(0,(.ref (au 0) 0 0)),(5,(gV n_16 9 s_13.1)),(8,(.ref n_36 0 0)),(15,(vL eS y_6)),(16,(vI (y_6.length:Int))),(17,(vI (k_8:Int)))]:SL_)) p.1 p.2) (λp=>(λ(s_50:(List ByteArray)×(List Int)×Int) (n_53:Nm)=>([((au 0),some (.cells 2 [(vL eI s_50.2.1),(vI s_50.2.2)])),(n_16,gB 9 Alert.enc s_13.1),(n_36,some (.cells 9 [(vS x_10),(vS r_21.1),(vI r_24.1),(gV n_53 1 s_50.1),(vI (w64 (r_27.1*5))),(vI (w64 ((w64 (r_27.1*5))+r_37.1))),(vI r_30.1),.nil,(vS r_33.1)])),(n_53,gB 1 eS s_50.1)]:Hp)) p.1 p.2) (λp=>o_56 = .go p.1) ?_ ?_
     ·refine aB (bn (β:=Nat×(List ByteArray)×((List ByteArray)×(List Int)×Int)×Nm) (λp=>(λ(k_45:Nat) (l_46:List ByteArray) (s_50:(List ByteArray)×(List Int)×Int) (n_53:Nm)=>([(0,(.ref (au 0) 0 0)),(5,(gV n_16 9 s_13.1)),(7,(vS x_10)),(8,(.ref n_36 0 0)),(15,(vL eS y_6)),(16,(vI (y_6.length:Int))),(17,(vI (k_8:Int))),(48,(vL eS ([(⟨#[97,97]⟩:ByteArray),(⟨#[97,98]⟩:ByteArray),(⟨#[97,99]⟩:ByteArray),(⟨#[97,100]⟩:ByteArray),(⟨#[122,122]⟩:ByteArray)]:List ByteArray))),(49,(vI (([(⟨#[97,97]⟩:ByteArray),(⟨#[97,98]⟩:ByteArray),(⟨#[97,99]⟩:ByteArray),(⟨#[97,100]⟩:ByteArray),(⟨#[122,122]⟩:ByteArray)]:List ByteArray).length:Int))),(50,(vI (k_45:Int)))]:SL_)) p.1 p.2.1 p.2.2.1 p.2.2.2) (λp=>(λ(k_45:Nat) (l_46:List ByteArray) (s_50:(List ByteArray)×(List Int)×Int) (n_53:Nm)=>([((au 0),some (.cells 2 [(vL eI s_50.2.1),(vI s_50.2.2)])),(n_16,gB 9 Alert.enc s_13.1),(n_36,some (.cells 9 [(vS x_10),(vS r_21.1),(vI r_24.1),(gV n_53 1 s_50.1),(vI (w64 (r_27.1*5))),(vI (w64 ((w64 (r_27.1*5))+r_37.1))),(vI r_30.1),.nil,(vS r_33.1)])),(n_53,gB 1 eS s_50.1)]:Hp)) p.1 p.2.1 p.2.2.1 p.2.2.2) (λp=>forR (λk x s=>bR x_10 k x s) p.2.1 p.1 p.2.2.1=some o_56/\(([(⟨#[97,97]⟩:ByteArray),(⟨#[97,98]⟩:ByteArray),(⟨#[97,99]⟩:ByteArray),(⟨#[97,100]⟩:ByteArray),(⟨#[122,122]⟩:ByteArray)]:List ByteArray)).drop p.1=p.2.1) (λp=>p.2.1.length) (0,([(⟨#[97,97]⟩:ByteArray),(⟨#[97,98]⟩:ByteArray),(⟨#[97,99]⟩:ByteArray),(⟨#[97,100]⟩:ByteArray),(⟨#[122,122]⟩:ByteArray)]:List ByteArray),(([]:List ByteArray),r_37.2.L,r_37.2.f_at),n_51) ⟨hj_57,rfl⟩ rfl (aK rfl) ?_)
      rintro ⟨k_45,l_46,s_50,n_53⟩ ⟨hL_55,hD_48⟩
      dsimp only at hL_55 hD_48
      cases l_46 with
      | nil =>
       obtain rfl:=ah hL_55
       refine af (aa (ae (vB (decide ((k_45:Int)<(([(⟨#[97,97]⟩:ByteArray),(⟨#[97,98]⟩:ByteArray),(⟨#[97,99]⟩:ByteArray),(⟨#[97,100]⟩:ByteArray),(⟨#[122,122]⟩:ByteArray)]:List ByteArray).length:Int)))) wz rfl (aj ?_)))
       refine af (ax rfl (drop_nil hD_48) (bE ?_))
       exact bN (s_50,n_53) rfl rfl (aK rfl)
      | cons x_47 l_46 =>
       obtain ⟨c_,hc_54,hL_55⟩:=bind_some hL_55
       refine af (aa (ae (vB (decide ((k_45:Int)<(([(⟨#[97,97]⟩:ByteArray),(⟨#[97,98]⟩:ByteArray),(⟨#[97,99]⟩:ByteArray),(⟨#[97,100]⟩:ByteArray),(⟨#[122,122]⟩:ByteArray)]:List ByteArray).length:Int)))) wz rfl (aj ?_)))
       refine af (aA rfl (bP hD_48) (av ?_))
       unfold bR at hc_54
       refine af (aB (af (aa (jk lW rfl rfl (dB hD_48) rfl wz (fA sz9 ag9 rfl (vS x_47) rfl wz (ae (vS x_47) wz rfl (aj (af ?_))))))))
       obtain ⟨v_58,h_59,hc_54⟩:=bind_some hc_54
       refine aI (β:=Unit) (λ_=>([(0,(.ref (au 0) 0 0)),(5,(gV n_16 9 s_13.1)),(7,(vS x_10)),(8,(.ref n_36 0 0)),(10,(vS x_47)),(15,(vL eS y_6)),(16,(vI (y_6.length:Int))),(17,(vI (k_8:Int))),(48,(vL eS ([(⟨#[97,97]⟩:ByteArray),(⟨#[97,98]⟩:ByteArray),(⟨#[97,99]⟩:ByteArray),(⟨#[97,100]⟩:ByteArray),(⟨#[122,122]⟩:ByteArray)]:List ByteArray))),(49,(vI (([(⟨#[97,97]⟩:ByteArray),(⟨#[97,98]⟩:ByteArray),(⟨#[97,99]⟩:ByteArray),(⟨#[97,100]⟩:ByteArray),(⟨#[122,122]⟩:ByteArray)]:List ByteArray).length:Int))),(50,(vI (k_45:Int))),(60,(vB v_58.1))]:SL_)) (λ_=>([((au 0),some (.cells 2 [(vL eI v_58.2.1),(vI v_58.2.2)])),(n_16,gB 9 Alert.enc s_13.1),(n_36,some (.cells 9 [(vS x_10),(vS r_21.1),(vI r_24.1),(gV n_53 1 s_50.1),(vI (w64 (r_27.1*5))),(vI (w64 ((w64 (r_27.1*5))+r_37.1))),(vI r_30.1),.nil,(vS r_33.1)])),(n_53,gB 1 eS s_50.1)]:Hp)) (λ_=>True) ?_ ?_
       ·refine aa (ae (vS x_47) wz rfl (ae (vS x_10) wz rfl (ae (vB (sNe x_47 x_10)) wz rfl ?_)))
        rcases ak h_59 with⟨hc_60,h_59⟩|⟨hc_60,h_59⟩
        ·refine aC rfl hc_60 wz (ae (.ref (au 0) 0 0) wa rfl ?_)
         obtain ⟨r_61,hr_62,h_59⟩:=bind_some h_59
         refine aW 0 [0] il ft (fu hr_62) rfl hb7 rfl (by kernel_rfl) (by kernel_rfl) (by kernel_rfl) (by kernel_rfl) (by kernel_rfl) (by kernel_rfl) (by kernel_rfl) (by decide) (by kernel_rfl) wa (vB r_61.1) (by kernel_rfl) ([((au 0),some (.cells 2 [(vL eI r_61.2.L),(vI r_61.2.f_at)])),(n_16,gB 9 Alert.enc s_13.1),(n_36,some (.cells 9 [(vS x_10),(vS r_21.1),(vI r_24.1),(gV n_53 1 s_50.1),(vI (w64 (r_27.1*5))),(vI (w64 ((w64 (r_27.1*5))+r_37.1))),(vI r_30.1),.nil,(vS r_33.1)])),(n_53,gB 1 eS s_50.1)]:Hp) (by kernel_rfl) (ae (vB r_61.1) wz rfl (aj ?_))
         obtain rfl:=ah h_59
         exact cu
        ·refine aC rfl hc_60 wz (ai wa (ai wa (ae (vB false) wz rfl (aj ?_))))
         obtain rfl:=ah h_59
         exact cu
       ·rintro ⟨⟩ _ sl_ H_ hp_ hq_
        refine aV _ hp_ hq_ ?_
        obtain ⟨v_64,h_65,hc_54⟩:=bind_some hc_54
        refine aI (β:=Nm) (λ(n_66:Nm)=>([(0,(.ref (au 0) 0 0)),(5,(gV n_16 9 s_13.1)),(7,(vS x_10)),(8,(.ref n_36 0 0)),(15,(vL eS y_6)),(16,(vI (y_6.length:Int))),(17,(vI (k_8:Int))),(48,(vL eS ([(⟨#[97,97]⟩:ByteArray),(⟨#[97,98]⟩:ByteArray),(⟨#[97,99]⟩:ByteArray),(⟨#[97,100]⟩:ByteArray),(⟨#[122,122]⟩:ByteArray)]:List ByteArray))),(49,(vI (([(⟨#[97,97]⟩:ByteArray),(⟨#[97,98]⟩:ByteArray),(⟨#[97,99]⟩:ByteArray),(⟨#[97,100]⟩:ByteArray),(⟨#[122,122]⟩:ByteArray)]:List ByteArray).length:Int))),(50,(vI (k_45:Int)))]:SL_)) (λ(n_66:Nm)=>([((au 0),some (.cells 2 [(vL eI v_58.2.1),(vI v_58.2.2)])),(n_16,gB 9 Alert.enc s_13.1),(n_36,some (.cells 9 [(vS x_10),(vS r_21.1),(vI r_24.1),(gV n_66 1 v_64),(vI (w64 (r_27.1*5))),(vI (w64 ((w64 (r_27.1*5))+r_37.1))),(vI r_30.1),.nil,(vS r_33.1)])),(n_66,gB 1 eS v_64)]:Hp)) (λ_=>True) ?_ ?_
        ·rcases ak h_65 with⟨hc_67,h_65⟩|⟨hc_67,h_65⟩
         ·refine aA rfl hc_67 (aa (aF jB rfl 3 rfl wz (aD 0 2 il ft qO uq rfl rfl (gV n_53 1 s_50.1) rfl wz (ae (vS x_47) wz rfl (fB (([x_47]:List ByteArray).map eS) lW rV rfl rfl rfl rfl rfl wz ?_)))))
          obtain ⟨a_68,hz_69,h_65⟩:=bind_some h_65
          refine rQ 0 il ft (i:=3) Ht Ht sz9 z9 rfl (by decide) by9 (by decide) (λ_=>rfl) rfl rfl rfl hz_69 wz (λn_70=>aF jB rfl 3 rfl wz (fU 0 il ft 2 qO rfl rfl [(vS x_10),(vS r_21.1),(vI r_24.1),(gV n_70 1 a_68),(vI (w64 (r_27.1*5))),(vI (w64 ((w64 (r_27.1*5))+r_37.1))),(vI r_30.1),.nil,(vS r_33.1)] (stC_g rfl) wz (aj ?_)))
          obtain rfl:=ah h_65
          exact bN n_70 trivial rfl (aK rfl)
         ·refine ax rfl hc_67 (av ?_)
          obtain rfl:=ah h_65
          exact bN n_53 trivial rfl (aK rfl)
        ·rintro n_66 _ sl_ H_ hp_ hq_
         refine aV _ hp_ hq_ (aa (gN (bU hD_48 hn_49) wz rfl (ae (vI ((k_45+1:Nat):Int)) wz rfl (aj ?_))))
         obtain rfl:=ah hc_54
         exact bC (k_45+1,l_46,(v_64,v_58.2.1,v_58.2.2),n_66) ⟨hL_55,aY hD_48⟩ (ls_ _) rfl (aK rfl)
     ·rintro ⟨s_50,n_53⟩ ho_ sl_ H_ hp_ hq_
      subst ho_
      refine aV _ hp_ hq_ (af (aa (aF jB rfl 3 rfl wz (aD 0 2 il ft qO uq rfl rfl (gV n_53 1 s_50.1) rfl wz (yx sP rfl wz (ae (vB ((s_50.1.length:Int)==0)) wz rfl (aj ?_)))))))
      rcases ak h_43 with⟨hc_71,h_43⟩|⟨hc_71,h_43⟩
      ·refine aA rfl hc_71 (aa (fB (([(⟨#[122,121]⟩:ByteArray)]:List ByteArray).map eS) lW rV rfl rfl rfl rfl rfl wz (aF jB rfl 3 rfl wz (fU 0 il ft 2 qO rfl rfl [(vS x_10),(vS r_21.1),(vI r_24.1),(vL eS ([(⟨#[122,121]⟩:ByteArray)]:List ByteArray)),(vI (w64 (r_27.1*5))),(vI (w64 ((w64 (r_27.1*5))+r_37.1))),(vI r_30.1),.nil,(vS r_33.1)] rfl wz (aj ?_)))))
       intro C_ b_ Q_ key_
       obtain rfl:=ah h_43
       exact key_ () trivial _ _ rfl (aK rfl)
      ·refine ax rfl hc_71 (av ?_)
       intro C_ b_ Q_ key_
       refine jq 3 rfl (fC 69 3 rfl rfl (wH_coc3 3 2 [false,false,false,true,false,false,false,false,false] [(vS x_10),(vS r_21.1),(vI r_24.1),(vL eS s_50.1),(vI (w64 (r_27.1*5))),(vI (w64 ((w64 (r_27.1*5))+r_37.1))),(vI r_30.1),.nil,(vS r_33.1)] rfl rfl rfl (λS hS=>ik (rfl) (ik (rfl) (ik (rfl) (ik (hS) (ik (rfl) (ik (rfl) (ik (rfl) (ik (rfl) (ik (rfl) (rfl)))))))))) ?_))
       obtain rfl:=ah h_43
       exact key_ () trivial _ _ rfl (aK rfl)
    ·refine ax rfl hc_44 (av ?_)
     intro C_ b_ Q_ key_
     refine wH_coc1 2 [false,false,false,true,false,false,false,false,false] [(vS x_10),(vS r_21.1),(vI r_24.1),(vL eS ([]:List ByteArray)),(vI (w64 (r_27.1*5))),(vI (w64 ((w64 (r_27.1*5))+r_37.1))),(vI r_30.1),.nil,(vS r_33.1)] rfl rfl (λ_=>rfl) ?_
     obtain rfl:=ah h_43
     exact key_ () trivial _ _ rfl (aK rfl)
   ·rintro ⟨⟩ _ sl_ H_ hp_ hq_
    refine aV _ hp_ hq_ (af (af (aa (aF l5 rfl 2 rfl wz (aD 0 2 il ft sz3 ag3 rfl rfl (vI r_24.1) rfl wz (ae (vB (r_24.1==3)) wz rfl (aj (uf (λn_74 => ?_)))))))))
    obtain ⟨v_75,h_76,hc_17⟩:=bind_some hc_17
    refine aI (β:=Nm) (λ(n_77:Nm)=>([(0,(.ref (au 0) 0 0)),(5,(gV n_16 9 s_13.1)),(8,(.ref n_36 0 0)),(15,(vL eS y_6)),(16,(vI (y_6.length:Int))),(17,(vI (k_8:Int)))]:SL_)) (λ(n_77:Nm)=>([((au 0),some (.cells 2 [(vL eI v_75.2.1),(vI v_75.2.2.1)])),(n_16,gB 9 Alert.enc s_13.1),(n_36,some (.cells 9 [(vS x_10),(vS r_21.1),(vI r_24.1),(vL eS v_42.2.2),(vI (w64 (r_27.1*5))),(vI (w64 ((w64 (r_27.1*5))+r_37.1))),(vI r_30.1),(gV n_77 4 v_75.1),(vS v_75.2.2.2)])),(n_77,gB 4 Rect.enc v_75.1)]:Hp)) (λ_=>True) ?_ ?_
    ·rcases ak h_76 with⟨hc_78,h_76⟩|⟨hc_78,h_76⟩
     ·refine aA rfl hc_78 (aa (ae (.ref (au 0) 0 0) wz rfl (fB (([(⟨#[]⟩:ByteArray),(⟨#[111,118,101,114]⟩:ByteArray)]:List ByteArray).map eS) lW rV rfl rfl rfl rfl rfl wz ?_)))
      obtain ⟨r_79,hr_80,h_76⟩:=bind_some h_76
      refine aW 0 [0] il ft (gu hr_80) rfl HY rfl (by kernel_rfl) (by kernel_rfl) (by kernel_rfl) (by kernel_rfl) (by kernel_rfl) (by kernel_rfl) (by kernel_rfl) (by decide) (by kernel_rfl) wz (vS r_79.1) (by kernel_rfl) ([((au 0),some (.cells 2 [(vL eI r_79.2.L),(vI r_79.2.f_at)])),(n_16,gB 9 Alert.enc s_13.1),(n_36,some (.cells 9 [(vS x_10),(vS r_21.1),(vI r_24.1),(vL eS v_42.2.2),(vI (w64 (r_27.1*5))),(vI (w64 ((w64 (r_27.1*5))+r_37.1))),(vI r_30.1),(gV n_74 4 ([]:List Rect)),(vS r_33.1)])),(n_74,gB 4 Rect.enc ([]:List Rect))]:Hp) (by kernel_rfl) (aF ni rfl 8 rfl wz (fU 0 il ft 2 sz9 rfl rfl [(vS x_10),(vS r_21.1),(vI r_24.1),(vL eS v_42.2.2),(vI (w64 (r_27.1*5))),(vI (w64 ((w64 (r_27.1*5))+r_37.1))),(vI r_30.1),(gV n_74 4 ([]:List Rect)),(vS r_79.1)] rfl wz (aj ?_)))
      obtain rfl:=ah h_76
      exact bN n_74 trivial rfl (aK rfl)
     ·refine ax rfl hc_78 (af (aa (ae (.ref (au 0) 0 0) wz rfl ?_)))
      obtain ⟨r_82,hr_83,h_76⟩:=bind_some h_76
      refine aW 0 [0] il ft (bS hr_83) rfl zJ rfl (by kernel_rfl) (by kernel_rfl) (by kernel_rfl) (by kernel_rfl) (by kernel_rfl) (by kernel_rfl) (by kernel_rfl) (by decide) (by kernel_rfl) wz (vI r_82.1) (by kernel_rfl) ([((au 0),some (.cells 2 [(vL eI r_82.2.L),(vI r_82.2.f_at)])),(n_16,gB 9 Alert.enc s_13.1),(n_36,some (.cells 9 [(vS x_10),(vS r_21.1),(vI r_24.1),(vL eS v_42.2.2),(vI (w64 (r_27.1*5))),(vI (w64 ((w64 (r_27.1*5))+r_37.1))),(vI r_30.1),(gV n_74 4 ([]:List Rect)),(vS r_33.1)])),(n_74,gB 4 Rect.enc ([]:List Rect))]:Hp) (by kernel_rfl) (ae (vI 0) wz rfl (aj ?_))
      obtain ⟨o_95,hj_96,h_76⟩:=bind_some h_76
      obtain ⟨hn_89,hj_96⟩:=bv hj_96
      refine aI (β:=((List Rect)×(List Int)×Int)×Nm) (λp=>(λ(s_90:(List Rect)×(List Int)×Int) (n_92:Nm)=>([(0,(.ref (au 0) 0 0)),(5,(gV n_16 9 s_13.1)),(8,(.ref n_36 0 0)),(15,(vL eS y_6)),(16,(vI (y_6.length:Int))),(17,(vI (k_8:Int)))]:SL_)) p.1 p.2) (λp=>(λ(s_90:(List Rect)×(List Int)×Int) (n_92:Nm)=>([((au 0),some (.cells 2 [(vL eI s_90.2.1),(vI s_90.2.2)])),(n_16,gB 9 Alert.enc s_13.1),(n_36,some (.cells 9 [(vS x_10),(vS r_21.1),(vI r_24.1),(vL eS v_42.2.2),(vI (w64 (r_27.1*5))),(vI (w64 ((w64 (r_27.1*5))+r_37.1))),(vI r_30.1),(gV n_92 4 s_90.1),(vS r_33.1)])),(n_92,gB 4 Rect.enc s_90.1)]:Hp)) p.1 p.2) (λp=>o_95 = .go p.1) ?_ ?_
      ·refine aB (bn (β:=Nat×(List Nat)×((List Rect)×(List Int)×Int)×Nm) (λp=>(λ(k_85:Nat) (l_86:List Nat) (s_90:(List Rect)×(List Int)×Int) (n_92:Nm)=>([(0,(.ref (au 0) 0 0)),(5,(gV n_16 9 s_13.1)),(8,(.ref n_36 0 0)),(15,(vL eS y_6)),(16,(vI (y_6.length:Int))),(17,(vI (k_8:Int))),(82,(vI r_82.1)),(83,(vI (k_85:Int)))]:SL_)) p.1 p.2.1 p.2.2.1 p.2.2.2) (λp=>(λ(k_85:Nat) (l_86:List Nat) (s_90:(List Rect)×(List Int)×Int) (n_92:Nm)=>([((au 0),some (.cells 2 [(vL eI s_90.2.1),(vI s_90.2.2)])),(n_16,gB 9 Alert.enc s_13.1),(n_36,some (.cells 9 [(vS x_10),(vS r_21.1),(vI r_24.1),(vL eS v_42.2.2),(vI (w64 (r_27.1*5))),(vI (w64 ((w64 (r_27.1*5))+r_37.1))),(vI r_30.1),(gV n_92 4 s_90.1),(vS r_33.1)])),(n_92,gB 4 Rect.enc s_90.1)]:Hp)) p.1 p.2.1 p.2.2.1 p.2.2.2) (λp=>forR (λk x s=>bT k x s) p.2.1 p.1 p.2.2.1=some o_95/\((List.range (r_82.1).toNat)).drop p.1=p.2.1) (λp=>p.2.1.length) (0,(List.range (r_82.1).toNat),(([]:List Rect),r_82.2.L,r_82.2.f_at),n_74) ⟨hj_96,rfl⟩ rfl (aK rfl) ?_)
       rintro ⟨k_85,l_86,s_90,n_92⟩ ⟨hL_94,hD_88⟩
       dsimp only at hL_94 hD_88
       cases l_86 with
       | nil =>
        obtain rfl:=ah hL_94
        refine af (aa (ae (vB (decide ((k_85:Int)<r_82.1))) wz rfl (aj ?_)))
        refine af (ax rfl (qo hD_88) (bE ?_))
        exact bN (s_90,n_92) rfl rfl (aK rfl)
       | cons x_87 l_86 =>
        obtain ⟨c_,hc_93,hL_94⟩:=bind_some hL_94
        refine af (aa (ae (vB (decide ((k_85:Int)<r_82.1))) wz rfl (aj ?_)))
        refine af (aA rfl (og hD_88) (av ?_))
        unfold bT at hc_93
        refine af (aB (eu (aF kY rfl 7 rfl wz (aD 1 2 (.inr (by kernel_rfl)) (λ_ _ ag=>trivial) tY xO rfl rfl (gV n_92 4 s_90.1) rfl wz (ae (.ref (au 0) 0 0) wz rfl ?_)))))
        obtain ⟨r_97,hr_98,hc_93⟩:=bind_some hc_93
        refine aW 3 [0] (.inr (by kernel_rfl)) (λ_ _ ag=>by exact⟨.inr (.inl (dis1 (Ja ag (i:=0) (j:=2) rfl rfl (by decide)))),trivial⟩) (iZ hr_98) rfl hb65 rfl (by kernel_rfl) (by kernel_rfl) (by kernel_rfl) (by kernel_rfl) (by kernel_rfl) (by kernel_rfl) (by kernel_rfl) (by decide) (by kernel_rfl) wz (.d (.agg (Rect.enc r_97.1))) (by kernel_rfl) ([((au 0),some (.cells 2 [(vL eI r_97.2.L),(vI r_97.2.f_at)])),(n_16,gB 9 Alert.enc s_13.1),(n_36,some (.cells 9 [(vS x_10),(vS r_21.1),(vI r_24.1),(vL eS v_42.2.2),(vI (w64 (r_27.1*5))),(vI (w64 ((w64 (r_27.1*5))+r_37.1))),(vI r_30.1),(gV n_92 4 s_90.1),(vS r_33.1)])),(n_92,gB 4 Rect.enc s_90.1)]:Hp) (by kernel_rfl) (fB (([r_97.1]:List Rect).map Rect.enc) zX ez31 rfl rfl rfl rfl rfl wz ?_)
        obtain ⟨a_100,hz_101,hc_93⟩:=bind_some hc_93
        refine rQ 5 (.inr (by kernel_rfl)) (λ_ _ ag=>⟨.inr (.inr (by kernel_rfl)),⟨.inr (.inr (by kernel_rfl)),trivial⟩⟩) (i:=3) Hr Hr nW z77 rfl (by decide) by77 (by decide) (λ_=>rfl) rfl rfl rfl hz_101 wz (λn_102=>aF kY rfl 7 rfl wz (fU 7 (.inr (by kernel_rfl)) (λ_ _ ag=>⟨.inr (.inr (by kernel_rfl)),⟨.inr (.inr (by kernel_rfl)),⟨.inr (.inr (by kernel_rfl)),trivial⟩⟩⟩) 2 tY rfl rfl [(vS x_10),(vS r_21.1),(vI r_24.1),(vL eS v_42.2.2),(vI (w64 (r_27.1*5))),(vI (w64 ((w64 (r_27.1*5))+r_37.1))),(vI r_30.1),(gV n_102 4 a_100),(vS r_33.1)] (stC_g rfl) wz (aj (aa (gN (qd hD_88 hn_89) wz rfl (ae (vI ((k_85+1:Nat):Int)) wz rfl (aj ?_)))))))
        obtain rfl:=ah hc_93
        exact bC (k_85+1,l_86,(a_100,r_97.2.L,r_97.2.f_at),n_102) ⟨hL_94,aY hD_88⟩ (ls_ _) rfl (aK rfl)
      ·rintro ⟨s_90,n_92⟩ ho_ sl_ H_ hp_ hq_
       subst ho_
       obtain rfl:=ah h_76
       exact bN n_92 trivial (pick_at [0,1,2,3,4,5] hp_ rfl) (pre_at hq_ (aK rfl))
    ·rintro n_77 _ sl_ H_ hp_ hq_
     refine aV _ hp_ hq_ (jq 3 rfl (wH_coc 3 2 [(vS x_10),(vS r_21.1),(vI r_24.1),(vL eS v_42.2.2),(vI (w64 (r_27.1*5))),(vI (w64 ((w64 (r_27.1*5))+r_37.1))),(vI r_30.1),(vL Rect.enc v_75.1),(vS v_75.2.2.2)] rfl rfl (λS hS=>ik (rfl) (ik (rfl) (ik (rfl) (ik (rfl) (ik (rfl) (ik (rfl) (ik (rfl) (ik (hS) (ik (rfl) (rfl)))))))))) (aa (ae (gV n_16 9 s_13.1) wz rfl (aD 0 2 il ft dM iw rfl rfl (.d (.agg (Alert.enc (⟨x_10,r_21.1,r_24.1,v_42.2.2,(w64 (r_27.1*5)),(w64 ((w64 (r_27.1*5))+r_37.1)),r_30.1,v_75.1,v_75.2.2.2⟩:Alert)))) rfl wz (fB (([(⟨x_10,r_21.1,r_24.1,v_42.2.2,(w64 (r_27.1*5)),(w64 ((w64 (r_27.1*5))+r_37.1)),r_30.1,v_75.1,v_75.2.2.2⟩:Alert)]:List Alert).map Alert.enc) iU Eh rfl rfl rfl rfl rfl wz ?_))))))
     obtain ⟨a_103,hz_104,hc_17⟩:=bind_some hc_17
     refine rQ 0 il ft (i:=1) vZ vZ dM z33 rfl (by decide) GN (by decide) (λ_=>rfl) rfl rfl rfl hz_104 wz (λn_105=>ae (gV n_105 9 a_103) wz rfl (aj (aa (gN (bU hD_11 hn_12) wz rfl (ae (vI ((k_8+1:Nat):Int)) wz rfl (aj ?_))))))
     obtain rfl:=ah hc_17
     exact bC (k_8+1,l_9,(a_103,v_75.2.1,v_75.2.2.1),n_105) ⟨hL_18,aY hD_11⟩ (ls_ _) rfl (aK rfl)
 ·rintro ⟨s_13,n_16⟩ ho_ sl_ H_ hp_ hq_
  subst ho_
  refine aV _ hp_ hq_ (af (aa (ae (gV n_16 9 s_13.1) wz rfl ?_)))
  obtain ⟨r_106,hr_107,hF⟩:=bind_some hF
  obtain ⟨_,hs_108,hF⟩:=bind_some hF
  replace hs_108:=lV hs_108
  refine mJ 0 [] 1 0 il ft (jf hr_107) rfl hb43 rfl rfl rfl (by kernel_rfl) rfl (.inl rfl) rfl (by kernel_rfl) (by kernel_rfl) (by kernel_rfl) (by kernel_rfl) rfl (by decide) (by kernel_rfl) jG (sV hs_108) wz ([((au 0),some (.cells 2 [(vL eI s_13.2.1),(vI s_13.2.2)])),(n_16,gB 9 Alert.enc r_106)]:Hp) (by kernel_rfl) (cK (v':=(gV n_16 9 r_106)) 5 rfl (dH hs_108.symm) (cK (v':=(gV n_16 9 r_106)) 98 rfl (dH hs_108.symm) (aj (af (aa (ae (gV n_16 9 r_106) wz rfl (ae (gV n_16 9 r_106) wz rfl (aj ?_))))))))
  obtain rfl:=ah hF
  exact ay (finG (outs:=([(.cells 2 [(vL eI s_13.2.1),(vI s_13.2.2)])]:List Box)) (.inr rfl) 1 rfl rfl rfl (by kernel_rfl) (by kernel_rfl))
theorem fI {s_1:Stream} {low_2:Int} {high_3:Int} {r:Int×Stream} (hF:dD s_1 low_2 high_3=some r) :
  FnM Tryz.prog 37 [(.ref (au 0) 0 0),(vI low_2),(vI high_3)] [(.cells 2 [(vL eI s_1.L),(vI s_1.f_at)])] (vI r.1) [some (.cells 2 [(vL eI r.2.L),(vI r.2.f_at)])]:=by
 refine FnM.of_wH ⟨Tryz.prog,22,[],[]⟩ rfl Tryz.func37 rfl rfl (lb_ rfl) (by kernel_rfl) ?_
 unfold dD at hF
 refine af (aa (ae (vI 0) wz rfl (aj (af (af (aa (ae (.ref (au 0) 0 0) wz rfl ?_)))))))
 obtain ⟨r_4,hr_5,hF⟩:=bind_some hF
 refine aW 0 [0] il ft (fu hr_5) rfl hb7 rfl (by kernel_rfl) (by kernel_rfl) (by kernel_rfl) (by kernel_rfl) (by kernel_rfl) (by kernel_rfl) (by kernel_rfl) (by decide) (by kernel_rfl) wz (vB r_4.1) (by kernel_rfl) ([((au 0),some (.cells 2 [(vL eI r_4.2.L),(vI r_4.2.f_at)]))]:Hp) (by kernel_rfl) (aj ?_)
 rcases ak hF with⟨hc_7,hF⟩|⟨hc_7,hF⟩
 ·refine aA rfl hc_7 (af (aa (ae (.ref (au 0) 0 0) wz rfl (ae (vI low_2) wz rfl (ae (vI (w64 (low_2-1))) wz rfl (ae (vI high_3) wz rfl (ae (vI (w64 (high_3+1))) wz rfl (ae (vI low_2) wz rfl (ae (vI high_3) wz rfl (fB (([(w64 (low_2-1)),(w64 (high_3+1)),low_2,high_3,(-1099511627776),1099511627776]:List Int).map eI) wM BA rfl rfl rfl rfl rfl wz ?_))))))))))
  obtain ⟨r_8,hr_9,hF⟩:=bind_some hF
  refine aW 0 [0] il ft (fV hr_9) rfl GD rfl (by kernel_rfl) (by kernel_rfl) (by kernel_rfl) (by kernel_rfl) (by kernel_rfl) (by kernel_rfl) (by kernel_rfl) (by decide) (by kernel_rfl) wz (vI r_8.1) (by kernel_rfl) ([((au 0),some (.cells 2 [(vL eI r_8.2.L),(vI r_8.2.f_at)]))]:Hp) (by kernel_rfl) (ae (vI r_8.1) wz rfl (aj ?_))
  obtain rfl:=ah hF
  exact ay (uj (.inr rfl) [(vI r_8.1)] _ [0] [au 0] ⟨rfl,trivial⟩ (.cons (iq rfl rfl) (.nil)) (by kernel_rfl) ⟨(by kernel_rfl),trivial⟩ (by decide) (by kernel_rfl))
 ·refine ax rfl hc_7 (av (af (aa (ae (.ref (au 0) 0 0) wz rfl (ae (vI low_2) wz rfl (ae (vI high_3) wz rfl ?_))))))
  obtain ⟨r_11,hr_12,hF⟩:=bind_some hF
  refine aW 0 [0] il ft (bS hr_12) rfl zJ rfl (by kernel_rfl) (by kernel_rfl) (by kernel_rfl) (by kernel_rfl) (by kernel_rfl) (by kernel_rfl) (by kernel_rfl) (by decide) (by kernel_rfl) wz (vI r_11.1) (by kernel_rfl) ([((au 0),some (.cells 2 [(vL eI r_11.2.L),(vI r_11.2.f_at)]))]:Hp) (by kernel_rfl) (ae (vI r_11.1) wz rfl (aj ?_))
  obtain rfl:=ah hF
  exact ay (uj (.inr rfl) [(vI r_11.1)] _ [0] [au 0] ⟨rfl,trivial⟩ (.cons (iq rfl rfl) (.nil)) (by kernel_rfl) ⟨(by kernel_rfl),trivial⟩ (by decide) (by kernel_rfl))
end Go.Proofs.YtpmokglbipebcaaGreatDoor.Law

