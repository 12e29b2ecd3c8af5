/-
 The machine computes these plain functions (written by a program of ours).
-/
import Derived.Test.YticmkhcacamhkaaGreatDoorFacts
import Derived.Test.YticmkhcacamhkaaGreatDoorDefs
open Go Go.Eng Go.Proofs
namespace Go.Proofs.YticmkhcacamhkaaGreatDoor.Law
set_option maxRecDepth 100000
set_option linter.unusedVariables false
set_option maxHeartbeats 1000000
theorem x9 {x_1:Int} {n_2:Int} {r:Int} (hF:sQ x_1 n_2=some r) :
  FnM Tryz.prog 29 [(vI x_1),(vI n_2)] [] (vI r) []:=by
 refine FnM.of_wH ⟨Tryz.prog,16,[],[]⟩ rfl Tryz.func29 rfl rfl (lb_ rfl) (by kernel_rfl) ?_
 unfold sQ at hF
 refine af (aa (ae (vI 0) wz rfl (aj (af (af (aa (ae (vI n_2) wz rfl (ae (vB (decide (n_2<1))) wz rfl (aj ?_)))))))))
 rcases au hF with⟨hc_3,hF⟩|⟨hc_3,hF⟩
 ·refine aC rfl hc_3 (af (aa (ae (vI 0) wz rfl (aj ?_))))
  obtain rfl:=ah hF
  exact aG (aU (.inr rfl) [(vI 0)] ⟨rfl,trivial⟩ rfl rfl rfl)
 ·refine aB rfl hc_3 (ax (af (aa (ae (vI x_1) wz rfl (ae (vI n_2) wz rfl ?_)))))
  obtain ⟨q_4,hz_5,hF⟩:=bind_some hF
  refine Ox rfl rfl hz_5 wz (ae (vI q_4) wz rfl (aj (af (af (aa (ae (vI q_4) wz rfl (ae (vB (decide (q_4<0))) wz rfl (aj ?_))))))))
  obtain ⟨v_6,h_7,hF⟩:=bind_some hF
  refine aD (β:=Unit) (λ_=>([(0,(vI v_6))]:SL_)) (λ_=>([]:Hp)) (λ_=>True) ?_ ?_
  ·rcases au h_7 with⟨hc_8,h_7⟩|⟨hc_8,h_7⟩
   ·refine aC rfl hc_8 (aa (ae (vI q_4) wz rfl (ae (vI n_2) wz rfl (ae (vI (w64 (q_4+n_2))) wz rfl (ae (vI (w64 (q_4+n_2))) wz rfl (aj ?_))))))
    obtain rfl:=ah h_7
    exact cu
   ·refine aB rfl hc_8 (ax ?_)
    obtain rfl:=ah h_7
    exact cu
  ·rintro ⟨⟩ _ sl_ H_ hp_ hq_
   refine aL _ hp_ hq_ (af (aa (ae (vI v_6) wz rfl (ae (vI v_6) wz rfl (aj ?_)))))
   obtain rfl:=ah hF
   exact aG (aU (.inr rfl) [(vI v_6)] ⟨rfl,trivial⟩ rfl rfl rfl)
theorem kC {s_1:Stream} {n_2:Int} {r:Int×Stream} (hF:iA s_1 n_2=some r) :
  FnM Tryz.prog 17 [(.ref (av 0) 0 0),(vI n_2)] [(.cells 2 [(vL eI s_1.L),(vI s_1.f_at)])] (vI r.1) [some (.cells 2 [(vL eI r.2.L),(vI r.2.f_at)])]:=by
 refine FnM.of_wH ⟨Tryz.prog,64,[],[]⟩ rfl Tryz.func17 rfl rfl (lb_ rfl) (by kernel_rfl) ?_
 unfold iA at hF
 refine af (aa (ae (vI 0) wz rfl (aj (af (aa (ae (.ref (av 0) 0 0) wz rfl (ae (.ref (av 0) 0 0) wz rfl (aH Er rfl 1 rfl wz (aA 0 0 il ft sz3 ag3 rfl rfl (vI s_1.f_at) rfl wz (ae (vI (w64 (s_1.f_at+1))) wz rfl (ae (.ref (av 0) 0 0) wz rfl (aH Er rfl 1 rfl wz (eD 0 il ft 0 sz3 rfl rfl [(vL eI s_1.L),(vI (w64 (s_1.f_at+1)))] rfl wz (aj (af (af (aa (ae (.ref (av 0) 0 0) wz rfl (ae (.ref (av 0) 0 0) wz rfl (aH Ho rfl 0 rfl wz (aA 0 0 il ft zK BI rfl rfl (vL eI s_1.L) rfl wz (bW wO rfl wz (ae (vB ((s_1.L.length:Int)==0)) wz rfl ?_)))))))))))))))))))))))
 refine aj ?_
 rcases au hF with⟨hc_3,hF⟩|⟨hc_3,hF⟩
 ·refine aC rfl hc_3 (af (aa (ae (.ref (av 0) 0 0) wz rfl (ae (.ref (av 0) 0 0) wz rfl (aH Er rfl 1 rfl wz (aA 0 0 il ft sz3 ag3 rfl rfl (vI (w64 (s_1.f_at+1))) rfl wz (ae (vI (w64 ((w64 (s_1.f_at+1))*7919))) wz rfl (ae (vI n_2) wz rfl ?_))))))))
  obtain ⟨r_4,hr_5,hF⟩:=bind_some hF
  refine aI (x9 hr_5) rfl hb29 rfl rfl rfl rfl wz (ae (vI r_4) wz rfl (aj ?_))
  obtain rfl:=ah hF
  exact aG (wE (.inr rfl) [(vI r_4)] _ [0] [av 0] ⟨rfl,trivial⟩ (.cons (jF rfl rfl) (.nil)) (by kernel_rfl) ⟨(by kernel_rfl),trivial⟩ (by decide) (by kernel_rfl))
 ·refine aB rfl hc_3 (ax (af (aW (ae (.ref (av 0) 0 0) wz rfl (ae (.ref (av 0) 0 0) wz rfl (aH Er rfl 1 rfl wz (aA 3 0 (.inr (by kernel_rfl)) (λ_ _ ag=>trivial) sz3 ag3 rfl rfl (vI (w64 (s_1.f_at+1))) rfl wz (ae (vI (w64 ((w64 (s_1.f_at+1))-1))) wz rfl (ae (.ref (av 0) 0 0) wz rfl (ae (.ref (av 0) 0 0) wz rfl (aH Ho rfl 0 rfl wz (aA 8 0 (.inr (by kernel_rfl)) (λ_ _ ag=>⟨.inl ⟨rfl,rfl⟩,trivial⟩) zK BI rfl rfl (vL eI s_1.L) rfl wz (bW wO rfl wz ?_)))))))))))))
  obtain ⟨q_6,hz_7,hF⟩:=bind_some hF
  refine Ox rfl rfl hz_7 wz (ae (vI q_6) wz rfl (aj (af (aW (ae (.ref (av 0) 0 0) wz rfl (ae (.ref (av 0) 0 0) wz rfl (aH Er rfl 1 rfl wz (aA 3 0 (.inr (by kernel_rfl)) (λ_ _ ag=>trivial) sz3 ag3 rfl rfl (vI (w64 (s_1.f_at+1))) rfl wz (ae (vI (w64 ((w64 (s_1.f_at+1))-1))) wz rfl (ae (.ref (av 0) 0 0) wz rfl (ae (.ref (av 0) 0 0) wz rfl (aH Ho rfl 0 rfl wz (aA 8 0 (.inr (by kernel_rfl)) (λ_ _ ag=>⟨.inl ⟨rfl,rfl⟩,trivial⟩) zK BI rfl rfl (vL eI s_1.L) rfl wz (bW wO rfl wz ?_))))))))))))))
  obtain ⟨q_8,hz_9,hF⟩:=bind_some hF
  refine OW rfl rfl hz_9 wz (ae (vI q_8) wz rfl (aj (aL (H0:=([((av 0),some (.cells 2 [(vL eI s_1.L),(vI (w64 (s_1.f_at+1)))]))]:Hp)) ([(0,(.ref (av 0) 0 0)),(1,(vI n_2)),(5,(vI q_6)),(6,(vI q_8))]:SL_) (by kernel_rfl) (uP (by kernel_rfl)) (af (aa (ae (.ref (av 0) 0 0) wz rfl (ae (.ref (av 0) 0 0) wz rfl (aH Ho rfl 0 rfl wz (aA 0 0 il ft zK BI rfl rfl (vL eI s_1.L) rfl wz (ae (vI q_6) wz rfl ?_))))))))))
  obtain ⟨y_10,hy_11,hF⟩:=bind_some hF
  refine dK jf rfl rfl hy_11 rfl wz (bB sz3 ag3 rfl (vI y_10) rfl wz ?_)
  obtain ⟨r_12,hr_13,hF⟩:=bind_some hF
  refine aI (x9 hr_13) rfl hb29 rfl rfl rfl rfl wz (ae (vI q_8) wz rfl (ae (vI q_6) wz rfl (ae (vI (w64 (7919+q_6))) wz rfl (ae (vI (w64 (q_8*(w64 (7919+q_6))))) wz rfl (ae (vI (w64 (r_12+(w64 (q_8*(w64 (7919+q_6))))))) wz rfl (ae (vI n_2) wz rfl ?_))))))
  obtain ⟨r_14,hr_15,hF⟩:=bind_some hF
  refine aI (x9 hr_15) rfl hb29 rfl rfl rfl rfl wz (ae (vI r_14) wz rfl (aj ?_))
  obtain rfl:=ah hF
  exact aG (wE (.inr rfl) [(vI r_14)] _ [0] [av 0] ⟨rfl,trivial⟩ (.cons (jF rfl rfl) (.nil)) (by kernel_rfl) ⟨(by kernel_rfl),trivial⟩ (by decide) (by kernel_rfl))
theorem dz {s_1:Stream} {low_2:Int} {high_3:Int} {r:Int×Stream} (hF:bT s_1 low_2 high_3=some r) :
  FnM Tryz.prog 5 [(.ref (av 0) 0 0),(vI low_2),(vI high_3)] [(.cells 2 [(vL eI s_1.L),(vI s_1.f_at)])] (vI r.1) [some (.cells 2 [(vL eI r.2.L),(vI r.2.f_at)])]:=by
 refine FnM.of_wH ⟨Tryz.prog,19,[],[]⟩ rfl Tryz.func5 rfl rfl (lb_ rfl) (by kernel_rfl) ?_
 unfold bT at hF
 refine af (aa (ae (vI 0) wz rfl (aj (af (af (aa (ae (vI high_3) wz rfl (ae (vI low_2) wz rfl (ae (vB (decide (high_3<low_2))) wz rfl (aj ?_))))))))))
 rcases au hF with⟨hc_4,hF⟩|⟨hc_4,hF⟩
 ·refine aC rfl hc_4 (af (aa (ae (vI low_2) wz rfl (ae (vI low_2) wz rfl (aj ?_)))))
  obtain rfl:=ah hF
  exact aG (wE (.inr rfl) [(vI low_2)] _ [0] [av 0] ⟨rfl,trivial⟩ (.cons (jF rfl rfl) (.nil)) (by kernel_rfl) ⟨(by kernel_rfl),trivial⟩ (by decide) (by kernel_rfl))
 ·refine aB rfl hc_4 (ax (af (aa (ae (vI low_2) wz rfl (ae (.ref (av 0) 0 0) wz rfl (ae (vI high_3) wz rfl (ae (vI low_2) wz rfl (ae (vI (w64 (high_3-low_2))) wz rfl (ae (vI (w64 ((w64 (high_3-low_2))+1))) wz rfl ?_)))))))))
  obtain ⟨r_5,hr_6,hF⟩:=bind_some hF
  refine bS 0 [0] il ft (kC hr_6) rfl OQ rfl (by kernel_rfl) (by kernel_rfl) (by kernel_rfl) (by kernel_rfl) (by kernel_rfl) (by kernel_rfl) (by kernel_rfl) (by decide) (by kernel_rfl) wz (vI r_5.1) (by kernel_rfl) ([((av 0),some (.cells 2 [(vL eI r_5.2.L),(vI r_5.2.f_at)]))]:Hp) (by kernel_rfl) (ae (vI (w64 (low_2+r_5.1))) wz rfl (ae (vI (w64 (low_2+r_5.1))) wz rfl (aj ?_)))
  obtain rfl:=ah hF
  exact aG (wE (.inr rfl) [(vI (w64 (low_2+r_5.1)))] _ [0] [av 0] ⟨rfl,trivial⟩ (.cons (jF rfl rfl) (.nil)) (by kernel_rfl) ⟨(by kernel_rfl),trivial⟩ (by decide) (by kernel_rfl))
theorem mK {s_1:Stream} {l_2:(List ByteArray)} {r:ByteArray×Stream} (hF:iG s_1 l_2=some r) :
  FnM Tryz.prog 11 [(.ref (av 0) 0 0),(vL eS l_2)] [(.cells 2 [(vL eI s_1.L),(vI s_1.f_at)])] (vS r.1) [some (.cells 2 [(vL eI r.2.L),(vI r.2.f_at)])]:=by
 refine FnM.of_wH ⟨Tryz.prog,12,[],[]⟩ rfl Tryz.func11 rfl rfl (lb_ rfl) (by kernel_rfl) ?_
 unfold iG at hF
 refine af (aa (ae (vS (⟨#[]⟩:ByteArray)) wz rfl (aj (af (aa (ae (vL eS l_2) wz rfl (ae (.ref (av 0) 0 0) wz rfl (ae (vL eS l_2) wz rfl (bW yY rfl wz ?_)))))))))
 obtain ⟨r_3,hr_4,hF⟩:=bind_some hF
 refine bS 0 [0] il ft (kC hr_4) rfl OQ rfl (by kernel_rfl) (by kernel_rfl) (by kernel_rfl) (by kernel_rfl) (by kernel_rfl) (by kernel_rfl) (by kernel_rfl) (by decide) (by kernel_rfl) wz (vI r_3.1) (by kernel_rfl) ([((av 0),some (.cells 2 [(vL eI r_3.2.L),(vI r_3.2.f_at)]))]:Hp) (by kernel_rfl) ?_
 obtain ⟨y_6,hy_7,hF⟩:=bind_some hF
 refine dK qy rfl rfl hy_7 rfl wz (bB sz9 ag9 rfl (vS y_6) rfl wz (ae (vS y_6) wz rfl (aj ?_)))
 obtain rfl:=ah hF
 exact aG (wE (.inr rfl) [(vS y_6)] _ [0] [av 0] ⟨rfl,trivial⟩ (.cons (jF rfl rfl) (.nil)) (by kernel_rfl) ⟨(by kernel_rfl),trivial⟩ (by decide) (by kernel_rfl))
theorem dU {s_1:Stream} {l_2:(List Int)} {r:Int×Stream} (hF:dH s_1 l_2=some r) :
  FnM Tryz.prog 12 [(.ref (av 0) 0 0),(vL eI l_2)] [(.cells 2 [(vL eI s_1.L),(vI s_1.f_at)])] (vI r.1) [some (.cells 2 [(vL eI r.2.L),(vI r.2.f_at)])]:=by
 refine FnM.of_wH ⟨Tryz.prog,12,[],[]⟩ rfl Tryz.func12 rfl rfl (lb_ rfl) (by kernel_rfl) ?_
 unfold dH at hF
 refine af (aa (ae (vI 0) wz rfl (aj (af (aa (ae (vL eI l_2) wz rfl (ae (.ref (av 0) 0 0) wz rfl (ae (vL eI l_2) wz rfl (bW wO rfl wz ?_)))))))))
 obtain ⟨r_3,hr_4,hF⟩:=bind_some hF
 refine bS 0 [0] il ft (kC hr_4) rfl OQ rfl (by kernel_rfl) (by kernel_rfl) (by kernel_rfl) (by kernel_rfl) (by kernel_rfl) (by kernel_rfl) (by kernel_rfl) (by decide) (by kernel_rfl) wz (vI r_3.1) (by kernel_rfl) ([((av 0),some (.cells 2 [(vL eI r_3.2.L),(vI r_3.2.f_at)]))]:Hp) (by kernel_rfl) ?_
 obtain ⟨y_6,hy_7,hF⟩:=bind_some hF
 refine dK jf rfl rfl hy_7 rfl wz (bB sz3 ag3 rfl (vI y_6) rfl wz (ae (vI y_6) wz rfl (aj ?_)))
 obtain rfl:=ah hF
 exact aG (wE (.inr rfl) [(vI y_6)] _ [0] [av 0] ⟨rfl,trivial⟩ (.cons (jF rfl rfl) (.nil)) (by kernel_rfl) ⟨(by kernel_rfl),trivial⟩ (by decide) (by kernel_rfl))
theorem kz {s_1:Stream} {n_2:Int} {r:Bool×Stream} (hF:gH s_1 n_2=some r) :
  FnM Tryz.prog 13 [(.ref (av 0) 0 0),(vI n_2)] [(.cells 2 [(vL eI s_1.L),(vI s_1.f_at)])] (vB r.1) [some (.cells 2 [(vL eI r.2.L),(vI r.2.f_at)])]:=by
 refine FnM.of_wH ⟨Tryz.prog,9,[],[]⟩ rfl Tryz.func13 rfl rfl (lb_ rfl) (by kernel_rfl) ?_
 unfold gH at hF
 refine af (aa (ae (vB false) wz rfl (aj (af (aa (ae (.ref (av 0) 0 0) wz rfl (ae (vI n_2) wz rfl ?_)))))))
 obtain ⟨r_3,hr_4,hF⟩:=bind_some hF
 refine bS 0 [0] il ft (kC hr_4) rfl OQ rfl (by kernel_rfl) (by kernel_rfl) (by kernel_rfl) (by kernel_rfl) (by kernel_rfl) (by kernel_rfl) (by kernel_rfl) (by decide) (by kernel_rfl) wz (vI r_3.1) (by kernel_rfl) ([((av 0),some (.cells 2 [(vL eI r_3.2.L),(vI r_3.2.f_at)]))]:Hp) (by kernel_rfl) (ae (vB (r_3.1==0)) wz rfl (ae (vB (r_3.1==0)) wz rfl (aj ?_)))
 obtain rfl:=ah hF
 exact aG (wE (.inr rfl) [(vB (r_3.1==0))] _ [0] [av 0] ⟨rfl,trivial⟩ (.cons (jF rfl rfl) (.nil)) (by kernel_rfl) ⟨(by kernel_rfl),trivial⟩ (by decide) (by kernel_rfl))
theorem ww {s_1:Stream} {r:Rect×Stream} (hF:jA s_1=some r) :
  FnM Tryz.prog 14 [(.ref (av 0) 0 0)] [(.cells 2 [(vL eI s_1.L),(vI s_1.f_at)])] (.d (.agg (Rect.enc r.1))) [some (.cells 2 [(vL eI r.2.L),(vI r.2.f_at)])]:=by
 refine FnM.of_wH ⟨Tryz.prog,12,[],[]⟩ rfl Tryz.func14 rfl rfl (lb_ rfl) (by kernel_rfl) ?_
 unfold jA at hF
 refine af (aa (cK 0 (.inl rfl) z55 rfl wz (λn_2=>aj (af (aa (ae (.ref (av 0) 0 0) wz rfl ?_))))))
 obtain ⟨r_3,hr_4,hF⟩:=bind_some hF
 refine bS 0 [0] il ft (dz hr_4) rfl hb5 rfl (by kernel_rfl) (by kernel_rfl) (by kernel_rfl) (by kernel_rfl) (by kernel_rfl) (by kernel_rfl) (by kernel_rfl) (by decide) (by kernel_rfl) wz (vI r_3.1) (by kernel_rfl) ([((av 0),some (.cells 2 [(vL eI r_3.2.L),(vI r_3.2.f_at)])),(n_2,some (.cells 4 [(vI 0),(vI 0),(vI 0),(vI 0)]))]:Hp) (by kernel_rfl) (ae (.ref (av 0) 0 0) wz rfl ?_)
 obtain ⟨r_6,hr_7,hF⟩:=bind_some hF
 refine bS 0 [0] il ft (dz hr_7) rfl hb5 rfl (by kernel_rfl) (by kernel_rfl) (by kernel_rfl) (by kernel_rfl) (by kernel_rfl) (by kernel_rfl) (by kernel_rfl) (by decide) (by kernel_rfl) wz (vI r_6.1) (by kernel_rfl) ([((av 0),some (.cells 2 [(vL eI r_6.2.L),(vI r_6.2.f_at)])),(n_2,some (.cells 4 [(vI 0),(vI 0),(vI 0),(vI 0)]))]:Hp) (by kernel_rfl) (ae (.ref (av 0) 0 0) wz rfl ?_)
 obtain ⟨r_9,hr_10,hF⟩:=bind_some hF
 refine bS 0 [0] il ft (dz hr_10) rfl hb5 rfl (by kernel_rfl) (by kernel_rfl) (by kernel_rfl) (by kernel_rfl) (by kernel_rfl) (by kernel_rfl) (by kernel_rfl) (by decide) (by kernel_rfl) wz (vI r_9.1) (by kernel_rfl) ([((av 0),some (.cells 2 [(vL eI r_9.2.L),(vI r_9.2.f_at)])),(n_2,some (.cells 4 [(vI 0),(vI 0),(vI 0),(vI 0)]))]:Hp) (by kernel_rfl) (ae (.ref (av 0) 0 0) wz rfl ?_)
 obtain ⟨r_12,hr_13,hF⟩:=bind_some hF
 refine bS 0 [0] il ft (dz hr_13) rfl hb5 rfl (by kernel_rfl) (by kernel_rfl) (by kernel_rfl) (by kernel_rfl) (by kernel_rfl) (by kernel_rfl) (by kernel_rfl) (by decide) (by kernel_rfl) wz (vI r_12.1) (by kernel_rfl) ([((av 0),some (.cells 2 [(vL eI r_12.2.L),(vI r_12.2.f_at)])),(n_2,some (.cells 4 [(vI 0),(vI 0),(vI 0),(vI 0)]))]:Hp) (by kernel_rfl) (ae (.d (.agg (Rect.enc (⟨r_3.1,r_6.1,r_9.1,r_12.1⟩:Rect)))) wz (by kernel_rfl) (eD 0 il ft 1 vH rfl rfl [(vI r_3.1),(vI r_6.1),(vI r_9.1),(vI r_12.1)] rfl wz (aj ?_)))
 obtain rfl:=ah hF
 exact aG (wE (.inr rfl) [(.d (.agg (Rect.enc (⟨r_3.1,r_6.1,r_9.1,r_12.1⟩:Rect))))] _ [0] [av 0] ⟨⟨1,_,_,_,_,_,_,_,rfl,rfl,vH,Io,rfl⟩,trivial⟩ (.cons (jF rfl rfl) (.nil)) (by kernel_rfl) ⟨(by kernel_rfl),trivial⟩ (by decide) (by kernel_rfl))
theorem Cu {a_1:Alert} {b_2:Alert} {r:Int} (hF:mq a_1 b_2=some r) :
  FnM Tryz.prog 16 [(.d (.agg (Alert.enc a_1))),(.d (.agg (Alert.enc b_2)))] [] (vI r) []:=by
 refine FnM.of_wH ⟨Tryz.prog,20,[],[]⟩ rfl Tryz.func16 rfl rfl (lb_ rfl) (by kernel_rfl) ?_
 unfold mq at hF
 refine af (aa (dL 0 (.inl rfl) [(vS a_1.Id),(vS a_1.Sender),(vI a_1.Kind),(vL eS a_1.Refs),(vI a_1.At),(vI a_1.Until),(vI a_1.Weight),(vL Rect.enc a_1.Areas),(vS a_1.Text)] rfl rfl wz (λn_3=>dL 0 (.inl rfl) [(vS b_2.Id),(vS b_2.Sender),(vI b_2.Kind),(vL eS b_2.Refs),(vI b_2.At),(vI b_2.Until),(vI b_2.Weight),(vL Rect.enc b_2.Areas),(vS b_2.Text)] rfl rfl wz (λn_4=>ae (vI 0) wz rfl (aj (af (af (aa (aH oL rfl 4 rfl wz (aA 0 0 il ft sz3 ag3 rfl rfl (vI a_1.At) rfl wz (aH oL rfl 4 rfl wz (aA 0 1 il ft sz3 ag3 rfl rfl (vI b_2.At) rfl wz (ae (vB (a_1.At != b_2.At)) wz rfl (aj ?_))))))))))))))
 rcases au hF with⟨hc_5,hF⟩|⟨hc_5,hF⟩
 ·refine aC rfl hc_5 (af (aa (aH oL rfl 4 rfl wz (aA 0 0 il ft sz3 ag3 rfl rfl (vI a_1.At) rfl wz (aH oL rfl 4 rfl wz (aA 0 1 il ft sz3 ag3 rfl rfl (vI b_2.At) rfl wz (ae (vI (w64 (a_1.At-b_2.At))) wz rfl (ae (vI (w64 (a_1.At-b_2.At))) wz rfl (aj ?_)))))))))
  obtain rfl:=ah hF
  exact aG (aU (.inr rfl) [(vI (w64 (a_1.At-b_2.At)))] ⟨rfl,trivial⟩ rfl rfl rfl)
 ·refine aB rfl hc_5 (ax (af (af (aa (aH rO rfl 0 rfl wz (aA 0 0 il ft sz9 ag9 rfl rfl (vS a_1.Id) rfl wz (aH rO rfl 0 rfl wz (aA 0 1 il ft sz9 ag9 rfl rfl (vS b_2.Id) rfl wz (ae (vB (sLt a_1.Id b_2.Id)) wz rfl (aj ?_))))))))))
  rcases au hF with⟨hc_6,hF⟩|⟨hc_6,hF⟩
  ·refine aC rfl hc_6 (af (aa (ae (vI (-1)) wz rfl (aj ?_))))
   obtain rfl:=ah hF
   exact aG (aU (.inr rfl) [(vI (-1))] ⟨rfl,trivial⟩ rfl rfl rfl)
  ·refine aB rfl hc_6 (ax (af (aa (ae (vI 1) wz rfl (aj ?_)))))
   obtain rfl:=ah hF
   exact aG (aU (.inr rfl) [(vI 1)] ⟨rfl,trivial⟩ rfl rfl rfl)
theorem zP {x_1:Int} {r:Int} (hF:rM x_1=some r) :
  FnM Tryz.prog 66 [(.d (.int .u64 x_1))] [] (vI r) []:=by
 refine FnM.of_wH ⟨Tryz.prog,25,[],[]⟩ rfl Tryz.func66 rfl rfl (lb_ rfl) (by kernel_rfl) ?_
 unfold rM at hF
 refine af (aa (ae (vI 0) wz rfl (aj (af (af (aa (ae (.d (.int .u64 x_1)) wz rfl (ae (vB (decide (x_1>=4294967296))) wz rfl (aj ?_)))))))))
 obtain ⟨v_2,h_3,hF⟩:=bind_some hF
 refine aD (β:=Unit) (λ_=>([(0,(.d (.int .u64 v_2.1))),(2,(vI v_2.2))]:SL_)) (λ_=>([]:Hp)) (λ_=>True) ?_ ?_
 ·rcases au h_3 with⟨hc_4,h_3⟩|⟨hc_4,h_3⟩
  ·refine aC rfl hc_4 (af (aa (ae (.d (.int .u64 x_1)) wz rfl ?_)))
   obtain ⟨q_5,hz_6,h_3⟩:=bind_some h_3
   refine Jj rfl rfl hz_6 wz (ae (.d (.int .u64 q_5)) wz rfl (aj (aa (ae (vI 32) wz rfl (aj ?_)))))
   obtain rfl:=ah h_3
   exact cu
  ·refine aB rfl hc_4 (ax ?_)
   obtain rfl:=ah h_3
   exact cu
 ·rintro ⟨⟩ _ sl_ H_ hp_ hq_
  refine aL _ hp_ hq_ (af (af (aa (ae (.d (.int .u64 v_2.1)) wz rfl (ae (vB (decide (v_2.1>=65536))) wz rfl (aj ?_))))))
  obtain ⟨v_7,h_8,hF⟩:=bind_some hF
  refine aD (β:=Unit) (λ_=>([(0,(.d (.int .u64 v_7.1))),(2,(vI v_7.2))]:SL_)) (λ_=>([]:Hp)) (λ_=>True) ?_ ?_
  ·rcases au h_8 with⟨hc_9,h_8⟩|⟨hc_9,h_8⟩
   ·refine aC rfl hc_9 (af (aa (ae (.d (.int .u64 v_2.1)) wz rfl ?_)))
    obtain ⟨q_10,hz_11,h_8⟩:=bind_some h_8
    refine Jj rfl rfl hz_11 wz (ae (.d (.int .u64 q_10)) wz rfl (aj (aa (ae (vI v_2.2) wz rfl (ae (vI (w64 (v_2.2+16))) wz rfl (ae (vI (w64 (v_2.2+16))) wz rfl (aj ?_)))))))
    obtain rfl:=ah h_8
    exact cu
   ·refine aB rfl hc_9 (ax ?_)
    obtain rfl:=ah h_8
    exact cu
  ·rintro ⟨⟩ _ sl_ H_ hp_ hq_
   refine aL _ hp_ hq_ (af (af (aa (ae (.d (.int .u64 v_7.1)) wz rfl (ae (vB (decide (v_7.1>=256))) wz rfl (aj ?_))))))
   obtain ⟨v_12,h_13,hF⟩:=bind_some hF
   refine aD (β:=Unit) (λ_=>([(0,(.d (.int .u64 v_12.1))),(2,(vI v_12.2))]:SL_)) (λ_=>([]:Hp)) (λ_=>True) ?_ ?_
   ·rcases au h_13 with⟨hc_14,h_13⟩|⟨hc_14,h_13⟩
    ·refine aC rfl hc_14 (af (aa (ae (.d (.int .u64 v_7.1)) wz rfl ?_)))
     obtain ⟨q_15,hz_16,h_13⟩:=bind_some h_13
     refine Jj rfl rfl hz_16 wz (ae (.d (.int .u64 q_15)) wz rfl (aj (aa (ae (vI v_7.2) wz rfl (ae (vI (w64 (v_7.2+8))) wz rfl (ae (vI (w64 (v_7.2+8))) wz rfl (aj ?_)))))))
     obtain rfl:=ah h_13
     exact cu
    ·refine aB rfl hc_14 (ax ?_)
     obtain rfl:=ah h_13
     exact cu
   ·rintro ⟨⟩ _ sl_ H_ hp_ hq_
    refine aL _ hp_ hq_ (af (aa (ae (vI v_12.2) wz rfl (ae (.d (.int .u64 v_12.1)) wz rfl (nD Ay un5 rfl wz ?_)))))
    obtain ⟨b_17,hy_18,hF⟩:=bind_some hF
    refine mE un9 rfl rfl hy_18 wz (nD un5 un3 rfl wz (ae (vI (w64 (v_12.2+(w64 (b_17.toNat:Int))))) wz rfl (ae (vI (w64 (v_12.2+(w64 (b_17.toNat:Int))))) wz rfl (aj ?_))))
    obtain rfl:=ah hF
    exact aG (aU (.inr rfl) [(vI (w64 (v_12.2+(w64 (b_17.toNat:Int)))))] ⟨rfl,trivial⟩ rfl rfl rfl)
theorem qw {x_1:Int} {r:Int} (hF:fO x_1=some r) :
  FnM Tryz.prog 28 [(.d (.int .u64 x_1))] [] (vI r) []:=by
 refine FnM.of_wH ⟨Tryz.prog,8,[],[]⟩ rfl Tryz.func28 rfl rfl (lb_ rfl) (by kernel_rfl) ?_
 unfold fO at hF
 refine af (aa (ae (vI 0) wz rfl (aj (af (aB rfl rfl (ax (af (aa (ae (.d (.int .u64 x_1)) wz rfl ?_)))))))))
 obtain ⟨r_2,hr_3,hF⟩:=bind_some hF
 refine aI (zP hr_3) rfl hb66 rfl rfl rfl rfl wz (ae (vI r_2) wz rfl (aj ?_))
 obtain rfl:=ah hF
 exact aG (aU (.inr rfl) [(vI r_2)] ⟨rfl,trivial⟩ rfl rfl rfl)
theorem lq {data_1:(List Alert)} {a_2:Int} {b_3:Int} {r:(List Alert)} (hF:fD data_1 a_2 b_3=some r) :
  FnM Tryz.prog 57 [(dV (av 0) 9 data_1),(vI a_2),(vI b_3),(.fn 16 [])] (([]:List Box)++gI 9 Alert.enc data_1) (.tup []) (([]:List Box).map some++gT data_1 (gB 9 Alert.enc r)):=by
 refine FnM.of_wHv ⟨Tryz.prog,53,[],[]⟩ rfl Tryz.func57 rfl rfl (lb_ rfl) (by kernel_rfl) ?_
 unfold fD at hF
 refine af (aa (ae (vI a_2) wz rfl (ae (vI (w64 (a_2+1))) wz rfl (ae (vI (w64 (a_2+1))) wz rfl (aj ?_)))))
 obtain ⟨o_13,hj_14,hF⟩:=bind_some hF
 obtain ⟨nq_51,hj_14⟩:=bR hj_14
 refine aD (β:=((List Alert)×Int)) (λ(s_10:(List Alert)×Int)=>([]:SL_)) (λ(s_10:(List Alert)×Int)=>([((av 0),gB 9 Alert.enc s_10.1)]:Hp)) (λp=>o_13 = .go p) ?_ ?_
 ·refine ay (aS (β:=Nat×((List Alert)×Int)) (λp=>(λ(k_5:Nat) (s_10:(List Alert)×Int)=>([(0,(dV (av 0) 9 s_10.1)),(1,(vI a_2)),(2,(vI b_3)),(3,(.fn 16 [])),(8,(vI s_10.2))]:SL_)) p.1 p.2) (λp=>(λ(k_5:Nat) (s_10:(List Alert)×Int)=>([((av 0),gB 9 Alert.enc s_10.1)]:Hp)) p.1 p.2) (λp=>iterN (λs=>eO b_3 a_2 s) p.1 p.2=some o_13) (λp=>p.1) (nq_51,(data_1,(w64 (a_2+1)))) hj_14 rfl (aJ rfl) ?_)
  rintro ⟨k_5,s_10⟩ hL_12
  dsimp only at hL_12
  cases k_5 with
  | zero=>cases hL_12
  | succ k_5 =>
   obtain ⟨c_,hc_11,hL_12⟩:=bind_some hL_12
   unfold eO at hc_11
   refine af (af (aa (ae (vI s_10.2) wz rfl (ae (vI b_3) wz rfl (ae (vB (decide (s_10.2<b_3))) wz rfl (aj ?_))))))
   rcases au hc_11 with⟨hc_15,hc_11⟩|⟨hc_15,hc_11⟩
   ·refine aC rfl hc_15 (ax (af (ay (af (aa (ae (vI s_10.2) wz rfl (ae (vI s_10.2) wz rfl (aj ?_))))))))
    obtain ⟨o_24,hj_25,hc_11⟩:=bind_some hc_11
    obtain ⟨nq_50,hj_25⟩:=bR hj_25
    refine aD (β:=((List Alert)×Int)) (λ(s_21:(List Alert)×Int)=>([(0,(dV (av 0) 9 s_21.1)),(1,(vI a_2)),(2,(vI b_3)),(3,(.fn 16 [])),(8,(vI s_10.2))]:SL_)) (λ(s_21:(List Alert)×Int)=>([((av 0),gB 9 Alert.enc s_21.1)]:Hp)) (λp=>o_24 = .go p) ?_ ?_
    ·refine ay (aS (β:=Nat×((List Alert)×Int)) (λp=>(λ(k_16:Nat) (s_21:(List Alert)×Int)=>([(0,(dV (av 0) 9 s_21.1)),(1,(vI a_2)),(2,(vI b_3)),(3,(.fn 16 [])),(8,(vI s_10.2)),(9,(vI s_21.2))]:SL_)) p.1 p.2) (λp=>(λ(k_16:Nat) (s_21:(List Alert)×Int)=>([((av 0),gB 9 Alert.enc s_21.1)]:Hp)) p.1 p.2) (λp=>iterN (λs=>eQ a_2 s) p.1 p.2=some o_24) (λp=>p.1) (nq_50,(s_10.1,s_10.2)) hj_25 rfl (aJ rfl) ?_)
     rintro ⟨k_16,s_21⟩ hL_23
     dsimp only at hL_23
     cases k_16 with
     | zero=>cases hL_23
     | succ k_16 =>
      obtain ⟨c_,hc_22,hL_23⟩:=bind_some hL_23
      unfold eQ at hc_22
      refine af (af ?_)
      obtain ⟨v_26,h_27,hc_22⟩:=bind_some hc_22
      refine aD (β:=Unit) (λ_=>([(0,(dV (av 0) 9 s_21.1)),(1,(vI a_2)),(2,(vI b_3)),(3,(.fn 16 [])),(8,(vI s_10.2)),(9,(vI s_21.2)),(34,(vB v_26))]:SL_)) (λ_=>([((av 0),gB 9 Alert.enc s_21.1)]:Hp)) (λ_=>True) ?_ ?_
      ·refine aW (ae (vI s_21.2) wz rfl (ae (vI a_2) wz rfl (ae (vB (decide (s_21.2>a_2))) wz rfl ?_)))
       rcases au h_27 with⟨hc_28,h_27⟩|⟨hc_28,h_27⟩
       ·refine aF rfl hc_28 wz (ae (.fn 16 []) wa rfl (ae (dV (av 0) 9 s_21.1) wa rfl (ae (vI s_21.2) wa rfl ?_)))
        obtain ⟨_,hi_29,h_27⟩:=bind_some h_27
        refine jQ uo rfl rfl (ig hi_29) (eX hi_29) wa ?_
        obtain ⟨e_30,hy_31,h_27⟩:=bind_some h_27
        refine jr 8 0 (.inr (by kernel_rfl)) (λ_ _ ag=>trivial) lL qZ rfl rfl hy_31 (.d (.agg (Alert.enc e_30))) rfl wa (ae (dV (av 0) 9 s_21.1) wa rfl (ae (vI s_21.2) wa rfl (ae (vI (w64 (s_21.2-1))) wa rfl ?_)))
        obtain ⟨_,hi_32,h_27⟩:=bind_some h_27
        refine jQ uo rfl rfl (ig hi_32) (eX hi_32) wa ?_
        obtain ⟨e_33,hy_34,h_27⟩:=bind_some h_27
        refine jr 13 0 (.inr (by kernel_rfl)) (λ_ _ ag=>⟨.inl ⟨rfl,rfl⟩,trivial⟩) lL qZ rfl rfl hy_34 (.d (.agg (Alert.enc e_33))) rfl wa ?_
        obtain ⟨r_35,hr_36,h_27⟩:=bind_some h_27
        refine aI (Cu hr_36) rfl hb16 rfl rfl rfl rfl wa (ae (vB (decide (r_35<0))) wa rfl (ae (vB (decide (r_35<0))) wz rfl (aj ?_)))
        obtain rfl:=ah h_27
        exact cu
       ·refine aF rfl hc_28 wz (ak wa (ak wa (ak wa (ak wa (ak wa (ak wa (ak wa (ak wa (ak wa (ak wa (ak wa (ak wa (ae (vB false) wz rfl (aj ?_))))))))))))))
        obtain rfl:=ah h_27
        exact cu
      ·rintro ⟨⟩ _ sl_ H_ hp_ hq_
       refine aL _ hp_ hq_ ?_
       rcases au hc_22 with⟨hc_37,hc_22⟩|⟨hc_37,hc_22⟩
       ·refine aC rfl hc_37 (ax (af (ay (aW (ae (dV (av 0) 9 s_21.1) wz rfl (ae (vI s_21.2) wz rfl (ae (dV (av 0) 9 s_21.1) wz rfl (ae (vI s_21.2) wz rfl (ae (vI (w64 (s_21.2-1))) wz rfl (ae (dV (av 0) 9 s_21.1) wz rfl (ae (vI s_21.2) wz rfl (ae (vI (w64 (s_21.2-1))) wz rfl ?_))))))))))))
        obtain ⟨_,hi_38,hc_22⟩:=bind_some hc_22
        refine jQ uo rfl rfl (ig hi_38) (eX hi_38) wz ?_
        obtain ⟨e_39,hy_40,hc_22⟩:=bind_some hc_22
        refine jr 9 0 (.inr (by kernel_rfl)) (λ_ _ ag=>trivial) lL qZ rfl rfl hy_40 (.d (.agg (Alert.enc e_39))) rfl wz (ae (dV (av 0) 9 s_21.1) wz rfl (ae (vI s_21.2) wz rfl ?_))
        obtain ⟨_,hi_41,hc_22⟩:=bind_some hc_22
        refine jQ uo rfl rfl (ig hi_41) (eX hi_41) wz ?_
        obtain ⟨e_42,hy_43,hc_22⟩:=bind_some hc_22
        refine jr 13 0 (.inr (by kernel_rfl)) (λ_ _ ag=>⟨.inl ⟨rfl,rfl⟩,trivial⟩) lL qZ rfl rfl hy_43 (.d (.agg (Alert.enc e_42))) rfl wz ?_
        obtain ⟨_,hi_44,hc_22⟩:=bind_some hc_22
        refine jQ uo rfl rfl (ig hi_44) (eX hi_44) wz ?_
        obtain ⟨e_45,hy_46,hc_22⟩:=bind_some hc_22
        refine sU 15 (.inr (by kernel_rfl)) (λ_ _ ag=>⟨.inr (.inr (by kernel_rfl)),⟨.inr (.inr (by kernel_rfl)),trivial⟩⟩) 0 lL rfl rfl hy_46 e_39 rfl wz (dn (v':=(dV (av 0) 9 (s_21.1.set (0+(s_21.2).toNat) e_39))) 0 rfl (dQ (by simp)) (dn (v':=(dV (av 0) 9 (s_21.1.set (0+(s_21.2).toNat) e_39))) 37 rfl (dQ (by simp)) (dn (v':=(dV (av 0) 9 (s_21.1.set (0+(s_21.2).toNat) e_39))) 39 rfl (dQ (by simp)) (dn (v':=(dV (av 0) 9 (s_21.1.set (0+(s_21.2).toNat) e_39))) 42 rfl (dQ (by simp)) (dn (v':=(dV (av 0) 9 (s_21.1.set (0+(s_21.2).toNat) e_39))) 47 rfl (dQ (by simp)) ?_)))))
        obtain ⟨_,hi_47,hc_22⟩:=bind_some hc_22
        refine jQ uo rfl rfl (ig hi_47) (eX hi_47) wz ?_
        obtain ⟨e_48,hy_49,hc_22⟩:=bind_some hc_22
        refine sU 17 (.inr (by kernel_rfl)) (λ_ _ ag=>⟨.inr (.inr (by kernel_rfl)),⟨.inr (.inr (by kernel_rfl)),⟨.inr (.inr (by kernel_rfl)),trivial⟩⟩⟩) 0 lL rfl rfl hy_49 e_42 rfl wz (dn (v':=(dV (av 0) 9 ((s_21.1.set (0+(s_21.2).toNat) e_39).set (0+((w64 (s_21.2-1))).toNat) e_42))) 0 rfl (dQ (by simp)) (dn (v':=(dV (av 0) 9 ((s_21.1.set (0+(s_21.2).toNat) e_39).set (0+((w64 (s_21.2-1))).toNat) e_42))) 37 rfl (dQ (by simp)) (dn (v':=(dV (av 0) 9 ((s_21.1.set (0+(s_21.2).toNat) e_39).set (0+((w64 (s_21.2-1))).toNat) e_42))) 39 rfl (dQ (by simp)) (dn (v':=(dV (av 0) 9 ((s_21.1.set (0+(s_21.2).toNat) e_39).set (0+((w64 (s_21.2-1))).toNat) e_42))) 42 rfl (dQ (by simp)) (dn (v':=(dV (av 0) 9 ((s_21.1.set (0+(s_21.2).toNat) e_39).set (0+((w64 (s_21.2-1))).toNat) e_42))) 47 rfl (dQ (by simp)) (aj (aa (ae (vI s_21.2) wz rfl (ae (vI (w64 (s_21.2-1))) wz rfl (ae (vI (w64 (s_21.2-1))) wz rfl (aj ?_)))))))))))
        obtain rfl:=ah hc_22
        exact aO (k_16,(((s_21.1.set (0+(s_21.2).toNat) e_39).set (0+((w64 (s_21.2-1))).toNat) e_42),(w64 (s_21.2-1)))) hL_23 (ls_ _) rfl (aJ rfl)
       ·refine aB rfl hc_37 (aP ?_)
        obtain rfl:=ah hc_22
        obtain rfl:=ah hL_23
        exact aN ((s_21.1,s_21.2)) rfl rfl (aJ rfl)
    ·rintro s_21 ho_ sl_ H_ hp_ hq_
     subst ho_
     refine aL _ hp_ hq_ (aa (ae (vI s_10.2) wz rfl (ae (vI (w64 (s_10.2+1))) wz rfl (ae (vI (w64 (s_10.2+1))) wz rfl (aj ?_)))))
     obtain rfl:=ah hc_11
     exact aO (k_5,(s_21.1,(w64 (s_10.2+1)))) hL_12 (ls_ _) rfl (aJ rfl)
   ·refine aB rfl hc_15 (aP ?_)
    obtain rfl:=ah hc_11
    obtain rfl:=ah hL_12
    exact aN ((s_10.1,s_10.2)) rfl rfl (aJ rfl)
 ·rintro s_10 ho_ sl_ H_ hp_ hq_
  subst ho_
  show uO _ _ _ _ _ _ _ _
  obtain rfl:=ah hF
  exact yO (H0:=([((av 0),gB 9 Alert.enc s_10.1)]:Hp)) (sl':=envS []) hq_ (y9 (bs:=([]:List Box)) (os:=([]:List Box)) (xs:=data_1) (o:=gB 9 Alert.enc s_10.1) (.inl rfl) [] trivial rfl rfl rfl rfl rfl (by kernel_rfl) kX rfl)
theorem nQ {data_1:(List Alert)} {a_2:Int} {b_3:Int} {limit_4:Int} {r:(List Alert)} (hF:gK data_1 a_2 b_3 limit_4=some r) :
  FnM Tryz.prog 27 [(dV (av 0) 9 data_1),(vI a_2),(vI b_3),(vI limit_4),(.fn 16 [])] (([]:List Box)++gI 9 Alert.enc data_1) (.tup []) (([]:List Box).map some++gT data_1 (gB 9 Alert.enc r)):=by
 refine FnM.of_wHv ⟨Tryz.prog,148,[],[]⟩ rfl Tryz.func27 rfl rfl (lb_ rfl) (by kernel_rfl) ?_
 unfold gK at hF
 refine af (aa (ae (vB true) wz rfl (aj (af (aa (ae (vB true) wz rfl (aj ?_)))))))
 obtain ⟨o_14,hj_15,hF⟩:=bind_some hF
 obtain ⟨nq_21,hj_15⟩:=bR hj_15
 refine aD (β:=(Unit)) (λ(s_11:Unit)=>([]:SL_)) (λ(s_11:Unit)=>([((av 0),gB 9 Alert.enc data_1)]:Hp)) (λp=>o_14 = .go p) ?_ ?_
 ·refine ay (aS (β:=Nat×(Unit)) (λp=>(λ(k_6:Nat) (s_11:Unit)=>([(0,(dV (av 0) 9 data_1)),(1,(vI a_2)),(2,(vI b_3)),(3,(vI limit_4)),(4,(.fn 16 [])),(10,(vB true)),(11,(vB true))]:SL_)) p.1 p.2) (λp=>(λ(k_6:Nat) (s_11:Unit)=>([((av 0),gB 9 Alert.enc data_1)]:Hp)) p.1 p.2) (λp=>iterN (λs=>fQ b_3 a_2 data_1 limit_4 s) p.1 p.2=some o_14) (λp=>p.1) (nq_21,()) hj_15 rfl (aJ rfl) ?_)
  rintro ⟨k_6,s_11⟩ hL_13
  dsimp only at hL_13
  cases k_6 with
  | zero=>cases hL_13
  | succ k_6 =>
   obtain ⟨c_,hc_12,hL_13⟩:=bind_some hL_13
   unfold fQ at hc_12
   refine ay (af (aa (ae (vI b_3) wz rfl (ae (vI a_2) wz rfl (ae (vI (w64 (b_3-a_2))) wz rfl (ae (vI (w64 (b_3-a_2))) wz rfl (aj (af (af (aa (ae (vI (w64 (b_3-a_2))) wz rfl (ae (vB (decide ((w64 (b_3-a_2))<=12))) wz rfl (aj ?_)))))))))))))
   rcases au hc_12 with⟨hc_16,hc_12⟩|⟨hc_16,hc_12⟩
   ·refine aC rfl hc_16 (af (aa (ae (dV (av 0) 9 data_1) wz rfl (ae (vI a_2) wz rfl (ae (vI b_3) wz rfl (ae (.fn 16 []) wz rfl ?_))))))
    obtain ⟨r_17,hr_18,hc_12⟩:=bind_some hc_12
    obtain ⟨_,hs_19,hc_12⟩:=bind_some hc_12
    replace hs_19:=lm hs_19
    refine kw 0 [] 0 0 il ft (lq hr_18) rfl hb57 rfl rfl rfl (by kernel_rfl) rfl (.inr (.inl rfl)) rfl (by kernel_rfl) (by kernel_rfl) (by kernel_rfl) (by kernel_rfl) rfl (by decide) (by kernel_rfl) kX (uC hs_19) wz ([((av 0),gB 9 Alert.enc r_17)]:Hp) (by kernel_rfl) (dn (v':=(dV (av 0) 9 r_17)) 0 rfl (dQ hs_19.symm) (dn (v':=(dV (av 0) 9 r_17)) 26 rfl (dQ hs_19.symm) (aj ?_)))
    obtain rfl:=ah hc_12
    obtain rfl:=ah hL_13
    obtain rfl:=ah hF
    exact aG (y9 (bs:=([]:List Box)) (os:=([]:List Box)) (xs:=data_1) (o:=gB 9 Alert.enc r_17) (.inr rfl) [] trivial rfl rfl rfl rfl rfl (by kernel_rfl) kX rfl)
   ·refine aB rfl hc_16 (ax (af (af (aa (ae (vI limit_4) wz rfl (ae (vB (limit_4==0)) wz rfl (aj ?_)))))))
    rcases au hc_12 with⟨hc_20,hc_12⟩|⟨hc_20,hc_12⟩
    ·refine aC rfl hc_20 (af (aa (ae (dV (av 0) 9 data_1) wz rfl (ae (vI a_2) wz rfl (ae (vI b_3) wz rfl (ae (.fn 16 []) wz rfl ?_))))))
     cases hc_12
    ·refine aB rfl hc_20 (ax (af (af (aa (ae (vB true) wz rfl (ae (vB false) wz rfl (aj (aB rfl rfl (ax (af (aa (ae (dV (av 0) 9 data_1) wz rfl (ae (vI a_2) wz rfl (ae (vI b_3) wz rfl (ae (.fn 16 []) wz rfl ?_)))))))))))))))
     cases hc_12
 ·rintro s_11 ho_ sl_ H_ hp_ hq_
  subst ho_
  show uO _ _ _ _ _ _ _ _
  obtain rfl:=ah hF
  exact yO (H0:=([((av 0),gB 9 Alert.enc data_1)]:Hp)) (sl':=envS []) hq_ (y9 (bs:=([]:List Box)) (os:=([]:List Box)) (xs:=data_1) (o:=gB 9 Alert.enc data_1) (.inl rfl) [] trivial rfl rfl rfl rfl rfl (by kernel_rfl) kX rfl)
theorem lY {x_1:(List Alert)} {r:(List Alert)} (hF:dm x_1=some r) :
  FnM Tryz.prog 15 [(dV (av 0) 9 x_1),(.fn 16 [])] (([]:List Box)++gI 9 Alert.enc x_1) (.tup []) (([]:List Box).map some++gT x_1 (gB 9 Alert.enc r)):=by
 refine FnM.of_wHv ⟨Tryz.prog,14,[],[]⟩ rfl Tryz.func15 rfl rfl (lb_ rfl) (by kernel_rfl) ?_
 unfold dm at hF
 refine af (aa (ae (dV (av 0) 9 x_1) wz rfl (zQ FP rfl wz (ae (vI (x_1.length:Int)) wz rfl (aj (aa (ae (dV (av 0) 9 x_1) wz rfl (ae (vI (x_1.length:Int)) wz rfl (ae (vI (x_1.length:Int)) wz rfl (nD un3 K8 rfl wz ?_))))))))))
 obtain ⟨r_3,hr_4,hF⟩:=bind_some hF
 refine aI (qw hr_4) rfl hb28 rfl rfl rfl rfl wz (ae (.fn 16 []) wz rfl ?_)
 obtain ⟨r_5,hr_6,hF⟩:=bind_some hF
 obtain ⟨_,hs_7,hF⟩:=bind_some hF
 replace hs_7:=lm hs_7
 refine kw 0 [] 0 0 il ft (nQ hr_6) rfl hb27 rfl rfl rfl (by kernel_rfl) rfl (.inr (.inl rfl)) rfl (by kernel_rfl) (by kernel_rfl) (by kernel_rfl) (by kernel_rfl) rfl (by decide) (by kernel_rfl) kX (uC hs_7) wz ([((av 0),gB 9 Alert.enc r_5)]:Hp) (by kernel_rfl) (dn (v':=(dV (av 0) 9 r_5)) 0 rfl (dQ hs_7.symm) (dn (v':=(dV (av 0) 9 r_5)) 5 rfl (dQ hs_7.symm) (dn (v':=(dV (av 0) 9 r_5)) 7 rfl (dQ hs_7.symm) (aj ?_))))
 show uO _ _ _ _ _ _ _ _
 obtain rfl:=ah hF
 exact y9 (bs:=([]:List Box)) (os:=([]:List Box)) (xs:=x_1) (o:=gB 9 Alert.enc r_5) (.inl rfl) [] trivial rfl rfl rfl rfl rfl (by kernel_rfl) kX rfl
theorem uJ {s_1:Stream} {most_2:Int} {r:(List Alert)×Stream} (hF:gz s_1 most_2=some r) :
  FnM Tryz.prog 4 [(.ref (av 0) 0 0),(vI most_2)] [(.cells 2 [(vL eI s_1.L),(vI s_1.f_at)])] (vL Alert.enc r.1) [some (.cells 2 [(vL eI r.2.L),(vI r.2.f_at)])]:=by
 refine FnM.of_wH ⟨Tryz.prog,101,[],[]⟩ rfl Tryz.func4 rfl rfl (lb_ rfl) (by kernel_rfl) ?_
 unfold gz at hF
 refine af (aa (ae .nil wz rfl (aj (af (aa (ae .nil wz rfl (aj (af (af (aa (dW (([(⟨#[97,97]⟩:ByteArray),(⟨#[97,98]⟩:ByteArray),(⟨#[97,99]⟩:ByteArray),(⟨#[97,100]⟩:ByteArray),(⟨#[97,101]⟩:ByteArray),(⟨#[97,102]⟩:ByteArray)]:List ByteArray).map eS) qy Cc rfl rfl rfl rfl rfl wz (ae (.ref (av 0) 0 0) wz rfl (ae (vI most_2) wz rfl ?_)))))))))))))
 obtain ⟨r_3,hr_4,hF⟩:=bind_some hF
 refine bS 0 [0] il ft (dz hr_4) rfl hb5 rfl (by kernel_rfl) (by kernel_rfl) (by kernel_rfl) (by kernel_rfl) (by kernel_rfl) (by kernel_rfl) (by kernel_rfl) (by decide) (by kernel_rfl) wz (vI r_3.1) (by kernel_rfl) ([((av 0),some (.cells 2 [(vL eI r_3.2.L),(vI r_3.2.f_at)]))]:Hp) (by kernel_rfl) ?_
 obtain ⟨y_6,hy_7,hF⟩:=bind_some hF
 refine Dm yY sz9 (λ_=>rfl) rfl rfl hy_7 wz (bW yY rfl wz (ae (vI 0) wz rfl (aj (kg (λn_14 => ?_)))))
 obtain ⟨o_19,hj_20,hF⟩:=bind_some hF
 obtain ⟨hn_12,hj_20⟩:=aV hj_20
 refine aD (β:=((List Alert)×(List Int)×Int)×Nm) (λp=>(λ(s_13:(List Alert)×(List Int)×Int) (n_16:Nm)=>([(5,(gV n_16 9 s_13.1))]:SL_)) p.1 p.2) (λp=>(λ(s_13:(List Alert)×(List Int)×Int) (n_16:Nm)=>([((av 0),some (.cells 2 [(vL eI s_13.2.1),(vI s_13.2.2)])),(n_16,gB 9 Alert.enc s_13.1)]:Hp)) p.1 p.2) (λp=>o_19 = .go p.1) ?_ ?_
 ·refine ay (aS (β:=Nat×(List ByteArray)×((List Alert)×(List Int)×Int)×Nm) (λp=>(λ(k_8:Nat) (l_9:List ByteArray) (s_13:(List Alert)×(List Int)×Int) (n_16:Nm)=>([(0,(.ref (av 0) 0 0)),(5,(gV n_16 9 s_13.1)),(15,(vL eS y_6)),(16,(vI (y_6.length:Int))),(17,(vI (k_8:Int)))]:SL_)) p.1 p.2.1 p.2.2.1 p.2.2.2) (λp=>(λ(k_8:Nat) (l_9:List ByteArray) (s_13:(List Alert)×(List Int)×Int) (n_16:Nm)=>([((av 0),some (.cells 2 [(vL eI s_13.2.1),(vI s_13.2.2)])),(n_16,gB 9 Alert.enc s_13.1)]:Hp)) p.1 p.2.1 p.2.2.1 p.2.2.2) (λp=>forR (λk x s=>fA k x s) p.2.1 p.1 p.2.2.1=some o_19/\(y_6).drop p.1=p.2.1) (λp=>p.2.1.length) (0,y_6,(([]:List Alert),r_3.2.L,r_3.2.f_at),n_14) ⟨hj_20,rfl⟩ rfl (aJ rfl) ?_)
  rintro ⟨k_8,l_9,s_13,n_16⟩ ⟨hL_18,hD_11⟩
  dsimp only at hL_18 hD_11
  cases l_9 with
  | nil =>
   obtain rfl:=ah hL_18
   refine af (aa (ae (vB (decide ((k_8:Int)<(y_6.length:Int)))) wz rfl (aj ?_)))
   refine af (aB rfl (drop_nil hD_11) (aP ?_))
   exact aN (s_13,n_16) rfl rfl (aJ rfl)
  | cons x_10 l_9 =>
   obtain ⟨c_,hc_17,hL_18⟩:=bind_some hL_18
   refine af (aa (ae (vB (decide ((k_8:Int)<(y_6.length:Int)))) wz rfl (aj ?_)))
   refine af (aC rfl (bf hD_11) (ax ?_))
   unfold fA at hc_17
   refine af (ay (af (aa (dK qy rfl rfl (bG hD_11) rfl wz (bB sz9 ag9 rfl (vS x_10) rfl wz (ae (vS x_10) wz rfl (aj (af (aa (ae (vS x_10) wz rfl (ae (.ref (av 0) 0 0) wz rfl (dW (([(⟨#[119,120]⟩:ByteArray),(⟨#[119,120]⟩:ByteArray),(⟨#[102,105,114,101]⟩:ByteArray)]:List ByteArray).map eS) qy Cc rfl rfl rfl rfl rfl wz ?_))))))))))))
   obtain ⟨r_21,hr_22,hc_17⟩:=bind_some hc_17
   refine bS 0 [0] il ft (mK hr_22) rfl hb11 rfl (by kernel_rfl) (by kernel_rfl) (by kernel_rfl) (by kernel_rfl) (by kernel_rfl) (by kernel_rfl) (by kernel_rfl) (by decide) (by kernel_rfl) wz (vS r_21.1) (by kernel_rfl) ([((av 0),some (.cells 2 [(vL eI r_21.2.L),(vI r_21.2.f_at)])),(n_16,gB 9 Alert.enc s_13.1)]:Hp) (by kernel_rfl) (ae (.ref (av 0) 0 0) wz rfl (dW (([1,1,2,2,3]:List Int).map eI) jf uh rfl rfl rfl rfl rfl wz ?_))
   obtain ⟨r_24,hr_25,hc_17⟩:=bind_some hc_17
   refine bS 0 [0] il ft (dU hr_25) rfl El rfl (by kernel_rfl) (by kernel_rfl) (by kernel_rfl) (by kernel_rfl) (by kernel_rfl) (by kernel_rfl) (by kernel_rfl) (by decide) (by kernel_rfl) wz (vI r_24.1) (by kernel_rfl) ([((av 0),some (.cells 2 [(vL eI r_24.2.L),(vI r_24.2.f_at)])),(n_16,gB 9 Alert.enc s_13.1)]:Hp) (by kernel_rfl) (ae (.ref (av 0) 0 0) wz rfl ?_)
   obtain ⟨r_27,hr_28,hc_17⟩:=bind_some hc_17
   refine bS 0 [0] il ft (dz hr_28) rfl hb5 rfl (by kernel_rfl) (by kernel_rfl) (by kernel_rfl) (by kernel_rfl) (by kernel_rfl) (by kernel_rfl) (by kernel_rfl) (by decide) (by kernel_rfl) wz (vI r_27.1) (by kernel_rfl) ([((av 0),some (.cells 2 [(vL eI r_27.2.L),(vI r_27.2.f_at)])),(n_16,gB 9 Alert.enc s_13.1)]:Hp) (by kernel_rfl) (ae (vI (w64 (r_27.1*5))) wz rfl (ae (.ref (av 0) 0 0) wz rfl (dW (([1,5,5,9]:List Int).map eI) jf uh rfl rfl rfl rfl rfl wz ?_)))
   obtain ⟨r_30,hr_31,hc_17⟩:=bind_some hc_17
   refine bS 0 [0] il ft (dU hr_31) rfl El rfl (by kernel_rfl) (by kernel_rfl) (by kernel_rfl) (by kernel_rfl) (by kernel_rfl) (by kernel_rfl) (by kernel_rfl) (by decide) (by kernel_rfl) wz (vI r_30.1) (by kernel_rfl) ([((av 0),some (.cells 2 [(vL eI r_30.2.L),(vI r_30.2.f_at)])),(n_16,gB 9 Alert.enc s_13.1)]:Hp) (by kernel_rfl) (ae (.ref (av 0) 0 0) wz rfl (dW (([(⟨#[102,108,111,111,100]⟩:ByteArray),(⟨#[102,105,114,101,32,105,110,32,116,104,101,32,109,97,108,108]⟩:ByteArray)]:List ByteArray).map eS) qy Cc rfl rfl rfl rfl rfl wz ?_))
   obtain ⟨r_33,hr_34,hc_17⟩:=bind_some hc_17
   refine bS 0 [0] il ft (mK hr_34) rfl hb11 rfl (by kernel_rfl) (by kernel_rfl) (by kernel_rfl) (by kernel_rfl) (by kernel_rfl) (by kernel_rfl) (by kernel_rfl) (by decide) (by kernel_rfl) wz (vS r_33.1) (by kernel_rfl) ([((av 0),some (.cells 2 [(vL eI r_33.2.L),(vI r_33.2.f_at)])),(n_16,gB 9 Alert.enc s_13.1)]:Hp) (by kernel_rfl) (ae (.agg [(vS x_10),(vS r_21.1),(vI r_24.1),.nil,(vI (w64 (r_27.1*5))),(vI 0),(vI r_30.1),.nil,(vS r_33.1)]) wz (by kernel_rfl) (cK 0 (.inl rfl) z52 rfl wz (λn_36=>eD 0 il ft 2 lL rfl rfl [(vS x_10),(vS r_21.1),(vI r_24.1),.nil,(vI (w64 (r_27.1*5))),(vI 0),(vI r_30.1),.nil,(vS r_33.1)] rfl wz (aj (af (aW (aH oL rfl 4 rfl wz (aA 1 2 (.inr (by kernel_rfl)) (λ_ _ ag=>trivial) sz3 ag3 rfl rfl (vI (w64 (r_27.1*5))) rfl wz (ae (.ref (av 0) 0 0) wz rfl (dW (([1,10,20,50]:List Int).map eI) jf uh rfl rfl rfl rfl rfl wz ?_))))))))))
   obtain ⟨r_37,hr_38,hc_17⟩:=bind_some hc_17
   refine bS 4 [0] (.inr (by kernel_rfl)) (λ_ _ ag=>by exact⟨.inr (.inl (Kj (CJ ag (i:=0) (j:=2) rfl rfl (by decide)))),trivial⟩) (dU hr_38) rfl El rfl (by kernel_rfl) (by kernel_rfl) (by kernel_rfl) (by kernel_rfl) (by kernel_rfl) (by kernel_rfl) (by kernel_rfl) (by decide) (by kernel_rfl) wz (vI r_37.1) (by kernel_rfl) ([((av 0),some (.cells 2 [(vL eI r_37.2.L),(vI r_37.2.f_at)])),(n_16,gB 9 Alert.enc s_13.1),(n_36,some (.cells 9 [(vS x_10),(vS r_21.1),(vI r_24.1),.nil,(vI (w64 (r_27.1*5))),(vI 0),(vI r_30.1),.nil,(vS r_33.1)]))]:Hp) (by kernel_rfl) (ae (vI (w64 ((w64 (r_27.1*5))+r_37.1))) wz rfl (aH Lv rfl 5 rfl wz (eD 7 (.inr (by kernel_rfl)) (λ_ _ ag=>⟨.inr (.inr (by kernel_rfl)),⟨.inr (.inr (by kernel_rfl)),trivial⟩⟩) 2 sz3 rfl rfl [(vS x_10),(vS r_21.1),(vI r_24.1),.nil,(vI (w64 (r_27.1*5))),(vI (w64 ((w64 (r_27.1*5))+r_37.1))),(vI r_30.1),.nil,(vS r_33.1)] rfl wz (aj (aL (H0:=([((av 0),some (.cells 2 [(vL eI r_37.2.L),(vI r_37.2.f_at)])),(n_16,gB 9 Alert.enc s_13.1),(n_36,some (.cells 9 [(vS x_10),(vS r_21.1),(vI r_24.1),.nil,(vI (w64 (r_27.1*5))),(vI (w64 ((w64 (r_27.1*5))+r_37.1))),(vI r_30.1),.nil,(vS r_33.1)]))]:Hp)) ([(0,(.ref (av 0) 0 0)),(5,(gV n_16 9 s_13.1)),(7,(vS x_10)),(8,(.ref n_36 0 0)),(15,(vL eS y_6)),(16,(vI (y_6.length:Int))),(17,(vI (k_8:Int)))]:SL_) (by kernel_rfl) (uP (by kernel_rfl)) (af (af (aa (aH BA rfl 2 rfl wz (aA 0 2 il ft sz3 ag3 rfl rfl (vI r_24.1) rfl wz (ae (vB (r_24.1 != 1)) wz rfl (aj ?_))))))))))))
   obtain ⟨v_42,h_43,hc_17⟩:=bind_some hc_17
   refine aD (β:=Unit) (λ_=>([(0,(.ref (av 0) 0 0)),(5,(gV n_16 9 s_13.1)),(8,(.ref n_36 0 0)),(15,(vL eS y_6)),(16,(vI (y_6.length:Int))),(17,(vI (k_8:Int)))]:SL_)) (λ_=>([((av 0),some (.cells 2 [(vL eI v_42.1),(vI v_42.2.1)])),(n_16,gB 9 Alert.enc s_13.1),(n_36,some (.cells 9 [(vS x_10),(vS r_21.1),(vI r_24.1),(vL eS v_42.2.2),(vI (w64 (r_27.1*5))),(vI (w64 ((w64 (r_27.1*5))+r_37.1))),(vI r_30.1),.nil,(vS r_33.1)]))]:Hp)) (λ_=>True) ?_ ?_
   ·rcases au h_43 with⟨hc_44,h_43⟩|⟨hc_44,h_43⟩
    ·refine aC rfl hc_44 (af (af (aa (dW (([(⟨#[97,97]⟩:ByteArray),(⟨#[97,98]⟩:ByteArray),(⟨#[97,99]⟩:ByteArray),(⟨#[97,100]⟩:ByteArray),(⟨#[122,122]⟩:ByteArray)]:List ByteArray).map eS) qy Cc rfl rfl rfl rfl rfl wz (bW yY rfl wz (ae (vI 0) wz rfl (aj (kg (λn_51 => ?_)))))))))
     obtain ⟨o_56,hj_57,h_43⟩:=bind_some h_43
     obtain ⟨hn_49,hj_57⟩:=aV hj_57
     refine aD (β:=((List ByteArray)×(List Int)×Int)×Nm) (λp=>(λ(s_50:(List ByteArray)×(List Int)×Int) (n_53:Nm)=>([(0,(.ref (av 0) 0 0)),(5,(gV n_16 9 s_13.1)),(8,(.ref n_36 0 0)),(15,(vL eS y_6)),(16,(vI (y_6.length:Int))),(17,(vI (k_8:Int)))]:SL_)) p.1 p.2) (λp=>(λ(s_50:(List ByteArray)×(List Int)×Int) (n_53:Nm)=>([((av 0),some (.cells 2 [(vL eI s_50.2.1),(vI s_50.2.2)])),(n_16,gB 9 Alert.enc s_13.1),(n_36,some (.cells 9 [(vS x_10),(vS r_21.1),(vI r_24.1),(gV n_53 1 s_50.1),(vI (w64 (r_27.1*5))),(vI (w64 ((w64 (r_27.1*5))+r_37.1))),(vI r_30.1),.nil,(vS r_33.1)])),(n_53,gB 1 eS s_50.1)]:Hp)) p.1 p.2) (λp=>o_56 = .go p.1) ?_ ?_
     ·refine ay (aS (β:=Nat×(List ByteArray)×((List ByteArray)×(List Int)×Int)×Nm) (λp=>(λ(k_45:Nat) (l_46:List ByteArray) (s_50:(List ByteArray)×(List Int)×Int) (n_53:Nm)=>([(0,(.ref (av 0) 0 0)),(5,(gV n_16 9 s_13.1)),(7,(vS x_10)),(8,(.ref n_36 0 0)),(15,(vL eS y_6)),(16,(vI (y_6.length:Int))),(17,(vI (k_8:Int))),(48,(vL eS ([(⟨#[97,97]⟩:ByteArray),(⟨#[97,98]⟩:ByteArray),(⟨#[97,99]⟩:ByteArray),(⟨#[97,100]⟩:ByteArray),(⟨#[122,122]⟩:ByteArray)]:List ByteArray))),(49,(vI (([(⟨#[97,97]⟩:ByteArray),(⟨#[97,98]⟩:ByteArray),(⟨#[97,99]⟩:ByteArray),(⟨#[97,100]⟩:ByteArray),(⟨#[122,122]⟩:ByteArray)]:List ByteArray).length:Int))),(50,(vI (k_45:Int)))]:SL_)) p.1 p.2.1 p.2.2.1 p.2.2.2) (λp=>(λ(k_45:Nat) (l_46:List ByteArray) (s_50:(List ByteArray)×(List Int)×Int) (n_53:Nm)=>([((av 0),some (.cells 2 [(vL eI s_50.2.1),(vI s_50.2.2)])),(n_16,gB 9 Alert.enc s_13.1),(n_36,some (.cells 9 [(vS x_10),(vS r_21.1),(vI r_24.1),(gV n_53 1 s_50.1),(vI (w64 (r_27.1*5))),(vI (w64 ((w64 (r_27.1*5))+r_37.1))),(vI r_30.1),.nil,(vS r_33.1)])),(n_53,gB 1 eS s_50.1)]:Hp)) p.1 p.2.1 p.2.2.1 p.2.2.2) (λp=>forR (λk x s=>dZ x_10 k x s) p.2.1 p.1 p.2.2.1=some o_56/\(([(⟨#[97,97]⟩:ByteArray),(⟨#[97,98]⟩:ByteArray),(⟨#[97,99]⟩:ByteArray),(⟨#[97,100]⟩:ByteArray),(⟨#[122,122]⟩:ByteArray)]:List ByteArray)).drop p.1=p.2.1) (λp=>p.2.1.length) (0,([(⟨#[97,97]⟩:ByteArray),(⟨#[97,98]⟩:ByteArray),(⟨#[97,99]⟩:ByteArray),(⟨#[97,100]⟩:ByteArray),(⟨#[122,122]⟩:ByteArray)]:List ByteArray),(([]:List ByteArray),r_37.2.L,r_37.2.f_at),n_51) ⟨hj_57,rfl⟩ rfl (aJ rfl) ?_)
      rintro ⟨k_45,l_46,s_50,n_53⟩ ⟨hL_55,hD_48⟩
      dsimp only at hL_55 hD_48
      cases l_46 with
      | nil =>
       obtain rfl:=ah hL_55
       refine af (aa (ae (vB (decide ((k_45:Int)<(([(⟨#[97,97]⟩:ByteArray),(⟨#[97,98]⟩:ByteArray),(⟨#[97,99]⟩:ByteArray),(⟨#[97,100]⟩:ByteArray),(⟨#[122,122]⟩:ByteArray)]:List ByteArray).length:Int)))) wz rfl (aj ?_)))
       refine af (aB rfl (drop_nil hD_48) (aP ?_))
       exact aN (s_50,n_53) rfl rfl (aJ rfl)
      | cons x_47 l_46 =>
       obtain ⟨c_,hc_54,hL_55⟩:=bind_some hL_55
       refine af (aa (ae (vB (decide ((k_45:Int)<(([(⟨#[97,97]⟩:ByteArray),(⟨#[97,98]⟩:ByteArray),(⟨#[97,99]⟩:ByteArray),(⟨#[97,100]⟩:ByteArray),(⟨#[122,122]⟩:ByteArray)]:List ByteArray).length:Int)))) wz rfl (aj ?_)))
       refine af (aC rfl (bf hD_48) (ax ?_))
       unfold dZ at hc_54
       refine af (ay (af (aa (dK qy rfl rfl (bG hD_48) rfl wz (bB sz9 ag9 rfl (vS x_47) rfl wz (ae (vS x_47) wz rfl (aj (af ?_))))))))
       obtain ⟨v_58,h_59,hc_54⟩:=bind_some hc_54
       refine aD (β:=Unit) (λ_=>([(0,(.ref (av 0) 0 0)),(5,(gV n_16 9 s_13.1)),(7,(vS x_10)),(8,(.ref n_36 0 0)),(10,(vS x_47)),(15,(vL eS y_6)),(16,(vI (y_6.length:Int))),(17,(vI (k_8:Int))),(48,(vL eS ([(⟨#[97,97]⟩:ByteArray),(⟨#[97,98]⟩:ByteArray),(⟨#[97,99]⟩:ByteArray),(⟨#[97,100]⟩:ByteArray),(⟨#[122,122]⟩:ByteArray)]:List ByteArray))),(49,(vI (([(⟨#[97,97]⟩:ByteArray),(⟨#[97,98]⟩:ByteArray),(⟨#[97,99]⟩:ByteArray),(⟨#[97,100]⟩:ByteArray),(⟨#[122,122]⟩:ByteArray)]:List ByteArray).length:Int))),(50,(vI (k_45:Int))),(60,(vB v_58.1))]:SL_)) (λ_=>([((av 0),some (.cells 2 [(vL eI v_58.2.1),(vI v_58.2.2)])),(n_16,gB 9 Alert.enc s_13.1),(n_36,some (.cells 9 [(vS x_10),(vS r_21.1),(vI r_24.1),(gV n_53 1 s_50.1),(vI (w64 (r_27.1*5))),(vI (w64 ((w64 (r_27.1*5))+r_37.1))),(vI r_30.1),.nil,(vS r_33.1)])),(n_53,gB 1 eS s_50.1)]:Hp)) (λ_=>True) ?_ ?_
       ·refine aa (ae (vS x_47) wz rfl (ae (vS x_10) wz rfl (ae (vB (sNe x_47 x_10)) wz rfl ?_)))
        rcases au h_59 with⟨hc_60,h_59⟩|⟨hc_60,h_59⟩
        ·refine aF rfl hc_60 wz (ae (.ref (av 0) 0 0) wa rfl ?_)
         obtain ⟨r_61,hr_62,h_59⟩:=bind_some h_59
         refine bS 0 [0] il ft (kz hr_62) rfl PO rfl (by kernel_rfl) (by kernel_rfl) (by kernel_rfl) (by kernel_rfl) (by kernel_rfl) (by kernel_rfl) (by kernel_rfl) (by decide) (by kernel_rfl) wa (vB r_61.1) (by kernel_rfl) ([((av 0),some (.cells 2 [(vL eI r_61.2.L),(vI r_61.2.f_at)])),(n_16,gB 9 Alert.enc s_13.1),(n_36,some (.cells 9 [(vS x_10),(vS r_21.1),(vI r_24.1),(gV n_53 1 s_50.1),(vI (w64 (r_27.1*5))),(vI (w64 ((w64 (r_27.1*5))+r_37.1))),(vI r_30.1),.nil,(vS r_33.1)])),(n_53,gB 1 eS s_50.1)]:Hp) (by kernel_rfl) (ae (vB r_61.1) wz rfl (aj ?_))
         obtain rfl:=ah h_59
         exact cu
        ·refine aF rfl hc_60 wz (ak wa (ak wa (ae (vB false) wz rfl (aj ?_))))
         obtain rfl:=ah h_59
         exact cu
       ·rintro ⟨⟩ _ sl_ H_ hp_ hq_
        refine aL _ hp_ hq_ ?_
        obtain ⟨v_64,h_65,hc_54⟩:=bind_some hc_54
        refine aD (β:=Nm) (λ(n_66:Nm)=>([(0,(.ref (av 0) 0 0)),(5,(gV n_16 9 s_13.1)),(7,(vS x_10)),(8,(.ref n_36 0 0)),(15,(vL eS y_6)),(16,(vI (y_6.length:Int))),(17,(vI (k_8:Int))),(48,(vL eS ([(⟨#[97,97]⟩:ByteArray),(⟨#[97,98]⟩:ByteArray),(⟨#[97,99]⟩:ByteArray),(⟨#[97,100]⟩:ByteArray),(⟨#[122,122]⟩:ByteArray)]:List ByteArray))),(49,(vI (([(⟨#[97,97]⟩:ByteArray),(⟨#[97,98]⟩:ByteArray),(⟨#[97,99]⟩:ByteArray),(⟨#[97,100]⟩:ByteArray),(⟨#[122,122]⟩:ByteArray)]:List ByteArray).length:Int))),(50,(vI (k_45:Int)))]:SL_)) (λ(n_66:Nm)=>([((av 0),some (.cells 2 [(vL eI v_58.2.1),(vI v_58.2.2)])),(n_16,gB 9 Alert.enc s_13.1),(n_36,some (.cells 9 [(vS x_10),(vS r_21.1),(vI r_24.1),(gV n_66 1 v_64),(vI (w64 (r_27.1*5))),(vI (w64 ((w64 (r_27.1*5))+r_37.1))),(vI r_30.1),.nil,(vS r_33.1)])),(n_66,gB 1 eS v_64)]:Hp)) (λ_=>True) ?_ ?_
        ·rcases au h_65 with⟨hc_67,h_65⟩|⟨hc_67,h_65⟩
         ·refine aC rfl hc_67 (aa (aH wy rfl 3 rfl wz (aA 0 2 il ft xU A8 rfl rfl (gV n_53 1 s_50.1) rfl wz (ae (vS x_47) wz rfl (dW (([x_47]:List ByteArray).map eS) qy Cc rfl rfl rfl rfl rfl wz ?_)))))
          obtain ⟨a_68,hz_69,h_65⟩:=bind_some h_65
          refine jS 0 il ft (i:=3) el40 el40 sz9 z9 rfl (by decide) by9 (by decide) (λ_=>rfl) rfl rfl rfl hz_69 wz (λn_70=>aH wy rfl 3 rfl wz (eD 0 il ft 2 xU rfl rfl [(vS x_10),(vS r_21.1),(vI r_24.1),(gV n_70 1 a_68),(vI (w64 (r_27.1*5))),(vI (w64 ((w64 (r_27.1*5))+r_37.1))),(vI r_30.1),.nil,(vS r_33.1)] (Mh rfl) wz (aj ?_)))
          obtain rfl:=ah h_65
          exact aN n_70 trivial rfl (aJ rfl)
         ·refine aB rfl hc_67 (ax ?_)
          obtain rfl:=ah h_65
          exact aN n_53 trivial rfl (aJ rfl)
        ·rintro n_66 _ sl_ H_ hp_ hq_
         refine aL _ hp_ hq_ (aa (fu (bA hD_48 hn_49) wz rfl (ae (vI ((k_45+1:Nat):Int)) wz rfl (aj ?_))))
         obtain rfl:=ah hc_54
         exact aO (k_45+1,l_46,(v_64,v_58.2.1,v_58.2.2),n_66) ⟨hL_55,aR hD_48⟩ (ls_ _) rfl (aJ rfl)
     ·rintro ⟨s_50,n_53⟩ ho_ sl_ H_ hp_ hq_
      subst ho_
      refine aL _ hp_ hq_ (af (aa (aH wy rfl 3 rfl wz (aA 0 2 il ft xU A8 rfl rfl (gV n_53 1 s_50.1) rfl wz (ym yY rfl wz (ae (vB ((s_50.1.length:Int)==0)) wz rfl (aj ?_)))))))
      rcases au h_43 with⟨hc_71,h_43⟩|⟨hc_71,h_43⟩
      ·refine aC rfl hc_71 (aa (dW (([(⟨#[122,121]⟩:ByteArray)]:List ByteArray).map eS) qy Cc rfl rfl rfl rfl rfl wz (aH wy rfl 3 rfl wz (eD 0 il ft 2 xU rfl rfl [(vS x_10),(vS r_21.1),(vI r_24.1),(vL eS ([(⟨#[122,121]⟩:ByteArray)]:List ByteArray)),(vI (w64 (r_27.1*5))),(vI (w64 ((w64 (r_27.1*5))+r_37.1))),(vI r_30.1),.nil,(vS r_33.1)] rfl wz (aj ?_)))))
       obtain rfl:=ah h_43
       exact cu
      ·refine aB rfl hc_71 (gJ 3 rfl (dJ 69 3 rfl rfl (wH_coc3 3 2 [false,false,false,true,false,false,false,false,false] [(vS x_10),(vS r_21.1),(vI r_24.1),(vL eS s_50.1),(vI (w64 (r_27.1*5))),(vI (w64 ((w64 (r_27.1*5))+r_37.1))),(vI r_30.1),.nil,(vS r_33.1)] rfl rfl rfl (λS hS=>fq (rfl) (fq (rfl) (fq (rfl) (fq (hS) (fq (rfl) (fq (rfl) (fq (rfl) (fq (rfl) (fq (rfl) (rfl)))))))))) (ax ?_))))
       obtain rfl:=ah h_43
       exact cu
    ·refine aB rfl hc_44 (wH_coc1 2 [false,false,false,true,false,false,false,false,false] [(vS x_10),(vS r_21.1),(vI r_24.1),(vL eS ([]:List ByteArray)),(vI (w64 (r_27.1*5))),(vI (w64 ((w64 (r_27.1*5))+r_37.1))),(vI r_30.1),.nil,(vS r_33.1)] rfl rfl (λ_=>rfl) (ax ?_))
     obtain rfl:=ah h_43
     exact cu
   ·rintro ⟨⟩ _ sl_ H_ hp_ hq_
    refine aL _ hp_ hq_ (af (af (aa (aH BA rfl 2 rfl wz (aA 0 2 il ft sz3 ag3 rfl rfl (vI r_24.1) rfl wz (ae (vB (r_24.1==3)) wz rfl (aj (kg (λn_74 => ?_)))))))))
    obtain ⟨v_75,h_76,hc_17⟩:=bind_some hc_17
    refine aD (β:=Nm) (λ(n_77:Nm)=>([(0,(.ref (av 0) 0 0)),(5,(gV n_16 9 s_13.1)),(8,(.ref n_36 0 0)),(15,(vL eS y_6)),(16,(vI (y_6.length:Int))),(17,(vI (k_8:Int)))]:SL_)) (λ(n_77:Nm)=>([((av 0),some (.cells 2 [(vL eI v_75.2.1),(vI v_75.2.2.1)])),(n_16,gB 9 Alert.enc s_13.1),(n_36,some (.cells 9 [(vS x_10),(vS r_21.1),(vI r_24.1),(vL eS v_42.2.2),(vI (w64 (r_27.1*5))),(vI (w64 ((w64 (r_27.1*5))+r_37.1))),(vI r_30.1),(gV n_77 4 v_75.1),(vS v_75.2.2.2)])),(n_77,gB 4 Rect.enc v_75.1)]:Hp)) (λ_=>True) ?_ ?_
    ·rcases au h_76 with⟨hc_78,h_76⟩|⟨hc_78,h_76⟩
     ·refine aC rfl hc_78 (aa (ae (.ref (av 0) 0 0) wz rfl (dW (([(⟨#[]⟩:ByteArray),(⟨#[111,118,101,114]⟩:ByteArray)]:List ByteArray).map eS) qy Cc rfl rfl rfl rfl rfl wz ?_)))
      obtain ⟨r_79,hr_80,h_76⟩:=bind_some h_76
      refine bS 0 [0] il ft (mK hr_80) rfl hb11 rfl (by kernel_rfl) (by kernel_rfl) (by kernel_rfl) (by kernel_rfl) (by kernel_rfl) (by kernel_rfl) (by kernel_rfl) (by decide) (by kernel_rfl) wz (vS r_79.1) (by kernel_rfl) ([((av 0),some (.cells 2 [(vL eI r_79.2.L),(vI r_79.2.f_at)])),(n_16,gB 9 Alert.enc s_13.1),(n_36,some (.cells 9 [(vS x_10),(vS r_21.1),(vI r_24.1),(vL eS v_42.2.2),(vI (w64 (r_27.1*5))),(vI (w64 ((w64 (r_27.1*5))+r_37.1))),(vI r_30.1),(gV n_74 4 ([]:List Rect)),(vS r_33.1)])),(n_74,gB 4 Rect.enc ([]:List Rect))]:Hp) (by kernel_rfl) (aH Hf rfl 8 rfl wz (eD 0 il ft 2 sz9 rfl rfl [(vS x_10),(vS r_21.1),(vI r_24.1),(vL eS v_42.2.2),(vI (w64 (r_27.1*5))),(vI (w64 ((w64 (r_27.1*5))+r_37.1))),(vI r_30.1),(gV n_74 4 ([]:List Rect)),(vS r_79.1)] rfl wz (aj ?_)))
      obtain rfl:=ah h_76
      exact aN n_74 trivial rfl (aJ rfl)
     ·refine aB rfl hc_78 (af (aa (ae (.ref (av 0) 0 0) wz rfl ?_)))
      obtain ⟨r_82,hr_83,h_76⟩:=bind_some h_76
      refine bS 0 [0] il ft (dz hr_83) rfl hb5 rfl (by kernel_rfl) (by kernel_rfl) (by kernel_rfl) (by kernel_rfl) (by kernel_rfl) (by kernel_rfl) (by kernel_rfl) (by decide) (by kernel_rfl) wz (vI r_82.1) (by kernel_rfl) ([((av 0),some (.cells 2 [(vL eI r_82.2.L),(vI r_82.2.f_at)])),(n_16,gB 9 Alert.enc s_13.1),(n_36,some (.cells 9 [(vS x_10),(vS r_21.1),(vI r_24.1),(vL eS v_42.2.2),(vI (w64 (r_27.1*5))),(vI (w64 ((w64 (r_27.1*5))+r_37.1))),(vI r_30.1),(gV n_74 4 ([]:List Rect)),(vS r_33.1)])),(n_74,gB 4 Rect.enc ([]:List Rect))]:Hp) (by kernel_rfl) (ae (vI 0) wz rfl (aj ?_))
      obtain ⟨o_95,hj_96,h_76⟩:=bind_some h_76
      obtain ⟨hn_89,hj_96⟩:=aV hj_96
      refine aD (β:=((List Rect)×(List Int)×Int)×Nm) (λp=>(λ(s_90:(List Rect)×(List Int)×Int) (n_92:Nm)=>([(0,(.ref (av 0) 0 0)),(5,(gV n_16 9 s_13.1)),(8,(.ref n_36 0 0)),(15,(vL eS y_6)),(16,(vI (y_6.length:Int))),(17,(vI (k_8:Int)))]:SL_)) p.1 p.2) (λp=>(λ(s_90:(List Rect)×(List Int)×Int) (n_92:Nm)=>([((av 0),some (.cells 2 [(vL eI s_90.2.1),(vI s_90.2.2)])),(n_16,gB 9 Alert.enc s_13.1),(n_36,some (.cells 9 [(vS x_10),(vS r_21.1),(vI r_24.1),(vL eS v_42.2.2),(vI (w64 (r_27.1*5))),(vI (w64 ((w64 (r_27.1*5))+r_37.1))),(vI r_30.1),(gV n_92 4 s_90.1),(vS r_33.1)])),(n_92,gB 4 Rect.enc s_90.1)]:Hp)) p.1 p.2) (λp=>o_95 = .go p.1) ?_ ?_
      ·refine ay (aS (β:=Nat×(List Nat)×((List Rect)×(List Int)×Int)×Nm) (λp=>(λ(k_85:Nat) (l_86:List Nat) (s_90:(List Rect)×(List Int)×Int) (n_92:Nm)=>([(0,(.ref (av 0) 0 0)),(5,(gV n_16 9 s_13.1)),(8,(.ref n_36 0 0)),(15,(vL eS y_6)),(16,(vI (y_6.length:Int))),(17,(vI (k_8:Int))),(82,(vI r_82.1)),(83,(vI (k_85:Int)))]:SL_)) p.1 p.2.1 p.2.2.1 p.2.2.2) (λp=>(λ(k_85:Nat) (l_86:List Nat) (s_90:(List Rect)×(List Int)×Int) (n_92:Nm)=>([((av 0),some (.cells 2 [(vL eI s_90.2.1),(vI s_90.2.2)])),(n_16,gB 9 Alert.enc s_13.1),(n_36,some (.cells 9 [(vS x_10),(vS r_21.1),(vI r_24.1),(vL eS v_42.2.2),(vI (w64 (r_27.1*5))),(vI (w64 ((w64 (r_27.1*5))+r_37.1))),(vI r_30.1),(gV n_92 4 s_90.1),(vS r_33.1)])),(n_92,gB 4 Rect.enc s_90.1)]:Hp)) p.1 p.2.1 p.2.2.1 p.2.2.2) (λp=>forR (λk x s=>dY k x s) p.2.1 p.1 p.2.2.1=some o_95/\((List.range (r_82.1).toNat)).drop p.1=p.2.1) (λp=>p.2.1.length) (0,(List.range (r_82.1).toNat),(([]:List Rect),r_82.2.L,r_82.2.f_at),n_74) ⟨hj_96,rfl⟩ rfl (aJ rfl) ?_)
       rintro ⟨k_85,l_86,s_90,n_92⟩ ⟨hL_94,hD_88⟩
       dsimp only at hL_94 hD_88
       cases l_86 with
       | nil =>
        obtain rfl:=ah hL_94
        refine af (aa (ae (vB (decide ((k_85:Int)<r_82.1))) wz rfl (aj ?_)))
        refine af (aB rfl (yM hD_88) (aP ?_))
        exact aN (s_90,n_92) rfl rfl (aJ rfl)
       | cons x_87 l_86 =>
        obtain ⟨c_,hc_93,hL_94⟩:=bind_some hL_94
        refine af (aa (ae (vB (decide ((k_85:Int)<r_82.1))) wz rfl (aj ?_)))
        refine af (aC rfl (vT hD_88) (ax ?_))
        unfold dY at hc_93
        refine af (ay (aW (aH Cy rfl 7 rfl wz (aA 1 2 (.inr (by kernel_rfl)) (λ_ _ ag=>trivial) JZ KE rfl rfl (gV n_92 4 s_90.1) rfl wz (ae (.ref (av 0) 0 0) wz rfl ?_)))))
        obtain ⟨r_97,hr_98,hc_93⟩:=bind_some hc_93
        refine bS 3 [0] (.inr (by kernel_rfl)) (λ_ _ ag=>by exact⟨.inr (.inl (Kj (CJ ag (i:=0) (j:=2) rfl rfl (by decide)))),trivial⟩) (ww hr_98) rfl hb14 rfl (by kernel_rfl) (by kernel_rfl) (by kernel_rfl) (by kernel_rfl) (by kernel_rfl) (by kernel_rfl) (by kernel_rfl) (by decide) (by kernel_rfl) wz (.d (.agg (Rect.enc r_97.1))) (by kernel_rfl) ([((av 0),some (.cells 2 [(vL eI r_97.2.L),(vI r_97.2.f_at)])),(n_16,gB 9 Alert.enc s_13.1),(n_36,some (.cells 9 [(vS x_10),(vS r_21.1),(vI r_24.1),(vL eS v_42.2.2),(vI (w64 (r_27.1*5))),(vI (w64 ((w64 (r_27.1*5))+r_37.1))),(vI r_30.1),(gV n_92 4 s_90.1),(vS r_33.1)])),(n_92,gB 4 Rect.enc s_90.1)]:Hp) (by kernel_rfl) (dW (([r_97.1]:List Rect).map Rect.enc) Iu ez50 rfl rfl rfl rfl rfl wz ?_)
        obtain ⟨a_100,hz_101,hc_93⟩:=bind_some hc_93
        refine jS 5 (.inr (by kernel_rfl)) (λ_ _ ag=>⟨.inr (.inr (by kernel_rfl)),⟨.inr (.inr (by kernel_rfl)),trivial⟩⟩) (i:=3) IP IP vH z55 rfl (by decide) by55 (by decide) (λ_=>rfl) rfl rfl rfl hz_101 wz (λn_102=>aH Cy rfl 7 rfl wz (eD 7 (.inr (by kernel_rfl)) (λ_ _ ag=>⟨.inr (.inr (by kernel_rfl)),⟨.inr (.inr (by kernel_rfl)),⟨.inr (.inr (by kernel_rfl)),trivial⟩⟩⟩) 2 JZ rfl rfl [(vS x_10),(vS r_21.1),(vI r_24.1),(vL eS v_42.2.2),(vI (w64 (r_27.1*5))),(vI (w64 ((w64 (r_27.1*5))+r_37.1))),(vI r_30.1),(gV n_102 4 a_100),(vS r_33.1)] (Mh rfl) wz (aj (aa (fu (yH hD_88 hn_89) wz rfl (ae (vI ((k_85+1:Nat):Int)) wz rfl (aj ?_)))))))
        obtain rfl:=ah hc_93
        exact aO (k_85+1,l_86,(a_100,r_97.2.L,r_97.2.f_at),n_102) ⟨hL_94,aR hD_88⟩ (ls_ _) rfl (aJ rfl)
      ·rintro ⟨s_90,n_92⟩ ho_ sl_ H_ hp_ hq_
       subst ho_
       obtain rfl:=ah h_76
       exact aN n_92 trivial (MH [0,1,2,3,4,5] hp_ rfl) (Oa hq_ (aJ rfl))
    ·rintro n_77 _ sl_ H_ hp_ hq_
     refine aL _ hp_ hq_ (gJ 3 rfl (wH_coc 3 2 [(vS x_10),(vS r_21.1),(vI r_24.1),(vL eS v_42.2.2),(vI (w64 (r_27.1*5))),(vI (w64 ((w64 (r_27.1*5))+r_37.1))),(vI r_30.1),(vL Rect.enc v_75.1),(vS v_75.2.2.2)] rfl rfl (λS hS=>fq (rfl) (fq (rfl) (fq (rfl) (fq (rfl) (fq (rfl) (fq (rfl) (fq (rfl) (fq (hS) (fq (rfl) (rfl)))))))))) (aa (ae (gV n_16 9 s_13.1) wz rfl (aA 0 2 il ft lL qZ rfl rfl (.d (.agg (Alert.enc (⟨x_10,r_21.1,r_24.1,v_42.2.2,(w64 (r_27.1*5)),(w64 ((w64 (r_27.1*5))+r_37.1)),r_30.1,v_75.1,v_75.2.2.2⟩:Alert)))) rfl wz (dW (([(⟨x_10,r_21.1,r_24.1,v_42.2.2,(w64 (r_27.1*5)),(w64 ((w64 (r_27.1*5))+r_37.1)),r_30.1,v_75.1,v_75.2.2.2⟩:Alert)]:List Alert).map Alert.enc) uo ez26 rfl rfl rfl rfl rfl wz ?_))))))
     obtain ⟨a_103,hz_104,hc_17⟩:=bind_some hc_17
     refine jS 0 il ft (i:=1) el26 el26 lL z52 rfl (by decide) by52 (by decide) (λ_=>rfl) rfl rfl rfl hz_104 wz (λn_105=>ae (gV n_105 9 a_103) wz rfl (aj (aa (fu (bA hD_11 hn_12) wz rfl (ae (vI ((k_8+1:Nat):Int)) wz rfl (aj ?_))))))
     obtain rfl:=ah hc_17
     exact aO (k_8+1,l_9,(a_103,v_75.2.1,v_75.2.2.1),n_105) ⟨hL_18,aR hD_11⟩ (ls_ _) rfl (aJ rfl)
 ·rintro ⟨s_13,n_16⟩ ho_ sl_ H_ hp_ hq_
  subst ho_
  refine aL _ hp_ hq_ (af (aa (ae (gV n_16 9 s_13.1) wz rfl ?_)))
  obtain ⟨r_106,hr_107,hF⟩:=bind_some hF
  obtain ⟨_,hs_108,hF⟩:=bind_some hF
  replace hs_108:=lm hs_108
  refine kw 0 [] 1 0 il ft (lY hr_107) rfl hb15 rfl rfl rfl (by kernel_rfl) rfl (.inl rfl) rfl (by kernel_rfl) (by kernel_rfl) (by kernel_rfl) (by kernel_rfl) rfl (by decide) (by kernel_rfl) kX (uC hs_108) wz ([((av 0),some (.cells 2 [(vL eI s_13.2.1),(vI s_13.2.2)])),(n_16,gB 9 Alert.enc r_106)]:Hp) (by kernel_rfl) (dn (v':=(gV n_16 9 r_106)) 5 rfl (iK hs_108.symm) (dn (v':=(gV n_16 9 r_106)) 98 rfl (iK hs_108.symm) (aj (af (aa (ae (gV n_16 9 r_106) wz rfl (ae (gV n_16 9 r_106) wz rfl (aj (gJ 1 rfl (dJ 4 1 rfl rfl (dJ 5 1 rfl rfl (dJ 98 1 rfl rfl (dJ 100 1 rfl rfl ?_)))))))))))))
  obtain rfl:=ah hF
  exact aG (wE (.inr rfl) [(vL Alert.enc r_106)] _ [0] [av 0] ⟨rfl,trivial⟩ (.cons (jF rfl rfl) (.nil)) (by kernel_rfl) ⟨(by kernel_rfl),trivial⟩ (by decide) (by kernel_rfl))
theorem uw {s_1:Stream} {r:(List Entry)×Stream} (hF:iw s_1=some r) :
  FnM Tryz.prog 6 [(.ref (av 0) 0 0)] [(.cells 2 [(vL eI s_1.L),(vI s_1.f_at)])] (vL Entry.enc r.1) [some (.cells 2 [(vL eI r.2.L),(vI r.2.f_at)])]:=by
 refine FnM.of_wH ⟨Tryz.prog,89,[],[]⟩ rfl Tryz.func6 rfl rfl (lb_ rfl) (by kernel_rfl) ?_
 unfold iw at hF
 refine af (aa (ae .nil wz rfl (aj (af (aa (ae .nil wz rfl (aj (af (af (aa (dW (([(⟨#[101,97]⟩:ByteArray),(⟨#[101,98]⟩:ByteArray),(⟨#[101,99]⟩:ByteArray),(⟨#[101,100]⟩:ByteArray)]:List ByteArray).map eS) qy Cc rfl rfl rfl rfl rfl wz (bW yY rfl wz (ae (vI 0) wz rfl (aj (kg (λn_8 => ?_))))))))))))))))
 obtain ⟨o_13,hj_14,hF⟩:=bind_some hF
 obtain ⟨hn_6,hj_14⟩:=aV hj_14
 refine aD (β:=((List Entry)×(List Int)×Int)×Nm) (λp=>(λ(s_7:(List Entry)×(List Int)×Int) (n_10:Nm)=>([(3,(gV n_10 13 s_7.1))]:SL_)) p.1 p.2) (λp=>(λ(s_7:(List Entry)×(List Int)×Int) (n_10:Nm)=>([((av 0),some (.cells 2 [(vL eI s_7.2.1),(vI s_7.2.2)])),(n_10,gB 13 Entry.enc s_7.1)]:Hp)) p.1 p.2) (λp=>o_13 = .go p.1) ?_ ?_
 ·refine ay (aS (β:=Nat×(List ByteArray)×((List Entry)×(List Int)×Int)×Nm) (λp=>(λ(k_2:Nat) (l_3:List ByteArray) (s_7:(List Entry)×(List Int)×Int) (n_10:Nm)=>([(0,(.ref (av 0) 0 0)),(3,(gV n_10 13 s_7.1)),(11,(vL eS ([(⟨#[101,97]⟩:ByteArray),(⟨#[101,98]⟩:ByteArray),(⟨#[101,99]⟩:ByteArray),(⟨#[101,100]⟩:ByteArray)]:List ByteArray))),(12,(vI (([(⟨#[101,97]⟩:ByteArray),(⟨#[101,98]⟩:ByteArray),(⟨#[101,99]⟩:ByteArray),(⟨#[101,100]⟩:ByteArray)]:List ByteArray).length:Int))),(13,(vI (k_2:Int)))]:SL_)) p.1 p.2.1 p.2.2.1 p.2.2.2) (λp=>(λ(k_2:Nat) (l_3:List ByteArray) (s_7:(List Entry)×(List Int)×Int) (n_10:Nm)=>([((av 0),some (.cells 2 [(vL eI s_7.2.1),(vI s_7.2.2)])),(n_10,gB 13 Entry.enc s_7.1)]:Hp)) p.1 p.2.1 p.2.2.1 p.2.2.2) (λp=>forR (λk x s=>eY k x s) p.2.1 p.1 p.2.2.1=some o_13/\(([(⟨#[101,97]⟩:ByteArray),(⟨#[101,98]⟩:ByteArray),(⟨#[101,99]⟩:ByteArray),(⟨#[101,100]⟩:ByteArray)]:List ByteArray)).drop p.1=p.2.1) (λp=>p.2.1.length) (0,([(⟨#[101,97]⟩:ByteArray),(⟨#[101,98]⟩:ByteArray),(⟨#[101,99]⟩:ByteArray),(⟨#[101,100]⟩:ByteArray)]:List ByteArray),(([]:List Entry),s_1.L,s_1.f_at),n_8) ⟨hj_14,rfl⟩ rfl (aJ rfl) ?_)
  rintro ⟨k_2,l_3,s_7,n_10⟩ ⟨hL_12,hD_5⟩
  dsimp only at hL_12 hD_5
  cases l_3 with
  | nil =>
   obtain rfl:=ah hL_12
   refine af (aa (ae (vB (decide ((k_2:Int)<(([(⟨#[101,97]⟩:ByteArray),(⟨#[101,98]⟩:ByteArray),(⟨#[101,99]⟩:ByteArray),(⟨#[101,100]⟩:ByteArray)]:List ByteArray).length:Int)))) wz rfl (aj ?_)))
   refine af (aB rfl (drop_nil hD_5) (aP ?_))
   exact aN (s_7,n_10) rfl rfl (aJ rfl)
  | cons x_4 l_3 =>
   obtain ⟨c_,hc_11,hL_12⟩:=bind_some hL_12
   refine af (aa (ae (vB (decide ((k_2:Int)<(([(⟨#[101,97]⟩:ByteArray),(⟨#[101,98]⟩:ByteArray),(⟨#[101,99]⟩:ByteArray),(⟨#[101,100]⟩:ByteArray)]:List ByteArray).length:Int)))) wz rfl (aj ?_)))
   refine af (aC rfl (bf hD_5) (ax ?_))
   unfold eY at hc_11
   refine af (ay (af (aa (dK qy rfl rfl (bG hD_5) rfl wz (bB sz9 ag9 rfl (vS x_4) rfl wz (ae (vS x_4) wz rfl (aj (af (af (aa (ae (.ref (av 0) 0 0) wz rfl ?_)))))))))))
   obtain ⟨r_15,hr_16,hc_11⟩:=bind_some hc_11
   refine bS 0 [0] il ft (kz hr_16) rfl PO rfl (by kernel_rfl) (by kernel_rfl) (by kernel_rfl) (by kernel_rfl) (by kernel_rfl) (by kernel_rfl) (by kernel_rfl) (by decide) (by kernel_rfl) wz (vB r_15.1) (by kernel_rfl) ([((av 0),some (.cells 2 [(vL eI r_15.2.L),(vI r_15.2.f_at)])),(n_10,gB 13 Entry.enc s_7.1)]:Hp) (by kernel_rfl) (aj ?_)
   rcases au hc_11 with⟨hc_18,hc_11⟩|⟨hc_18,hc_11⟩
   ·refine aC rfl hc_18 (aP (aa (fu (bA hD_5 hn_6) wz rfl (ae (vI ((k_2+1:Nat):Int)) wz rfl (aj ?_)))))
    obtain rfl:=ah hc_11
    exact aO (k_2+1,l_3,(s_7.1,r_15.2.L,r_15.2.f_at),n_10) ⟨hL_12,aR hD_5⟩ (ls_ _) rfl (aJ rfl)
   ·refine aB rfl hc_18 (ax (af (aa (ae (vS x_4) wz rfl (ae (.ref (av 0) 0 0) wz rfl (dW (([(⟨#[105,97]⟩:ByteArray),(⟨#[105,98]⟩:ByteArray),(⟨#[105,99]⟩:ByteArray)]:List ByteArray).map eS) qy Cc rfl rfl rfl rfl rfl wz ?_))))))
    obtain ⟨r_19,hr_20,hc_11⟩:=bind_some hc_11
    refine bS 0 [0] il ft (mK hr_20) rfl hb11 rfl (by kernel_rfl) (by kernel_rfl) (by kernel_rfl) (by kernel_rfl) (by kernel_rfl) (by kernel_rfl) (by kernel_rfl) (by decide) (by kernel_rfl) wz (vS r_19.1) (by kernel_rfl) ([((av 0),some (.cells 2 [(vL eI r_19.2.L),(vI r_19.2.f_at)])),(n_10,gB 13 Entry.enc s_7.1)]:Hp) (by kernel_rfl) (ae (.ref (av 0) 0 0) wz rfl ?_)
    obtain ⟨r_22,hr_23,hc_11⟩:=bind_some hc_11
    refine bS 0 [0] il ft (dz hr_23) rfl hb5 rfl (by kernel_rfl) (by kernel_rfl) (by kernel_rfl) (by kernel_rfl) (by kernel_rfl) (by kernel_rfl) (by kernel_rfl) (by decide) (by kernel_rfl) wz (vI r_22.1) (by kernel_rfl) ([((av 0),some (.cells 2 [(vL eI r_22.2.L),(vI r_22.2.f_at)])),(n_10,gB 13 Entry.enc s_7.1)]:Hp) (by kernel_rfl) (ae (.ref (av 0) 0 0) wz rfl (dW (([0,0,1,3]:List Int).map eI) jf uh rfl rfl rfl rfl rfl wz ?_))
    obtain ⟨r_25,hr_26,hc_11⟩:=bind_some hc_11
    refine bS 0 [0] il ft (dU hr_26) rfl El rfl (by kernel_rfl) (by kernel_rfl) (by kernel_rfl) (by kernel_rfl) (by kernel_rfl) (by kernel_rfl) (by kernel_rfl) (by decide) (by kernel_rfl) wz (vI r_25.1) (by kernel_rfl) ([((av 0),some (.cells 2 [(vL eI r_25.2.L),(vI r_25.2.f_at)])),(n_10,gB 13 Entry.enc s_7.1)]:Hp) (by kernel_rfl) (ae (.ref (av 0) 0 0) wz rfl (dW (([1,1,2,3,7]:List Int).map eI) jf uh rfl rfl rfl rfl rfl wz ?_))
    obtain ⟨r_28,hr_29,hc_11⟩:=bind_some hc_11
    refine bS 0 [0] il ft (dU hr_29) rfl El rfl (by kernel_rfl) (by kernel_rfl) (by kernel_rfl) (by kernel_rfl) (by kernel_rfl) (by kernel_rfl) (by kernel_rfl) (by decide) (by kernel_rfl) wz (vI r_28.1) (by kernel_rfl) ([((av 0),some (.cells 2 [(vL eI r_28.2.L),(vI r_28.2.f_at)])),(n_10,gB 13 Entry.enc s_7.1)]:Hp) (by kernel_rfl) (ae (.ref (av 0) 0 0) wz rfl (dW (([127,127,31,96,1,2]:List Int).map eI) jf uh rfl rfl rfl rfl rfl wz ?_))
    obtain ⟨r_31,hr_32,hc_11⟩:=bind_some hc_11
    refine bS 0 [0] il ft (dU hr_32) rfl El rfl (by kernel_rfl) (by kernel_rfl) (by kernel_rfl) (by kernel_rfl) (by kernel_rfl) (by kernel_rfl) (by kernel_rfl) (by decide) (by kernel_rfl) wz (vI r_31.1) (by kernel_rfl) ([((av 0),some (.cells 2 [(vL eI r_31.2.L),(vI r_31.2.f_at)])),(n_10,gB 13 Entry.enc s_7.1)]:Hp) (by kernel_rfl) (ae (.ref (av 0) 0 0) wz rfl (dW (([0,0,60,600,1380]:List Int).map eI) jf uh rfl rfl rfl rfl rfl wz ?_))
    obtain ⟨r_34,hr_35,hc_11⟩:=bind_some hc_11
    refine bS 0 [0] il ft (dU hr_35) rfl El rfl (by kernel_rfl) (by kernel_rfl) (by kernel_rfl) (by kernel_rfl) (by kernel_rfl) (by kernel_rfl) (by kernel_rfl) (by decide) (by kernel_rfl) wz (vI r_34.1) (by kernel_rfl) ([((av 0),some (.cells 2 [(vL eI r_34.2.L),(vI r_34.2.f_at)])),(n_10,gB 13 Entry.enc s_7.1)]:Hp) (by kernel_rfl) (ae (.ref (av 0) 0 0) wz rfl (dW (([0,60,120,600,720,1439]:List Int).map eI) jf uh rfl rfl rfl rfl rfl wz ?_))
    obtain ⟨r_37,hr_38,hc_11⟩:=bind_some hc_11
    refine bS 0 [0] il ft (dU hr_38) rfl El rfl (by kernel_rfl) (by kernel_rfl) (by kernel_rfl) (by kernel_rfl) (by kernel_rfl) (by kernel_rfl) (by kernel_rfl) (by decide) (by kernel_rfl) wz (vI r_37.1) (by kernel_rfl) ([((av 0),some (.cells 2 [(vL eI r_37.2.L),(vI r_37.2.f_at)])),(n_10,gB 13 Entry.enc s_7.1)]:Hp) (by kernel_rfl) (ae (.ref (av 0) 0 0) wz rfl (dW (([0,0,1,5]:List Int).map eI) jf uh rfl rfl rfl rfl rfl wz ?_))
    obtain ⟨r_40,hr_41,hc_11⟩:=bind_some hc_11
    refine bS 0 [0] il ft (dU hr_41) rfl El rfl (by kernel_rfl) (by kernel_rfl) (by kernel_rfl) (by kernel_rfl) (by kernel_rfl) (by kernel_rfl) (by kernel_rfl) (by decide) (by kernel_rfl) wz (vI r_40.1) (by kernel_rfl) ([((av 0),some (.cells 2 [(vL eI r_40.2.L),(vI r_40.2.f_at)])),(n_10,gB 13 Entry.enc s_7.1)]:Hp) (by kernel_rfl) (ae (.ref (av 0) 0 0) wz rfl ?_)
    obtain ⟨r_43,hr_44,hc_11⟩:=bind_some hc_11
    refine bS 0 [0] il ft (kz hr_44) rfl PO rfl (by kernel_rfl) (by kernel_rfl) (by kernel_rfl) (by kernel_rfl) (by kernel_rfl) (by kernel_rfl) (by kernel_rfl) (by decide) (by kernel_rfl) wz (vB r_43.1) (by kernel_rfl) ([((av 0),some (.cells 2 [(vL eI r_43.2.L),(vI r_43.2.f_at)])),(n_10,gB 13 Entry.enc s_7.1)]:Hp) (by kernel_rfl) (ae (.agg [(vS x_4),(vS r_19.1),(vI r_22.1),(vI r_25.1),(vI 0),(vI r_28.1),(vI r_31.1),.nil,(vI r_34.1),(vI r_37.1),(vI r_40.1),.nil,(vB r_43.1)]) wz (by kernel_rfl) (cK 0 (.inl rfl) z61 rfl wz (λn_46=>eD 0 il ft 2 zi rfl rfl [(vS x_4),(vS r_19.1),(vI r_22.1),(vI r_25.1),(vI 0),(vI r_28.1),(vI r_31.1),.nil,(vI r_34.1),(vI r_37.1),(vI r_40.1),.nil,(vB r_43.1)] rfl wz (aj (aL (H0:=([((av 0),some (.cells 2 [(vL eI r_43.2.L),(vI r_43.2.f_at)])),(n_10,gB 13 Entry.enc s_7.1),(n_46,some (.cells 13 [(vS x_4),(vS r_19.1),(vI r_22.1),(vI r_25.1),(vI 0),(vI r_28.1),(vI r_31.1),.nil,(vI r_34.1),(vI r_37.1),(vI r_40.1),.nil,(vB r_43.1)]))]:Hp)) ([(0,(.ref (av 0) 0 0)),(3,(gV n_10 13 s_7.1)),(6,(.ref n_46 0 0)),(11,(vL eS ([(⟨#[101,97]⟩:ByteArray),(⟨#[101,98]⟩:ByteArray),(⟨#[101,99]⟩:ByteArray),(⟨#[101,100]⟩:ByteArray)]:List ByteArray))),(12,(vI (([(⟨#[101,97]⟩:ByteArray),(⟨#[101,98]⟩:ByteArray),(⟨#[101,99]⟩:ByteArray),(⟨#[101,100]⟩:ByteArray)]:List ByteArray).length:Int))),(13,(vI (k_2:Int)))]:SL_) (by kernel_rfl) (uP (by kernel_rfl)) (af (aW (aH BG rfl 3 rfl wz (aA 1 2 (.inr (by kernel_rfl)) (λ_ _ ag=>trivial) sz3 ag3 rfl rfl (vI r_25.1) rfl wz (ae (.ref (av 0) 0 0) wz rfl (dW (([0,1,5,10,30]:List Int).map eI) jf uh rfl rfl rfl rfl rfl wz ?_)))))))))))
    obtain ⟨r_47,hr_48,hc_11⟩:=bind_some hc_11
    refine bS 4 [0] (.inr (by kernel_rfl)) (λ_ _ ag=>by exact⟨.inr (.inl (Kj (CJ ag (i:=0) (j:=2) rfl rfl (by decide)))),trivial⟩) (dU hr_48) rfl El rfl (by kernel_rfl) (by kernel_rfl) (by kernel_rfl) (by kernel_rfl) (by kernel_rfl) (by kernel_rfl) (by kernel_rfl) (by decide) (by kernel_rfl) wz (vI r_47.1) (by kernel_rfl) ([((av 0),some (.cells 2 [(vL eI r_47.2.L),(vI r_47.2.f_at)])),(n_10,gB 13 Entry.enc s_7.1),(n_46,some (.cells 13 [(vS x_4),(vS r_19.1),(vI r_22.1),(vI r_25.1),(vI 0),(vI r_28.1),(vI r_31.1),.nil,(vI r_34.1),(vI r_37.1),(vI r_40.1),.nil,(vB r_43.1)]))]:Hp) (by kernel_rfl) (ae (vI (w64 (r_25.1+r_47.1))) wz rfl (aH Cx rfl 4 rfl wz (eD 7 (.inr (by kernel_rfl)) (λ_ _ ag=>⟨.inr (.inr (by kernel_rfl)),⟨.inr (.inr (by kernel_rfl)),trivial⟩⟩) 2 sz3 rfl rfl [(vS x_4),(vS r_19.1),(vI r_22.1),(vI r_25.1),(vI (w64 (r_25.1+r_47.1))),(vI r_28.1),(vI r_31.1),.nil,(vI r_34.1),(vI r_37.1),(vI r_40.1),.nil,(vB r_43.1)] rfl wz (aj (af (af (aa (dW (([1,2,8]:List Int).map eI) jf uh rfl rfl rfl rfl rfl wz (bW wO rfl wz (ae (vI 0) wz rfl (aj (kg (λn_56 => ?_)))))))))))))
    obtain ⟨o_61,hj_62,hc_11⟩:=bind_some hc_11
    obtain ⟨hn_54,hj_62⟩:=aV hj_62
    refine aD (β:=((List Int)×(List Int)×Int)×Nm) (λp=>(λ(s_55:(List Int)×(List Int)×Int) (n_58:Nm)=>([(0,(.ref (av 0) 0 0)),(3,(gV n_10 13 s_7.1)),(6,(.ref n_46 0 0)),(11,(vL eS ([(⟨#[101,97]⟩:ByteArray),(⟨#[101,98]⟩:ByteArray),(⟨#[101,99]⟩:ByteArray),(⟨#[101,100]⟩:ByteArray)]:List ByteArray))),(12,(vI (([(⟨#[101,97]⟩:ByteArray),(⟨#[101,98]⟩:ByteArray),(⟨#[101,99]⟩:ByteArray),(⟨#[101,100]⟩:ByteArray)]:List ByteArray).length:Int))),(13,(vI (k_2:Int)))]:SL_)) p.1 p.2) (λp=>(λ(s_55:(List Int)×(List Int)×Int) (n_58:Nm)=>([((av 0),some (.cells 2 [(vL eI s_55.2.1),(vI s_55.2.2)])),(n_10,gB 13 Entry.enc s_7.1),(n_46,some (.cells 13 [(vS x_4),(vS r_19.1),(vI r_22.1),(vI r_25.1),(vI (w64 (r_25.1+r_47.1))),(vI r_28.1),(vI r_31.1),(gV n_58 1 s_55.1),(vI r_34.1),(vI r_37.1),(vI r_40.1),.nil,(vB r_43.1)])),(n_58,gB 1 eI s_55.1)]:Hp)) p.1 p.2) (λp=>o_61 = .go p.1) ?_ ?_
    ·refine ay (aS (β:=Nat×(List Int)×((List Int)×(List Int)×Int)×Nm) (λp=>(λ(k_50:Nat) (l_51:List Int) (s_55:(List Int)×(List Int)×Int) (n_58:Nm)=>([(0,(.ref (av 0) 0 0)),(3,(gV n_10 13 s_7.1)),(6,(.ref n_46 0 0)),(11,(vL eS ([(⟨#[101,97]⟩:ByteArray),(⟨#[101,98]⟩:ByteArray),(⟨#[101,99]⟩:ByteArray),(⟨#[101,100]⟩:ByteArray)]:List ByteArray))),(12,(vI (([(⟨#[101,97]⟩:ByteArray),(⟨#[101,98]⟩:ByteArray),(⟨#[101,99]⟩:ByteArray),(⟨#[101,100]⟩:ByteArray)]:List ByteArray).length:Int))),(13,(vI (k_2:Int))),(53,(vL eI ([1,2,8]:List Int))),(54,(vI (([1,2,8]:List Int).length:Int))),(55,(vI (k_50:Int)))]:SL_)) p.1 p.2.1 p.2.2.1 p.2.2.2) (λp=>(λ(k_50:Nat) (l_51:List Int) (s_55:(List Int)×(List Int)×Int) (n_58:Nm)=>([((av 0),some (.cells 2 [(vL eI s_55.2.1),(vI s_55.2.2)])),(n_10,gB 13 Entry.enc s_7.1),(n_46,some (.cells 13 [(vS x_4),(vS r_19.1),(vI r_22.1),(vI r_25.1),(vI (w64 (r_25.1+r_47.1))),(vI r_28.1),(vI r_31.1),(gV n_58 1 s_55.1),(vI r_34.1),(vI r_37.1),(vI r_40.1),.nil,(vB r_43.1)])),(n_58,gB 1 eI s_55.1)]:Hp)) p.1 p.2.1 p.2.2.1 p.2.2.2) (λp=>forR (λk x s=>iO k x s) p.2.1 p.1 p.2.2.1=some o_61/\(([1,2,8]:List Int)).drop p.1=p.2.1) (λp=>p.2.1.length) (0,([1,2,8]:List Int),(([]:List Int),r_47.2.L,r_47.2.f_at),n_56) ⟨hj_62,rfl⟩ rfl (aJ rfl) ?_)
     rintro ⟨k_50,l_51,s_55,n_58⟩ ⟨hL_60,hD_53⟩
     dsimp only at hL_60 hD_53
     cases l_51 with
     | nil =>
      obtain rfl:=ah hL_60
      refine af (aa (ae (vB (decide ((k_50:Int)<(([1,2,8]:List Int).length:Int)))) wz rfl (aj ?_)))
      refine af (aB rfl (drop_nil hD_53) (aP ?_))
      exact aN (s_55,n_58) rfl rfl (aJ rfl)
     | cons x_52 l_51 =>
      obtain ⟨c_,hc_59,hL_60⟩:=bind_some hL_60
      refine af (aa (ae (vB (decide ((k_50:Int)<(([1,2,8]:List Int).length:Int)))) wz rfl (aj ?_)))
      refine af (aC rfl (bf hD_53) (ax ?_))
      unfold iO at hc_59
      refine af (ay (af (aa (dK jf rfl rfl (bG hD_53) rfl wz (bB sz3 ag3 rfl (vI x_52) rfl wz (ae (vI x_52) wz rfl (aj (af (aa (ae (.ref (av 0) 0 0) wz rfl ?_))))))))))
      obtain ⟨r_63,hr_64,hc_59⟩:=bind_some hc_59
      refine bS 0 [0] il ft (kz hr_64) rfl PO rfl (by kernel_rfl) (by kernel_rfl) (by kernel_rfl) (by kernel_rfl) (by kernel_rfl) (by kernel_rfl) (by kernel_rfl) (by decide) (by kernel_rfl) wz (vB r_63.1) (by kernel_rfl) ([((av 0),some (.cells 2 [(vL eI r_63.2.L),(vI r_63.2.f_at)])),(n_10,gB 13 Entry.enc s_7.1),(n_46,some (.cells 13 [(vS x_4),(vS r_19.1),(vI r_22.1),(vI r_25.1),(vI (w64 (r_25.1+r_47.1))),(vI r_28.1),(vI r_31.1),(gV n_58 1 s_55.1),(vI r_34.1),(vI r_37.1),(vI r_40.1),.nil,(vB r_43.1)])),(n_58,gB 1 eI s_55.1)]:Hp) (by kernel_rfl) (aj ?_)
      obtain ⟨v_66,h_67,hc_59⟩:=bind_some hc_59
      refine aD (β:=Nm) (λ(n_68:Nm)=>([(0,(.ref (av 0) 0 0)),(3,(gV n_10 13 s_7.1)),(6,(.ref n_46 0 0)),(11,(vL eS ([(⟨#[101,97]⟩:ByteArray),(⟨#[101,98]⟩:ByteArray),(⟨#[101,99]⟩:ByteArray),(⟨#[101,100]⟩:ByteArray)]:List ByteArray))),(12,(vI (([(⟨#[101,97]⟩:ByteArray),(⟨#[101,98]⟩:ByteArray),(⟨#[101,99]⟩:ByteArray),(⟨#[101,100]⟩:ByteArray)]:List ByteArray).length:Int))),(13,(vI (k_2:Int))),(53,(vL eI ([1,2,8]:List Int))),(54,(vI (([1,2,8]:List Int).length:Int))),(55,(vI (k_50:Int)))]:SL_)) (λ(n_68:Nm)=>([((av 0),some (.cells 2 [(vL eI r_63.2.L),(vI r_63.2.f_at)])),(n_10,gB 13 Entry.enc s_7.1),(n_46,some (.cells 13 [(vS x_4),(vS r_19.1),(vI r_22.1),(vI r_25.1),(vI (w64 (r_25.1+r_47.1))),(vI r_28.1),(vI r_31.1),(gV n_68 1 v_66),(vI r_34.1),(vI r_37.1),(vI r_40.1),.nil,(vB r_43.1)])),(n_68,gB 1 eI v_66)]:Hp)) (λ_=>True) ?_ ?_
      ·rcases au h_67 with⟨hc_69,h_67⟩|⟨hc_69,h_67⟩
       ·refine aC rfl hc_69 (aa (aH H8 rfl 7 rfl wz (aA 0 2 il ft zK BI rfl rfl (gV n_58 1 s_55.1) rfl wz (ae (vI x_52) wz rfl (dW (([x_52]:List Int).map eI) jf uh rfl rfl rfl rfl rfl wz ?_)))))
        obtain ⟨a_70,hz_71,h_67⟩:=bind_some h_67
        refine jS 0 il ft (i:=3) DY DY sz3 z3 rfl (by decide) by3 (by decide) (λ_=>rfl) rfl rfl rfl hz_71 wz (λn_72=>aH H8 rfl 7 rfl wz (eD 0 il ft 2 zK rfl rfl [(vS x_4),(vS r_19.1),(vI r_22.1),(vI r_25.1),(vI (w64 (r_25.1+r_47.1))),(vI r_28.1),(vI r_31.1),(gV n_72 1 a_70),(vI r_34.1),(vI r_37.1),(vI r_40.1),.nil,(vB r_43.1)] (Mh rfl) wz (aj ?_)))
        obtain rfl:=ah h_67
        exact aN n_72 trivial rfl (aJ rfl)
       ·refine aB rfl hc_69 (ax ?_)
        obtain rfl:=ah h_67
        exact aN n_58 trivial rfl (aJ rfl)
      ·rintro n_68 _ sl_ H_ hp_ hq_
       refine aL _ hp_ hq_ (aa (fu (bA hD_53 hn_54) wz rfl (ae (vI ((k_50+1:Nat):Int)) wz rfl (aj ?_))))
       obtain rfl:=ah hc_59
       exact aO (k_50+1,l_51,(v_66,r_63.2.L,r_63.2.f_at),n_68) ⟨hL_60,aR hD_53⟩ (ls_ _) rfl (aJ rfl)
    ·rintro ⟨s_55,n_58⟩ ho_ sl_ H_ hp_ hq_
     subst ho_
     refine aL _ hp_ hq_ (af (af (aa (dW (([(⟨#[99,105,116,121]⟩:ByteArray),(⟨#[109,97,108,108]⟩:ByteArray)]:List ByteArray).map eS) qy Cc rfl rfl rfl rfl rfl wz (bW yY rfl wz (ae (vI 0) wz rfl (aj (kg (λn_79 => ?_)))))))))
     obtain ⟨o_84,hj_85,hc_11⟩:=bind_some hc_11
     obtain ⟨hn_77,hj_85⟩:=aV hj_85
     refine aD (β:=((List ByteArray)×(List Int)×Int)×Nm) (λp=>(λ(s_78:(List ByteArray)×(List Int)×Int) (n_81:Nm)=>([(0,(.ref (av 0) 0 0)),(3,(gV n_10 13 s_7.1)),(6,(.ref n_46 0 0)),(11,(vL eS ([(⟨#[101,97]⟩:ByteArray),(⟨#[101,98]⟩:ByteArray),(⟨#[101,99]⟩:ByteArray),(⟨#[101,100]⟩:ByteArray)]:List ByteArray))),(12,(vI (([(⟨#[101,97]⟩:ByteArray),(⟨#[101,98]⟩:ByteArray),(⟨#[101,99]⟩:ByteArray),(⟨#[101,100]⟩:ByteArray)]:List ByteArray).length:Int))),(13,(vI (k_2:Int)))]:SL_)) p.1 p.2) (λp=>(λ(s_78:(List ByteArray)×(List Int)×Int) (n_81:Nm)=>([((av 0),some (.cells 2 [(vL eI s_78.2.1),(vI s_78.2.2)])),(n_10,gB 13 Entry.enc s_7.1),(n_46,some (.cells 13 [(vS x_4),(vS r_19.1),(vI r_22.1),(vI r_25.1),(vI (w64 (r_25.1+r_47.1))),(vI r_28.1),(vI r_31.1),(gV n_58 1 s_55.1),(vI r_34.1),(vI r_37.1),(vI r_40.1),(gV n_81 1 s_78.1),(vB r_43.1)])),(n_58,gB 1 eI s_55.1),(n_81,gB 1 eS s_78.1)]:Hp)) p.1 p.2) (λp=>o_84 = .go p.1) ?_ ?_
     ·refine ay (aS (β:=Nat×(List ByteArray)×((List ByteArray)×(List Int)×Int)×Nm) (λp=>(λ(k_73:Nat) (l_74:List ByteArray) (s_78:(List ByteArray)×(List Int)×Int) (n_81:Nm)=>([(0,(.ref (av 0) 0 0)),(3,(gV n_10 13 s_7.1)),(6,(.ref n_46 0 0)),(11,(vL eS ([(⟨#[101,97]⟩:ByteArray),(⟨#[101,98]⟩:ByteArray),(⟨#[101,99]⟩:ByteArray),(⟨#[101,100]⟩:ByteArray)]:List ByteArray))),(12,(vI (([(⟨#[101,97]⟩:ByteArray),(⟨#[101,98]⟩:ByteArray),(⟨#[101,99]⟩:ByteArray),(⟨#[101,100]⟩:ByteArray)]:List ByteArray).length:Int))),(13,(vI (k_2:Int))),(68,(vL eS ([(⟨#[99,105,116,121]⟩:ByteArray),(⟨#[109,97,108,108]⟩:ByteArray)]:List ByteArray))),(69,(vI (([(⟨#[99,105,116,121]⟩:ByteArray),(⟨#[109,97,108,108]⟩:ByteArray)]:List ByteArray).length:Int))),(70,(vI (k_73:Int)))]:SL_)) p.1 p.2.1 p.2.2.1 p.2.2.2) (λp=>(λ(k_73:Nat) (l_74:List ByteArray) (s_78:(List ByteArray)×(List Int)×Int) (n_81:Nm)=>([((av 0),some (.cells 2 [(vL eI s_78.2.1),(vI s_78.2.2)])),(n_10,gB 13 Entry.enc s_7.1),(n_46,some (.cells 13 [(vS x_4),(vS r_19.1),(vI r_22.1),(vI r_25.1),(vI (w64 (r_25.1+r_47.1))),(vI r_28.1),(vI r_31.1),(gV n_58 1 s_55.1),(vI r_34.1),(vI r_37.1),(vI r_40.1),(gV n_81 1 s_78.1),(vB r_43.1)])),(n_58,gB 1 eI s_55.1),(n_81,gB 1 eS s_78.1)]:Hp)) p.1 p.2.1 p.2.2.1 p.2.2.2) (λp=>forR (λk x s=>iM k x s) p.2.1 p.1 p.2.2.1=some o_84/\(([(⟨#[99,105,116,121]⟩:ByteArray),(⟨#[109,97,108,108]⟩:ByteArray)]:List ByteArray)).drop p.1=p.2.1) (λp=>p.2.1.length) (0,([(⟨#[99,105,116,121]⟩:ByteArray),(⟨#[109,97,108,108]⟩:ByteArray)]:List ByteArray),(([]:List ByteArray),s_55.2.1,s_55.2.2),n_79) ⟨hj_85,rfl⟩ rfl (aJ rfl) ?_)
      rintro ⟨k_73,l_74,s_78,n_81⟩ ⟨hL_83,hD_76⟩
      dsimp only at hL_83 hD_76
      cases l_74 with
      | nil =>
       obtain rfl:=ah hL_83
       refine af (aa (ae (vB (decide ((k_73:Int)<(([(⟨#[99,105,116,121]⟩:ByteArray),(⟨#[109,97,108,108]⟩:ByteArray)]:List ByteArray).length:Int)))) wz rfl (aj ?_)))
       refine af (aB rfl (drop_nil hD_76) (aP ?_))
       exact aN (s_78,n_81) rfl rfl (aJ rfl)
      | cons x_75 l_74 =>
       obtain ⟨c_,hc_82,hL_83⟩:=bind_some hL_83
       refine af (aa (ae (vB (decide ((k_73:Int)<(([(⟨#[99,105,116,121]⟩:ByteArray),(⟨#[109,97,108,108]⟩:ByteArray)]:List ByteArray).length:Int)))) wz rfl (aj ?_)))
       refine af (aC rfl (bf hD_76) (ax ?_))
       unfold iM at hc_82
       refine af (ay (af (aa (dK qy rfl rfl (bG hD_76) rfl wz (bB sz9 ag9 rfl (vS x_75) rfl wz (ae (vS x_75) wz rfl (aj (af (aa (ae (.ref (av 0) 0 0) wz rfl ?_))))))))))
       obtain ⟨r_86,hr_87,hc_82⟩:=bind_some hc_82
       refine bS 0 [0] il ft (kz hr_87) rfl PO rfl (by kernel_rfl) (by kernel_rfl) (by kernel_rfl) (by kernel_rfl) (by kernel_rfl) (by kernel_rfl) (by kernel_rfl) (by decide) (by kernel_rfl) wz (vB r_86.1) (by kernel_rfl) ([((av 0),some (.cells 2 [(vL eI r_86.2.L),(vI r_86.2.f_at)])),(n_10,gB 13 Entry.enc s_7.1),(n_46,some (.cells 13 [(vS x_4),(vS r_19.1),(vI r_22.1),(vI r_25.1),(vI (w64 (r_25.1+r_47.1))),(vI r_28.1),(vI r_31.1),(gV n_58 1 s_55.1),(vI r_34.1),(vI r_37.1),(vI r_40.1),(gV n_81 1 s_78.1),(vB r_43.1)])),(n_58,gB 1 eI s_55.1),(n_81,gB 1 eS s_78.1)]:Hp) (by kernel_rfl) (aj ?_)
       obtain ⟨v_89,h_90,hc_82⟩:=bind_some hc_82
       refine aD (β:=Nm) (λ(n_91:Nm)=>([(0,(.ref (av 0) 0 0)),(3,(gV n_10 13 s_7.1)),(6,(.ref n_46 0 0)),(11,(vL eS ([(⟨#[101,97]⟩:ByteArray),(⟨#[101,98]⟩:ByteArray),(⟨#[101,99]⟩:ByteArray),(⟨#[101,100]⟩:ByteArray)]:List ByteArray))),(12,(vI (([(⟨#[101,97]⟩:ByteArray),(⟨#[101,98]⟩:ByteArray),(⟨#[101,99]⟩:ByteArray),(⟨#[101,100]⟩:ByteArray)]:List ByteArray).length:Int))),(13,(vI (k_2:Int))),(68,(vL eS ([(⟨#[99,105,116,121]⟩:ByteArray),(⟨#[109,97,108,108]⟩:ByteArray)]:List ByteArray))),(69,(vI (([(⟨#[99,105,116,121]⟩:ByteArray),(⟨#[109,97,108,108]⟩:ByteArray)]:List ByteArray).length:Int))),(70,(vI (k_73:Int)))]:SL_)) (λ(n_91:Nm)=>([((av 0),some (.cells 2 [(vL eI r_86.2.L),(vI r_86.2.f_at)])),(n_10,gB 13 Entry.enc s_7.1),(n_46,some (.cells 13 [(vS x_4),(vS r_19.1),(vI r_22.1),(vI r_25.1),(vI (w64 (r_25.1+r_47.1))),(vI r_28.1),(vI r_31.1),(gV n_58 1 s_55.1),(vI r_34.1),(vI r_37.1),(vI r_40.1),(gV n_91 1 v_89),(vB r_43.1)])),(n_58,gB 1 eI s_55.1),(n_91,gB 1 eS v_89)]:Hp)) (λ_=>True) ?_ ?_
       ·rcases au h_90 with⟨hc_92,h_90⟩|⟨hc_92,h_90⟩
        ·refine aC rfl hc_92 (aa (aH DI rfl 11 rfl wz (aA 0 2 il ft xU A8 rfl rfl (gV n_81 1 s_78.1) rfl wz (ae (vS x_75) wz rfl (dW (([x_75]:List ByteArray).map eS) qy Cc rfl rfl rfl rfl rfl wz ?_)))))
         obtain ⟨a_93,hz_94,h_90⟩:=bind_some h_90
         refine jS 0 il ft (i:=4) el40 el40 sz9 z9 rfl (by decide) by9 (by decide) (λ_=>rfl) rfl rfl rfl hz_94 wz (λn_95=>aH DI rfl 11 rfl wz (eD 0 il ft 2 xU rfl rfl [(vS x_4),(vS r_19.1),(vI r_22.1),(vI r_25.1),(vI (w64 (r_25.1+r_47.1))),(vI r_28.1),(vI r_31.1),(gV n_58 1 s_55.1),(vI r_34.1),(vI r_37.1),(vI r_40.1),(gV n_95 1 a_93),(vB r_43.1)] (Mh rfl) wz (aj ?_)))
         obtain rfl:=ah h_90
         exact aN n_95 trivial rfl (aJ rfl)
        ·refine aB rfl hc_92 (ax ?_)
         obtain rfl:=ah h_90
         exact aN n_81 trivial rfl (aJ rfl)
       ·rintro n_91 _ sl_ H_ hp_ hq_
        refine aL _ hp_ hq_ (aa (fu (bA hD_76 hn_77) wz rfl (ae (vI ((k_73+1:Nat):Int)) wz rfl (aj ?_))))
        obtain rfl:=ah hc_82
        exact aO (k_73+1,l_74,(v_89,r_86.2.L,r_86.2.f_at),n_91) ⟨hL_83,aR hD_76⟩ (ls_ _) rfl (aJ rfl)
     ·rintro ⟨s_78,n_81⟩ ho_ sl_ H_ hp_ hq_
      subst ho_
      refine aL _ hp_ hq_ (gJ 3 rfl (gJ 4 rfl (wH_coc2 3 4 2 [(vS x_4),(vS r_19.1),(vI r_22.1),(vI r_25.1),(vI (w64 (r_25.1+r_47.1))),(vI r_28.1),(vI r_31.1),(vL eI s_55.1),(vI r_34.1),(vI r_37.1),(vI r_40.1),(vL eS s_78.1),(vB r_43.1)] rfl rfl rfl (λS hS hS2=>fq (rfl) (fq (rfl) (fq (rfl) (fq (rfl) (fq (rfl) (fq (rfl) (fq (rfl) (fq (hS) (fq (rfl) (fq (rfl) (fq (rfl) (fq (hS2) (fq (rfl) (rfl)))))))))))))) (aa (ae (gV n_10 13 s_7.1) wz rfl (aA 0 2 il ft zi BD rfl rfl (.d (.agg (Entry.enc (⟨x_4,r_19.1,r_22.1,r_25.1,(w64 (r_25.1+r_47.1)),r_28.1,r_31.1,s_55.1,r_34.1,r_37.1,r_40.1,s_78.1,r_43.1⟩:Entry)))) rfl wz (dW (([(⟨x_4,r_19.1,r_22.1,r_25.1,(w64 (r_25.1+r_47.1)),r_28.1,r_31.1,s_55.1,r_34.1,r_37.1,r_40.1,s_78.1,r_43.1⟩:Entry)]:List Entry).map Entry.enc) F3 ez31 rfl rfl rfl rfl rfl wz ?_)))))))
      obtain ⟨a_96,hz_97,hc_11⟩:=bind_some hc_11
      refine jS 0 il ft (i:=1) el31 el31 zi z61 rfl (by decide) by61 (by decide) (λ_=>rfl) rfl rfl rfl hz_97 wz (λn_98=>ae (gV n_98 13 a_96) wz rfl (aj (aa (fu (bA hD_5 hn_6) wz rfl (ae (vI ((k_2+1:Nat):Int)) wz rfl (aj ?_))))))
      obtain rfl:=ah hc_11
      exact aO (k_2+1,l_3,(a_96,s_78.2.1,s_78.2.2),n_98) ⟨hL_12,aR hD_5⟩ (ls_ _) rfl (aJ rfl)
 ·rintro ⟨s_7,n_10⟩ ho_ sl_ H_ hp_ hq_
  subst ho_
  refine aL _ hp_ hq_ (af (aa (ae (gV n_10 13 s_7.1) wz rfl (ae (gV n_10 13 s_7.1) wz rfl (aj (gJ 1 rfl (dJ 2 1 rfl rfl (dJ 3 1 rfl rfl (dJ 88 1 rfl rfl ?_)))))))))
  obtain rfl:=ah hF
  exact aG (wE (.inr rfl) [(vL Entry.enc s_7.1)] _ [0] [av 0] ⟨rfl,trivial⟩ (.cons (jF rfl rfl) (.nil)) (by kernel_rfl) ⟨(by kernel_rfl),trivial⟩ (by decide) (by kernel_rfl))
end Go.Proofs.YticmkhcacamhkaaGreatDoor.Law

