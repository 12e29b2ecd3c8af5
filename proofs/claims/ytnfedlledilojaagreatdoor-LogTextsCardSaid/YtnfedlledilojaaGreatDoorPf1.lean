/-
 The machine computes these plain functions (written by a program of ours).
-/
import Derived.Test.YtnfedlledilojaaGreatDoorFacts
import Derived.Test.YtnfedlledilojaaGreatDoorDefs
import Derived.Test.YtnfedlledilojaaGreatDoorShelf
open Go Go.Eng Go.Proofs
namespace Go.Proofs.YtnfedlledilojaaGreatDoor.Law
set_option maxRecDepth 100000
set_option linter.unusedVariables false
set_option maxHeartbeats 1000000
theorem oq {x_1:Int} {n_2:Int} {r:Int} (hF:kW x_1 n_2=some r) :
  FnM Tryz.prog 39 [(vI x_1),(vI n_2)] [] (vI r) []:=by
 refine FnM.of_wH ⟨Tryz.prog,16,[],[]⟩ rfl Tryz.func39 rfl rfl (lb_ rfl) (by kernel_rfl) ?_
 unfold kW at hF
 refine ai (aa (vI 0) (af (ak (ai (aa (vI n_2) (aa (vB (decide (n_2<1))) (af ?_)))))))
 rcases aj hF with⟨hc_3,hF⟩|⟨hc_3,hF⟩
 ·refine aD rfl hc_3 (ai (aa (vI 0) (af ?_)))
  obtain rfl:=ae hF
  exact av (aJ [(vI 0)] ⟨rfl,trivial⟩)
 ·refine aF rfl hc_3 (aC (ai (aa (vI x_1) (aa (vI n_2) ?_))))
  obtain ⟨q_4,hz_5,hF⟩:=bind_some hF
  refine h_rem rfl rfl hz_5 wz (aa (vI q_4) (af (ak (ai (aa (vI q_4) (aa (vB (decide (q_4<0))) (af ?_)))))))
  obtain ⟨v_6,h_7,hF⟩:=bind_some hF
  refine aS [(0,(vI v_6))] [] ?_ ?_
  ·rcases aj h_7 with⟨hc_8,h_7⟩|⟨hc_8,h_7⟩
   ·refine aD rfl hc_8 (ax (aa (vI q_4) (aa (vI n_2) (aa (vI (w64 (q_4+n_2))) (aa (vI (w64 (q_4+n_2))) (af ?_))))))
    obtain rfl:=ae h_7
    exact cu
   ·refine aF rfl hc_8 (aC ?_)
    obtain rfl:=ae h_7
    exact cu
  ·rintro ⟨⟩ _ sl_ H_ hp_ hq_
   refine aV _ hp_ hq_ (ai (aa (vI v_6) (aa (vI v_6) (af ?_))))
   obtain rfl:=ae hF
   exact av (aJ [(vI v_6)] ⟨rfl,trivial⟩)
theorem bG {s_1:Stream} {n_2:Int} {r:Int×Stream} (hF:bg s_1 n_2=some r) :
  FnM Tryz.prog 15 [(.ref (au 0) 0 0),(vI n_2)] [(.cells 2 [(vL eI s_1.L),(vI s_1.f_at)])] (vI r.1) [some (.cells 2 [(vL eI r.2.L),(vI r.2.f_at)])]:=by
 refine FnM.of_wH ⟨Tryz.prog,64,[],[]⟩ rfl Tryz.func15 rfl rfl (lb_ rfl) (by kernel_rfl) ?_
 unfold bg at hF
 refine ai (aa (vI 0) (af (ai (aa (.ref (au 0) 0 0) (aa (.ref (au 0) 0 0) (aQ wF rfl 1 rfl wz (aO 0 0 il ft sz3 ag3 rfl rfl (vI s_1.f_at) rfl wz (aa (vI (w64 (s_1.f_at+1))) (aa (.ref (au 0) 0 0) (aQ wF rfl 1 rfl wz (je 0 il ft 0 sz3 rfl rfl [(vL eI s_1.L),(vI (w64 (s_1.f_at+1)))] rfl wz (af (ak (ai (aa (.ref (au 0) 0 0) (aa (.ref (au 0) 0 0) (aQ yT rfl 0 rfl wz (aO 0 0 il ft sz22 ag22 rfl rfl (vL eI s_1.L) rfl wz (dX Dl rfl wz (aa (vB ((s_1.L.length:Int)==0)) (af ?_)))))))))))))))))))))
 rcases aj hF with⟨hc_3,hF⟩|⟨hc_3,hF⟩
 ·refine aD rfl hc_3 (ai (aa (.ref (au 0) 0 0) (aa (.ref (au 0) 0 0) (aQ wF rfl 1 rfl wz (aO 0 0 il ft sz3 ag3 rfl rfl (vI (w64 (s_1.f_at+1))) rfl wz (aa (vI (w64 ((w64 (s_1.f_at+1))*7919))) (aa (vI n_2) ?_)))))))
  obtain ⟨r_4,hr_5,hF⟩:=bind_some hF
  refine ay (oq hr_5) rfl hb39 rfl rfl rfl rfl wz (aa (vI r_4) (af ?_))
  obtain rfl:=ae hF
  exact av (pX (.inr rfl) [(vI r_4)] _ [0] [au 0] ⟨rfl,trivial⟩ (.cons (eB rfl rfl) (.nil)) (by kernel_rfl) ⟨(by kernel_rfl),trivial⟩ (by decide) (by kernel_rfl))
 ·refine aF rfl hc_3 (aC (ak (bM (aa (.ref (au 0) 0 0) (aa (.ref (au 0) 0 0) (aQ wF rfl 1 rfl wz (aO 3 0 (.inr (by kernel_rfl)) (λ_ _ ag=>trivial) sz3 ag3 rfl rfl (vI (w64 (s_1.f_at+1))) rfl wz (aa (vI (w64 ((w64 (s_1.f_at+1))-1))) (aa (.ref (au 0) 0 0) (aa (.ref (au 0) 0 0) (aQ yT rfl 0 rfl wz (aO 8 0 (.inr (by kernel_rfl)) (λ_ _ ag=>⟨.inl ⟨rfl,rfl⟩,trivial⟩) sz22 ag22 rfl rfl (vL eI s_1.L) rfl wz (dX Dl rfl wz ?_)))))))))))))
  obtain ⟨q_6,hz_7,hF⟩:=bind_some hF
  refine h_rem rfl rfl hz_7 wz (aa (vI q_6) (af (ak (bM (aa (.ref (au 0) 0 0) (aa (.ref (au 0) 0 0) (aQ wF rfl 1 rfl wz (aO 3 0 (.inr (by kernel_rfl)) (λ_ _ ag=>trivial) sz3 ag3 rfl rfl (vI (w64 (s_1.f_at+1))) rfl wz (aa (vI (w64 ((w64 (s_1.f_at+1))-1))) (aa (.ref (au 0) 0 0) (aa (.ref (au 0) 0 0) (aQ yT rfl 0 rfl wz (aO 8 0 (.inr (by kernel_rfl)) (λ_ _ ag=>⟨.inl ⟨rfl,rfl⟩,trivial⟩) sz22 ag22 rfl rfl (vL eI s_1.L) rfl wz (dX Dl rfl wz ?_))))))))))))))
  obtain ⟨q_8,hz_9,hF⟩:=bind_some hF
  refine h_quo rfl rfl hz_9 wz (aa (vI q_8) (af (aV (H0:=([((au 0),some (.cells 2 [(vL eI s_1.L),(vI (w64 (s_1.f_at+1)))]))]:Hp)) ([(0,(.ref (au 0) 0 0)),(1,(vI n_2)),(5,(vI q_6)),(6,(vI q_8))]:SL_) (by kernel_rfl) (qw (by kernel_rfl)) (ai (aa (.ref (au 0) 0 0) (aa (.ref (au 0) 0 0) (aQ yT rfl 0 rfl wz (aO 0 0 il ft sz22 ag22 rfl rfl (vL eI s_1.L) rfl wz (aa (vI q_6) ?_)))))))))
  obtain ⟨y_10,hy_11,hF⟩:=bind_some hF
  refine eT nK rfl rfl hy_11 rfl wz (cz sz3 ag3 rfl (vI y_10) rfl wz ?_)
  obtain ⟨r_12,hr_13,hF⟩:=bind_some hF
  refine ay (oq hr_13) rfl hb39 rfl rfl rfl rfl wz (aa (vI q_8) (aa (vI q_6) (aa (vI (w64 (7919+q_6))) (aa (vI (w64 (q_8*(w64 (7919+q_6))))) (aa (vI (w64 (r_12+(w64 (q_8*(w64 (7919+q_6))))))) (aa (vI n_2) ?_))))))
  obtain ⟨r_14,hr_15,hF⟩:=bind_some hF
  refine ay (oq hr_15) rfl hb39 rfl rfl rfl rfl wz (aa (vI r_14) (af ?_))
  obtain rfl:=ae hF
  exact av (pX (.inr rfl) [(vI r_14)] _ [0] [au 0] ⟨rfl,trivial⟩ (.cons (eB rfl rfl) (.nil)) (by kernel_rfl) ⟨(by kernel_rfl),trivial⟩ (by decide) (by kernel_rfl))
theorem bZ {s_1:Stream} {l_2:(List Int)} {r:Int×Stream} (hF:cK s_1 l_2=some r) :
  FnM Tryz.prog 19 [(.ref (au 0) 0 0),(vL eI l_2)] [(.cells 2 [(vL eI s_1.L),(vI s_1.f_at)])] (vI r.1) [some (.cells 2 [(vL eI r.2.L),(vI r.2.f_at)])]:=by
 refine FnM.of_wH ⟨Tryz.prog,12,[],[]⟩ rfl Tryz.func19 rfl rfl (lb_ rfl) (by kernel_rfl) ?_
 unfold cK at hF
 refine ai (aa (vI 0) (af (ai (aa (vL eI l_2) (aa (.ref (au 0) 0 0) (aa (vL eI l_2) (dX Dl rfl wz ?_)))))))
 obtain ⟨r_3,hr_4,hF⟩:=bind_some hF
 refine aX 0 [0] il ft (bG hr_4) rfl xI rfl (by kernel_rfl) (by kernel_rfl) (by kernel_rfl) (by kernel_rfl) (by kernel_rfl) (by kernel_rfl) (by kernel_rfl) (by decide) (by kernel_rfl) wz (vI r_3.1) (by kernel_rfl) ([((au 0),some (.cells 2 [(vL eI r_3.2.L),(vI r_3.2.f_at)]))]:Hp) (by kernel_rfl) ?_
 obtain ⟨y_6,hy_7,hF⟩:=bind_some hF
 refine eT nK rfl rfl hy_7 rfl wz (cz sz3 ag3 rfl (vI y_6) rfl wz (aa (vI y_6) (af ?_)))
 obtain rfl:=ae hF
 exact av (pX (.inr rfl) [(vI y_6)] _ [0] [au 0] ⟨rfl,trivial⟩ (.cons (eB rfl rfl) (.nil)) (by kernel_rfl) ⟨(by kernel_rfl),trivial⟩ (by decide) (by kernel_rfl))
theorem iO {s_1:Stream} {low_2:Int} {high_3:Int} {r:Int×Stream} (hF:dS s_1 low_2 high_3=some r) :
  FnM Tryz.prog 37 [(.ref (au 0) 0 0),(vI low_2),(vI high_3)] [(.cells 2 [(vL eI s_1.L),(vI s_1.f_at)])] (vI r.1) [some (.cells 2 [(vL eI r.2.L),(vI r.2.f_at)])]:=by
 refine FnM.of_wH ⟨Tryz.prog,19,[],[]⟩ rfl Tryz.func37 rfl rfl (lb_ rfl) (by kernel_rfl) ?_
 unfold dS at hF
 refine ai (aa (vI 0) (af (ak (ai (aa (vI high_3) (aa (vI low_2) (aa (vB (decide (high_3<low_2))) (af ?_))))))))
 rcases aj hF with⟨hc_4,hF⟩|⟨hc_4,hF⟩
 ·refine aD rfl hc_4 (ai (aa (vI low_2) (aa (vI low_2) (af ?_))))
  obtain rfl:=ae hF
  exact av (pX (.inr rfl) [(vI low_2)] _ [0] [au 0] ⟨rfl,trivial⟩ (.cons (eB rfl rfl) (.nil)) (by kernel_rfl) ⟨(by kernel_rfl),trivial⟩ (by decide) (by kernel_rfl))
 ·refine aF rfl hc_4 (aC (ai (aa (vI low_2) (aa (.ref (au 0) 0 0) (aa (vI high_3) (aa (vI low_2) (aa (vI (w64 (high_3-low_2))) (aa (vI (w64 ((w64 (high_3-low_2))+1))) ?_))))))))
  obtain ⟨r_5,hr_6,hF⟩:=bind_some hF
  refine aX 0 [0] il ft (bG hr_6) rfl xI rfl (by kernel_rfl) (by kernel_rfl) (by kernel_rfl) (by kernel_rfl) (by kernel_rfl) (by kernel_rfl) (by kernel_rfl) (by decide) (by kernel_rfl) wz (vI r_5.1) (by kernel_rfl) ([((au 0),some (.cells 2 [(vL eI r_5.2.L),(vI r_5.2.f_at)]))]:Hp) (by kernel_rfl) (aa (vI (w64 (low_2+r_5.1))) (aa (vI (w64 (low_2+r_5.1))) (af ?_)))
  obtain rfl:=ae hF
  exact av (pX (.inr rfl) [(vI (w64 (low_2+r_5.1)))] _ [0] [au 0] ⟨rfl,trivial⟩ (.cons (eB rfl rfl) (.nil)) (by kernel_rfl) ⟨(by kernel_rfl),trivial⟩ (by decide) (by kernel_rfl))
theorem dA {s_1:Stream} {l_2:(List ByteArray)} {r:ByteArray×Stream} (hF:bU s_1 l_2=some r) :
  FnM Tryz.prog 16 [(.ref (au 0) 0 0),(vL eS l_2)] [(.cells 2 [(vL eI s_1.L),(vI s_1.f_at)])] (vS r.1) [some (.cells 2 [(vL eI r.2.L),(vI r.2.f_at)])]:=by
 refine FnM.of_wH ⟨Tryz.prog,12,[],[]⟩ rfl Tryz.func16 rfl rfl (lb_ rfl) (by kernel_rfl) ?_
 unfold bU at hF
 refine ai (aa (vS (⟨#[]⟩:ByteArray)) (af (ai (aa (vL eS l_2) (aa (.ref (au 0) 0 0) (aa (vL eS l_2) (dX uH rfl wz ?_)))))))
 obtain ⟨r_3,hr_4,hF⟩:=bind_some hF
 refine aX 0 [0] il ft (bG hr_4) rfl xI rfl (by kernel_rfl) (by kernel_rfl) (by kernel_rfl) (by kernel_rfl) (by kernel_rfl) (by kernel_rfl) (by kernel_rfl) (by decide) (by kernel_rfl) wz (vI r_3.1) (by kernel_rfl) ([((au 0),some (.cells 2 [(vL eI r_3.2.L),(vI r_3.2.f_at)]))]:Hp) (by kernel_rfl) ?_
 obtain ⟨y_6,hy_7,hF⟩:=bind_some hF
 refine eT jR rfl rfl hy_7 rfl wz (cz sz9 ag9 rfl (vS y_6) rfl wz (aa (vS y_6) (af ?_)))
 obtain rfl:=ae hF
 exact av (pX (.inr rfl) [(vS y_6)] _ [0] [au 0] ⟨rfl,trivial⟩ (.cons (eB rfl rfl) (.nil)) (by kernel_rfl) ⟨(by kernel_rfl),trivial⟩ (by decide) (by kernel_rfl))
theorem gq {x0:Int} {r:ByteArray} (hF:strconv_Itoa x0=some r) :
  FnM Tryz.prog 44 [(vI x0)] [] (vS r) [] :=
 itoa_ok Tryz.strconv_Itoa Cn hF
theorem uw {x0:(List ByteArray)} {x1:ByteArray} {r:ByteArray} (hF:strings_Join x0 x1=some r) :
  FnM Tryz.prog 68 [(vL eS x0),(vS x1)] [] (vS r) [] :=
 join_ok rfl Tryz.strings_Join_none Tryz.strings_Join hF
theorem w9 {l_1:(List Int)} {r:ByteArray} (hF:jQ l_1=some r) :
  FnM Tryz.prog 51 [(vL eI l_1)] [] (vS r) []:=by
 refine FnM.of_wH ⟨Tryz.prog,20,[],[]⟩ rfl Tryz.func51 rfl rfl (lb_ rfl) (by kernel_rfl) ?_
 unfold jQ at hF
 refine ai (aa (vS (⟨#[]⟩:ByteArray)) (af (ai (aa .nil (af (ak (ai (aa (vL eI l_1) (dX Dl rfl wz (aa (vI 0) (af (rW (λn_8 => ?_)))))))))))))
 obtain ⟨o_13,hj_14,hF⟩:=bind_some hF
 obtain ⟨hn_6,hj_14⟩:=bQ hj_14
 refine ji (σ:=(List ByteArray)) (N:=Nm) (λp=>(λ(s_7:List ByteArray) (n_10:Nm)=>([(3,(gV n_10 1 s_7))]:SL_)) p.1 p.2) (λp=>(λ(s_7:List ByteArray) (n_10:Nm)=>([(n_10,gB 1 eS s_7)]:Hp)) p.1 p.2) (λ(k_2:Nat)=>(λp=>(λ(s_7:List ByteArray) (n_10:Nm)=>([(3,(gV n_10 1 s_7)),(6,(vL eI l_1)),(7,(vI (l_1.length:Int))),(8,(vI (k_2:Int)))]:SL_)) p.1 p.2)) (λk x s=>fK k x s) o_13 l_1 (([]:List ByteArray),n_8) hj_14 rfl (aN rfl) ?_ ?_
 ·rintro ⟨k_2,l_3,s_7,n_10⟩ ⟨hL_12,hD_5⟩
  dsimp only at hL_12 hD_5
  cases l_3 with
  | nil =>
   obtain rfl:=ae hL_12
   refine ai (aa (vB (decide ((k_2:Int)<(l_1.length:Int)))) (af ?_))
   refine ak (aF rfl (drop_nil hD_5) (dw ?_))
   exact bO (s_7,n_10) rfl rfl (aN rfl)
  | cons x_4 l_3 =>
   obtain ⟨c_,hc_11,hL_12⟩:=bind_some hL_12
   refine ai (aa (vB (decide ((k_2:Int)<(l_1.length:Int)))) (af ?_))
   refine ak (aD rfl (dG hD_5) (aC ?_))
   unfold fK at hc_11
   refine ak (aU (ai (eT nK rfl rfl (dU hD_5) rfl wz (cz sz3 ag3 rfl (vI x_4) rfl wz (aa (vI x_4) (af (ax (aa (gV n_10 1 s_7) (aa (vI x_4) ?_)))))))))
   obtain ⟨r_15,hr_16,hc_11⟩:=bind_some hc_11
   refine ay (gq hr_16) rfl FZ rfl rfl rfl rfl wz (fo (([r_15]:List ByteArray).map eS) jR xD rfl rfl rfl rfl rfl wz ?_)
   obtain ⟨a_17,hz_18,hc_11⟩:=bind_some hc_11
   refine oV 0 il ft (i:=0) el62 el62 sz9 z9 rfl (by decide) by9 (by decide) (λ_=>rfl) rfl rfl rfl hz_18 wz (λn_19=>aa (gV n_19 1 a_17) (af (ax (iZ (dV hD_5 hn_6) wz rfl (aa (vI ((k_2+1:Nat):Int)) (af ?_))))))
   obtain rfl:=ae hc_11
   exact dx (k_2+1,l_3,a_17,n_19) ⟨hL_12,bJ hD_5⟩ (ls_ _) rfl (aN rfl)
 ·rintro ⟨s_7,n_10⟩ ho_ sl_ H_ hp_ hq_
  subst ho_
  refine aV _ hp_ hq_ (ak (kT 0 rfl (jd 3 0 rfl rfl (ax (aa (vL eS s_7) ?_)))))
  obtain ⟨r_20,hr_21,hF⟩:=bind_some hF
  refine ay (uw hr_21) rfl hb68 rfl rfl rfl rfl wz (aa (vS r_20) (af ?_))
  obtain rfl:=ae hF
  exact av (aJ [(vS r_20)] ⟨rfl,trivial⟩)
theorem o6 {l_1:Log_} {r:ByteArray} (hF:iT l_1=some r) :
  FnM Tryz.prog 29 [(.d (.agg (Log_.enc l_1)))] [] (vS r) []:=by
 refine FnM.of_wH ⟨Tryz.prog,19,[],[]⟩ rfl Tryz.func29 rfl rfl (lb_ rfl) (by kernel_rfl) ?_
 unfold iT at hF
 refine ai (nT 0 (.inl rfl) (Log_.v l_1) rfl rfl wz (λn_2=>aa (vS (⟨#[]⟩:ByteArray)) (af (ak (bM (aQ kv rfl 0 rfl wz (aO 1 0 (.inr (by kernel_rfl)) (λ_ _ ag=>trivial) sz9 ag9 rfl rfl (vS l_1.Player) rfl wz ?_)))))))
 obtain ⟨s_3,hz_4,hF⟩:=bind_some hF
 refine fH rfl rfl hz_4 wz (aQ sO rfl 1 rfl wz (aO 4 0 (.inr (by kernel_rfl)) (λ_ _ ag=>⟨.inl ⟨rfl,rfl⟩,trivial⟩) sz9 ag9 rfl rfl (vS l_1.Item) rfl wz ?_))
 obtain ⟨s_5,hz_6,hF⟩:=bind_some hF
 refine fH rfl rfl hz_6 wz ?_
 obtain ⟨s_7,hz_8,hF⟩:=bind_some hF
 refine fH rfl rfl hz_8 wz (aQ nP rfl 2 rfl wz (aO 8 0 (.inr (by kernel_rfl)) (λ_ _ ag=>⟨.inl ⟨rfl,rfl⟩,⟨.inl ⟨rfl,rfl⟩,trivial⟩⟩) sz3 ag3 rfl rfl (vI l_1.No) rfl wz (aQ xq rfl 3 rfl wz (aO 10 0 (.inr (by kernel_rfl)) (λ_ _ ag=>⟨.inl ⟨rfl,rfl⟩,⟨.inl ⟨rfl,rfl⟩,⟨.inl ⟨rfl,rfl⟩,trivial⟩⟩⟩) sz3 ag3 rfl rfl (vI l_1.Clock) rfl wz (aQ wm rfl 4 rfl wz (aO 12 0 (.inr (by kernel_rfl)) (λ_ _ ag=>⟨.inl ⟨rfl,rfl⟩,⟨.inl ⟨rfl,rfl⟩,⟨.inl ⟨rfl,rfl⟩,⟨.inl ⟨rfl,rfl⟩,trivial⟩⟩⟩⟩) sz3 ag3 rfl rfl (vI l_1.Long) rfl wz (fo (([l_1.No,l_1.Clock,l_1.Long]:List Int).map eI) nK uJ rfl rfl rfl rfl rfl wz ?_)))))))
 obtain ⟨r_9,hr_10,hF⟩:=bind_some hF
 refine ay (w9 hr_10) rfl hb51 rfl rfl rfl rfl wz ?_
 obtain ⟨s_11,hz_12,hF⟩:=bind_some hF
 refine fH rfl rfl hz_12 wz (aa (vS s_11) (af ?_))
 obtain rfl:=ae hF
 exact av (aJ [(vS s_11)] ⟨rfl,trivial⟩)
theorem tQ {s_1:ByteArray} {r:ByteArray} (hF:lL s_1=some r) :
  FnM Tryz.prog 17 [(vS s_1)] [] (vS r) []:=by
 refine FnM.of_wH ⟨Tryz.prog,34,[],[]⟩ rfl Tryz.func17 rfl rfl (lb_ rfl) (by kernel_rfl) ?_
 unfold lL at hF
 refine ai (aa (vS (⟨#[]⟩:ByteArray)) (af (ai (aa (.d (.int .u64 14695981039346656037)) (af (ak (ai (aa (vS s_1) (h_convs un9 un50 un5 rfl wz (dX un50 rfl wz (aa (vI 0) (af ?_))))))))))))
 obtain ⟨o_10,hj_11,hF⟩:=bind_some hF
 obtain ⟨hn_6,hj_11⟩:=bQ hj_11
 refine fI (λ(s_7:Int)=>[(3,(.d (.int .u64 s_7)))]) (λ(s_7:Int)=>[]) (λ(k_2:Nat)=>(λ(s_7:Int)=>[(3,(.d (.int .u64 s_7))),(8,(vL (eK .u8) (aI s_1))),(9,(vI ((aI s_1).length:Int))),(10,(vI (k_2:Int)))])) (λk x s=>lU k x s) o_10 (aI s_1) 14695981039346656037 hj_11 rfl (aN rfl) ?_ ?_
 ·rintro ⟨k_2,l_3,s_7⟩ ⟨hL_9,hD_5⟩
  dsimp only at hL_9 hD_5
  cases l_3 with
  | nil =>
   obtain rfl:=ae hL_9
   refine ai (aa (vB (decide ((k_2:Int)<((aI s_1).length:Int)))) (af ?_))
   refine ak (aF rfl (drop_nil hD_5) (dw ?_))
   exact bO (s_7) rfl rfl (aN rfl)
  | cons x_4 l_3 =>
   obtain ⟨c_,hc_8,hL_9⟩:=bind_some hL_9
   refine ai (aa (vB (decide ((k_2:Int)<((aI s_1).length:Int)))) (af ?_))
   refine ak (aD rfl (dG hD_5) (aC ?_))
   unfold lU at hc_8
   refine ak (aU (ai (eT es50 rfl rfl (dU hD_5) rfl wz (cz sz5 ag5 rfl (.d (.int .u8 x_4)) rfl wz (aa (.d (.int .u8 x_4)) (af (ax (aa (.d (.int .u64 s_7)) (aa (.d (.int .u8 x_4)) (BN un5 un77 rfl wz (aa (.d (.int .u64 (Ed .u64 s_7 (IntKind.u64.wrap x_4)))) (aa (.d (.int .u64 (IntKind.u64.wrap ((Ed .u64 s_7 (IntKind.u64.wrap x_4))*1099511628211)))) (aa (.d (.int .u64 (IntKind.u64.wrap ((Ed .u64 s_7 (IntKind.u64.wrap x_4))*1099511628211)))) (af (ax (iZ (dV hD_5 hn_6) wz rfl (aa (vI ((k_2+1:Nat):Int)) (af ?_))))))))))))))))))
   obtain rfl:=ae hc_8
   exact dx (k_2+1,l_3,(IntKind.u64.wrap ((Ed .u64 s_7 (IntKind.u64.wrap x_4))*1099511628211))) ⟨hL_9,bJ hD_5⟩ (ls_ _) rfl (aN rfl)
 ·rintro s_7 ho_ sl_ H_ hp_ hq_
  subst ho_
  refine aV _ hp_ hq_ (ai (aa (vS (⟨#[]⟩:ByteArray)) (af (ak (ai (aa (vI 0) (af ?_)))))))
  obtain ⟨o_20,hj_21,hF⟩:=bind_some hF
  obtain ⟨hn_16,hj_21⟩:=bQ hj_21
  refine fI (λ(s_17:Int×ByteArray)=>[(6,(vS s_17.2))]) (λ(s_17:Int×ByteArray)=>[]) (λ(k_12:Nat)=>(λ(s_17:Int×ByteArray)=>[(3,(.d (.int .u64 s_17.1))),(6,(vS s_17.2)),(20,(vI (k_12:Int)))])) (λk x s=>iQ k x s) o_20 (List.range (16:Int).toNat) (s_7,(⟨#[]⟩:ByteArray)) hj_21 rfl (aN rfl) ?_ ?_
  ·rintro ⟨k_12,l_13,s_17⟩ ⟨hL_19,hD_15⟩
   dsimp only at hL_19 hD_15
   cases l_13 with
   | nil =>
    obtain rfl:=ae hL_19
    refine ai (aa (vB (decide ((k_12:Int)<16))) (af ?_))
    refine ak (aF rfl (mP hD_15) (dw ?_))
    exact bO (s_17) rfl rfl (aN rfl)
   | cons x_14 l_13 =>
    obtain ⟨c_,hc_18,hL_19⟩:=bind_some hL_19
    refine ai (aa (vB (decide ((k_12:Int)<16))) (af ?_))
    refine ak (aD rfl (kX hD_15) (aC ?_))
    unfold iQ at hc_18
    refine ak (aU (ai (aa (.d (.int .u64 s_17.1)) (aa (.d (.int .u64 (s_17.1.tmod 16))) (aa (.d (.int .u64 s_17.1)) (aa (.d (.int .u64 (s_17.1.tmod 16))) (aa (.d (.int .u64 (IntKind.u64.wrap ((s_17.1.tmod 16)+1)))) ?_)))))))
    obtain ⟨y_22,hy_23,hc_18⟩:=bind_some hc_18
    refine xA un9 rfl rfl rfl hy_23 wz (aa (vS s_17.2) ?_)
    obtain ⟨s_24,hz_25,hc_18⟩:=bind_some hc_18
    refine fH rfl rfl hz_25 wz (aa (vS s_24) (af (ax (aa (.d (.int .u64 s_17.1)) (aa (.d (.int .u64 (IntKind.u64.wrap (s_17.1.tdiv 16)))) (aa (.d (.int .u64 (IntKind.u64.wrap (s_17.1.tdiv 16)))) (af (ax (iZ (mJ hD_15 hn_16) wz rfl (aa (vI ((k_12+1:Nat):Int)) (af ?_)))))))))))
    obtain rfl:=ae hc_18
    exact dx (k_12+1,l_13,((IntKind.u64.wrap (s_17.1.tdiv 16)),s_24)) ⟨hL_19,bJ hD_15⟩ (ls_ _) rfl (aN rfl)
  ·rintro s_17 ho_ sl_ H_ hp_ hq_
   subst ho_
   refine aV _ hp_ hq_ (ai (aa (vS s_17.2) (aa (vS s_17.2) (af ?_))))
   obtain rfl:=ae hF
   exact av (aJ [(vS s_17.2)] ⟨rfl,trivial⟩)
theorem rO {last_1:ByteArray} {l_2:Log_} {r:ByteArray} (hF:mO last_1 l_2=some r) :
  FnM Tryz.prog 38 [(vS last_1),(.d (.agg (Log_.enc l_2)))] [] (vS r) []:=by
 refine FnM.of_wH ⟨Tryz.prog,11,[],[]⟩ rfl Tryz.func38 rfl rfl (lb_ rfl) (by kernel_rfl) ?_
 unfold mO at hF
 refine ai (nT 0 (.inl rfl) (Log_.v l_2) rfl rfl wz (λn_3=>aa (vS (⟨#[]⟩:ByteArray)) (af (ai (aa (vS last_1) ?_)))))
 obtain ⟨s_4,hz_5,hF⟩:=bind_some hF
 refine fH rfl rfl hz_5 wz (aO 0 0 il ft gz lN rfl rfl (.d (.agg (Log_.enc l_2))) rfl wz ?_)
 obtain ⟨r_6,hr_7,hF⟩:=bind_some hF
 refine ay (o6 hr_7) rfl hb29 rfl rfl rfl rfl wz ?_
 obtain ⟨s_8,hz_9,hF⟩:=bind_some hF
 refine fH rfl rfl hz_9 wz ?_
 obtain ⟨r_10,hr_11,hF⟩:=bind_some hF
 refine ay (tQ hr_11) rfl hb17 rfl rfl rfl rfl wz (aa (vS r_10) (af ?_))
 obtain rfl:=ae hF
 exact av (aJ [(vS r_10)] ⟨rfl,trivial⟩)
theorem eY {s_1:Stream} {n_2:Int} {r:Bool×Stream} (hF:dB s_1 n_2=some r) :
  FnM Tryz.prog 14 [(.ref (au 0) 0 0),(vI n_2)] [(.cells 2 [(vL eI s_1.L),(vI s_1.f_at)])] (vB r.1) [some (.cells 2 [(vL eI r.2.L),(vI r.2.f_at)])]:=by
 refine FnM.of_wH ⟨Tryz.prog,9,[],[]⟩ rfl Tryz.func14 rfl rfl (lb_ rfl) (by kernel_rfl) ?_
 unfold dB at hF
 refine ai (aa (vB false) (af (ai (aa (.ref (au 0) 0 0) (aa (vI n_2) ?_)))))
 obtain ⟨r_3,hr_4,hF⟩:=bind_some hF
 refine aX 0 [0] il ft (bG hr_4) rfl xI rfl (by kernel_rfl) (by kernel_rfl) (by kernel_rfl) (by kernel_rfl) (by kernel_rfl) (by kernel_rfl) (by kernel_rfl) (by decide) (by kernel_rfl) wz (vI r_3.1) (by kernel_rfl) ([((au 0),some (.cells 2 [(vL eI r_3.2.L),(vI r_3.2.f_at)]))]:Hp) (by kernel_rfl) (aa (vB (r_3.1==0)) (aa (vB (r_3.1==0)) (af ?_)))
 obtain rfl:=ae hF
 exact av (pX (.inr rfl) [(vB (r_3.1==0))] _ [0] [au 0] ⟨rfl,trivial⟩ (.cons (eB rfl rfl) (.nil)) (by kernel_rfl) ⟨(by kernel_rfl),trivial⟩ (by decide) (by kernel_rfl))
theorem nL {s_1:Stream} {most_2:Int} {r:(List Log_)×Stream} (hF:bu s_1 most_2=some r) :
  FnM Tryz.prog 13 [(.ref (au 0) 0 0),(vI most_2)] [(.cells 2 [(vL eI s_1.L),(vI s_1.f_at)])] (vL Log_.enc r.1) [some (.cells 2 [(vL eI r.2.L),(vI r.2.f_at)])]:=by
 refine FnM.of_wH ⟨Tryz.prog,59,[],[]⟩ rfl Tryz.func13 rfl rfl (lb_ rfl) (by kernel_rfl) ?_
 unfold bu at hF
 refine ai (aa .nil (af (ai (aa .nil (af (ak (ai (fo (([(⟨#[112,97]⟩:ByteArray),(⟨#[112,98]⟩:ByteArray)]:List ByteArray).map eS) jR xD rfl rfl rfl rfl rfl wz (dX uH rfl wz (aa (vI 0) (af (rW (λn_9 => ?_)))))))))))))
 obtain ⟨o_14,hj_15,hF⟩:=bind_some hF
 obtain ⟨hn_7,hj_15⟩:=bQ hj_15
 refine ji (σ:=(List Log_)×(List Int)×Int) (N:=Nm) (λp=>(λ(s_8:(List Log_)×(List Int)×Int) (n_11:Nm)=>([(5,(gV n_11 6 s_8.1))]:SL_)) p.1 p.2) (λp=>(λ(s_8:(List Log_)×(List Int)×Int) (n_11:Nm)=>([((au 0),some (.cells 2 [(vL eI s_8.2.1),(vI s_8.2.2)])),(n_11,gB 6 Log_.enc s_8.1)]:Hp)) p.1 p.2) (λ(k_3:Nat)=>(λp=>(λ(s_8:(List Log_)×(List Int)×Int) (n_11:Nm)=>([(0,(.ref (au 0) 0 0)),(1,(vI most_2)),(5,(gV n_11 6 s_8.1)),(12,(vL eS ([(⟨#[112,97]⟩:ByteArray),(⟨#[112,98]⟩:ByteArray)]:List ByteArray))),(13,(vI (([(⟨#[112,97]⟩:ByteArray),(⟨#[112,98]⟩:ByteArray)]:List ByteArray).length:Int))),(14,(vI (k_3:Int)))]:SL_)) p.1 p.2)) (λk x s=>aR most_2 k x s) o_14 ([(⟨#[112,97]⟩:ByteArray),(⟨#[112,98]⟩:ByteArray)]:List ByteArray) ((([]:List Log_),s_1.L,s_1.f_at),n_9) hj_15 rfl (aN rfl) ?_ ?_
 ·rintro ⟨k_3,l_4,s_8,n_11⟩ ⟨hL_13,hD_6⟩
  dsimp only at hL_13 hD_6
  cases l_4 with
  | nil =>
   obtain rfl:=ae hL_13
   refine ai (aa (vB (decide ((k_3:Int)<(([(⟨#[112,97]⟩:ByteArray),(⟨#[112,98]⟩:ByteArray)]:List ByteArray).length:Int)))) (af ?_))
   refine ak (aF rfl (drop_nil hD_6) (dw ?_))
   exact bO (s_8,n_11) rfl rfl (aN rfl)
  | cons x_5 l_4 =>
   obtain ⟨c_,hc_12,hL_13⟩:=bind_some hL_13
   refine ai (aa (vB (decide ((k_3:Int)<(([(⟨#[112,97]⟩:ByteArray),(⟨#[112,98]⟩:ByteArray)]:List ByteArray).length:Int)))) (af ?_))
   refine ak (aD rfl (dG hD_6) (aC ?_))
   unfold aR at hc_12
   refine ak (aU (ai (eT jR rfl rfl (dU hD_6) rfl wz (cz sz9 ag9 rfl (vS x_5) rfl wz (aa (vS x_5) (af (ai (aa (.ref (au 0) 0 0) (fo (([0,50,1000]:List Int).map eI) nK uJ rfl rfl rfl rfl rfl wz ?_)))))))))
   obtain ⟨r_16,hr_17,hc_12⟩:=bind_some hc_12
   refine aX 0 [0] il ft (bZ hr_17) rfl zY rfl (by kernel_rfl) (by kernel_rfl) (by kernel_rfl) (by kernel_rfl) (by kernel_rfl) (by kernel_rfl) (by kernel_rfl) (by decide) (by kernel_rfl) wz (vI r_16.1) (by kernel_rfl) ([((au 0),some (.cells 2 [(vL eI r_16.2.L),(vI r_16.2.f_at)])),(n_11,gB 6 Log_.enc s_8.1)]:Hp) (by kernel_rfl) (aa (vS (⟨#[]⟩:ByteArray)) (aa (vI r_16.1) (af (ai (aa (.ref (au 0) 0 0) (aa (vI most_2) ?_))))))
   obtain ⟨r_19,hr_20,hc_12⟩:=bind_some hc_12
   refine aX 0 [0] il ft (iO hr_20) rfl hb37 rfl (by kernel_rfl) (by kernel_rfl) (by kernel_rfl) (by kernel_rfl) (by kernel_rfl) (by kernel_rfl) (by kernel_rfl) (by decide) (by kernel_rfl) wz (vI r_19.1) (by kernel_rfl) ([((au 0),some (.cells 2 [(vL eI r_19.2.L),(vI r_19.2.f_at)])),(n_11,gB 6 Log_.enc s_8.1)]:Hp) (by kernel_rfl) (aa (vI 0) (af ?_))
   obtain ⟨o_32,hj_33,hc_12⟩:=bind_some hc_12
   obtain ⟨hn_26,hj_33⟩:=bQ hj_33
   refine ji (σ:=(List Log_)×ByteArray×Int×(List Int)×Int) (N:=Nm) (λp=>(λ(s_27:(List Log_)×ByteArray×Int×(List Int)×Int) (n_29:Nm)=>([(0,(.ref (au 0) 0 0)),(1,(vI most_2)),(5,(gV n_29 6 s_27.1)),(12,(vL eS ([(⟨#[112,97]⟩:ByteArray),(⟨#[112,98]⟩:ByteArray)]:List ByteArray))),(13,(vI (([(⟨#[112,97]⟩:ByteArray),(⟨#[112,98]⟩:ByteArray)]:List ByteArray).length:Int))),(14,(vI (k_3:Int)))]:SL_)) p.1 p.2) (λp=>(λ(s_27:(List Log_)×ByteArray×Int×(List Int)×Int) (n_29:Nm)=>([((au 0),some (.cells 2 [(vL eI s_27.2.2.2.1),(vI s_27.2.2.2.2)])),(n_29,gB 6 Log_.enc s_27.1)]:Hp)) p.1 p.2) (λ(k_22:Nat)=>(λp=>(λ(s_27:(List Log_)×ByteArray×Int×(List Int)×Int) (n_29:Nm)=>([(0,(.ref (au 0) 0 0)),(1,(vI most_2)),(5,(gV n_29 6 s_27.1)),(7,(vS x_5)),(8,(vS s_27.2.1)),(9,(vI s_27.2.2.1)),(12,(vL eS ([(⟨#[112,97]⟩:ByteArray),(⟨#[112,98]⟩:ByteArray)]:List ByteArray))),(13,(vI (([(⟨#[112,97]⟩:ByteArray),(⟨#[112,98]⟩:ByteArray)]:List ByteArray).length:Int))),(14,(vI (k_3:Int))),(23,(vI r_19.1)),(24,(vI (k_22:Int)))]:SL_)) p.1 p.2)) (λk x s=>aZ x_5 k x s) o_32 (List.range (r_19.1).toNat) ((s_8.1,(⟨#[]⟩:ByteArray),r_16.1,r_19.2.L,r_19.2.f_at),n_11) hj_33 rfl (aN rfl) ?_ ?_
   ·rintro ⟨k_22,l_23,s_27,n_29⟩ ⟨hL_31,hD_25⟩
    dsimp only at hL_31 hD_25
    cases l_23 with
    | nil =>
     obtain rfl:=ae hL_31
     refine ai (aa (vB (decide ((k_22:Int)<r_19.1))) (af ?_))
     refine ak (aF rfl (mP hD_25) (dw ?_))
     exact bO (s_27,n_29) rfl rfl (aN rfl)
    | cons x_24 l_23 =>
     obtain ⟨c_,hc_30,hL_31⟩:=bind_some hL_31
     refine ai (aa (vB (decide ((k_22:Int)<r_19.1))) (af ?_))
     refine ak (aD rfl (kX hD_25) (aC ?_))
     unfold aZ at hc_30
     refine ak (aU (ai (aa (vI (k_22:Int)) (aa (vI (k_22:Int)) (af (ai (aa (vS x_5) (aa (.ref (au 0) 0 0) (fo (([(⟨#[105,97]⟩:ByteArray),(⟨#[105,98]⟩:ByteArray)]:List ByteArray).map eS) jR xD rfl rfl rfl rfl rfl wz ?_)))))))))
     obtain ⟨r_34,hr_35,hc_30⟩:=bind_some hc_30
     refine aX 0 [0] il ft (dA hr_35) rfl BR rfl (by kernel_rfl) (by kernel_rfl) (by kernel_rfl) (by kernel_rfl) (by kernel_rfl) (by kernel_rfl) (by kernel_rfl) (by decide) (by kernel_rfl) wz (vS r_34.1) (by kernel_rfl) ([((au 0),some (.cells 2 [(vL eI r_34.2.L),(vI r_34.2.f_at)])),(n_29,gB 6 Log_.enc s_27.1)]:Hp) (by kernel_rfl) (aa (vI (k_22:Int)) (aa (vI (w64 ((k_22:Int)+1))) (aa (vI s_27.2.2.1) (aa (.ref (au 0) 0 0) (fo (([1,10,30,100]:List Int).map eI) nK uJ rfl rfl rfl rfl rfl wz ?_)))))
     obtain ⟨r_37,hr_38,hc_30⟩:=bind_some hc_30
     refine aX 0 [0] il ft (bZ hr_38) rfl zY rfl (by kernel_rfl) (by kernel_rfl) (by kernel_rfl) (by kernel_rfl) (by kernel_rfl) (by kernel_rfl) (by kernel_rfl) (by decide) (by kernel_rfl) wz (vI r_37.1) (by kernel_rfl) ([((au 0),some (.cells 2 [(vL eI r_37.2.L),(vI r_37.2.f_at)])),(n_29,gB 6 Log_.enc s_27.1)]:Hp) (by kernel_rfl) (aG (.d (.agg (Log_.enc (⟨x_5,r_34.1,(w64 ((k_22:Int)+1)),s_27.2.2.1,r_37.1,(⟨#[]⟩:ByteArray)⟩:Log_)))) wz (by kernel_rfl) (gY 0 (.inl rfl) z38 rfl wz (λn_40=>je 0 il ft 2 gz rfl rfl [(vS x_5),(vS r_34.1),(vI (w64 ((k_22:Int)+1))),(vI s_27.2.2.1),(vI r_37.1),(vS (⟨#[]⟩:ByteArray))] rfl wz (af (ai (aa (vS s_27.2.1) (aO 0 2 il ft gz lN rfl rfl (.d (.agg (Log_.enc (⟨x_5,r_34.1,(w64 ((k_22:Int)+1)),s_27.2.2.1,r_37.1,(⟨#[]⟩:ByteArray)⟩:Log_)))) rfl wz ?_)))))))
     obtain ⟨r_41,hr_42,hc_30⟩:=bind_some hc_30
     refine ay (rO hr_42) rfl hb38 rfl rfl rfl rfl wz (aQ kV rfl 5 rfl wz (je 0 il ft 2 sz9 rfl rfl [(vS x_5),(vS r_34.1),(vI (w64 ((k_22:Int)+1))),(vI s_27.2.2.1),(vI r_37.1),(vS r_41)] rfl wz (af (ai (aQ kV rfl 5 rfl wz (aO 0 2 il ft sz9 ag9 rfl rfl (vS r_41) rfl wz (aa (vS r_41) (af (ai (aa (vI s_27.2.2.1) (aa (.ref (au 0) 0 0) (fo (([0,5,10,50,100]:List Int).map eI) nK uJ rfl rfl rfl rfl rfl wz ?_))))))))))))
     obtain ⟨r_43,hr_44,hc_30⟩:=bind_some hc_30
     refine aX 0 [0] il ft (bZ hr_44) rfl zY rfl (by kernel_rfl) (by kernel_rfl) (by kernel_rfl) (by kernel_rfl) (by kernel_rfl) (by kernel_rfl) (by kernel_rfl) (by decide) (by kernel_rfl) wz (vI r_43.1) (by kernel_rfl) ([((au 0),some (.cells 2 [(vL eI r_43.2.L),(vI r_43.2.f_at)])),(n_29,gB 6 Log_.enc s_27.1),(n_40,some (.cells 6 [(vS x_5),(vS r_34.1),(vI (w64 ((k_22:Int)+1))),(vI s_27.2.2.1),(vI r_37.1),(vS r_41)]))]:Hp) (by kernel_rfl) (aa (vI (w64 (s_27.2.2.1+r_43.1))) (aa (vI (w64 (s_27.2.2.1+r_43.1))) (af (ai (aa (.ref (au 0) 0 0) ?_)))))
     obtain ⟨r_46,hr_47,hc_30⟩:=bind_some hc_30
     refine aX 0 [0] il ft (eY hr_47) rfl FP rfl (by kernel_rfl) (by kernel_rfl) (by kernel_rfl) (by kernel_rfl) (by kernel_rfl) (by kernel_rfl) (by kernel_rfl) (by decide) (by kernel_rfl) wz (vB r_46.1) (by kernel_rfl) ([((au 0),some (.cells 2 [(vL eI r_46.2.L),(vI r_46.2.f_at)])),(n_29,gB 6 Log_.enc s_27.1),(n_40,some (.cells 6 [(vS x_5),(vS r_34.1),(vI (w64 ((k_22:Int)+1))),(vI s_27.2.2.1),(vI r_37.1),(vS r_41)]))]:Hp) (by kernel_rfl) (aa (vB (!r_46.1)) (af (aV (H0:=([((au 0),some (.cells 2 [(vL eI r_46.2.L),(vI r_46.2.f_at)])),(n_29,gB 6 Log_.enc s_27.1),(n_40,some (.cells 6 [(vS x_5),(vS r_34.1),(vI (w64 ((k_22:Int)+1))),(vI s_27.2.2.1),(vI r_37.1),(vS r_41)]))]:Hp)) ([(0,(.ref (au 0) 0 0)),(1,(vI most_2)),(5,(gV n_29 6 s_27.1)),(7,(vS x_5)),(8,(vS r_41)),(9,(vI (w64 (s_27.2.2.1+r_43.1)))),(11,(.ref n_40 0 0)),(12,(vL eS ([(⟨#[112,97]⟩:ByteArray),(⟨#[112,98]⟩:ByteArray)]:List ByteArray))),(13,(vI (([(⟨#[112,97]⟩:ByteArray),(⟨#[112,98]⟩:ByteArray)]:List ByteArray).length:Int))),(14,(vI (k_3:Int))),(23,(vI r_19.1)),(24,(vI (k_22:Int))),(51,(vB (!r_46.1)))]:SL_) (by kernel_rfl) (qw (by kernel_rfl)) ?_)))
     obtain ⟨v_49,h_50,hc_30⟩:=bind_some hc_30
     refine jN (β:=Nm) (λ(n_51:Nm)=>([(0,(.ref (au 0) 0 0)),(1,(vI most_2)),(5,(gV n_51 6 v_49)),(7,(vS x_5)),(8,(vS r_41)),(9,(vI (w64 (s_27.2.2.1+r_43.1)))),(12,(vL eS ([(⟨#[112,97]⟩:ByteArray),(⟨#[112,98]⟩:ByteArray)]:List ByteArray))),(13,(vI (([(⟨#[112,97]⟩:ByteArray),(⟨#[112,98]⟩:ByteArray)]:List ByteArray).length:Int))),(14,(vI (k_3:Int))),(23,(vI r_19.1)),(24,(vI (k_22:Int)))]:SL_)) (λ(n_51:Nm)=>([((au 0),some (.cells 2 [(vL eI r_46.2.L),(vI r_46.2.f_at)])),(n_51,gB 6 Log_.enc v_49),(n_40,some (.cells 6 [(vS x_5),(vS r_34.1),(vI (w64 ((k_22:Int)+1))),(vI s_27.2.2.1),(vI r_37.1),(vS r_41)]))]:Hp)) (λ_=>True) ?_ ?_
     ·rcases aj h_50 with⟨hc_52,h_50⟩|⟨hc_52,h_50⟩
      ·refine aD rfl hc_52 (ax (aa (gV n_29 6 s_27.1) (aO 0 2 il ft gz lN rfl rfl (.d (.agg (Log_.enc (⟨x_5,r_34.1,(w64 ((k_22:Int)+1)),s_27.2.2.1,r_37.1,r_41⟩:Log_)))) rfl wz (fo (([(⟨x_5,r_34.1,(w64 ((k_22:Int)+1)),s_27.2.2.1,r_37.1,r_41⟩:Log_)]:List Log_).map Log_.enc) rE ez26 rfl rfl rfl rfl rfl wz ?_))))
       obtain ⟨a_53,hz_54,h_50⟩:=bind_some h_50
       refine oV 0 il ft (i:=1) A7 A7 gz z38 rfl (by decide) by38 (by decide) (λ_=>rfl) rfl rfl rfl hz_54 wz (λn_55=>aa (gV n_55 6 a_53) (af ?_))
       obtain rfl:=ae h_50
       exact bO n_55 trivial rfl (aN rfl)
      ·refine aF rfl hc_52 (aC ?_)
       obtain rfl:=ae h_50
       exact bO n_29 trivial rfl (aN rfl)
     ·rintro n_51 _ sl_ H_ hp_ hq_
      refine aV _ hp_ hq_ (ax (iZ (mJ hD_25 hn_26) wz rfl (aa (vI ((k_22+1:Nat):Int)) (af ?_))))
      obtain rfl:=ae hc_30
      exact dx (k_22+1,l_23,(v_49,r_41,(w64 (s_27.2.2.1+r_43.1)),r_46.2.L,r_46.2.f_at),n_51) ⟨hL_31,bJ hD_25⟩ (ls_ _) rfl (aN rfl)
   ·rintro ⟨s_27,n_29⟩ ho_ sl_ H_ hp_ hq_
    subst ho_
    refine aV _ hp_ hq_ (ax (iZ (dV hD_6 hn_7) wz rfl (aa (vI ((k_3+1:Nat):Int)) (af ?_))))
    obtain rfl:=ae hc_12
    exact dx (k_3+1,l_4,(s_27.1,s_27.2.2.2.1,s_27.2.2.2.2),n_29) ⟨hL_13,bJ hD_6⟩ (ls_ _) rfl (aN rfl)
 ·rintro ⟨s_8,n_11⟩ ho_ sl_ H_ hp_ hq_
  subst ho_
  refine aV _ hp_ hq_ (ai (aa (gV n_11 6 s_8.1) (aa (gV n_11 6 s_8.1) (af (kT 1 rfl (jd 4 1 rfl rfl (jd 5 1 rfl rfl (jd 58 1 rfl rfl ?_))))))))
  obtain rfl:=ae hF
  exact av (pX (.inr rfl) [(vL Log_.enc s_8.1)] _ [0] [au 0] ⟨rfl,trivial⟩ (.cons (eB rfl rfl) (.nil)) (by kernel_rfl) ⟨(by kernel_rfl),trivial⟩ (by decide) (by kernel_rfl))
theorem mM {s_1:Stream} {most_2:Int} {r:(List Log_)×Stream} (hF:bu s_1 most_2=some r) :
  FnM Tryz.prog 13 [(.ref (au 0) 0 0),(vI most_2)] [(.cells 2 [(vL eI s_1.L),(vI s_1.f_at)])] (gV (au 1) 6 r.1) (([(.cells 2 [(vL eI r.2.L),(vI r.2.f_at)])]:List Box).map some++gO 6 Log_.enc r.1):=by
 refine FnM.of_wH ⟨Tryz.prog,59,[],[]⟩ rfl Tryz.func13 rfl rfl (lb_ rfl) (by kernel_rfl) ?_
 unfold bu at hF
 refine ai (aa .nil (af (ai (aa .nil (af (ak (ai (fo (([(⟨#[112,97]⟩:ByteArray),(⟨#[112,98]⟩:ByteArray)]:List ByteArray).map eS) jR xD rfl rfl rfl rfl rfl wz (dX uH rfl wz (aa (vI 0) (af (rW (λn_9 => ?_)))))))))))))
 obtain ⟨o_14,hj_15,hF⟩:=bind_some hF
 obtain ⟨hn_7,hj_15⟩:=bQ hj_15
 refine ji (σ:=(List Log_)×(List Int)×Int) (N:=Nm) (λp=>(λ(s_8:(List Log_)×(List Int)×Int) (n_11:Nm)=>([(5,(gV n_11 6 s_8.1))]:SL_)) p.1 p.2) (λp=>(λ(s_8:(List Log_)×(List Int)×Int) (n_11:Nm)=>([((au 0),some (.cells 2 [(vL eI s_8.2.1),(vI s_8.2.2)])),(n_11,gB 6 Log_.enc s_8.1)]:Hp)) p.1 p.2) (λ(k_3:Nat)=>(λp=>(λ(s_8:(List Log_)×(List Int)×Int) (n_11:Nm)=>([(0,(.ref (au 0) 0 0)),(1,(vI most_2)),(5,(gV n_11 6 s_8.1)),(12,(vL eS ([(⟨#[112,97]⟩:ByteArray),(⟨#[112,98]⟩:ByteArray)]:List ByteArray))),(13,(vI (([(⟨#[112,97]⟩:ByteArray),(⟨#[112,98]⟩:ByteArray)]:List ByteArray).length:Int))),(14,(vI (k_3:Int)))]:SL_)) p.1 p.2)) (λk x s=>aR most_2 k x s) o_14 ([(⟨#[112,97]⟩:ByteArray),(⟨#[112,98]⟩:ByteArray)]:List ByteArray) ((([]:List Log_),s_1.L,s_1.f_at),n_9) hj_15 rfl (aN rfl) ?_ ?_
 ·rintro ⟨k_3,l_4,s_8,n_11⟩ ⟨hL_13,hD_6⟩
  dsimp only at hL_13 hD_6
  cases l_4 with
  | nil =>
   obtain rfl:=ae hL_13
   refine ai (aa (vB (decide ((k_3:Int)<(([(⟨#[112,97]⟩:ByteArray),(⟨#[112,98]⟩:ByteArray)]:List ByteArray).length:Int)))) (af ?_))
   refine ak (aF rfl (drop_nil hD_6) (dw ?_))
   exact bO (s_8,n_11) rfl rfl (aN rfl)
  | cons x_5 l_4 =>
   obtain ⟨c_,hc_12,hL_13⟩:=bind_some hL_13
   refine ai (aa (vB (decide ((k_3:Int)<(([(⟨#[112,97]⟩:ByteArray),(⟨#[112,98]⟩:ByteArray)]:List ByteArray).length:Int)))) (af ?_))
   refine ak (aD rfl (dG hD_6) (aC ?_))
   unfold aR at hc_12
   refine ak (aU (ai (eT jR rfl rfl (dU hD_6) rfl wz (cz sz9 ag9 rfl (vS x_5) rfl wz (aa (vS x_5) (af (ai (aa (.ref (au 0) 0 0) (fo (([0,50,1000]:List Int).map eI) nK uJ rfl rfl rfl rfl rfl wz ?_)))))))))
   obtain ⟨r_16,hr_17,hc_12⟩:=bind_some hc_12
   refine aX 0 [0] il ft (bZ hr_17) rfl zY rfl (by kernel_rfl) (by kernel_rfl) (by kernel_rfl) (by kernel_rfl) (by kernel_rfl) (by kernel_rfl) (by kernel_rfl) (by decide) (by kernel_rfl) wz (vI r_16.1) (by kernel_rfl) ([((au 0),some (.cells 2 [(vL eI r_16.2.L),(vI r_16.2.f_at)])),(n_11,gB 6 Log_.enc s_8.1)]:Hp) (by kernel_rfl) (aa (vS (⟨#[]⟩:ByteArray)) (aa (vI r_16.1) (af (ai (aa (.ref (au 0) 0 0) (aa (vI most_2) ?_))))))
   obtain ⟨r_19,hr_20,hc_12⟩:=bind_some hc_12
   refine aX 0 [0] il ft (iO hr_20) rfl hb37 rfl (by kernel_rfl) (by kernel_rfl) (by kernel_rfl) (by kernel_rfl) (by kernel_rfl) (by kernel_rfl) (by kernel_rfl) (by decide) (by kernel_rfl) wz (vI r_19.1) (by kernel_rfl) ([((au 0),some (.cells 2 [(vL eI r_19.2.L),(vI r_19.2.f_at)])),(n_11,gB 6 Log_.enc s_8.1)]:Hp) (by kernel_rfl) (aa (vI 0) (af ?_))
   obtain ⟨o_32,hj_33,hc_12⟩:=bind_some hc_12
   obtain ⟨hn_26,hj_33⟩:=bQ hj_33
   refine ji (σ:=(List Log_)×ByteArray×Int×(List Int)×Int) (N:=Nm) (λp=>(λ(s_27:(List Log_)×ByteArray×Int×(List Int)×Int) (n_29:Nm)=>([(0,(.ref (au 0) 0 0)),(1,(vI most_2)),(5,(gV n_29 6 s_27.1)),(12,(vL eS ([(⟨#[112,97]⟩:ByteArray),(⟨#[112,98]⟩:ByteArray)]:List ByteArray))),(13,(vI (([(⟨#[112,97]⟩:ByteArray),(⟨#[112,98]⟩:ByteArray)]:List ByteArray).length:Int))),(14,(vI (k_3:Int)))]:SL_)) p.1 p.2) (λp=>(λ(s_27:(List Log_)×ByteArray×Int×(List Int)×Int) (n_29:Nm)=>([((au 0),some (.cells 2 [(vL eI s_27.2.2.2.1),(vI s_27.2.2.2.2)])),(n_29,gB 6 Log_.enc s_27.1)]:Hp)) p.1 p.2) (λ(k_22:Nat)=>(λp=>(λ(s_27:(List Log_)×ByteArray×Int×(List Int)×Int) (n_29:Nm)=>([(0,(.ref (au 0) 0 0)),(1,(vI most_2)),(5,(gV n_29 6 s_27.1)),(7,(vS x_5)),(8,(vS s_27.2.1)),(9,(vI s_27.2.2.1)),(12,(vL eS ([(⟨#[112,97]⟩:ByteArray),(⟨#[112,98]⟩:ByteArray)]:List ByteArray))),(13,(vI (([(⟨#[112,97]⟩:ByteArray),(⟨#[112,98]⟩:ByteArray)]:List ByteArray).length:Int))),(14,(vI (k_3:Int))),(23,(vI r_19.1)),(24,(vI (k_22:Int)))]:SL_)) p.1 p.2)) (λk x s=>aZ x_5 k x s) o_32 (List.range (r_19.1).toNat) ((s_8.1,(⟨#[]⟩:ByteArray),r_16.1,r_19.2.L,r_19.2.f_at),n_11) hj_33 rfl (aN rfl) ?_ ?_
   ·rintro ⟨k_22,l_23,s_27,n_29⟩ ⟨hL_31,hD_25⟩
    dsimp only at hL_31 hD_25
    cases l_23 with
    | nil =>
     obtain rfl:=ae hL_31
     refine ai (aa (vB (decide ((k_22:Int)<r_19.1))) (af ?_))
     refine ak (aF rfl (mP hD_25) (dw ?_))
     exact bO (s_27,n_29) rfl rfl (aN rfl)
    | cons x_24 l_23 =>
     obtain ⟨c_,hc_30,hL_31⟩:=bind_some hL_31
     refine ai (aa (vB (decide ((k_22:Int)<r_19.1))) (af ?_))
     refine ak (aD rfl (kX hD_25) (aC ?_))
     unfold aZ at hc_30
     refine ak (aU (ai (aa (vI (k_22:Int)) (aa (vI (k_22:Int)) (af (ai (aa (vS x_5) (aa (.ref (au 0) 0 0) (fo (([(⟨#[105,97]⟩:ByteArray),(⟨#[105,98]⟩:ByteArray)]:List ByteArray).map eS) jR xD rfl rfl rfl rfl rfl wz ?_)))))))))
     obtain ⟨r_34,hr_35,hc_30⟩:=bind_some hc_30
     refine aX 0 [0] il ft (dA hr_35) rfl BR rfl (by kernel_rfl) (by kernel_rfl) (by kernel_rfl) (by kernel_rfl) (by kernel_rfl) (by kernel_rfl) (by kernel_rfl) (by decide) (by kernel_rfl) wz (vS r_34.1) (by kernel_rfl) ([((au 0),some (.cells 2 [(vL eI r_34.2.L),(vI r_34.2.f_at)])),(n_29,gB 6 Log_.enc s_27.1)]:Hp) (by kernel_rfl) (aa (vI (k_22:Int)) (aa (vI (w64 ((k_22:Int)+1))) (aa (vI s_27.2.2.1) (aa (.ref (au 0) 0 0) (fo (([1,10,30,100]:List Int).map eI) nK uJ rfl rfl rfl rfl rfl wz ?_)))))
     obtain ⟨r_37,hr_38,hc_30⟩:=bind_some hc_30
     refine aX 0 [0] il ft (bZ hr_38) rfl zY rfl (by kernel_rfl) (by kernel_rfl) (by kernel_rfl) (by kernel_rfl) (by kernel_rfl) (by kernel_rfl) (by kernel_rfl) (by decide) (by kernel_rfl) wz (vI r_37.1) (by kernel_rfl) ([((au 0),some (.cells 2 [(vL eI r_37.2.L),(vI r_37.2.f_at)])),(n_29,gB 6 Log_.enc s_27.1)]:Hp) (by kernel_rfl) (aG (.d (.agg (Log_.enc (⟨x_5,r_34.1,(w64 ((k_22:Int)+1)),s_27.2.2.1,r_37.1,(⟨#[]⟩:ByteArray)⟩:Log_)))) wz (by kernel_rfl) (gY 0 (.inl rfl) z38 rfl wz (λn_40=>je 0 il ft 2 gz rfl rfl [(vS x_5),(vS r_34.1),(vI (w64 ((k_22:Int)+1))),(vI s_27.2.2.1),(vI r_37.1),(vS (⟨#[]⟩:ByteArray))] rfl wz (af (ai (aa (vS s_27.2.1) (aO 0 2 il ft gz lN rfl rfl (.d (.agg (Log_.enc (⟨x_5,r_34.1,(w64 ((k_22:Int)+1)),s_27.2.2.1,r_37.1,(⟨#[]⟩:ByteArray)⟩:Log_)))) rfl wz ?_)))))))
     obtain ⟨r_41,hr_42,hc_30⟩:=bind_some hc_30
     refine ay (rO hr_42) rfl hb38 rfl rfl rfl rfl wz (aQ kV rfl 5 rfl wz (je 0 il ft 2 sz9 rfl rfl [(vS x_5),(vS r_34.1),(vI (w64 ((k_22:Int)+1))),(vI s_27.2.2.1),(vI r_37.1),(vS r_41)] rfl wz (af (ai (aQ kV rfl 5 rfl wz (aO 0 2 il ft sz9 ag9 rfl rfl (vS r_41) rfl wz (aa (vS r_41) (af (ai (aa (vI s_27.2.2.1) (aa (.ref (au 0) 0 0) (fo (([0,5,10,50,100]:List Int).map eI) nK uJ rfl rfl rfl rfl rfl wz ?_))))))))))))
     obtain ⟨r_43,hr_44,hc_30⟩:=bind_some hc_30
     refine aX 0 [0] il ft (bZ hr_44) rfl zY rfl (by kernel_rfl) (by kernel_rfl) (by kernel_rfl) (by kernel_rfl) (by kernel_rfl) (by kernel_rfl) (by kernel_rfl) (by decide) (by kernel_rfl) wz (vI r_43.1) (by kernel_rfl) ([((au 0),some (.cells 2 [(vL eI r_43.2.L),(vI r_43.2.f_at)])),(n_29,gB 6 Log_.enc s_27.1),(n_40,some (.cells 6 [(vS x_5),(vS r_34.1),(vI (w64 ((k_22:Int)+1))),(vI s_27.2.2.1),(vI r_37.1),(vS r_41)]))]:Hp) (by kernel_rfl) (aa (vI (w64 (s_27.2.2.1+r_43.1))) (aa (vI (w64 (s_27.2.2.1+r_43.1))) (af (ai (aa (.ref (au 0) 0 0) ?_)))))
     obtain ⟨r_46,hr_47,hc_30⟩:=bind_some hc_30
     refine aX 0 [0] il ft (eY hr_47) rfl FP rfl (by kernel_rfl) (by kernel_rfl) (by kernel_rfl) (by kernel_rfl) (by kernel_rfl) (by kernel_rfl) (by kernel_rfl) (by decide) (by kernel_rfl) wz (vB r_46.1) (by kernel_rfl) ([((au 0),some (.cells 2 [(vL eI r_46.2.L),(vI r_46.2.f_at)])),(n_29,gB 6 Log_.enc s_27.1),(n_40,some (.cells 6 [(vS x_5),(vS r_34.1),(vI (w64 ((k_22:Int)+1))),(vI s_27.2.2.1),(vI r_37.1),(vS r_41)]))]:Hp) (by kernel_rfl) (aa (vB (!r_46.1)) (af (aV (H0:=([((au 0),some (.cells 2 [(vL eI r_46.2.L),(vI r_46.2.f_at)])),(n_29,gB 6 Log_.enc s_27.1),(n_40,some (.cells 6 [(vS x_5),(vS r_34.1),(vI (w64 ((k_22:Int)+1))),(vI s_27.2.2.1),(vI r_37.1),(vS r_41)]))]:Hp)) ([(0,(.ref (au 0) 0 0)),(1,(vI most_2)),(5,(gV n_29 6 s_27.1)),(7,(vS x_5)),(8,(vS r_41)),(9,(vI (w64 (s_27.2.2.1+r_43.1)))),(11,(.ref n_40 0 0)),(12,(vL eS ([(⟨#[112,97]⟩:ByteArray),(⟨#[112,98]⟩:ByteArray)]:List ByteArray))),(13,(vI (([(⟨#[112,97]⟩:ByteArray),(⟨#[112,98]⟩:ByteArray)]:List ByteArray).length:Int))),(14,(vI (k_3:Int))),(23,(vI r_19.1)),(24,(vI (k_22:Int))),(51,(vB (!r_46.1)))]:SL_) (by kernel_rfl) (qw (by kernel_rfl)) ?_)))
     obtain ⟨v_49,h_50,hc_30⟩:=bind_some hc_30
     refine jN (β:=Nm) (λ(n_51:Nm)=>([(0,(.ref (au 0) 0 0)),(1,(vI most_2)),(5,(gV n_51 6 v_49)),(7,(vS x_5)),(8,(vS r_41)),(9,(vI (w64 (s_27.2.2.1+r_43.1)))),(12,(vL eS ([(⟨#[112,97]⟩:ByteArray),(⟨#[112,98]⟩:ByteArray)]:List ByteArray))),(13,(vI (([(⟨#[112,97]⟩:ByteArray),(⟨#[112,98]⟩:ByteArray)]:List ByteArray).length:Int))),(14,(vI (k_3:Int))),(23,(vI r_19.1)),(24,(vI (k_22:Int)))]:SL_)) (λ(n_51:Nm)=>([((au 0),some (.cells 2 [(vL eI r_46.2.L),(vI r_46.2.f_at)])),(n_51,gB 6 Log_.enc v_49),(n_40,some (.cells 6 [(vS x_5),(vS r_34.1),(vI (w64 ((k_22:Int)+1))),(vI s_27.2.2.1),(vI r_37.1),(vS r_41)]))]:Hp)) (λ_=>True) ?_ ?_
     ·rcases aj h_50 with⟨hc_52,h_50⟩|⟨hc_52,h_50⟩
      ·refine aD rfl hc_52 (ax (aa (gV n_29 6 s_27.1) (aO 0 2 il ft gz lN rfl rfl (.d (.agg (Log_.enc (⟨x_5,r_34.1,(w64 ((k_22:Int)+1)),s_27.2.2.1,r_37.1,r_41⟩:Log_)))) rfl wz (fo (([(⟨x_5,r_34.1,(w64 ((k_22:Int)+1)),s_27.2.2.1,r_37.1,r_41⟩:Log_)]:List Log_).map Log_.enc) rE ez26 rfl rfl rfl rfl rfl wz ?_))))
       obtain ⟨a_53,hz_54,h_50⟩:=bind_some h_50
       refine oV 0 il ft (i:=1) A7 A7 gz z38 rfl (by decide) by38 (by decide) (λ_=>rfl) rfl rfl rfl hz_54 wz (λn_55=>aa (gV n_55 6 a_53) (af ?_))
       obtain rfl:=ae h_50
       exact bO n_55 trivial rfl (aN rfl)
      ·refine aF rfl hc_52 (aC ?_)
       obtain rfl:=ae h_50
       exact bO n_29 trivial rfl (aN rfl)
     ·rintro n_51 _ sl_ H_ hp_ hq_
      refine aV _ hp_ hq_ (ax (iZ (mJ hD_25 hn_26) wz rfl (aa (vI ((k_22+1:Nat):Int)) (af ?_))))
      obtain rfl:=ae hc_30
      exact dx (k_22+1,l_23,(v_49,r_41,(w64 (s_27.2.2.1+r_43.1)),r_46.2.L,r_46.2.f_at),n_51) ⟨hL_31,bJ hD_25⟩ (ls_ _) rfl (aN rfl)
   ·rintro ⟨s_27,n_29⟩ ho_ sl_ H_ hp_ hq_
    subst ho_
    refine aV _ hp_ hq_ (ax (iZ (dV hD_6 hn_7) wz rfl (aa (vI ((k_3+1:Nat):Int)) (af ?_))))
    obtain rfl:=ae hc_12
    exact dx (k_3+1,l_4,(s_27.1,s_27.2.2.2.1,s_27.2.2.2.2),n_29) ⟨hL_13,bJ hD_6⟩ (ls_ _) rfl (aN rfl)
 ·rintro ⟨s_8,n_11⟩ ho_ sl_ H_ hp_ hq_
  subst ho_
  refine aV _ hp_ hq_ (ai (aa (gV n_11 6 s_8.1) (aa (gV n_11 6 s_8.1) (af ?_))))
  obtain rfl:=ae hF
  exact av (finG (outs:=([(.cells 2 [(vL eI s_8.2.1),(vI s_8.2.2)])]:List Box)) (.inr rfl) 1 rfl rfl rfl (by kernel_rfl) (by kernel_rfl))
theorem jA {s_1:Stream} {low_2:Int} {high_3:Int} {r:Int×Stream} (hF:fw s_1 low_2 high_3=some r) :
  FnM Tryz.prog 18 [(.ref (au 0) 0 0),(vI low_2),(vI high_3)] [(.cells 2 [(vL eI s_1.L),(vI s_1.f_at)])] (vI r.1) [some (.cells 2 [(vL eI r.2.L),(vI r.2.f_at)])]:=by
 refine FnM.of_wH ⟨Tryz.prog,22,[],[]⟩ rfl Tryz.func18 rfl rfl (lb_ rfl) (by kernel_rfl) ?_
 unfold fw at hF
 refine ai (aa (vI 0) (af (ak (ai (aa (.ref (au 0) 0 0) ?_)))))
 obtain ⟨r_4,hr_5,hF⟩:=bind_some hF
 refine aX 0 [0] il ft (eY hr_5) rfl FP rfl (by kernel_rfl) (by kernel_rfl) (by kernel_rfl) (by kernel_rfl) (by kernel_rfl) (by kernel_rfl) (by kernel_rfl) (by decide) (by kernel_rfl) wz (vB r_4.1) (by kernel_rfl) ([((au 0),some (.cells 2 [(vL eI r_4.2.L),(vI r_4.2.f_at)]))]:Hp) (by kernel_rfl) (af ?_)
 rcases aj hF with⟨hc_7,hF⟩|⟨hc_7,hF⟩
 ·refine aD rfl hc_7 (ai (aa (.ref (au 0) 0 0) (aa (vI low_2) (aa (vI (w64 (low_2-1))) (aa (vI high_3) (aa (vI (w64 (high_3+1))) (aa (vI low_2) (aa (vI high_3) (fo (([(w64 (low_2-1)),(w64 (high_3+1)),low_2,high_3,(-1099511627776),1099511627776]:List Int).map eI) nK uJ rfl rfl rfl rfl rfl wz ?_)))))))))
  obtain ⟨r_8,hr_9,hF⟩:=bind_some hF
  refine aX 0 [0] il ft (bZ hr_9) rfl zY rfl (by kernel_rfl) (by kernel_rfl) (by kernel_rfl) (by kernel_rfl) (by kernel_rfl) (by kernel_rfl) (by kernel_rfl) (by decide) (by kernel_rfl) wz (vI r_8.1) (by kernel_rfl) ([((au 0),some (.cells 2 [(vL eI r_8.2.L),(vI r_8.2.f_at)]))]:Hp) (by kernel_rfl) (aa (vI r_8.1) (af ?_))
  obtain rfl:=ae hF
  exact av (pX (.inr rfl) [(vI r_8.1)] _ [0] [au 0] ⟨rfl,trivial⟩ (.cons (eB rfl rfl) (.nil)) (by kernel_rfl) ⟨(by kernel_rfl),trivial⟩ (by decide) (by kernel_rfl))
 ·refine aF rfl hc_7 (aC (ai (aa (.ref (au 0) 0 0) (aa (vI low_2) (aa (vI high_3) ?_)))))
  obtain ⟨r_11,hr_12,hF⟩:=bind_some hF
  refine aX 0 [0] il ft (iO hr_12) rfl hb37 rfl (by kernel_rfl) (by kernel_rfl) (by kernel_rfl) (by kernel_rfl) (by kernel_rfl) (by kernel_rfl) (by kernel_rfl) (by decide) (by kernel_rfl) wz (vI r_11.1) (by kernel_rfl) ([((au 0),some (.cells 2 [(vL eI r_11.2.L),(vI r_11.2.f_at)]))]:Hp) (by kernel_rfl) (aa (vI r_11.1) (af ?_))
  obtain rfl:=ae hF
  exact av (pX (.inr rfl) [(vI r_11.1)] _ [0] [au 0] ⟨rfl,trivial⟩ (.cons (eB rfl rfl) (.nil)) (by kernel_rfl) ⟨(by kernel_rfl),trivial⟩ (by decide) (by kernel_rfl))
theorem q8 {s_1:Stream} {most_2:Int} {r:(List Log_)×Stream} (hF:gU s_1 most_2=some r) :
  FnM Tryz.prog 4 [(.ref (au 0) 0 0),(vI most_2)] [(.cells 2 [(vL eI s_1.L),(vI s_1.f_at)])] (vL Log_.enc r.1) [some (.cells 2 [(vL eI r.2.L),(vI r.2.f_at)])]:=by
 refine FnM.of_wH ⟨Tryz.prog,100,[],[]⟩ rfl Tryz.func4 rfl rfl (lb_ rfl) (by kernel_rfl) ?_
 unfold gU at hF
 refine ai (aa .nil (af (ai (aa (.ref (au 0) 0 0) (aa (vI most_2) ?_)))))
 obtain ⟨r_3,hr_4,hF⟩:=bind_some hF
 refine h_callg [0] (mM hr_4) rfl hb13 rfl (by kernel_rfl) (by kernel_rfl) (by kernel_rfl) (by kernel_rfl) (by kernel_rfl) rfl (by decide) (by kernel_rfl) wz ([((au 0),some (.cells 2 [(vL eI r_3.2.L),(vI r_3.2.f_at)]))]:Hp) (λ_=>by kernel_rfl) (λn_6=>aa (gV n_6 6 r_3.1) (af (ak (ak ?_))))
 obtain ⟨v_7,h_8,hF⟩:=bind_some hF
 refine aS [(0,(.ref (au 0) 0 0)),(5,(gV n_6 6 r_3.1)),(17,(vB v_7.1))] [((au 0),some (.cells 2 [(vL eI v_7.2.1),(vI v_7.2.2)])),(n_6,gB 6 Log_.enc r_3.1)] ?_ ?_
 ·refine ax (aa (gV n_6 6 r_3.1) (zq sQ rfl wz (aa (vB (decide ((r_3.1.length:Int)>0))) ?_)))
  rcases aj h_8 with⟨hc_9,h_8⟩|⟨hc_9,h_8⟩
  ·refine aA rfl hc_9 wz (aG (.ref (au 0) 0 0) wa rfl ?_)
   obtain ⟨r_10,hr_11,h_8⟩:=bind_some h_8
   refine aX 0 [0] il ft (eY hr_11) rfl FP rfl (by kernel_rfl) (by kernel_rfl) (by kernel_rfl) (by kernel_rfl) (by kernel_rfl) (by kernel_rfl) (by kernel_rfl) (by decide) (by kernel_rfl) wa (vB r_10.1) (by kernel_rfl) ([((au 0),some (.cells 2 [(vL eI r_10.2.L),(vI r_10.2.f_at)])),(n_6,gB 6 Log_.enc r_3.1)]:Hp) (by kernel_rfl) (aa (vB r_10.1) (af ?_))
   obtain rfl:=ae h_8
   exact cu
  ·refine aA rfl hc_9 wz (ah (ah (aa (vB false) (af ?_))))
   obtain rfl:=ae h_8
   exact cu
 ·rintro ⟨⟩ _ sl_ H_ hp_ hq_
  refine aV _ hp_ hq_ ?_
  obtain ⟨v_13,h_14,hF⟩:=bind_some hF
  refine aS [(0,(.ref (au 0) 0 0)),(5,(gV n_6 6 v_13.1))] [((au 0),some (.cells 2 [(vL eI v_13.2.1),(vI v_13.2.2)])),(n_6,gB 6 Log_.enc v_13.1)] ?_ ?_
  ·rcases aj h_14 with⟨hc_15,h_14⟩|⟨hc_15,h_14⟩
   ·refine aD rfl hc_15 (ai (aa (gV n_6 6 r_3.1) (aa (.ref (au 0) 0 0) (aa (gV n_6 6 r_3.1) (zq sQ rfl wz ?_)))))
    obtain ⟨r_16,hr_17,h_14⟩:=bind_some h_14
    refine aX 0 [0] il ft (bG hr_17) rfl xI rfl (by kernel_rfl) (by kernel_rfl) (by kernel_rfl) (by kernel_rfl) (by kernel_rfl) (by kernel_rfl) (by kernel_rfl) (by decide) (by kernel_rfl) wz (vI r_16.1) (by kernel_rfl) ([((au 0),some (.cells 2 [(vL eI r_16.2.L),(vI r_16.2.f_at)])),(n_6,gB 6 Log_.enc r_3.1)]:Hp) (by kernel_rfl) ?_
    obtain ⟨_,hi_19,h_14⟩:=bind_some h_14
    refine FR rE rfl rfl (inR_0 hi_19) (ES hi_19) wz (aa (.ref n_6 (0+(r_16.1).toNat) 0) (af (bM (aa (.ref n_6 (0+(r_16.1).toNat) 0) (aa (.ref n_6 (0+(r_16.1).toNat) 0) (aa (.ref (au 0) 0 0) (fo (([(⟨#[105,97]⟩:ByteArray),(⟨#[105,99]⟩:ByteArray)]:List ByteArray).map eS) jR xD rfl rfl rfl rfl rfl wz ?_)))))))
    obtain ⟨r_20,hr_21,h_14⟩:=bind_some h_14
    refine aX 4 [0] (.inr (by kernel_rfl)) (λ_ _ ag=>by exact trivial) (dA hr_21) rfl BR rfl (by kernel_rfl) (by kernel_rfl) (by kernel_rfl) (by kernel_rfl) (by kernel_rfl) (by kernel_rfl) (by kernel_rfl) (by decide) (by kernel_rfl) wz (vS r_20.1) (by kernel_rfl) ([((au 0),some (.cells 2 [(vL eI r_20.2.L),(vI r_20.2.f_at)])),(n_6,gB 6 Log_.enc r_3.1)]:Hp) (by kernel_rfl) (aa (.ref (au 0) 0 0) (aa (.ref n_6 (0+(r_16.1).toNat) 0) (aa (.ref n_6 (0+(r_16.1).toNat) 0) (aQ kV rfl 5 rfl wz ?_))))
    obtain ⟨e_23,hy_24,h_14⟩:=bind_some h_14
    refine EF 9 1 (.inr (by kernel_rfl)) (λ_ _ ag=>⟨.inr (.inl (dis1 (ag_ne ag (i:=1) (j:=0) rfl rfl (by decide)))),trivial⟩) sz9 ag9 rfl rfl hy_24 (vS e_23.Sum) rfl wz ?_
    obtain ⟨r_25,hr_26,h_14⟩:=bind_some h_14
    refine ay (tQ hr_26) rfl hb17 rfl rfl rfl rfl wz (fo (([e_23.Sum,r_25]:List ByteArray).map eS) jR xD rfl rfl rfl rfl rfl wz ?_)
    obtain ⟨r_27,hr_28,h_14⟩:=bind_some h_14
    refine aX 12 [0] (.inr (by kernel_rfl)) (λ_ _ ag=>by exact⟨.inr (.inr (by kernel_rfl)),⟨.inr (.inr (by kernel_rfl)),trivial⟩⟩) (dA hr_28) rfl BR rfl (by kernel_rfl) (by kernel_rfl) (by kernel_rfl) (by kernel_rfl) (by kernel_rfl) (by kernel_rfl) (by kernel_rfl) (by decide) (by kernel_rfl) wz (vS r_27.1) (by kernel_rfl) ([((au 0),some (.cells 2 [(vL eI r_27.2.L),(vI r_27.2.f_at)])),(n_6,gB 6 Log_.enc r_3.1)]:Hp) (by kernel_rfl) (aa (.ref n_6 (0+(r_16.1).toNat) 0) (aQ sO rfl 1 rfl wz ?_))
    obtain ⟨e_30,hy_31,h_14⟩:=bind_some h_14
    refine oG 15 (.inr (by kernel_rfl)) (λ_ _ ag=>⟨.inr (.inr (by kernel_rfl)),⟨.inr (.inr (by kernel_rfl)),⟨.inr (.inr (by kernel_rfl)),trivial⟩⟩⟩) 1 sz9 rfl rfl hy_31 (⟨e_30.Player,r_20.1,e_30.No,e_30.Clock,e_30.Long,e_30.Sum⟩:Log_) rfl wz (kG (v':=(gV n_6 6 (r_3.1.set (0+(r_16.1).toNat) (⟨e_30.Player,r_20.1,e_30.No,e_30.Clock,e_30.Long,e_30.Sum⟩:Log_)))) 5 rfl (dW (by simp)) (kG (v':=(gV n_6 6 (r_3.1.set (0+(r_16.1).toNat) (⟨e_30.Player,r_20.1,e_30.No,e_30.Clock,e_30.Long,e_30.Sum⟩:Log_)))) 18 rfl (dW (by simp)) (kG (v':=(gV n_6 6 (r_3.1.set (0+(r_16.1).toNat) (⟨e_30.Player,r_20.1,e_30.No,e_30.Clock,e_30.Long,e_30.Sum⟩:Log_)))) 20 rfl (dW (by simp)) (aa (.ref n_6 (0+(r_16.1).toNat) 0) (aQ kV rfl 5 rfl wz ?_)))))
    obtain ⟨e_32,hy_33,h_14⟩:=bind_some h_14
    refine oG 18 (.inr (by kernel_rfl)) (λ_ _ ag=>⟨.inr (.inr (by kernel_rfl)),⟨.inr (.inr (by kernel_rfl)),⟨.inr (.inr (by kernel_rfl)),⟨.inr (.inr (by kernel_rfl)),trivial⟩⟩⟩⟩) 1 sz9 rfl rfl hy_33 (⟨e_32.Player,e_32.Item,e_32.No,e_32.Clock,e_32.Long,r_27.1⟩:Log_) rfl wz (kG (v':=(gV n_6 6 ((r_3.1.set (0+(r_16.1).toNat) (⟨e_30.Player,r_20.1,e_30.No,e_30.Clock,e_30.Long,e_30.Sum⟩:Log_)).set (0+(r_16.1).toNat) (⟨e_32.Player,e_32.Item,e_32.No,e_32.Clock,e_32.Long,r_27.1⟩:Log_)))) 5 rfl (dW (by simp)) (kG (v':=(gV n_6 6 ((r_3.1.set (0+(r_16.1).toNat) (⟨e_30.Player,r_20.1,e_30.No,e_30.Clock,e_30.Long,e_30.Sum⟩:Log_)).set (0+(r_16.1).toNat) (⟨e_32.Player,e_32.Item,e_32.No,e_32.Clock,e_32.Long,r_27.1⟩:Log_)))) 18 rfl (dW (by simp)) (kG (v':=(gV n_6 6 ((r_3.1.set (0+(r_16.1).toNat) (⟨e_30.Player,r_20.1,e_30.No,e_30.Clock,e_30.Long,e_30.Sum⟩:Log_)).set (0+(r_16.1).toNat) (⟨e_32.Player,e_32.Item,e_32.No,e_32.Clock,e_32.Long,r_27.1⟩:Log_)))) 20 rfl (dW (by simp)) (af ?_))))
    obtain rfl:=ae h_14
    exact cu
   ·refine aF rfl hc_15 (aC ?_)
    obtain rfl:=ae h_14
    exact cu
  ·rintro ⟨⟩ _ sl_ H_ hp_ hq_
   refine aV _ hp_ hq_ (ak (ak ?_))
   obtain ⟨v_34,h_35,hF⟩:=bind_some hF
   refine aS [(0,(.ref (au 0) 0 0)),(5,(gV n_6 6 v_13.1)),(47,(vB v_34.1))] [((au 0),some (.cells 2 [(vL eI v_34.2.1),(vI v_34.2.2)])),(n_6,gB 6 Log_.enc v_13.1)] ?_ ?_
   ·refine ax (aa (gV n_6 6 v_13.1) (zq sQ rfl wz (aa (vB (decide ((v_13.1.length:Int)>0))) ?_)))
    rcases aj h_35 with⟨hc_36,h_35⟩|⟨hc_36,h_35⟩
    ·refine aA rfl hc_36 wz (aG (.ref (au 0) 0 0) wa rfl ?_)
     obtain ⟨r_37,hr_38,h_35⟩:=bind_some h_35
     refine aX 0 [0] il ft (eY hr_38) rfl FP rfl (by kernel_rfl) (by kernel_rfl) (by kernel_rfl) (by kernel_rfl) (by kernel_rfl) (by kernel_rfl) (by kernel_rfl) (by decide) (by kernel_rfl) wa (vB r_37.1) (by kernel_rfl) ([((au 0),some (.cells 2 [(vL eI r_37.2.L),(vI r_37.2.f_at)])),(n_6,gB 6 Log_.enc v_13.1)]:Hp) (by kernel_rfl) (aa (vB r_37.1) (af ?_))
     obtain rfl:=ae h_35
     exact cu
    ·refine aA rfl hc_36 wz (ah (ah (aa (vB false) (af ?_))))
     obtain rfl:=ae h_35
     exact cu
   ·rintro ⟨⟩ _ sl_ H_ hp_ hq_
    refine aV _ hp_ hq_ ?_
    obtain ⟨v_40,h_41,hF⟩:=bind_some hF
    refine aS [(5,(gV n_6 6 v_40.1))] [((au 0),some (.cells 2 [(vL eI v_40.2.1),(vI v_40.2.2)])),(n_6,gB 6 Log_.enc v_40.1)] ?_ ?_
    ·rcases aj h_41 with⟨hc_42,h_41⟩|⟨hc_42,h_41⟩
     ·refine aD rfl hc_42 (ai (aa (gV n_6 6 v_13.1) (aa (.ref (au 0) 0 0) (aa (gV n_6 6 v_13.1) (zq sQ rfl wz ?_)))))
      obtain ⟨r_43,hr_44,h_41⟩:=bind_some h_41
      refine aX 0 [0] il ft (bG hr_44) rfl xI rfl (by kernel_rfl) (by kernel_rfl) (by kernel_rfl) (by kernel_rfl) (by kernel_rfl) (by kernel_rfl) (by kernel_rfl) (by decide) (by kernel_rfl) wz (vI r_43.1) (by kernel_rfl) ([((au 0),some (.cells 2 [(vL eI r_43.2.L),(vI r_43.2.f_at)])),(n_6,gB 6 Log_.enc v_13.1)]:Hp) (by kernel_rfl) ?_
      obtain ⟨_,hi_46,h_41⟩:=bind_some h_41
      refine FR rE rfl rfl (inR_0 hi_46) (ES hi_46) wz (aa (.ref n_6 (0+(r_43.1).toNat) 0) (af (ai (aa (.ref (au 0) 0 0) ?_))))
      obtain ⟨r_47,hr_48,h_41⟩:=bind_some h_41
      refine aX 0 [0] il ft (bG hr_48) rfl xI rfl (by kernel_rfl) (by kernel_rfl) (by kernel_rfl) (by kernel_rfl) (by kernel_rfl) (by kernel_rfl) (by kernel_rfl) (by decide) (by kernel_rfl) wz (vI r_47.1) (by kernel_rfl) ([((au 0),some (.cells 2 [(vL eI r_47.2.L),(vI r_47.2.f_at)])),(n_6,gB 6 Log_.enc v_13.1)]:Hp) (by kernel_rfl) (af (aU (ai (aa (vB (r_47.1==0)) (aa (vB (r_47.1==0)) (af ?_))))))
      rcases aj h_41 with⟨hc_50,h_41⟩|⟨hc_50,h_41⟩
      ·refine aD rfl hc_50 (ax (aa (.ref n_6 (0+(r_43.1).toNat) 0) (aa (.ref n_6 (0+(r_43.1).toNat) 0) (aa (.ref (au 0) 0 0) (aa (.ref n_6 (0+(r_43.1).toNat) 0) (aa (.ref n_6 (0+(r_43.1).toNat) 0) (aQ kv rfl 0 rfl wz ?_)))))))
       obtain ⟨e_51,hy_52,h_41⟩:=bind_some h_41
       refine EF 0 1 il ft sz9 ag9 rfl rfl hy_52 (vS e_51.Player) rfl wz (fo (([e_51.Player,(⟨#[]⟩:ByteArray),(⟨#[65]⟩:ByteArray)]:List ByteArray).map eS) jR xD rfl rfl rfl rfl rfl wz ?_)
       obtain ⟨r_53,hr_54,h_41⟩:=bind_some h_41
       refine aX 0 [0] il ft (dA hr_54) rfl BR rfl (by kernel_rfl) (by kernel_rfl) (by kernel_rfl) (by kernel_rfl) (by kernel_rfl) (by kernel_rfl) (by kernel_rfl) (by decide) (by kernel_rfl) wz (vS r_53.1) (by kernel_rfl) ([((au 0),some (.cells 2 [(vL eI r_53.2.L),(vI r_53.2.f_at)])),(n_6,gB 6 Log_.enc v_13.1)]:Hp) (by kernel_rfl) (aa (.ref (au 0) 0 0) (fo (([(⟨#[105,97]⟩:ByteArray),(⟨#[]⟩:ByteArray)]:List ByteArray).map eS) jR xD rfl rfl rfl rfl rfl wz ?_))
       obtain ⟨r_56,hr_57,h_41⟩:=bind_some h_41
       refine aX 0 [0] il ft (dA hr_57) rfl BR rfl (by kernel_rfl) (by kernel_rfl) (by kernel_rfl) (by kernel_rfl) (by kernel_rfl) (by kernel_rfl) (by kernel_rfl) (by decide) (by kernel_rfl) wz (vS r_56.1) (by kernel_rfl) ([((au 0),some (.cells 2 [(vL eI r_56.2.L),(vI r_56.2.f_at)])),(n_6,gB 6 Log_.enc v_13.1)]:Hp) (by kernel_rfl) (aa (.ref n_6 (0+(r_43.1).toNat) 0) (aQ kv rfl 0 rfl wz ?_))
       obtain ⟨e_59,hy_60,h_41⟩:=bind_some h_41
       refine oG 0 il ft 1 sz9 rfl rfl hy_60 (⟨r_53.1,e_59.Item,e_59.No,e_59.Clock,e_59.Long,e_59.Sum⟩:Log_) rfl wz (kG (v':=(gV n_6 6 (v_13.1.set (0+(r_43.1).toNat) (⟨r_53.1,e_59.Item,e_59.No,e_59.Clock,e_59.Long,e_59.Sum⟩:Log_)))) 5 rfl (dW (by simp)) (kG (v':=(gV n_6 6 (v_13.1.set (0+(r_43.1).toNat) (⟨r_53.1,e_59.Item,e_59.No,e_59.Clock,e_59.Long,e_59.Sum⟩:Log_)))) 48 rfl (dW (by simp)) (kG (v':=(gV n_6 6 (v_13.1.set (0+(r_43.1).toNat) (⟨r_53.1,e_59.Item,e_59.No,e_59.Clock,e_59.Long,e_59.Sum⟩:Log_)))) 50 rfl (dW (by simp)) (aa (.ref n_6 (0+(r_43.1).toNat) 0) (aQ sO rfl 1 rfl wz ?_)))))
       obtain ⟨e_61,hy_62,h_41⟩:=bind_some h_41
       refine oG 0 il ft 1 sz9 rfl rfl hy_62 (⟨e_61.Player,r_56.1,e_61.No,e_61.Clock,e_61.Long,e_61.Sum⟩:Log_) rfl wz (kG (v':=(gV n_6 6 ((v_13.1.set (0+(r_43.1).toNat) (⟨r_53.1,e_59.Item,e_59.No,e_59.Clock,e_59.Long,e_59.Sum⟩:Log_)).set (0+(r_43.1).toNat) (⟨e_61.Player,r_56.1,e_61.No,e_61.Clock,e_61.Long,e_61.Sum⟩:Log_)))) 5 rfl (dW (by simp)) (kG (v':=(gV n_6 6 ((v_13.1.set (0+(r_43.1).toNat) (⟨r_53.1,e_59.Item,e_59.No,e_59.Clock,e_59.Long,e_59.Sum⟩:Log_)).set (0+(r_43.1).toNat) (⟨e_61.Player,r_56.1,e_61.No,e_61.Clock,e_61.Long,e_61.Sum⟩:Log_)))) 48 rfl (dW (by simp)) (kG (v':=(gV n_6 6 ((v_13.1.set (0+(r_43.1).toNat) (⟨r_53.1,e_59.Item,e_59.No,e_59.Clock,e_59.Long,e_59.Sum⟩:Log_)).set (0+(r_43.1).toNat) (⟨e_61.Player,r_56.1,e_61.No,e_61.Clock,e_61.Long,e_61.Sum⟩:Log_)))) 50 rfl (dW (by simp)) (af ?_))))
       obtain rfl:=ae h_41
       exact cu
      ·refine aF rfl hc_50 (ai (aa (vB (r_47.1==1)) (aa (vB (r_47.1==1)) (af ?_))))
       rcases aj h_41 with⟨hc_63,h_41⟩|⟨hc_63,h_41⟩
       ·refine aD rfl hc_63 (ax (aa (.ref n_6 (0+(r_43.1).toNat) 0) (aa (.ref (au 0) 0 0) ?_)))
        obtain ⟨r_64,hr_65,h_41⟩:=bind_some h_41
        refine aX 0 [0] il ft (jA hr_65) rfl hb18 rfl (by kernel_rfl) (by kernel_rfl) (by kernel_rfl) (by kernel_rfl) (by kernel_rfl) (by kernel_rfl) (by kernel_rfl) (by decide) (by kernel_rfl) wz (vI r_64.1) (by kernel_rfl) ([((au 0),some (.cells 2 [(vL eI r_64.2.L),(vI r_64.2.f_at)])),(n_6,gB 6 Log_.enc v_13.1)]:Hp) (by kernel_rfl) (aa (.ref n_6 (0+(r_43.1).toNat) 0) (aQ nP rfl 2 rfl wz ?_))
        obtain ⟨e_67,hy_68,h_41⟩:=bind_some h_41
        refine oG 0 il ft 1 sz3 rfl rfl hy_68 (⟨e_67.Player,e_67.Item,r_64.1,e_67.Clock,e_67.Long,e_67.Sum⟩:Log_) rfl wz (kG (v':=(gV n_6 6 (v_13.1.set (0+(r_43.1).toNat) (⟨e_67.Player,e_67.Item,r_64.1,e_67.Clock,e_67.Long,e_67.Sum⟩:Log_)))) 5 rfl (dW (by simp)) (kG (v':=(gV n_6 6 (v_13.1.set (0+(r_43.1).toNat) (⟨e_67.Player,e_67.Item,r_64.1,e_67.Clock,e_67.Long,e_67.Sum⟩:Log_)))) 48 rfl (dW (by simp)) (kG (v':=(gV n_6 6 (v_13.1.set (0+(r_43.1).toNat) (⟨e_67.Player,e_67.Item,r_64.1,e_67.Clock,e_67.Long,e_67.Sum⟩:Log_)))) 50 rfl (dW (by simp)) (af ?_))))
        obtain rfl:=ae h_41
        exact cu
       ·refine aF rfl hc_63 (ai (aa (vB (r_47.1==2)) (aa (vB (r_47.1==2)) (af ?_))))
        rcases aj h_41 with⟨hc_69,h_41⟩|⟨hc_69,h_41⟩
        ·refine aD rfl hc_69 (ax (aa (.ref n_6 (0+(r_43.1).toNat) 0) (aa (.ref n_6 (0+(r_43.1).toNat) 0) (aa (.ref (au 0) 0 0) ?_))))
         obtain ⟨r_70,hr_71,h_41⟩:=bind_some h_41
         refine aX 0 [0] il ft (jA hr_71) rfl hb18 rfl (by kernel_rfl) (by kernel_rfl) (by kernel_rfl) (by kernel_rfl) (by kernel_rfl) (by kernel_rfl) (by kernel_rfl) (by decide) (by kernel_rfl) wz (vI r_70.1) (by kernel_rfl) ([((au 0),some (.cells 2 [(vL eI r_70.2.L),(vI r_70.2.f_at)])),(n_6,gB 6 Log_.enc v_13.1)]:Hp) (by kernel_rfl) (aa (.ref (au 0) 0 0) ?_)
         obtain ⟨r_73,hr_74,h_41⟩:=bind_some h_41
         refine aX 0 [0] il ft (jA hr_74) rfl hb18 rfl (by kernel_rfl) (by kernel_rfl) (by kernel_rfl) (by kernel_rfl) (by kernel_rfl) (by kernel_rfl) (by kernel_rfl) (by decide) (by kernel_rfl) wz (vI r_73.1) (by kernel_rfl) ([((au 0),some (.cells 2 [(vL eI r_73.2.L),(vI r_73.2.f_at)])),(n_6,gB 6 Log_.enc v_13.1)]:Hp) (by kernel_rfl) (aa (.ref n_6 (0+(r_43.1).toNat) 0) (aQ xq rfl 3 rfl wz ?_))
         obtain ⟨e_76,hy_77,h_41⟩:=bind_some h_41
         refine oG 0 il ft 1 sz3 rfl rfl hy_77 (⟨e_76.Player,e_76.Item,e_76.No,r_70.1,e_76.Long,e_76.Sum⟩:Log_) rfl wz (kG (v':=(gV n_6 6 (v_13.1.set (0+(r_43.1).toNat) (⟨e_76.Player,e_76.Item,e_76.No,r_70.1,e_76.Long,e_76.Sum⟩:Log_)))) 5 rfl (dW (by simp)) (kG (v':=(gV n_6 6 (v_13.1.set (0+(r_43.1).toNat) (⟨e_76.Player,e_76.Item,e_76.No,r_70.1,e_76.Long,e_76.Sum⟩:Log_)))) 48 rfl (dW (by simp)) (kG (v':=(gV n_6 6 (v_13.1.set (0+(r_43.1).toNat) (⟨e_76.Player,e_76.Item,e_76.No,r_70.1,e_76.Long,e_76.Sum⟩:Log_)))) 50 rfl (dW (by simp)) (aa (.ref n_6 (0+(r_43.1).toNat) 0) (aQ wm rfl 4 rfl wz ?_)))))
         obtain ⟨e_78,hy_79,h_41⟩:=bind_some h_41
         refine oG 0 il ft 1 sz3 rfl rfl hy_79 (⟨e_78.Player,e_78.Item,e_78.No,e_78.Clock,r_73.1,e_78.Sum⟩:Log_) rfl wz (kG (v':=(gV n_6 6 ((v_13.1.set (0+(r_43.1).toNat) (⟨e_76.Player,e_76.Item,e_76.No,r_70.1,e_76.Long,e_76.Sum⟩:Log_)).set (0+(r_43.1).toNat) (⟨e_78.Player,e_78.Item,e_78.No,e_78.Clock,r_73.1,e_78.Sum⟩:Log_)))) 5 rfl (dW (by simp)) (kG (v':=(gV n_6 6 ((v_13.1.set (0+(r_43.1).toNat) (⟨e_76.Player,e_76.Item,e_76.No,r_70.1,e_76.Long,e_76.Sum⟩:Log_)).set (0+(r_43.1).toNat) (⟨e_78.Player,e_78.Item,e_78.No,e_78.Clock,r_73.1,e_78.Sum⟩:Log_)))) 48 rfl (dW (by simp)) (kG (v':=(gV n_6 6 ((v_13.1.set (0+(r_43.1).toNat) (⟨e_76.Player,e_76.Item,e_76.No,r_70.1,e_76.Long,e_76.Sum⟩:Log_)).set (0+(r_43.1).toNat) (⟨e_78.Player,e_78.Item,e_78.No,e_78.Clock,r_73.1,e_78.Sum⟩:Log_)))) 50 rfl (dW (by simp)) (af ?_))))
         obtain rfl:=ae h_41
         exact cu
        ·refine aF rfl hc_69 (ax (aa (.ref n_6 (0+(r_43.1).toNat) 0) (aa (.ref (au 0) 0 0) (fo (([(⟨#[]⟩:ByteArray),(⟨#[120]⟩:ByteArray),(⟨#[48,49,50,51,52,53,54,55,56,57,65,66,67,68,69,70]⟩:ByteArray),(⟨#[48,49,50,51,52,53,54,55,56,57,97,98,99,100,101]⟩:ByteArray)]:List ByteArray).map eS) jR xD rfl rfl rfl rfl rfl wz ?_))))
         obtain ⟨r_80,hr_81,h_41⟩:=bind_some h_41
         refine aX 0 [0] il ft (dA hr_81) rfl BR rfl (by kernel_rfl) (by kernel_rfl) (by kernel_rfl) (by kernel_rfl) (by kernel_rfl) (by kernel_rfl) (by kernel_rfl) (by decide) (by kernel_rfl) wz (vS r_80.1) (by kernel_rfl) ([((au 0),some (.cells 2 [(vL eI r_80.2.L),(vI r_80.2.f_at)])),(n_6,gB 6 Log_.enc v_13.1)]:Hp) (by kernel_rfl) (aa (.ref n_6 (0+(r_43.1).toNat) 0) (aQ kV rfl 5 rfl wz ?_))
         obtain ⟨e_83,hy_84,h_41⟩:=bind_some h_41
         refine oG 0 il ft 1 sz9 rfl rfl hy_84 (⟨e_83.Player,e_83.Item,e_83.No,e_83.Clock,e_83.Long,r_80.1⟩:Log_) rfl wz (kG (v':=(gV n_6 6 (v_13.1.set (0+(r_43.1).toNat) (⟨e_83.Player,e_83.Item,e_83.No,e_83.Clock,e_83.Long,r_80.1⟩:Log_)))) 5 rfl (dW (by simp)) (kG (v':=(gV n_6 6 (v_13.1.set (0+(r_43.1).toNat) (⟨e_83.Player,e_83.Item,e_83.No,e_83.Clock,e_83.Long,r_80.1⟩:Log_)))) 48 rfl (dW (by simp)) (kG (v':=(gV n_6 6 (v_13.1.set (0+(r_43.1).toNat) (⟨e_83.Player,e_83.Item,e_83.No,e_83.Clock,e_83.Long,r_80.1⟩:Log_)))) 50 rfl (dW (by simp)) (af ?_))))
         obtain rfl:=ae h_41
         exact cu
     ·refine aF rfl hc_42 (aC ?_)
      obtain rfl:=ae h_41
      exact cu
    ·rintro ⟨⟩ _ sl_ H_ hp_ hq_
     refine aV _ hp_ hq_ (ai (aa (gV n_6 6 v_40.1) (aa (gV n_6 6 v_40.1) (af (kT 1 rfl (jd 4 1 rfl rfl (jd 5 1 rfl rfl (jd 99 1 rfl rfl ?_))))))))
     obtain rfl:=ae hF
     exact av (pX (.inr rfl) [(vL Log_.enc v_40.1)] _ [0] [au 0] ⟨rfl,trivial⟩ (.cons (eB rfl rfl) (.nil)) (by kernel_rfl) ⟨(by kernel_rfl),trivial⟩ (by decide) (by kernel_rfl))
theorem nV {l_1:(List Log_)} {r:ByteArray} (hF:fT l_1=some r) :
  FnM Tryz.prog 8 [(vL Log_.enc l_1)] [] (vS r) []:=by
 refine FnM.of_wH ⟨Tryz.prog,23,[],[]⟩ rfl Tryz.func8 rfl rfl (lb_ rfl) (by kernel_rfl) ?_
 unfold fT at hF
 refine ai (aa (vS (⟨#[]⟩:ByteArray)) (af (ai (aa (vS (⟨#[]⟩:ByteArray)) (af (ak (ai (aa (vL Log_.enc l_1) (dX sQ rfl wz (aa (vI 0) (af ?_)))))))))))
 obtain ⟨o_10,hj_11,hF⟩:=bind_some hF
 obtain ⟨hn_6,hj_11⟩:=bQ hj_11
 refine fI (λ(s_7:ByteArray)=>[(3,(vS s_7))]) (λ(s_7:ByteArray)=>[]) (λ(k_2:Nat)=>(λ(s_7:ByteArray)=>[(3,(vS s_7)),(6,(vL Log_.enc l_1)),(7,(vI (l_1.length:Int))),(8,(vI (k_2:Int)))])) (λk x s=>eO k x s) o_10 l_1 (⟨#[]⟩:ByteArray) hj_11 rfl (aN rfl) ?_ ?_
 ·rintro ⟨k_2,l_3,s_7⟩ ⟨hL_9,hD_5⟩
  dsimp only at hL_9 hD_5
  cases l_3 with
  | nil =>
   obtain rfl:=ae hL_9
   refine ai (aa (vB (decide ((k_2:Int)<(l_1.length:Int)))) (af ?_))
   refine ak (aF rfl (drop_nil hD_5) (dw ?_))
   exact bO (s_7) rfl rfl (aN rfl)
  | cons x_4 l_3 =>
   obtain ⟨c_,hc_8,hL_9⟩:=bind_some hL_9
   refine ai (aa (vB (decide ((k_2:Int)<(l_1.length:Int)))) (af ?_))
   refine ak (aD rfl (dG hD_5) (aC ?_))
   unfold eO at hc_8
   refine ak (aU (ai (eT rE rfl rfl (dU hD_5) rfl wz (cz gz lN rfl (.d (.agg (Log_.enc x_4))) rfl wz (gY 0 (.inl rfl) z38 rfl wz (λn_12=>je 0 il ft 0 gz rfl rfl (Log_.v x_4) rfl wz (af (bM (aa (vS s_7) (aO 1 0 (.inr (by kernel_rfl)) (λ_ _ ag=>trivial) gz lN rfl rfl (.d (.agg (Log_.enc x_4))) rfl wz ?_))))))))))
   obtain ⟨r_13,hr_14,hc_8⟩:=bind_some hc_8
   refine ay (o6 hr_14) rfl hb29 rfl rfl rfl rfl wz ?_
   obtain ⟨s_15,hz_16,hc_8⟩:=bind_some hc_8
   refine fH rfl rfl hz_16 wz (aQ kV rfl 5 rfl wz (aO 5 0 (.inr (by kernel_rfl)) (λ_ _ ag=>⟨.inl ⟨rfl,rfl⟩,trivial⟩) sz9 ag9 rfl rfl (vS x_4.Sum) rfl wz ?_))
   obtain ⟨s_17,hz_18,hc_8⟩:=bind_some hc_8
   refine fH rfl rfl hz_18 wz ?_
   obtain ⟨s_19,hz_20,hc_8⟩:=bind_some hc_8
   refine fH rfl rfl hz_20 wz ?_
   obtain ⟨s_21,hz_22,hc_8⟩:=bind_some hc_8
   refine fH rfl rfl hz_22 wz (aa (vS s_21) (af (ax (iZ (dV hD_5 hn_6) wz rfl (aa (vI ((k_2+1:Nat):Int)) (af ?_))))))
   obtain rfl:=ae hc_8
   exact dx (k_2+1,l_3,s_21) ⟨hL_9,bJ hD_5⟩ (ls_ _) rfl (aN rfl)
 ·rintro s_7 ho_ sl_ H_ hp_ hq_
  subst ho_
  refine aV _ hp_ hq_ (ai (aa (vS s_7) (aa (vS s_7) (af ?_))))
  obtain rfl:=ae hF
  exact av (aJ [(vS s_7)] ⟨rfl,trivial⟩)
theorem oK {s_1:Stream} {t_2:ByteArray} {withv_3:ByteArray} {r:ByteArray×Stream} (hF:dN s_1 t_2 withv_3=some r) :
  FnM Tryz.prog 20 [(.ref (au 0) 0 0),(vS t_2),(vS withv_3)] [(.cells 2 [(vL eI s_1.L),(vI s_1.f_at)])] (vS r.1) [some (.cells 2 [(vL eI r.2.L),(vI r.2.f_at)])]:=by
 refine FnM.of_wH ⟨Tryz.prog,63,[],[]⟩ rfl Tryz.func20 rfl rfl (lb_ rfl) (by kernel_rfl) ?_
 unfold dN at hF
 refine ai (aa (vS (⟨#[]⟩:ByteArray)) (af (ak (ak ?_))))
 obtain ⟨v_4,h_5,hF⟩:=bind_some hF
 refine aS [(0,(.ref (au 0) 0 0)),(1,(vS t_2)),(2,(vS withv_3)),(14,(vB v_4))] [((au 0),some (.cells 2 [(vL eI s_1.L),(vI s_1.f_at)]))] ?_ ?_
 ·refine ax (aa (vS t_2) (aa (vB (sEq t_2 (⟨#[]⟩:ByteArray))) ?_))
  rcases aj h_5 with⟨hc_6,h_5⟩|⟨hc_6,h_5⟩
  ·refine aA rfl hc_6 wz (ah (ah (aa (vB true) (af ?_))))
   obtain rfl:=ae h_5
   exact cu
  ·refine aA rfl hc_6 wz (aG (vS withv_3) wa rfl (aG (vB (sEq withv_3 (⟨#[]⟩:ByteArray))) wa rfl (aa (vB (sEq withv_3 (⟨#[]⟩:ByteArray))) (af ?_))))
   obtain rfl:=ae h_5
   exact cu
 ·rintro ⟨⟩ _ sl_ H_ hp_ hq_
  refine aV _ hp_ hq_ ?_
  rcases aj hF with⟨hc_7,hF⟩|⟨hc_7,hF⟩
  ·refine aD rfl hc_7 (ai (aa (vS withv_3) (aa (vS withv_3) (af ?_))))
   obtain rfl:=ae hF
   exact av (pX (.inr rfl) [(vS withv_3)] _ [0] [au 0] ⟨rfl,trivial⟩ (.cons (eB rfl rfl) (.nil)) (by kernel_rfl) ⟨(by kernel_rfl),trivial⟩ (by decide) (by kernel_rfl))
  ·refine aF rfl hc_7 (aC (ai (aa (.ref (au 0) 0 0) (aa (vS t_2) (fF un9 rfl wz ?_)))))
   obtain ⟨r_8,hr_9,hF⟩:=bind_some hF
   refine aX 0 [0] il ft (bG hr_9) rfl xI rfl (by kernel_rfl) (by kernel_rfl) (by kernel_rfl) (by kernel_rfl) (by kernel_rfl) (by kernel_rfl) (by kernel_rfl) (by decide) (by kernel_rfl) wz (vI r_8.1) (by kernel_rfl) ([((au 0),some (.cells 2 [(vL eI r_8.2.L),(vI r_8.2.f_at)]))]:Hp) (by kernel_rfl) (aa (vI r_8.1) (af (ai (aa (vS withv_3) (aa (.ref (au 0) 0 0) (aa (vS withv_3) (fF un9 rfl wz ?_)))))))
   obtain ⟨r_11,hr_12,hF⟩:=bind_some hF
   refine aX 0 [0] il ft (bG hr_12) rfl xI rfl (by kernel_rfl) (by kernel_rfl) (by kernel_rfl) (by kernel_rfl) (by kernel_rfl) (by kernel_rfl) (by kernel_rfl) (by decide) (by kernel_rfl) wz (vI r_11.1) (by kernel_rfl) ([((au 0),some (.cells 2 [(vL eI r_11.2.L),(vI r_11.2.f_at)]))]:Hp) (by kernel_rfl) ?_
   obtain ⟨b_14,hy_15,hF⟩:=bind_some hF
   refine qG un9 rfl rfl hy_15 wz (aa (.d (.int .u8 (b_14.toNat:Int))) (af (ak (ai (aa (.ref (au 0) 0 0) ?_)))))
   obtain ⟨r_16,hr_17,hF⟩:=bind_some hF
   refine aX 0 [0] il ft (bG hr_17) rfl xI rfl (by kernel_rfl) (by kernel_rfl) (by kernel_rfl) (by kernel_rfl) (by kernel_rfl) (by kernel_rfl) (by kernel_rfl) (by decide) (by kernel_rfl) wz (vI r_16.1) (by kernel_rfl) ([((au 0),some (.cells 2 [(vL eI r_16.2.L),(vI r_16.2.f_at)]))]:Hp) (by kernel_rfl) (af (aU (ai (aa (vB (r_16.1==0)) (aa (vB (r_16.1==0)) (af ?_))))))
   rcases aj hF with⟨hc_19,hF⟩|⟨hc_19,hF⟩
   ·refine aD rfl hc_19 (ak (bM (aa (vS t_2) (aa (vI r_8.1) ?_))))
    obtain ⟨y_20,hy_21,hF⟩:=bind_some hF
    refine fM un9 rfl rfl hy_21 wz (aa (.d (.int .u8 (b_14.toNat:Int))) (BN un5 un21 rfl wz (CS un21 un9 rfl wz ?_)))
    obtain ⟨s_22,hz_23,hF⟩:=bind_some hF
    refine fH rfl rfl hz_23 wz (aa (vS t_2) (aa (vI r_8.1) (aa (vI (w64 (r_8.1+1))) ?_)))
    obtain ⟨y_24,hy_25,hF⟩:=bind_some hF
    refine gN un9 rfl rfl hy_25 wz ?_
    obtain ⟨s_26,hz_27,hF⟩:=bind_some hF
    refine fH rfl rfl hz_27 wz (aa (vS s_26) (af ?_))
    obtain rfl:=ae hF
    exact av (pX (.inr rfl) [(vS s_26)] _ [0] [au 0] ⟨rfl,trivial⟩ (.cons (eB rfl rfl) (.nil)) (by kernel_rfl) ⟨(by kernel_rfl),trivial⟩ (by decide) (by kernel_rfl))
   ·refine aF rfl hc_19 (ai (aa (vB (r_16.1==1)) (aa (vB (r_16.1==1)) (af ?_))))
    rcases aj hF with⟨hc_28,hF⟩|⟨hc_28,hF⟩
    ·refine aD rfl hc_28 (ak (bM (aa (vS t_2) (aa (vI r_8.1) ?_))))
     obtain ⟨y_29,hy_30,hF⟩:=bind_some hF
     refine fM un9 rfl rfl hy_30 wz (aa (.d (.int .u8 (b_14.toNat:Int))) (BN un5 un21 rfl wz (CS un21 un9 rfl wz ?_)))
     obtain ⟨s_31,hz_32,hF⟩:=bind_some hF
     refine fH rfl rfl hz_32 wz (aa (vS t_2) (aa (vI r_8.1) ?_))
     obtain ⟨y_33,hy_34,hF⟩:=bind_some hF
     refine gN un9 rfl rfl hy_34 wz ?_
     obtain ⟨s_35,hz_36,hF⟩:=bind_some hF
     refine fH rfl rfl hz_36 wz (aa (vS s_35) (af (aV (H0:=([((au 0),some (.cells 2 [(vL eI r_16.2.L),(vI r_16.2.f_at)]))]:Hp)) ([(6,(vS s_35))]:SL_) (by kernel_rfl) (qw (by kernel_rfl)) ?_)))
     obtain rfl:=ae hF
     exact av (pX (.inr rfl) [(vS s_35)] _ [0] [au 0] ⟨rfl,trivial⟩ (.cons (eB rfl rfl) (.nil)) (by kernel_rfl) ⟨(by kernel_rfl),trivial⟩ (by decide) (by kernel_rfl))
    ·refine aF rfl hc_28 (aC (ak (bM (aa (vS t_2) (aa (vI r_8.1) ?_)))))
     obtain ⟨y_37,hy_38,hF⟩:=bind_some hF
     refine fM un9 rfl rfl hy_38 wz (aa (vS t_2) (aa (vI r_8.1) (aa (vI (w64 (r_8.1+1))) ?_)))
     obtain ⟨y_39,hy_40,hF⟩:=bind_some hF
     refine gN un9 rfl rfl hy_40 wz ?_
     obtain ⟨s_41,hz_42,hF⟩:=bind_some hF
     refine fH rfl rfl hz_42 wz (aa (vS s_41) (af ?_))
     obtain rfl:=ae hF
     exact av (pX (.inr rfl) [(vS s_41)] _ [0] [au 0] ⟨rfl,trivial⟩ (.cons (eB rfl rfl) (.nil)) (by kernel_rfl) ⟨(by kernel_rfl),trivial⟩ (by decide) (by kernel_rfl))
theorem oC {s_1:Stream} {r:ByteArray×Stream} (hF:eU s_1=some r) :
  FnM Tryz.prog 5 [(.ref (au 0) 0 0)] [(.cells 2 [(vL eI s_1.L),(vI s_1.f_at)])] (vS r.1) [some (.cells 2 [(vL eI r.2.L),(vI r.2.f_at)])]:=by
 refine FnM.of_wH ⟨Tryz.prog,17,[],[]⟩ rfl Tryz.func5 rfl rfl (lb_ rfl) (by kernel_rfl) ?_
 unfold eU at hF
 refine ai (aa (vS (⟨#[]⟩:ByteArray)) (af (ai (aa (.ref (au 0) 0 0) ?_))))
 obtain ⟨r_2,hr_3,hF⟩:=bind_some hF
 refine aX 0 [0] il ft (nL hr_3) rfl hb13 rfl (by kernel_rfl) (by kernel_rfl) (by kernel_rfl) (by kernel_rfl) (by kernel_rfl) (by kernel_rfl) (by kernel_rfl) (by decide) (by kernel_rfl) wz (vL Log_.enc r_2.1) (by kernel_rfl) ([((au 0),some (.cells 2 [(vL eI r_2.2.L),(vI r_2.2.f_at)]))]:Hp) (by kernel_rfl) ?_
 obtain ⟨r_5,hr_6,hF⟩:=bind_some hF
 refine ay (nV hr_6) rfl hb8 rfl rfl rfl rfl wz (aa (vS r_5) (af (ak (ai (aa (.ref (au 0) 0 0) (fo (([0,0,1,2]:List Int).map eI) nK uJ rfl rfl rfl rfl rfl wz ?_))))))
 obtain ⟨r_7,hr_8,hF⟩:=bind_some hF
 refine aX 0 [0] il ft (bZ hr_8) rfl zY rfl (by kernel_rfl) (by kernel_rfl) (by kernel_rfl) (by kernel_rfl) (by kernel_rfl) (by kernel_rfl) (by kernel_rfl) (by decide) (by kernel_rfl) wz (vI r_7.1) (by kernel_rfl) ([((au 0),some (.cells 2 [(vL eI r_7.2.L),(vI r_7.2.f_at)]))]:Hp) (by kernel_rfl) (aa (vI 0) (af ?_))
 obtain ⟨o_18,hj_19,hF⟩:=bind_some hF
 obtain ⟨hn_14,hj_19⟩:=bQ hj_19
 refine fI (λ(s_15:ByteArray×(List Int)×Int)=>[(3,(vS s_15.1))]) (λ(s_15:ByteArray×(List Int)×Int)=>[((au 0),some (.cells 2 [(vL eI s_15.2.1),(vI s_15.2.2)]))]) (λ(k_10:Nat)=>(λ(s_15:ByteArray×(List Int)×Int)=>[(0,(.ref (au 0) 0 0)),(3,(vS s_15.1)),(9,(vI r_7.1)),(10,(vI (k_10:Int)))])) (λk x s=>dM k x s) o_18 (List.range (r_7.1).toNat) (r_5,r_7.2.L,r_7.2.f_at) hj_19 rfl (aN rfl) ?_ ?_
 ·rintro ⟨k_10,l_11,s_15⟩ ⟨hL_17,hD_13⟩
  dsimp only at hL_17 hD_13
  cases l_11 with
  | nil =>
   obtain rfl:=ae hL_17
   refine ai (aa (vB (decide ((k_10:Int)<r_7.1))) (af ?_))
   refine ak (aF rfl (mP hD_13) (dw ?_))
   exact bO (s_15) rfl rfl (aN rfl)
  | cons x_12 l_11 =>
   obtain ⟨c_,hc_16,hL_17⟩:=bind_some hL_17
   refine ai (aa (vB (decide ((k_10:Int)<r_7.1))) (af ?_))
   refine ak (aD rfl (kX hD_13) (aC ?_))
   unfold dM at hc_16
   refine ak (aU (ax (aa (.ref (au 0) 0 0) (aa (vS s_15.1) ?_))))
   obtain ⟨r_20,hr_21,hc_16⟩:=bind_some hc_16
   refine aX 0 [0] il ft (oK hr_21) rfl hb20 rfl (by kernel_rfl) (by kernel_rfl) (by kernel_rfl) (by kernel_rfl) (by kernel_rfl) (by kernel_rfl) (by kernel_rfl) (by decide) (by kernel_rfl) wz (vS r_20.1) (by kernel_rfl) ([((au 0),some (.cells 2 [(vL eI r_20.2.L),(vI r_20.2.f_at)]))]:Hp) (by kernel_rfl) (aa (vS r_20.1) (af (ax (iZ (mJ hD_13 hn_14) wz rfl (aa (vI ((k_10+1:Nat):Int)) (af ?_))))))
   obtain rfl:=ae hc_16
   exact dx (k_10+1,l_11,(r_20.1,r_20.2.L,r_20.2.f_at)) ⟨hL_17,bJ hD_13⟩ (ls_ _) rfl (aN rfl)
 ·rintro s_15 ho_ sl_ H_ hp_ hq_
  subst ho_
  refine aV _ hp_ hq_ (ai (aa (vS s_15.1) (aa (vS s_15.1) (af ?_))))
  obtain rfl:=ae hF
  exact av (pX (.inr rfl) [(vS s_15.1)] _ [0] [au 0] ⟨rfl,trivial⟩ (.cons (eB rfl rfl) (.nil)) (by kernel_rfl) ⟨(by kernel_rfl),trivial⟩ (by decide) (by kernel_rfl))
theorem kJ {s_1:ByteArray} {r:Bool} (hF:iY s_1=some r) :
  FnM Tryz.prog 59 [(vS s_1)] [] (vB r) []:=by
 refine FnM.of_wH ⟨Tryz.prog,48,[],[]⟩ rfl Tryz.func59 rfl rfl (lb_ rfl) (by kernel_rfl) ?_
 unfold iY at hF
 refine ai (aa (vB false) (af (ak (ai (aa (vI 0) (af ?_))))))
 obtain ⟨o_10,hj_11,hF⟩:=bind_some hF
 obtain ⟨nq_33,hj_11⟩:=nG hj_11
 refine sw (λ(s_7:Int)=>[(0,(vS s_1))]) (λ(s_7:Int)=>[]) (λ(k_2:Nat)=>(λ(s_7:Int)=>[(0,(vS s_1)),(3,(vI s_7))])) (λs=>fP s_1 s) o_10 nq_33 0 hj_11 rfl (aN rfl) ?_ ?_
 ·rintro ⟨k_2,s_7⟩ hL_9
  dsimp only at hL_9
  cases k_2 with
  | zero=>cases hL_9
  | succ k_2 =>
   obtain ⟨c_,hc_8,hL_9⟩:=bind_some hL_9
   unfold fP at hc_8
   refine ak (ai (aa (vI s_7) (aa (vS s_1) (fF un9 rfl wz (aa (vB (decide (s_7<(s_1.size:Int)))) (af ?_))))))
   rcases aj hc_8 with⟨hc_12,hc_8⟩|⟨hc_12,hc_8⟩
   ·refine aD rfl hc_12 (aC (ak (aU (ai (aa (vS s_1) (aa (vI s_7) ?_))))))
    obtain ⟨b_13,hy_14,hc_8⟩:=bind_some hc_8
    refine qG un9 rfl rfl hy_14 wz (aa (.d (.int .u8 (b_13.toNat:Int))) (af (ak ?_)))
    obtain ⟨v_15,h_16,hc_8⟩:=bind_some hc_8
    refine aS [(0,(vS s_1)),(3,(vI s_7)),(40,(vB v_15))] [] ?_ ?_
    ·refine ax (aa (.d (.int .u8 (b_13.toNat:Int))) (aa (vB (decide ((b_13.toNat:Int)>=97))) ?_))
     rcases aj h_16 with⟨hc_17,h_16⟩|⟨hc_17,h_16⟩
     ·refine aA rfl hc_17 wz (aG (.d (.int .u8 (b_13.toNat:Int))) wa rfl (aG (vB (decide ((b_13.toNat:Int)<=122))) wa rfl (aa (vB (decide ((b_13.toNat:Int)<=122))) ?_)))
      rcases aj h_16 with⟨hc_18,h_16⟩|⟨hc_18,h_16⟩
      ·refine aA rfl hc_18 wz (ah (ah (ah (bP (wn rfl rfl) (bP (wn rfl rfl) (bP (wn rfl rfl) (bP (wn rfl rfl) (bP (wn rfl rfl) (bP (wn rfl rfl) (bP (wn rfl rfl) (bP (wn rfl rfl) (bP (wn rfl rfl) (bP (wn rfl rfl) (bP (wn rfl rfl) (bP (wn rfl rfl) (bP (wn rfl rfl) (bP (wn rfl rfl) (ah (aa (vB true) (aa (vB false) (af ?_)))))))))))))))))))))
       obtain rfl:=ae h_16
       exact cu
      ·refine aA rfl hc_18 wz (aG (vI s_7) wa rfl (aG (vB (decide (s_7>0))) wa rfl ?_))
       rcases aj h_16 with⟨hc_19,h_16⟩|⟨hc_19,h_16⟩
       ·refine aA rfl hc_19 wa (aG (.d (.int .u8 (b_13.toNat:Int))) wa rfl (aG (vB (decide ((b_13.toNat:Int)>=48))) wa rfl ?_))
        rcases aj h_16 with⟨hc_20,h_16⟩|⟨hc_20,h_16⟩
        ·refine aA rfl hc_20 wa (aG (.d (.int .u8 (b_13.toNat:Int))) wa rfl (aG (vB (decide ((b_13.toNat:Int)<=57))) wa rfl (aG (vB (decide ((b_13.toNat:Int)<=57))) wa rfl ?_)))
         rcases aj h_16 with⟨hc_21,h_16⟩|⟨hc_21,h_16⟩
         ·refine aA rfl hc_21 wa (ah (ah (aG (vB true) wa rfl (aG (vB true) wa rfl (ah (ah (aG (vB true) wa rfl (aG (vB true) wa rfl (aa (vB true) (aa (vB false) (af ?_)))))))))))
          obtain rfl:=ae h_16
          exact cu
         ·refine aA rfl hc_21 wa (aG (.d (.int .u8 (b_13.toNat:Int))) wa rfl (aG (vB ((b_13.toNat:Int)==45)) wa rfl (aG (vB ((b_13.toNat:Int)==45)) wa rfl ?_)))
          rcases aj h_16 with⟨hc_22,h_16⟩|⟨hc_22,h_16⟩
          ·refine aA rfl hc_22 wa (ah (ah (aG (vB true) wa rfl (aG (vB true) wa rfl (aa (vB true) (aa (vB false) (af ?_)))))))
           obtain rfl:=ae h_16
           exact cu
          ·refine aA rfl hc_22 wa (aG (.d (.int .u8 (b_13.toNat:Int))) wa rfl (aG (vB ((b_13.toNat:Int)==95)) wa rfl (aG (vB ((b_13.toNat:Int)==95)) wa rfl (aG (vB ((b_13.toNat:Int)==95)) wa rfl (aa (vB ((b_13.toNat:Int)==95)) (aa (vB (!((b_13.toNat:Int)==95))) (af ?_)))))))
           obtain rfl:=ae h_16
           exact cu
        ·refine aA rfl hc_20 wa (ah (ah (aG (vB false) wa rfl (aG (vB false) wa rfl (aG (.d (.int .u8 (b_13.toNat:Int))) wa rfl (aG (vB ((b_13.toNat:Int)==45)) wa rfl (aG (vB ((b_13.toNat:Int)==45)) wa rfl ?_)))))))
         rcases aj h_16 with⟨hc_23,h_16⟩|⟨hc_23,h_16⟩
         ·refine aA rfl hc_23 wa (ah (ah (aG (vB true) wa rfl (aG (vB true) wa rfl (aa (vB true) (aa (vB false) (af ?_)))))))
          obtain rfl:=ae h_16
          exact cu
         ·refine aA rfl hc_23 wa (aG (.d (.int .u8 (b_13.toNat:Int))) wa rfl (aG (vB ((b_13.toNat:Int)==95)) wa rfl (aG (vB ((b_13.toNat:Int)==95)) wa rfl (aG (vB ((b_13.toNat:Int)==95)) wa rfl (aa (vB ((b_13.toNat:Int)==95)) (aa (vB (!((b_13.toNat:Int)==95))) (af ?_)))))))
          obtain rfl:=ae h_16
          exact cu
       ·refine aA rfl hc_19 wa (ah (ah (ah (bP (wn rfl rfl) (bP (wn rfl rfl) (ah (ah (bP (wn rfl rfl) (bP (wn rfl rfl) (ah (ah (bP (wn rfl rfl) (bP (wn rfl rfl) (ah (aG (vB false) wa rfl (aa (vB false) (aa (vB true) (af ?_))))))))))))))))))
        obtain rfl:=ae h_16
        exact cu
     ·refine aA rfl hc_17 wz (ah (ah (aa (vB false) (aa (vB false) (aG (vI s_7) wa rfl (aG (vB (decide (s_7>0))) wa rfl ?_))))))
      rcases aj h_16 with⟨hc_24,h_16⟩|⟨hc_24,h_16⟩
      ·refine aA rfl hc_24 wa (aG (.d (.int .u8 (b_13.toNat:Int))) wa rfl (aG (vB (decide ((b_13.toNat:Int)>=48))) wa rfl ?_))
       rcases aj h_16 with⟨hc_25,h_16⟩|⟨hc_25,h_16⟩
       ·refine aA rfl hc_25 wa (aG (.d (.int .u8 (b_13.toNat:Int))) wa rfl (aG (vB (decide ((b_13.toNat:Int)<=57))) wa rfl (aG (vB (decide ((b_13.toNat:Int)<=57))) wa rfl ?_)))
        rcases aj h_16 with⟨hc_26,h_16⟩|⟨hc_26,h_16⟩
        ·refine aA rfl hc_26 wa (ah (ah (aG (vB true) wa rfl (aG (vB true) wa rfl (ah (ah (aG (vB true) wa rfl (aG (vB true) wa rfl (aa (vB true) (aa (vB false) (af ?_)))))))))))
         obtain rfl:=ae h_16
         exact cu
        ·refine aA rfl hc_26 wa (aG (.d (.int .u8 (b_13.toNat:Int))) wa rfl (aG (vB ((b_13.toNat:Int)==45)) wa rfl (aG (vB ((b_13.toNat:Int)==45)) wa rfl ?_)))
         rcases aj h_16 with⟨hc_27,h_16⟩|⟨hc_27,h_16⟩
         ·refine aA rfl hc_27 wa (ah (ah (aG (vB true) wa rfl (aG (vB true) wa rfl (aa (vB true) (aa (vB false) (af ?_)))))))
          obtain rfl:=ae h_16
          exact cu
         ·refine aA rfl hc_27 wa (aG (.d (.int .u8 (b_13.toNat:Int))) wa rfl (aG (vB ((b_13.toNat:Int)==95)) wa rfl (aG (vB ((b_13.toNat:Int)==95)) wa rfl (aG (vB ((b_13.toNat:Int)==95)) wa rfl (aa (vB ((b_13.toNat:Int)==95)) (aa (vB (!((b_13.toNat:Int)==95))) (af ?_)))))))
          obtain rfl:=ae h_16
          exact cu
       ·refine aA rfl hc_25 wa (ah (ah (aG (vB false) wa rfl (aG (vB false) wa rfl (aG (.d (.int .u8 (b_13.toNat:Int))) wa rfl (aG (vB ((b_13.toNat:Int)==45)) wa rfl (aG (vB ((b_13.toNat:Int)==45)) wa rfl ?_)))))))
        rcases aj h_16 with⟨hc_28,h_16⟩|⟨hc_28,h_16⟩
        ·refine aA rfl hc_28 wa (ah (ah (aG (vB true) wa rfl (aG (vB true) wa rfl (aa (vB true) (aa (vB false) (af ?_)))))))
         obtain rfl:=ae h_16
         exact cu
        ·refine aA rfl hc_28 wa (aG (.d (.int .u8 (b_13.toNat:Int))) wa rfl (aG (vB ((b_13.toNat:Int)==95)) wa rfl (aG (vB ((b_13.toNat:Int)==95)) wa rfl (aG (vB ((b_13.toNat:Int)==95)) wa rfl (aa (vB ((b_13.toNat:Int)==95)) (aa (vB (!((b_13.toNat:Int)==95))) (af ?_)))))))
         obtain rfl:=ae h_16
         exact cu
      ·refine aA rfl hc_24 wa (ah (ah (ah (bP (wn rfl rfl) (bP (wn rfl rfl) (ah (ah (bP (wn rfl rfl) (bP (wn rfl rfl) (ah (ah (bP (wn rfl rfl) (bP (wn rfl rfl) (ah (aG (vB false) wa rfl (aa (vB false) (aa (vB true) (af ?_))))))))))))))))))
       obtain rfl:=ae h_16
       exact cu
    ·rintro ⟨⟩ _ sl_ H_ hp_ hq_
     refine aV _ hp_ hq_ ?_
     rcases aj hc_8 with⟨hc_29,hc_8⟩|⟨hc_29,hc_8⟩
     ·refine aD rfl hc_29 (ai (aa (vB false) (af ?_)))
      obtain rfl:=ae hc_8
      obtain rfl:=ae hL_9
      obtain rfl:=ae hF
      exact av (aJ [(vB false)] ⟨rfl,trivial⟩)
     ·refine aF rfl hc_29 (aC (ax (aa (vI s_7) (aa (vI (w64 (s_7+1))) (aa (vI (w64 (s_7+1))) (af ?_))))))
      obtain rfl:=ae hc_8
      exact dx (k_2,(w64 (s_7+1))) hL_9 (ls_ _) rfl (aN rfl)
   ·refine aF rfl hc_12 (dw ?_)
    obtain rfl:=ae hc_8
    obtain rfl:=ae hL_9
    exact bO (s_7) rfl rfl (aN rfl)
 ·rintro s_7 ho_ sl_ H_ hp_ hq_
  subst ho_
  refine aV _ hp_ hq_ (ak ?_)
  obtain ⟨v_30,h_31,hF⟩:=bind_some hF
  refine aS [(2,(vB v_30))] [] ?_ ?_
  ·refine ax (aa (vS s_1) (aa (vB (sNe s_1 (⟨#[]⟩:ByteArray))) ?_))
   rcases aj h_31 with⟨hc_32,h_31⟩|⟨hc_32,h_31⟩
   ·refine aA rfl hc_32 wz (aG (vS s_1) wa rfl (fF un9 rfl wa (aG (vB (decide ((s_1.size:Int)<=40))) wa rfl (aa (vB (decide ((s_1.size:Int)<=40))) (aa (vB (decide ((s_1.size:Int)<=40))) (af ?_))))))
    obtain rfl:=ae h_31
    exact cu
   ·refine aA rfl hc_32 wz (ah (ah (ah (aa (vB false) (aa (vB false) (af ?_))))))
    obtain rfl:=ae h_31
    exact cu
  ·rintro ⟨⟩ _ sl_ H_ hp_ hq_
   refine aV _ hp_ hq_ ?_
   obtain rfl:=ae hF
   exact av (aJ [(vB v_30)] ⟨rfl,trivial⟩)
theorem jm {n_1:Int} {low_2:Int} {high_3:Int} {r:Bool} (hF:fq n_1 low_2 high_3=some r) :
  FnM Tryz.prog 60 [(vI n_1),(vI low_2),(vI high_3)] [] (vB r) []:=by
 refine FnM.of_wH ⟨Tryz.prog,15,[],[]⟩ rfl Tryz.func60 rfl rfl (lb_ rfl) (by kernel_rfl) ?_
 unfold fq at hF
 refine ai (aa (vB false) (af (ak ?_)))
 obtain ⟨v_4,h_5,hF⟩:=bind_some hF
 refine aS [(6,(vB v_4))] [] ?_ ?_
 ·refine ax (aa (vI n_1) (aa (vI low_2) (aa (vB (decide (n_1<low_2))) ?_)))
  rcases aj h_5 with⟨hc_6,h_5⟩|⟨hc_6,h_5⟩
  ·refine aA rfl hc_6 wz (ah (ah (ah (aa (vB true) (aa (vB true) (af ?_))))))
   obtain rfl:=ae h_5
   exact cu
  ·refine aA rfl hc_6 wz (aG (vI n_1) wa rfl (aG (vI high_3) wa rfl (aG (vB (decide (n_1>high_3))) wa rfl (aa (vB (decide (n_1>high_3))) (aa (vB (decide (n_1>high_3))) (af ?_))))))
   obtain rfl:=ae h_5
   exact cu
 ·rintro ⟨⟩ _ sl_ H_ hp_ hq_
  refine aV _ hp_ hq_ ?_
  obtain rfl:=ae hF
  exact av (aJ [(vB v_4)] ⟨rfl,trivial⟩)
theorem q9 {l_1:Log_} {r:Int} (hF:gL l_1=some r) :
  FnM Tryz.prog 40 [(.d (.agg (Log_.enc l_1)))] [] (vI r) []:=by
 refine FnM.of_wH ⟨Tryz.prog,26,[],[]⟩ rfl Tryz.func40 rfl rfl (lb_ rfl) (by kernel_rfl) ?_
 unfold gL at hF
 refine ai (nT 0 (.inl rfl) (Log_.v l_1) rfl rfl wz (λn_2=>aa (vI 0) (af (ak (ak ?_)))))
 obtain ⟨v_3,h_4,hF⟩:=bind_some hF
 refine aS [(1,(.ref n_2 0 0)),(12,(vB v_3))] [(n_2,some (.cells 6 (Log_.v l_1)))] ?_ ?_
 ·refine ax (aQ kv rfl 0 rfl wz (aO 0 0 il ft sz9 ag9 rfl rfl (vS l_1.Player) rfl wz ?_))
  obtain ⟨r_5,hr_6,h_4⟩:=bind_some h_4
  refine ay (kJ hr_6) rfl hb59 rfl rfl rfl rfl wz (aa (vB (!r_5)) ?_)
  rcases aj h_4 with⟨hc_7,h_4⟩|⟨hc_7,h_4⟩
  ·refine aA rfl hc_7 wz (ah (ah (ah (ah (aa (vB true) (af ?_))))))
   obtain rfl:=ae h_4
   exact cu
  ·refine aA rfl hc_7 wz (aQ sO rfl 1 rfl wa (aO 0 0 il ft sz9 ag9 rfl rfl (vS l_1.Item) rfl wa ?_))
   obtain ⟨r_8,hr_9,h_4⟩:=bind_some h_4
   refine ay (kJ hr_9) rfl hb59 rfl rfl rfl rfl wa (aG (vB (!r_8)) wa rfl (aa (vB (!r_8)) (af ?_)))
   obtain rfl:=ae h_4
   exact cu
 ·rintro ⟨⟩ _ sl_ H_ hp_ hq_
  refine aV _ hp_ hq_ ?_
  rcases aj hF with⟨hc_10,hF⟩|⟨hc_10,hF⟩
  ·refine aD rfl hc_10 (ai (aa (vI 5) (af ?_)))
   obtain rfl:=ae hF
   exact av (aJ [(vI 5)] ⟨rfl,trivial⟩)
  ·refine aF rfl hc_10 (aC (ak (ak ?_)))
   obtain ⟨v_11,h_12,hF⟩:=bind_some hF
   refine aS [(25,(vB v_11))] [(n_2,some (.cells 6 (Log_.v l_1)))] ?_ ?_
   ·refine ax (aQ nP rfl 2 rfl wz (aO 0 0 il ft sz3 ag3 rfl rfl (vI l_1.No) rfl wz ?_))
    obtain ⟨r_13,hr_14,h_12⟩:=bind_some h_12
    refine ay (jm hr_14) rfl hb60 rfl rfl rfl rfl wz ?_
    rcases aj h_12 with⟨hc_15,h_12⟩|⟨hc_15,h_12⟩
    ·refine aA rfl hc_15 wz (ah (ah (ah (aa (vB true) (aa (vB true) (ah (ah (ah (aa (vB true) (af ?_))))))))))
     obtain rfl:=ae h_12
     exact cu
    ·refine aA rfl hc_15 wz (aQ xq rfl 3 rfl wa (aO 0 0 il ft sz3 ag3 rfl rfl (vI l_1.Clock) rfl wa ?_))
     obtain ⟨r_16,hr_17,h_12⟩:=bind_some h_12
     refine ay (jm hr_17) rfl hb60 rfl rfl rfl rfl wa (aa (vB r_16) ?_)
     rcases aj h_12 with⟨hc_18,h_12⟩|⟨hc_18,h_12⟩
     ·refine aA rfl hc_18 wz (ah (ah (ah (aa (vB true) (af ?_)))))
      obtain rfl:=ae h_12
      exact cu
     ·refine aA rfl hc_18 wz (aQ wm rfl 4 rfl wa (aO 0 0 il ft sz3 ag3 rfl rfl (vI l_1.Long) rfl wa ?_))
      obtain ⟨r_19,hr_20,h_12⟩:=bind_some h_12
      refine ay (jm hr_20) rfl hb60 rfl rfl rfl rfl wa (aa (vB r_19) (af ?_))
      obtain rfl:=ae h_12
      exact cu
   ·rintro ⟨⟩ _ sl_ H_ hp_ hq_
    refine aV _ hp_ hq_ ?_
    rcases aj hF with⟨hc_21,hF⟩|⟨hc_21,hF⟩
    ·refine aD rfl hc_21 (ai (aa (vI 1) (af ?_)))
     obtain rfl:=ae hF
     exact av (aJ [(vI 1)] ⟨rfl,trivial⟩)
    ·refine aF rfl hc_21 (aC (ai (aa (vI 0) (af ?_))))
     obtain rfl:=ae hF
     exact av (aJ [(vI 0)] ⟨rfl,trivial⟩)
theorem uD {x0:ByteArray} {x1:ByteArray} {r:ByteArray} (hF:kE x0 x1=some r) :
  FnM Tryz.prog 61 [(vS x0),(vS x1)] [] (vS r) [] :=
 EI rfl Tryz.strings_Trim_ascii  hF
theorem uq {s_1:ByteArray} {r:Bool} (hF:jg s_1=some r) :
  FnM Tryz.prog 41 [(vS s_1)] [] (vB r) []:=by
 refine FnM.of_wH ⟨Tryz.prog,11,[],[]⟩ rfl Tryz.func41 rfl rfl (lb_ rfl) (by kernel_rfl) ?_
 unfold jg at hF
 refine ai (aa (vB false) (af (ak ?_)))
 obtain ⟨v_2,h_3,hF⟩:=bind_some hF
 refine aS [(2,(vB v_2))] [] ?_ ?_
 ·refine ax (aa (vS s_1) (fF un9 rfl wz (aa (vB ((s_1.size:Int)==16)) ?_)))
  rcases aj h_3 with⟨hc_4,h_3⟩|⟨hc_4,h_3⟩
  ·refine aA rfl hc_4 wz (aG (vS s_1) wa rfl ?_)
   obtain ⟨r_5,hr_6,h_3⟩:=bind_some h_3
   refine ay (uD hr_6) rfl hb61 rfl rfl rfl rfl wa (aG (vB (sEq r_5 (⟨#[]⟩:ByteArray))) wa rfl (aa (vB (sEq r_5 (⟨#[]⟩:ByteArray))) (aa (vB (sEq r_5 (⟨#[]⟩:ByteArray))) (af ?_))))
   obtain rfl:=ae h_3
   exact cu
  ·refine aA rfl hc_4 wz (ah (ah (ah (aa (vB false) (aa (vB false) (af ?_))))))
   obtain rfl:=ae h_3
   exact cu
 ·rintro ⟨⟩ _ sl_ H_ hp_ hq_
  refine aV _ hp_ hq_ ?_
  obtain rfl:=ae hF
  exact av (aJ [(vB v_2)] ⟨rfl,trivial⟩)
theorem jb {a_1:ByteArray} {b_2:ByteArray} {r:Int} (hF:dJ a_1 b_2=some r) :
  FnM Tryz.prog 67 [(vS a_1),(vS b_2)] [] (vI r) []:=by
 refine FnM.of_wH ⟨Tryz.prog,8,[],[]⟩ rfl Tryz.func67 rfl rfl (lb_ rfl) (by kernel_rfl) ?_
 unfold dJ at hF
 refine ai (aa (vI 0) (af (ai (aa (vS a_1) (aa (vS b_2) (h_ext (Fz (f:=88) Tryz.func88 rfl rfl (by kernel_rfl) (by kernel_rfl) _ _) rfl nb88 rfl wz (aa (vI (qy a_1 b_2)) (af ?_))))))))
 obtain rfl:=ae hF
 exact av (aJ [(vI (qy a_1 b_2))] ⟨rfl,trivial⟩)
theorem iK {a_1:ByteArray} {b_2:ByteArray} {r:Int} (hF:strings_Compare a_1 b_2=some r) :
  FnM Tryz.prog 49 [(vS a_1),(vS b_2)] [] (vI r) []:=by
 refine FnM.of_wH ⟨Tryz.prog,8,[],[]⟩ rfl Tryz.func49 rfl rfl (lb_ rfl) (by kernel_rfl) ?_
 unfold strings_Compare at hF
 refine ai (aa (vI 0) (af (ai (aa (vS a_1) (aa (vS b_2) ?_)))))
 obtain ⟨r_3,hr_4,hF⟩:=bind_some hF
 refine ay (jb hr_4) rfl hb67 rfl rfl rfl rfl wz (aa (vI r_3) (af ?_))
 obtain rfl:=ae hF
 exact av (aJ [(vI r_3)] ⟨rfl,trivial⟩)
end Go.Proofs.YtnfedlledilojaaGreatDoor.Law

