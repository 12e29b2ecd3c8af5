/-
 The machine computes these plain functions (written by a program of ours).
-/
import Derived.Test.YtdpginbnipklcaaGreatDoorFacts
import Derived.Test.YtdpginbnipklcaaGreatDoorDefs
import Derived.Test.YtdpginbnipklcaaGreatDoorShelf
open Go Go.Eng Go.Proofs
namespace Go.Proofs.YtdpginbnipklcaaGreatDoor.Law
set_option maxRecDepth 100000
set_option linter.unusedVariables false
set_option maxHeartbeats 1000000
theorem tH {x_1:Int} {n_2:Int} {r:Int} (hF:qf x_1 n_2=some r) :
  FnM Tryz.prog 24 [(vI x_1),(vI n_2)] [] (vI r) []:=by
 refine FnM.of_wH ⟨Tryz.prog,16,[],[]⟩ rfl Tryz.func24 rfl rfl (lb_ rfl) (by kernel_rfl) ?_
 unfold qf at hF
 refine aj (aa (vI 0) (af (au (aj (aa (vI n_2) (aa (vB (decide (n_2<1))) (af ?_)))))))
 rcases ah hF with⟨hc_3,hF⟩|⟨hc_3,hF⟩
 ·refine aB rfl hc_3 (aj (aa (vI 0) (af ?_)))
  obtain rfl:=ae hF
  exact aN (bz [(vI 0)] ⟨rfl,trivial⟩)
 ·refine aA rfl hc_3 (ay (aj (aa (vI x_1) (aa (vI n_2) ?_))))
  obtain ⟨q_4,hz_5,hF⟩:=bind_some hF
  refine h_rem rfl rfl hz_5 wz (aa (vI q_4) (af (au (aj (aa (vI q_4) (aa (vB (decide (q_4<0))) (af ?_)))))))
  obtain ⟨v_6,h_7,hF⟩:=bind_some hF
  refine aH [(0,(vI v_6))] [] ?_ ?_
  ·rcases ah h_7 with⟨hc_8,h_7⟩|⟨hc_8,h_7⟩
   ·refine aB rfl hc_8 (av (aa (vI q_4) (aa (vI n_2) (aa (vI (w64 (q_4+n_2))) (aa (vI (w64 (q_4+n_2))) (af ?_))))))
    obtain rfl:=ae h_7
    exact cu
   ·refine aA rfl hc_8 (ay ?_)
    obtain rfl:=ae h_7
    exact cu
  ·rintro ⟨⟩ _ sl_ H_ hp_ hq_
   refine aJ _ hp_ hq_ (aj (aa (vI v_6) (aa (vI v_6) (af ?_))))
   obtain rfl:=ae hF
   exact aN (bz [(vI v_6)] ⟨rfl,trivial⟩)
theorem iw {s_1:Stream} {n_2:Int} {r:Int×Stream} (hF:dJ s_1 n_2=some r) :
  FnM Tryz.prog 7 [(.ref (ak 0) 0 0),(vI n_2)] [(.cells 2 [(vL eI s_1.L),(vI s_1.f_at)])] (vI r.1) [some (.cells 2 [(vL eI r.2.L),(vI r.2.f_at)])]:=by
 refine FnM.of_wH ⟨Tryz.prog,64,[],[]⟩ rfl Tryz.func7 rfl rfl (lb_ rfl) (by kernel_rfl) ?_
 unfold dJ at hF
 refine aj (aa (vI 0) (af (aj (aa (.ref (ak 0) 0 0) (aa (.ref (ak 0) 0 0) (bD zh rfl 1 rfl wz (bE 0 0 il ft sz3 ag3 rfl rfl (vI s_1.f_at) rfl wz (aa (vI (w64 (s_1.f_at+1))) (aa (.ref (ak 0) 0 0) (bD zh rfl 1 rfl wz (qY 0 il ft 0 sz3 rfl rfl [(vL eI s_1.L),(vI (w64 (s_1.f_at+1)))] rfl wz (af (au (aj (aa (.ref (ak 0) 0 0) (aa (.ref (ak 0) 0 0) (bD Ce rfl 0 rfl wz (bE 0 0 il ft sz22 ag22 rfl rfl (vL eI s_1.L) rfl wz (iT CL rfl wz (aa (vB ((s_1.L.length:Int)==0)) (af ?_)))))))))))))))))))))
 rcases ah hF with⟨hc_3,hF⟩|⟨hc_3,hF⟩
 ·refine aB rfl hc_3 (aj (aa (.ref (ak 0) 0 0) (aa (.ref (ak 0) 0 0) (bD zh rfl 1 rfl wz (bE 0 0 il ft sz3 ag3 rfl rfl (vI (w64 (s_1.f_at+1))) rfl wz (aa (vI (w64 ((w64 (s_1.f_at+1))*7919))) (aa (vI n_2) ?_)))))))
  obtain ⟨r_4,hr_5,hF⟩:=bind_some hF
  refine aG (tH hr_5) rfl hb24 rfl rfl rfl rfl wz (aa (vI r_4) (af ?_))
  obtain rfl:=ae hF
  exact aN (AC (.inr rfl) [(vI r_4)] _ [0] [ak 0] ⟨rfl,trivial⟩ (.cons (mE rfl rfl) (.nil)) (by kernel_rfl) ⟨(by kernel_rfl),trivial⟩ (by decide) (by kernel_rfl))
 ·refine aA rfl hc_3 (ay (au (aQ (aa (.ref (ak 0) 0 0) (aa (.ref (ak 0) 0 0) (bD zh rfl 1 rfl wz (bE 3 0 (.inr (by kernel_rfl)) (λ_ _ ag=>trivial) sz3 ag3 rfl rfl (vI (w64 (s_1.f_at+1))) rfl wz (aa (vI (w64 ((w64 (s_1.f_at+1))-1))) (aa (.ref (ak 0) 0 0) (aa (.ref (ak 0) 0 0) (bD Ce rfl 0 rfl wz (bE 8 0 (.inr (by kernel_rfl)) (λ_ _ ag=>⟨.inl ⟨rfl,rfl⟩,trivial⟩) sz22 ag22 rfl rfl (vL eI s_1.L) rfl wz (iT CL rfl wz ?_)))))))))))))
  obtain ⟨q_6,hz_7,hF⟩:=bind_some hF
  refine h_rem rfl rfl hz_7 wz (aa (vI q_6) (af (au (aQ (aa (.ref (ak 0) 0 0) (aa (.ref (ak 0) 0 0) (bD zh rfl 1 rfl wz (bE 3 0 (.inr (by kernel_rfl)) (λ_ _ ag=>trivial) sz3 ag3 rfl rfl (vI (w64 (s_1.f_at+1))) rfl wz (aa (vI (w64 ((w64 (s_1.f_at+1))-1))) (aa (.ref (ak 0) 0 0) (aa (.ref (ak 0) 0 0) (bD Ce rfl 0 rfl wz (bE 8 0 (.inr (by kernel_rfl)) (λ_ _ ag=>⟨.inl ⟨rfl,rfl⟩,trivial⟩) sz22 ag22 rfl rfl (vL eI s_1.L) rfl wz (iT CL rfl wz ?_))))))))))))))
  obtain ⟨q_8,hz_9,hF⟩:=bind_some hF
  refine IW rfl rfl hz_9 wz (aa (vI q_8) (af (aJ (H0:=([((ak 0),some (.cells 2 [(vL eI s_1.L),(vI (w64 (s_1.f_at+1)))]))]:Hp)) ([(0,(.ref (ak 0) 0 0)),(1,(vI n_2)),(5,(vI q_6)),(6,(vI q_8))]:SL_) (by kernel_rfl) (zb (by kernel_rfl)) (aj (aa (.ref (ak 0) 0 0) (aa (.ref (ak 0) 0 0) (bD Ce rfl 0 rfl wz (bE 0 0 il ft sz22 ag22 rfl rfl (vL eI s_1.L) rfl wz (aa (vI q_6) ?_)))))))))
  obtain ⟨y_10,hy_11,hF⟩:=bind_some hF
  refine jQ sK rfl rfl hy_11 rfl wz (fO sz3 ag3 rfl (vI y_10) rfl wz ?_)
  obtain ⟨r_12,hr_13,hF⟩:=bind_some hF
  refine aG (tH hr_13) rfl hb24 rfl rfl rfl rfl wz (aa (vI q_8) (aa (vI q_6) (aa (vI (w64 (7919+q_6))) (aa (vI (w64 (q_8*(w64 (7919+q_6))))) (aa (vI (w64 (r_12+(w64 (q_8*(w64 (7919+q_6))))))) (aa (vI n_2) ?_))))))
  obtain ⟨r_14,hr_15,hF⟩:=bind_some hF
  refine aG (tH hr_15) rfl hb24 rfl rfl rfl rfl wz (aa (vI r_14) (af ?_))
  obtain rfl:=ae hF
  exact aN (AC (.inr rfl) [(vI r_14)] _ [0] [ak 0] ⟨rfl,trivial⟩ (.cons (mE rfl rfl) (.nil)) (by kernel_rfl) ⟨(by kernel_rfl),trivial⟩ (by decide) (by kernel_rfl))
theorem kD {s_1:Stream} {l_2:(List Int)} {r:Int×Stream} (hF:iA s_1 l_2=some r) :
  FnM Tryz.prog 8 [(.ref (ak 0) 0 0),(vL eI l_2)] [(.cells 2 [(vL eI s_1.L),(vI s_1.f_at)])] (vI r.1) [some (.cells 2 [(vL eI r.2.L),(vI r.2.f_at)])]:=by
 refine FnM.of_wH ⟨Tryz.prog,12,[],[]⟩ rfl Tryz.func8 rfl rfl (lb_ rfl) (by kernel_rfl) ?_
 unfold iA at hF
 refine aj (aa (vI 0) (af (aj (aa (vL eI l_2) (aa (.ref (ak 0) 0 0) (aa (vL eI l_2) (iT CL rfl wz ?_)))))))
 obtain ⟨r_3,hr_4,hF⟩:=bind_some hF
 refine dL 0 [0] il ft (iw hr_4) rfl hb7 rfl (by kernel_rfl) (by kernel_rfl) (by kernel_rfl) (by kernel_rfl) (by kernel_rfl) (by kernel_rfl) (by kernel_rfl) (by decide) (by kernel_rfl) wz (vI r_3.1) (by kernel_rfl) ([((ak 0),some (.cells 2 [(vL eI r_3.2.L),(vI r_3.2.f_at)]))]:Hp) (by kernel_rfl) ?_
 obtain ⟨y_6,hy_7,hF⟩:=bind_some hF
 refine jQ sK rfl rfl hy_7 rfl wz (fO sz3 ag3 rfl (vI y_6) rfl wz (aa (vI y_6) (af ?_)))
 obtain rfl:=ae hF
 exact aN (AC (.inr rfl) [(vI y_6)] _ [0] [ak 0] ⟨rfl,trivial⟩ (.cons (mE rfl rfl) (.nil)) (by kernel_rfl) ⟨(by kernel_rfl),trivial⟩ (by decide) (by kernel_rfl))
theorem pW {s_1:Stream} {low_2:Int} {high_3:Int} {r:Int×Stream} (hF:jG s_1 low_2 high_3=some r) :
  FnM Tryz.prog 36 [(.ref (ak 0) 0 0),(vI low_2),(vI high_3)] [(.cells 2 [(vL eI s_1.L),(vI s_1.f_at)])] (vI r.1) [some (.cells 2 [(vL eI r.2.L),(vI r.2.f_at)])]:=by
 refine FnM.of_wH ⟨Tryz.prog,19,[],[]⟩ rfl Tryz.func36 rfl rfl (lb_ rfl) (by kernel_rfl) ?_
 unfold jG at hF
 refine aj (aa (vI 0) (af (au (aj (aa (vI high_3) (aa (vI low_2) (aa (vB (decide (high_3<low_2))) (af ?_))))))))
 rcases ah hF with⟨hc_4,hF⟩|⟨hc_4,hF⟩
 ·refine aB rfl hc_4 (aj (aa (vI low_2) (aa (vI low_2) (af ?_))))
  obtain rfl:=ae hF
  exact aN (AC (.inr rfl) [(vI low_2)] _ [0] [ak 0] ⟨rfl,trivial⟩ (.cons (mE rfl rfl) (.nil)) (by kernel_rfl) ⟨(by kernel_rfl),trivial⟩ (by decide) (by kernel_rfl))
 ·refine aA rfl hc_4 (ay (aj (aa (vI low_2) (aa (.ref (ak 0) 0 0) (aa (vI high_3) (aa (vI low_2) (aa (vI (w64 (high_3-low_2))) (aa (vI (w64 ((w64 (high_3-low_2))+1))) ?_))))))))
  obtain ⟨r_5,hr_6,hF⟩:=bind_some hF
  refine dL 0 [0] il ft (iw hr_6) rfl hb7 rfl (by kernel_rfl) (by kernel_rfl) (by kernel_rfl) (by kernel_rfl) (by kernel_rfl) (by kernel_rfl) (by kernel_rfl) (by decide) (by kernel_rfl) wz (vI r_5.1) (by kernel_rfl) ([((ak 0),some (.cells 2 [(vL eI r_5.2.L),(vI r_5.2.f_at)]))]:Hp) (by kernel_rfl) (aa (vI (w64 (low_2+r_5.1))) (aa (vI (w64 (low_2+r_5.1))) (af ?_)))
  obtain rfl:=ae hF
  exact aN (AC (.inr rfl) [(vI (w64 (low_2+r_5.1)))] _ [0] [ak 0] ⟨rfl,trivial⟩ (.cons (mE rfl rfl) (.nil)) (by kernel_rfl) ⟨(by kernel_rfl),trivial⟩ (by decide) (by kernel_rfl))
theorem jC {s_1:Stream} {l_2:(List ByteArray)} {r:ByteArray×Stream} (hF:fU s_1 l_2=some r) :
  FnM Tryz.prog 21 [(.ref (ak 0) 0 0),(vL eS l_2)] [(.cells 2 [(vL eI s_1.L),(vI s_1.f_at)])] (vS r.1) [some (.cells 2 [(vL eI r.2.L),(vI r.2.f_at)])]:=by
 refine FnM.of_wH ⟨Tryz.prog,12,[],[]⟩ rfl Tryz.func21 rfl rfl (lb_ rfl) (by kernel_rfl) ?_
 unfold fU at hF
 refine aj (aa (vS (⟨#[]⟩:ByteArray)) (af (aj (aa (vL eS l_2) (aa (.ref (ak 0) 0 0) (aa (vL eS l_2) (iT un64 rfl wz ?_)))))))
 obtain ⟨r_3,hr_4,hF⟩:=bind_some hF
 refine dL 0 [0] il ft (iw hr_4) rfl hb7 rfl (by kernel_rfl) (by kernel_rfl) (by kernel_rfl) (by kernel_rfl) (by kernel_rfl) (by kernel_rfl) (by kernel_rfl) (by decide) (by kernel_rfl) wz (vI r_3.1) (by kernel_rfl) ([((ak 0),some (.cells 2 [(vL eI r_3.2.L),(vI r_3.2.f_at)]))]:Hp) (by kernel_rfl) ?_
 obtain ⟨y_6,hy_7,hF⟩:=bind_some hF
 refine jQ AO rfl rfl hy_7 rfl wz (fO sz9 ag9 rfl (vS y_6) rfl wz (aa (vS y_6) (af ?_)))
 obtain rfl:=ae hF
 exact aN (AC (.inr rfl) [(vS y_6)] _ [0] [ak 0] ⟨rfl,trivial⟩ (.cons (mE rfl rfl) (.nil)) (by kernel_rfl) ⟨(by kernel_rfl),trivial⟩ (by decide) (by kernel_rfl))
theorem mD {x0:Int} {r:ByteArray} (hF:strconv_Itoa x0=some r) :
  FnM Tryz.prog 62 [(vI x0)] [] (vS r) [] :=
 itoa_ok Tryz.strconv_Itoa EO hF
theorem yu {x0:(List ByteArray)} {x1:ByteArray} {r:ByteArray} (hF:strings_Join x0 x1=some r) :
  FnM Tryz.prog 87 [(vL eS x0),(vS x1)] [] (vS r) [] :=
 join_ok rfl Tryz.strings_Join_none Tryz.strings_Join hF
theorem zA {l_1:(List Int)} {r:ByteArray} (hF:om l_1=some r) :
  FnM Tryz.prog 64 [(vL eI l_1)] [] (vS r) []:=by
 refine FnM.of_wH ⟨Tryz.prog,20,[],[]⟩ rfl Tryz.func64 rfl rfl (lb_ rfl) (by kernel_rfl) ?_
 unfold om at hF
 refine aj (aa (vS (⟨#[]⟩:ByteArray)) (af (aj (aa .nil (af (au (aj (aa (vL eI l_1) (iT CL rfl wz (aa (vI 0) (af (sH (λn_8 => ?_)))))))))))))
 obtain ⟨o_13,hj_14,hF⟩:=bind_some hF
 obtain ⟨hn_6,hj_14⟩:=dI hj_14
 refine nz (σ:=(List ByteArray)) (N:=Nm) (λp=>(λ(s_7:List ByteArray) (n_10:Nm)=>([(3,(gV n_10 1 s_7))]:SL_)) p.1 p.2) (λp=>(λ(s_7:List ByteArray) (n_10:Nm)=>([(n_10,gB 1 eS s_7)]:Hp)) p.1 p.2) (λ(k_2:Nat)=>(λp=>(λ(s_7:List ByteArray) (n_10:Nm)=>([(3,(gV n_10 1 s_7)),(6,(vL eI l_1)),(7,(vI (l_1.length:Int))),(8,(vI (k_2:Int)))]:SL_)) p.1 p.2)) (λk x s=>kS k x s) o_13 l_1 (([]:List ByteArray),n_8) hj_14 rfl (aC rfl) ?_ ?_
 ·rintro ⟨k_2,l_3,s_7,n_10⟩ ⟨hL_12,hD_5⟩
  dsimp only at hL_12 hD_5
  cases l_3 with
  | nil =>
   obtain rfl:=ae hL_12
   refine aj (aa (vB (decide ((k_2:Int)<(l_1.length:Int)))) (af ?_))
   refine au (aA rfl (drop_nil hD_5) (aV ?_))
   exact aX (s_7,n_10) rfl rfl (aC rfl)
  | cons x_4 l_3 =>
   obtain ⟨c_,hc_11,hL_12⟩:=bind_some hL_12
   refine aj (aa (vB (decide ((k_2:Int)<(l_1.length:Int)))) (af ?_))
   refine au (aB rfl (iy hD_5) (ay ?_))
   unfold kS at hc_11
   refine au (aI (aj (jQ sK rfl rfl (iW hD_5) rfl wz (fO sz3 ag3 rfl (vI x_4) rfl wz (aa (vI x_4) (af (av (aa (gV n_10 1 s_7) (aa (vI x_4) ?_)))))))))
   obtain ⟨r_15,hr_16,hc_11⟩:=bind_some hc_11
   refine aG (mD hr_16) rfl hb62 rfl rfl rfl rfl wz (kL (([r_15]:List ByteArray).map eS) AO C8 rfl rfl rfl rfl rfl wz ?_)
   obtain ⟨a_17,hz_18,hc_11⟩:=bind_some hc_11
   refine qB 0 il ft (i:=0) el64 el64 sz9 z9 rfl (by decide) by9 (by decide) (λ_=>rfl) rfl rfl rfl hz_18 wz (λn_19=>aa (gV n_19 1 a_17) (af (av (lw (iB hD_5 hn_6) wz rfl (aa (vI ((k_2+1:Nat):Int)) (af ?_))))))
   obtain rfl:=ae hc_11
   exact aK (k_2+1,l_3,a_17,n_19) ⟨hL_12,bR hD_5⟩ (ls_ _) rfl (aC rfl)
 ·rintro ⟨s_7,n_10⟩ ho_ sl_ H_ hp_ hq_
  subst ho_
  refine aJ _ hp_ hq_ (au (lT 0 rfl (jN 3 0 rfl rfl (av (aa (vL eS s_7) ?_)))))
  obtain ⟨r_20,hr_21,hF⟩:=bind_some hF
  refine aG (yu hr_21) rfl hb87 rfl rfl rfl rfl wz (aa (vS r_20) (af ?_))
  obtain rfl:=ae hF
  exact aN (bz [(vS r_20)] ⟨rfl,trivial⟩)
theorem yQ {l_1:Log_} {r:ByteArray} (hF:oz l_1=some r) :
  FnM Tryz.prog 51 [(.d (.agg (Log_.enc l_1)))] [] (vS r) []:=by
 refine FnM.of_wH ⟨Tryz.prog,19,[],[]⟩ rfl Tryz.func51 rfl rfl (lb_ rfl) (by kernel_rfl) ?_
 unfold oz at hF
 refine aj (q8 0 (.inl rfl) (Log_.v l_1) rfl rfl wz (λn_2=>aa (vS (⟨#[]⟩:ByteArray)) (af (au (aQ (bD kv rfl 0 rfl wz (bE 1 0 (.inr (by kernel_rfl)) (λ_ _ ag=>trivial) sz9 ag9 rfl rfl (vS l_1.Player) rfl wz ?_)))))))
 obtain ⟨s_3,hz_4,hF⟩:=bind_some hF
 refine nL rfl rfl hz_4 wz (bD wV rfl 1 rfl wz (bE 4 0 (.inr (by kernel_rfl)) (λ_ _ ag=>⟨.inl ⟨rfl,rfl⟩,trivial⟩) sz9 ag9 rfl rfl (vS l_1.Item) rfl wz ?_))
 obtain ⟨s_5,hz_6,hF⟩:=bind_some hF
 refine nL rfl rfl hz_6 wz ?_
 obtain ⟨s_7,hz_8,hF⟩:=bind_some hF
 refine nL rfl rfl hz_8 wz (bD kH rfl 2 rfl wz (bE 8 0 (.inr (by kernel_rfl)) (λ_ _ ag=>⟨.inl ⟨rfl,rfl⟩,⟨.inl ⟨rfl,rfl⟩,trivial⟩⟩) sz3 ag3 rfl rfl (vI l_1.No) rfl wz (bD zT rfl 3 rfl wz (bE 10 0 (.inr (by kernel_rfl)) (λ_ _ ag=>⟨.inl ⟨rfl,rfl⟩,⟨.inl ⟨rfl,rfl⟩,⟨.inl ⟨rfl,rfl⟩,trivial⟩⟩⟩) sz3 ag3 rfl rfl (vI l_1.Clock) rfl wz (bD wS rfl 4 rfl wz (bE 12 0 (.inr (by kernel_rfl)) (λ_ _ ag=>⟨.inl ⟨rfl,rfl⟩,⟨.inl ⟨rfl,rfl⟩,⟨.inl ⟨rfl,rfl⟩,⟨.inl ⟨rfl,rfl⟩,trivial⟩⟩⟩⟩) sz3 ag3 rfl rfl (vI l_1.Long) rfl wz (kL (([l_1.No,l_1.Clock,l_1.Long]:List Int).map eI) sK y8 rfl rfl rfl rfl rfl wz ?_)))))))
 obtain ⟨r_9,hr_10,hF⟩:=bind_some hF
 refine aG (zA hr_10) rfl hb64 rfl rfl rfl rfl wz ?_
 obtain ⟨s_11,hz_12,hF⟩:=bind_some hF
 refine nL rfl rfl hz_12 wz (aa (vS s_11) (af ?_))
 obtain rfl:=ae hF
 exact aN (bz [(vS s_11)] ⟨rfl,trivial⟩)
theorem xQ {s_1:ByteArray} {r:ByteArray} (hF:qd s_1=some r) :
  FnM Tryz.prog 22 [(vS s_1)] [] (vS r) []:=by
 refine FnM.of_wH ⟨Tryz.prog,34,[],[]⟩ rfl Tryz.func22 rfl rfl (lb_ rfl) (by kernel_rfl) ?_
 unfold qd at hF
 refine aj (aa (vS (⟨#[]⟩:ByteArray)) (af (aj (aa (.d (.int .u64 14695981039346656037)) (af (au (aj (aa (vS s_1) (h_convs un9 un66 un5 rfl wz (iT un66 rfl wz (aa (vI 0) (af ?_))))))))))))
 obtain ⟨o_10,hj_11,hF⟩:=bind_some hF
 obtain ⟨hn_6,hj_11⟩:=dI hj_11
 refine jE (λ(s_7:Int)=>[(3,(.d (.int .u64 s_7)))]) (λ(s_7:Int)=>[]) (λ(k_2:Nat)=>(λ(s_7:Int)=>[(3,(.d (.int .u64 s_7))),(8,(vL (eK .u8) (gm s_1))),(9,(vI ((gm s_1).length:Int))),(10,(vI (k_2:Int)))])) (λk x s=>qj k x s) o_10 (gm s_1) 14695981039346656037 hj_11 rfl (aC rfl) ?_ ?_
 ·rintro ⟨k_2,l_3,s_7⟩ ⟨hL_9,hD_5⟩
  dsimp only at hL_9 hD_5
  cases l_3 with
  | nil =>
   obtain rfl:=ae hL_9
   refine aj (aa (vB (decide ((k_2:Int)<((gm s_1).length:Int)))) (af ?_))
   refine au (aA rfl (drop_nil hD_5) (aV ?_))
   exact aX (s_7) rfl rfl (aC rfl)
  | cons x_4 l_3 =>
   obtain ⟨c_,hc_8,hL_9⟩:=bind_some hL_9
   refine aj (aa (vB (decide ((k_2:Int)<((gm s_1).length:Int)))) (af ?_))
   refine au (aB rfl (iy hD_5) (ay ?_))
   unfold qj at hc_8
   refine au (aI (aj (jQ es66 rfl rfl (iW hD_5) rfl wz (fO sz5 ag5 rfl (.d (.int .u8 x_4)) rfl wz (aa (.d (.int .u8 x_4)) (af (av (aa (.d (.int .u64 s_7)) (aa (.d (.int .u8 x_4)) (bB un5 IP rfl wz (aa (.d (.int .u64 (Ao .u64 s_7 (IntKind.u64.wrap x_4)))) (aa (.d (.int .u64 (IntKind.u64.wrap ((Ao .u64 s_7 (IntKind.u64.wrap x_4))*1099511628211)))) (aa (.d (.int .u64 (IntKind.u64.wrap ((Ao .u64 s_7 (IntKind.u64.wrap x_4))*1099511628211)))) (af (av (lw (iB hD_5 hn_6) wz rfl (aa (vI ((k_2+1:Nat):Int)) (af ?_))))))))))))))))))
   obtain rfl:=ae hc_8
   exact aK (k_2+1,l_3,(IntKind.u64.wrap ((Ao .u64 s_7 (IntKind.u64.wrap x_4))*1099511628211))) ⟨hL_9,bR hD_5⟩ (ls_ _) rfl (aC rfl)
 ·rintro s_7 ho_ sl_ H_ hp_ hq_
  subst ho_
  refine aJ _ hp_ hq_ (aj (aa (vS (⟨#[]⟩:ByteArray)) (af (au (aj (aa (vI 0) (af ?_)))))))
  obtain ⟨o_20,hj_21,hF⟩:=bind_some hF
  obtain ⟨hn_16,hj_21⟩:=dI hj_21
  refine jE (λ(s_17:Int×ByteArray)=>[(6,(vS s_17.2))]) (λ(s_17:Int×ByteArray)=>[]) (λ(k_12:Nat)=>(λ(s_17:Int×ByteArray)=>[(3,(.d (.int .u64 s_17.1))),(6,(vS s_17.2)),(20,(vI (k_12:Int)))])) (λk x s=>mX k x s) o_20 (List.range (16:Int).toNat) (s_7,(⟨#[]⟩:ByteArray)) hj_21 rfl (aC rfl) ?_ ?_
  ·rintro ⟨k_12,l_13,s_17⟩ ⟨hL_19,hD_15⟩
   dsimp only at hL_19 hD_15
   cases l_13 with
   | nil =>
    obtain rfl:=ae hL_19
    refine aj (aa (vB (decide ((k_12:Int)<16))) (af ?_))
    refine au (aA rfl (qH hD_15) (aV ?_))
    exact aX (s_17) rfl rfl (aC rfl)
   | cons x_14 l_13 =>
    obtain ⟨c_,hc_18,hL_19⟩:=bind_some hL_19
    refine aj (aa (vB (decide ((k_12:Int)<16))) (af ?_))
    refine au (aB rfl (pY hD_15) (ay ?_))
    unfold mX at hc_18
    refine au (aI (aj (aa (.d (.int .u64 s_17.1)) (aa (.d (.int .u64 (s_17.1.tmod 16))) (aa (.d (.int .u64 s_17.1)) (aa (.d (.int .u64 (s_17.1.tmod 16))) (aa (.d (.int .u64 (IntKind.u64.wrap ((s_17.1.tmod 16)+1)))) ?_)))))))
    obtain ⟨y_22,hy_23,hc_18⟩:=bind_some hc_18
    refine Au un9 rfl rfl rfl hy_23 wz (aa (vS s_17.2) ?_)
    obtain ⟨s_24,hz_25,hc_18⟩:=bind_some hc_18
    refine nL rfl rfl hz_25 wz (aa (vS s_24) (af (av (aa (.d (.int .u64 s_17.1)) (aa (.d (.int .u64 (IntKind.u64.wrap (s_17.1.tdiv 16)))) (aa (.d (.int .u64 (IntKind.u64.wrap (s_17.1.tdiv 16)))) (af (av (lw (qP hD_15 hn_16) wz rfl (aa (vI ((k_12+1:Nat):Int)) (af ?_)))))))))))
    obtain rfl:=ae hc_18
    exact aK (k_12+1,l_13,((IntKind.u64.wrap (s_17.1.tdiv 16)),s_24)) ⟨hL_19,bR hD_15⟩ (ls_ _) rfl (aC rfl)
  ·rintro s_17 ho_ sl_ H_ hp_ hq_
   subst ho_
   refine aJ _ hp_ hq_ (aj (aa (vS s_17.2) (aa (vS s_17.2) (af ?_))))
   obtain rfl:=ae hF
   exact aN (bz [(vS s_17.2)] ⟨rfl,trivial⟩)
theorem vR {last_1:ByteArray} {l_2:Log_} {r:ByteArray} (hF:lY last_1 l_2=some r) :
  FnM Tryz.prog 34 [(vS last_1),(.d (.agg (Log_.enc l_2)))] [] (vS r) []:=by
 refine FnM.of_wH ⟨Tryz.prog,11,[],[]⟩ rfl Tryz.func34 rfl rfl (lb_ rfl) (by kernel_rfl) ?_
 unfold lY at hF
 refine aj (q8 0 (.inl rfl) (Log_.v l_2) rfl rfl wz (λn_3=>aa (vS (⟨#[]⟩:ByteArray)) (af (aj (aa (vS last_1) ?_)))))
 obtain ⟨s_4,hz_5,hF⟩:=bind_some hF
 refine nL rfl rfl hz_5 wz (bE 0 0 il ft bf bL rfl rfl (.d (.agg (Log_.enc l_2))) rfl wz ?_)
 obtain ⟨r_6,hr_7,hF⟩:=bind_some hF
 refine aG (yQ hr_7) rfl hb51 rfl rfl rfl rfl wz ?_
 obtain ⟨s_8,hz_9,hF⟩:=bind_some hF
 refine nL rfl rfl hz_9 wz ?_
 obtain ⟨r_10,hr_11,hF⟩:=bind_some hF
 refine aG (xQ hr_11) rfl hb22 rfl rfl rfl rfl wz (aa (vS r_10) (af ?_))
 obtain rfl:=ae hF
 exact aN (bz [(vS r_10)] ⟨rfl,trivial⟩)
theorem jD {s_1:Stream} {n_2:Int} {r:Bool×Stream} (hF:gp s_1 n_2=some r) :
  FnM Tryz.prog 5 [(.ref (ak 0) 0 0),(vI n_2)] [(.cells 2 [(vL eI s_1.L),(vI s_1.f_at)])] (vB r.1) [some (.cells 2 [(vL eI r.2.L),(vI r.2.f_at)])]:=by
 refine FnM.of_wH ⟨Tryz.prog,9,[],[]⟩ rfl Tryz.func5 rfl rfl (lb_ rfl) (by kernel_rfl) ?_
 unfold gp at hF
 refine aj (aa (vB false) (af (aj (aa (.ref (ak 0) 0 0) (aa (vI n_2) ?_)))))
 obtain ⟨r_3,hr_4,hF⟩:=bind_some hF
 refine dL 0 [0] il ft (iw hr_4) rfl hb7 rfl (by kernel_rfl) (by kernel_rfl) (by kernel_rfl) (by kernel_rfl) (by kernel_rfl) (by kernel_rfl) (by kernel_rfl) (by decide) (by kernel_rfl) wz (vI r_3.1) (by kernel_rfl) ([((ak 0),some (.cells 2 [(vL eI r_3.2.L),(vI r_3.2.f_at)]))]:Hp) (by kernel_rfl) (aa (vB (r_3.1==0)) (aa (vB (r_3.1==0)) (af ?_)))
 obtain rfl:=ae hF
 exact aN (AC (.inr rfl) [(vB (r_3.1==0))] _ [0] [ak 0] ⟨rfl,trivial⟩ (.cons (mE rfl rfl) (.nil)) (by kernel_rfl) ⟨(by kernel_rfl),trivial⟩ (by decide) (by kernel_rfl))
theorem qM {s_1:Stream} {most_2:Int} {r:(List Log_)×Stream} (hF:jK s_1 most_2=some r) :
  FnM Tryz.prog 20 [(.ref (ak 0) 0 0),(vI most_2)] [(.cells 2 [(vL eI s_1.L),(vI s_1.f_at)])] (gV (ak 1) 6 r.1) (([(.cells 2 [(vL eI r.2.L),(vI r.2.f_at)])]:List Box).map some++gO 6 Log_.enc r.1):=by
 refine FnM.of_wH ⟨Tryz.prog,59,[],[]⟩ rfl Tryz.func20 rfl rfl (lb_ rfl) (by kernel_rfl) ?_
 unfold jK at hF
 refine aj (aa .nil (af (aj (aa .nil (af (au (aj (kL (([(⟨#[112,97]⟩:ByteArray),(⟨#[112,98]⟩:ByteArray)]:List ByteArray).map eS) AO C8 rfl rfl rfl rfl rfl wz (iT un64 rfl wz (aa (vI 0) (af (sH (λn_9 => ?_)))))))))))))
 obtain ⟨o_14,hj_15,hF⟩:=bind_some hF
 obtain ⟨hn_7,hj_15⟩:=dI hj_15
 refine nz (σ:=(List Log_)×(List Int)×Int) (N:=Nm) (λp=>(λ(s_8:(List Log_)×(List Int)×Int) (n_11:Nm)=>([(5,(gV n_11 6 s_8.1))]:SL_)) p.1 p.2) (λp=>(λ(s_8:(List Log_)×(List Int)×Int) (n_11:Nm)=>([((ak 0),some (.cells 2 [(vL eI s_8.2.1),(vI s_8.2.2)])),(n_11,gB 6 Log_.enc s_8.1)]:Hp)) p.1 p.2) (λ(k_3:Nat)=>(λp=>(λ(s_8:(List Log_)×(List Int)×Int) (n_11:Nm)=>([(0,(.ref (ak 0) 0 0)),(1,(vI most_2)),(5,(gV n_11 6 s_8.1)),(12,(vL eS ([(⟨#[112,97]⟩:ByteArray),(⟨#[112,98]⟩:ByteArray)]:List ByteArray))),(13,(vI (([(⟨#[112,97]⟩:ByteArray),(⟨#[112,98]⟩:ByteArray)]:List ByteArray).length:Int))),(14,(vI (k_3:Int)))]:SL_)) p.1 p.2)) (λk x s=>gD most_2 k x s) o_14 ([(⟨#[112,97]⟩:ByteArray),(⟨#[112,98]⟩:ByteArray)]:List ByteArray) ((([]:List Log_),s_1.L,s_1.f_at),n_9) hj_15 rfl (aC rfl) ?_ ?_
 ·rintro ⟨k_3,l_4,s_8,n_11⟩ ⟨hL_13,hD_6⟩
  dsimp only at hL_13 hD_6
  cases l_4 with
  | nil =>
   obtain rfl:=ae hL_13
   refine aj (aa (vB (decide ((k_3:Int)<(([(⟨#[112,97]⟩:ByteArray),(⟨#[112,98]⟩:ByteArray)]:List ByteArray).length:Int)))) (af ?_))
   refine au (aA rfl (drop_nil hD_6) (aV ?_))
   exact aX (s_8,n_11) rfl rfl (aC rfl)
  | cons x_5 l_4 =>
   obtain ⟨c_,hc_12,hL_13⟩:=bind_some hL_13
   refine aj (aa (vB (decide ((k_3:Int)<(([(⟨#[112,97]⟩:ByteArray),(⟨#[112,98]⟩:ByteArray)]:List ByteArray).length:Int)))) (af ?_))
   refine au (aB rfl (iy hD_6) (ay ?_))
   unfold gD at hc_12
   refine au (aI (aj (jQ AO rfl rfl (iW hD_6) rfl wz (fO sz9 ag9 rfl (vS x_5) rfl wz (aa (vS x_5) (af (aj (aa (.ref (ak 0) 0 0) (kL (([0,50,1000]:List Int).map eI) sK y8 rfl rfl rfl rfl rfl wz ?_)))))))))
   obtain ⟨r_16,hr_17,hc_12⟩:=bind_some hc_12
   refine dL 0 [0] il ft (kD hr_17) rfl hb8 rfl (by kernel_rfl) (by kernel_rfl) (by kernel_rfl) (by kernel_rfl) (by kernel_rfl) (by kernel_rfl) (by kernel_rfl) (by decide) (by kernel_rfl) wz (vI r_16.1) (by kernel_rfl) ([((ak 0),some (.cells 2 [(vL eI r_16.2.L),(vI r_16.2.f_at)])),(n_11,gB 6 Log_.enc s_8.1)]:Hp) (by kernel_rfl) (aa (vS (⟨#[]⟩:ByteArray)) (aa (vI r_16.1) (af (aj (aa (.ref (ak 0) 0 0) (aa (vI most_2) ?_))))))
   obtain ⟨r_19,hr_20,hc_12⟩:=bind_some hc_12
   refine dL 0 [0] il ft (pW hr_20) rfl hb36 rfl (by kernel_rfl) (by kernel_rfl) (by kernel_rfl) (by kernel_rfl) (by kernel_rfl) (by kernel_rfl) (by kernel_rfl) (by decide) (by kernel_rfl) wz (vI r_19.1) (by kernel_rfl) ([((ak 0),some (.cells 2 [(vL eI r_19.2.L),(vI r_19.2.f_at)])),(n_11,gB 6 Log_.enc s_8.1)]:Hp) (by kernel_rfl) (aa (vI 0) (af ?_))
   obtain ⟨o_32,hj_33,hc_12⟩:=bind_some hc_12
   obtain ⟨hn_26,hj_33⟩:=dI hj_33
   refine nz (σ:=(List Log_)×ByteArray×Int×(List Int)×Int) (N:=Nm) (λp=>(λ(s_27:(List Log_)×ByteArray×Int×(List Int)×Int) (n_29:Nm)=>([(0,(.ref (ak 0) 0 0)),(1,(vI most_2)),(5,(gV n_29 6 s_27.1)),(12,(vL eS ([(⟨#[112,97]⟩:ByteArray),(⟨#[112,98]⟩:ByteArray)]:List ByteArray))),(13,(vI (([(⟨#[112,97]⟩:ByteArray),(⟨#[112,98]⟩:ByteArray)]:List ByteArray).length:Int))),(14,(vI (k_3:Int)))]:SL_)) p.1 p.2) (λp=>(λ(s_27:(List Log_)×ByteArray×Int×(List Int)×Int) (n_29:Nm)=>([((ak 0),some (.cells 2 [(vL eI s_27.2.2.2.1),(vI s_27.2.2.2.2)])),(n_29,gB 6 Log_.enc s_27.1)]:Hp)) p.1 p.2) (λ(k_22:Nat)=>(λp=>(λ(s_27:(List Log_)×ByteArray×Int×(List Int)×Int) (n_29:Nm)=>([(0,(.ref (ak 0) 0 0)),(1,(vI most_2)),(5,(gV n_29 6 s_27.1)),(7,(vS x_5)),(8,(vS s_27.2.1)),(9,(vI s_27.2.2.1)),(12,(vL eS ([(⟨#[112,97]⟩:ByteArray),(⟨#[112,98]⟩:ByteArray)]:List ByteArray))),(13,(vI (([(⟨#[112,97]⟩:ByteArray),(⟨#[112,98]⟩:ByteArray)]:List ByteArray).length:Int))),(14,(vI (k_3:Int))),(23,(vI r_19.1)),(24,(vI (k_22:Int)))]:SL_)) p.1 p.2)) (λk x s=>iV x_5 k x s) o_32 (List.range (r_19.1).toNat) ((s_8.1,(⟨#[]⟩:ByteArray),r_16.1,r_19.2.L,r_19.2.f_at),n_11) hj_33 rfl (aC rfl) ?_ ?_
   ·rintro ⟨k_22,l_23,s_27,n_29⟩ ⟨hL_31,hD_25⟩
    dsimp only at hL_31 hD_25
    cases l_23 with
    | nil =>
     obtain rfl:=ae hL_31
     refine aj (aa (vB (decide ((k_22:Int)<r_19.1))) (af ?_))
     refine au (aA rfl (qH hD_25) (aV ?_))
     exact aX (s_27,n_29) rfl rfl (aC rfl)
    | cons x_24 l_23 =>
     obtain ⟨c_,hc_30,hL_31⟩:=bind_some hL_31
     refine aj (aa (vB (decide ((k_22:Int)<r_19.1))) (af ?_))
     refine au (aB rfl (pY hD_25) (ay ?_))
     unfold iV at hc_30
     refine au (aI (aj (aa (vI (k_22:Int)) (aa (vI (k_22:Int)) (af (aj (aa (vS x_5) (aa (.ref (ak 0) 0 0) (kL (([(⟨#[105,97]⟩:ByteArray),(⟨#[105,98]⟩:ByteArray)]:List ByteArray).map eS) AO C8 rfl rfl rfl rfl rfl wz ?_)))))))))
     obtain ⟨r_34,hr_35,hc_30⟩:=bind_some hc_30
     refine dL 0 [0] il ft (jC hr_35) rfl Ic rfl (by kernel_rfl) (by kernel_rfl) (by kernel_rfl) (by kernel_rfl) (by kernel_rfl) (by kernel_rfl) (by kernel_rfl) (by decide) (by kernel_rfl) wz (vS r_34.1) (by kernel_rfl) ([((ak 0),some (.cells 2 [(vL eI r_34.2.L),(vI r_34.2.f_at)])),(n_29,gB 6 Log_.enc s_27.1)]:Hp) (by kernel_rfl) (aa (vI (k_22:Int)) (aa (vI (w64 ((k_22:Int)+1))) (aa (vI s_27.2.2.1) (aa (.ref (ak 0) 0 0) (kL (([1,10,30,100]:List Int).map eI) sK y8 rfl rfl rfl rfl rfl wz ?_)))))
     obtain ⟨r_37,hr_38,hc_30⟩:=bind_some hc_30
     refine dL 0 [0] il ft (kD hr_38) rfl hb8 rfl (by kernel_rfl) (by kernel_rfl) (by kernel_rfl) (by kernel_rfl) (by kernel_rfl) (by kernel_rfl) (by kernel_rfl) (by decide) (by kernel_rfl) wz (vI r_37.1) (by kernel_rfl) ([((ak 0),some (.cells 2 [(vL eI r_37.2.L),(vI r_37.2.f_at)])),(n_29,gB 6 Log_.enc s_27.1)]:Hp) (by kernel_rfl) (aL (.d (.agg (Log_.enc (⟨x_5,r_34.1,(w64 ((k_22:Int)+1)),s_27.2.2.1,r_37.1,(⟨#[]⟩:ByteArray)⟩:Log_)))) wz (by kernel_rfl) (nk 0 (.inl rfl) z31 rfl wz (λn_40=>qY 0 il ft 2 bf rfl rfl [(vS x_5),(vS r_34.1),(vI (w64 ((k_22:Int)+1))),(vI s_27.2.2.1),(vI r_37.1),(vS (⟨#[]⟩:ByteArray))] rfl wz (af (aj (aa (vS s_27.2.1) (bE 0 2 il ft bf bL rfl rfl (.d (.agg (Log_.enc (⟨x_5,r_34.1,(w64 ((k_22:Int)+1)),s_27.2.2.1,r_37.1,(⟨#[]⟩:ByteArray)⟩:Log_)))) rfl wz ?_)))))))
     obtain ⟨r_41,hr_42,hc_30⟩:=bind_some hc_30
     refine aG (vR hr_42) rfl hb34 rfl rfl rfl rfl wz (bD oH rfl 5 rfl wz (qY 0 il ft 2 sz9 rfl rfl [(vS x_5),(vS r_34.1),(vI (w64 ((k_22:Int)+1))),(vI s_27.2.2.1),(vI r_37.1),(vS r_41)] rfl wz (af (aj (bD oH rfl 5 rfl wz (bE 0 2 il ft sz9 ag9 rfl rfl (vS r_41) rfl wz (aa (vS r_41) (af (aj (aa (vI s_27.2.2.1) (aa (.ref (ak 0) 0 0) (kL (([0,5,10,50,100]:List Int).map eI) sK y8 rfl rfl rfl rfl rfl wz ?_))))))))))))
     obtain ⟨r_43,hr_44,hc_30⟩:=bind_some hc_30
     refine dL 0 [0] il ft (kD hr_44) rfl hb8 rfl (by kernel_rfl) (by kernel_rfl) (by kernel_rfl) (by kernel_rfl) (by kernel_rfl) (by kernel_rfl) (by kernel_rfl) (by decide) (by kernel_rfl) wz (vI r_43.1) (by kernel_rfl) ([((ak 0),some (.cells 2 [(vL eI r_43.2.L),(vI r_43.2.f_at)])),(n_29,gB 6 Log_.enc s_27.1),(n_40,some (.cells 6 [(vS x_5),(vS r_34.1),(vI (w64 ((k_22:Int)+1))),(vI s_27.2.2.1),(vI r_37.1),(vS r_41)]))]:Hp) (by kernel_rfl) (aa (vI (w64 (s_27.2.2.1+r_43.1))) (aa (vI (w64 (s_27.2.2.1+r_43.1))) (af (aj (aa (.ref (ak 0) 0 0) ?_)))))
     obtain ⟨r_46,hr_47,hc_30⟩:=bind_some hc_30
     refine dL 0 [0] il ft (jD hr_47) rfl hb5 rfl (by kernel_rfl) (by kernel_rfl) (by kernel_rfl) (by kernel_rfl) (by kernel_rfl) (by kernel_rfl) (by kernel_rfl) (by decide) (by kernel_rfl) wz (vB r_46.1) (by kernel_rfl) ([((ak 0),some (.cells 2 [(vL eI r_46.2.L),(vI r_46.2.f_at)])),(n_29,gB 6 Log_.enc s_27.1),(n_40,some (.cells 6 [(vS x_5),(vS r_34.1),(vI (w64 ((k_22:Int)+1))),(vI s_27.2.2.1),(vI r_37.1),(vS r_41)]))]:Hp) (by kernel_rfl) (aa (vB (!r_46.1)) (af (aJ (H0:=([((ak 0),some (.cells 2 [(vL eI r_46.2.L),(vI r_46.2.f_at)])),(n_29,gB 6 Log_.enc s_27.1),(n_40,some (.cells 6 [(vS x_5),(vS r_34.1),(vI (w64 ((k_22:Int)+1))),(vI s_27.2.2.1),(vI r_37.1),(vS r_41)]))]:Hp)) ([(0,(.ref (ak 0) 0 0)),(1,(vI most_2)),(5,(gV n_29 6 s_27.1)),(7,(vS x_5)),(8,(vS r_41)),(9,(vI (w64 (s_27.2.2.1+r_43.1)))),(11,(.ref n_40 0 0)),(12,(vL eS ([(⟨#[112,97]⟩:ByteArray),(⟨#[112,98]⟩:ByteArray)]:List ByteArray))),(13,(vI (([(⟨#[112,97]⟩:ByteArray),(⟨#[112,98]⟩:ByteArray)]:List ByteArray).length:Int))),(14,(vI (k_3:Int))),(23,(vI r_19.1)),(24,(vI (k_22:Int))),(51,(vB (!r_46.1)))]:SL_) (by kernel_rfl) (zb (by kernel_rfl)) ?_)))
     obtain ⟨v_49,h_50,hc_30⟩:=bind_some hc_30
     refine nu (β:=Nm) (λ(n_51:Nm)=>([(0,(.ref (ak 0) 0 0)),(1,(vI most_2)),(5,(gV n_51 6 v_49)),(7,(vS x_5)),(8,(vS r_41)),(9,(vI (w64 (s_27.2.2.1+r_43.1)))),(12,(vL eS ([(⟨#[112,97]⟩:ByteArray),(⟨#[112,98]⟩:ByteArray)]:List ByteArray))),(13,(vI (([(⟨#[112,97]⟩:ByteArray),(⟨#[112,98]⟩:ByteArray)]:List ByteArray).length:Int))),(14,(vI (k_3:Int))),(23,(vI r_19.1)),(24,(vI (k_22:Int)))]:SL_)) (λ(n_51:Nm)=>([((ak 0),some (.cells 2 [(vL eI r_46.2.L),(vI r_46.2.f_at)])),(n_51,gB 6 Log_.enc v_49),(n_40,some (.cells 6 [(vS x_5),(vS r_34.1),(vI (w64 ((k_22:Int)+1))),(vI s_27.2.2.1),(vI r_37.1),(vS r_41)]))]:Hp)) (λ_=>True) ?_ ?_
     ·rcases ah h_50 with⟨hc_52,h_50⟩|⟨hc_52,h_50⟩
      ·refine aB rfl hc_52 (av (aa (gV n_29 6 s_27.1) (bE 0 2 il ft bf bL rfl rfl (.d (.agg (Log_.enc (⟨x_5,r_34.1,(w64 ((k_22:Int)+1)),s_27.2.2.1,r_37.1,r_41⟩:Log_)))) rfl wz (kL (([(⟨x_5,r_34.1,(w64 ((k_22:Int)+1)),s_27.2.2.1,r_37.1,r_41⟩:Log_)]:List Log_).map Log_.enc) bg ez26 rfl rfl rfl rfl rfl wz ?_))))
       obtain ⟨a_53,hz_54,h_50⟩:=bind_some h_50
       refine qB 0 il ft (i:=1) wh wh bf z31 rfl (by decide) GK (by decide) (λ_=>rfl) rfl rfl rfl hz_54 wz (λn_55=>aa (gV n_55 6 a_53) (af ?_))
       obtain rfl:=ae h_50
       exact aX n_55 trivial rfl (aC rfl)
      ·refine aA rfl hc_52 (ay ?_)
       obtain rfl:=ae h_50
       exact aX n_29 trivial rfl (aC rfl)
     ·rintro n_51 _ sl_ H_ hp_ hq_
      refine aJ _ hp_ hq_ (av (lw (qP hD_25 hn_26) wz rfl (aa (vI ((k_22+1:Nat):Int)) (af ?_))))
      obtain rfl:=ae hc_30
      exact aK (k_22+1,l_23,(v_49,r_41,(w64 (s_27.2.2.1+r_43.1)),r_46.2.L,r_46.2.f_at),n_51) ⟨hL_31,bR hD_25⟩ (ls_ _) rfl (aC rfl)
   ·rintro ⟨s_27,n_29⟩ ho_ sl_ H_ hp_ hq_
    subst ho_
    refine aJ _ hp_ hq_ (av (lw (iB hD_6 hn_7) wz rfl (aa (vI ((k_3+1:Nat):Int)) (af ?_))))
    obtain rfl:=ae hc_12
    exact aK (k_3+1,l_4,(s_27.1,s_27.2.2.2.1,s_27.2.2.2.2),n_29) ⟨hL_13,bR hD_6⟩ (ls_ _) rfl (aC rfl)
 ·rintro ⟨s_8,n_11⟩ ho_ sl_ H_ hp_ hq_
  subst ho_
  refine aJ _ hp_ hq_ (aj (aa (gV n_11 6 s_8.1) (aa (gV n_11 6 s_8.1) (af ?_))))
  obtain rfl:=ae hF
  exact aN (finG (outs:=([(.cells 2 [(vL eI s_8.2.1),(vI s_8.2.2)])]:List Box)) (.inr rfl) 1 rfl rfl rfl (by kernel_rfl) (by kernel_rfl))
theorem nO {s_1:Stream} {low_2:Int} {high_3:Int} {r:Int×Stream} (hF:kJ s_1 low_2 high_3=some r) :
  FnM Tryz.prog 23 [(.ref (ak 0) 0 0),(vI low_2),(vI high_3)] [(.cells 2 [(vL eI s_1.L),(vI s_1.f_at)])] (vI r.1) [some (.cells 2 [(vL eI r.2.L),(vI r.2.f_at)])]:=by
 refine FnM.of_wH ⟨Tryz.prog,22,[],[]⟩ rfl Tryz.func23 rfl rfl (lb_ rfl) (by kernel_rfl) ?_
 unfold kJ at hF
 refine aj (aa (vI 0) (af (au (aj (aa (.ref (ak 0) 0 0) ?_)))))
 obtain ⟨r_4,hr_5,hF⟩:=bind_some hF
 refine dL 0 [0] il ft (jD hr_5) rfl hb5 rfl (by kernel_rfl) (by kernel_rfl) (by kernel_rfl) (by kernel_rfl) (by kernel_rfl) (by kernel_rfl) (by kernel_rfl) (by decide) (by kernel_rfl) wz (vB r_4.1) (by kernel_rfl) ([((ak 0),some (.cells 2 [(vL eI r_4.2.L),(vI r_4.2.f_at)]))]:Hp) (by kernel_rfl) (af ?_)
 rcases ah hF with⟨hc_7,hF⟩|⟨hc_7,hF⟩
 ·refine aB rfl hc_7 (aj (aa (.ref (ak 0) 0 0) (aa (vI low_2) (aa (vI (w64 (low_2-1))) (aa (vI high_3) (aa (vI (w64 (high_3+1))) (aa (vI low_2) (aa (vI high_3) (kL (([(w64 (low_2-1)),(w64 (high_3+1)),low_2,high_3,(-1099511627776),1099511627776]:List Int).map eI) sK y8 rfl rfl rfl rfl rfl wz ?_)))))))))
  obtain ⟨r_8,hr_9,hF⟩:=bind_some hF
  refine dL 0 [0] il ft (kD hr_9) rfl hb8 rfl (by kernel_rfl) (by kernel_rfl) (by kernel_rfl) (by kernel_rfl) (by kernel_rfl) (by kernel_rfl) (by kernel_rfl) (by decide) (by kernel_rfl) wz (vI r_8.1) (by kernel_rfl) ([((ak 0),some (.cells 2 [(vL eI r_8.2.L),(vI r_8.2.f_at)]))]:Hp) (by kernel_rfl) (aa (vI r_8.1) (af ?_))
  obtain rfl:=ae hF
  exact aN (AC (.inr rfl) [(vI r_8.1)] _ [0] [ak 0] ⟨rfl,trivial⟩ (.cons (mE rfl rfl) (.nil)) (by kernel_rfl) ⟨(by kernel_rfl),trivial⟩ (by decide) (by kernel_rfl))
 ·refine aA rfl hc_7 (ay (aj (aa (.ref (ak 0) 0 0) (aa (vI low_2) (aa (vI high_3) ?_)))))
  obtain ⟨r_11,hr_12,hF⟩:=bind_some hF
  refine dL 0 [0] il ft (pW hr_12) rfl hb36 rfl (by kernel_rfl) (by kernel_rfl) (by kernel_rfl) (by kernel_rfl) (by kernel_rfl) (by kernel_rfl) (by kernel_rfl) (by decide) (by kernel_rfl) wz (vI r_11.1) (by kernel_rfl) ([((ak 0),some (.cells 2 [(vL eI r_11.2.L),(vI r_11.2.f_at)]))]:Hp) (by kernel_rfl) (aa (vI r_11.1) (af ?_))
  obtain rfl:=ae hF
  exact aN (AC (.inr rfl) [(vI r_11.1)] _ [0] [ak 0] ⟨rfl,trivial⟩ (.cons (mE rfl rfl) (.nil)) (by kernel_rfl) ⟨(by kernel_rfl),trivial⟩ (by decide) (by kernel_rfl))
theorem ql {s_1:Stream} {most_2:Int} {r:(List Log_)×Stream} (hF:kY s_1 most_2=some r) :
  FnM Tryz.prog 4 [(.ref (ak 0) 0 0),(vI most_2)] [(.cells 2 [(vL eI s_1.L),(vI s_1.f_at)])] (vL Log_.enc r.1) [some (.cells 2 [(vL eI r.2.L),(vI r.2.f_at)])]:=by
 refine FnM.of_wH ⟨Tryz.prog,100,[],[]⟩ rfl Tryz.func4 rfl rfl (lb_ rfl) (by kernel_rfl) ?_
 unfold kY at hF
 refine aj (aa .nil (af (aj (aa (.ref (ak 0) 0 0) (aa (vI most_2) ?_)))))
 obtain ⟨r_3,hr_4,hF⟩:=bind_some hF
 refine yE [0] (qM hr_4) rfl hb20 rfl (by kernel_rfl) (by kernel_rfl) (by kernel_rfl) (by kernel_rfl) (by kernel_rfl) rfl (by decide) (by kernel_rfl) wz ([((ak 0),some (.cells 2 [(vL eI r_3.2.L),(vI r_3.2.f_at)]))]:Hp) (λ_=>by kernel_rfl) (λn_6=>aa (gV n_6 6 r_3.1) (af (au (au ?_))))
 obtain ⟨v_7,h_8,hF⟩:=bind_some hF
 refine aH [(0,(.ref (ak 0) 0 0)),(5,(gV n_6 6 r_3.1)),(17,(vB v_7.1))] [((ak 0),some (.cells 2 [(vL eI v_7.2.1),(vI v_7.2.2)])),(n_6,gB 6 Log_.enc r_3.1)] ?_ ?_
 ·refine av (aa (gV n_6 6 r_3.1) (BH lK rfl wz (aa (vB (decide ((r_3.1.length:Int)>0))) ?_)))
  rcases ah h_8 with⟨hc_9,h_8⟩|⟨hc_9,h_8⟩
  ·refine aD rfl hc_9 wz (aL (.ref (ak 0) 0 0) wa rfl ?_)
   obtain ⟨r_10,hr_11,h_8⟩:=bind_some h_8
   refine dL 0 [0] il ft (jD hr_11) rfl hb5 rfl (by kernel_rfl) (by kernel_rfl) (by kernel_rfl) (by kernel_rfl) (by kernel_rfl) (by kernel_rfl) (by kernel_rfl) (by decide) (by kernel_rfl) wa (vB r_10.1) (by kernel_rfl) ([((ak 0),some (.cells 2 [(vL eI r_10.2.L),(vI r_10.2.f_at)])),(n_6,gB 6 Log_.enc r_3.1)]:Hp) (by kernel_rfl) (aa (vB r_10.1) (af ?_))
   obtain rfl:=ae h_8
   exact cu
  ·refine aD rfl hc_9 wz (ai (ai (aa (vB false) (af ?_))))
   obtain rfl:=ae h_8
   exact cu
 ·rintro ⟨⟩ _ sl_ H_ hp_ hq_
  refine aJ _ hp_ hq_ ?_
  obtain ⟨v_13,h_14,hF⟩:=bind_some hF
  refine aH [(0,(.ref (ak 0) 0 0)),(5,(gV n_6 6 v_13.1))] [((ak 0),some (.cells 2 [(vL eI v_13.2.1),(vI v_13.2.2)])),(n_6,gB 6 Log_.enc v_13.1)] ?_ ?_
  ·rcases ah h_14 with⟨hc_15,h_14⟩|⟨hc_15,h_14⟩
   ·refine aB rfl hc_15 (aj (aa (gV n_6 6 r_3.1) (aa (.ref (ak 0) 0 0) (aa (gV n_6 6 r_3.1) (BH lK rfl wz ?_)))))
    obtain ⟨r_16,hr_17,h_14⟩:=bind_some h_14
    refine dL 0 [0] il ft (iw hr_17) rfl hb7 rfl (by kernel_rfl) (by kernel_rfl) (by kernel_rfl) (by kernel_rfl) (by kernel_rfl) (by kernel_rfl) (by kernel_rfl) (by decide) (by kernel_rfl) wz (vI r_16.1) (by kernel_rfl) ([((ak 0),some (.cells 2 [(vL eI r_16.2.L),(vI r_16.2.f_at)])),(n_6,gB 6 Log_.enc r_3.1)]:Hp) (by kernel_rfl) ?_
    obtain ⟨_,hi_19,h_14⟩:=bind_some h_14
    refine FD bg rfl rfl (aW hi_19) (aM hi_19) wz (aa (.ref n_6 (0+(r_16.1).toNat) 0) (af (aQ (aa (.ref n_6 (0+(r_16.1).toNat) 0) (aa (.ref n_6 (0+(r_16.1).toNat) 0) (aa (.ref (ak 0) 0 0) (kL (([(⟨#[105,97]⟩:ByteArray),(⟨#[105,99]⟩:ByteArray)]:List ByteArray).map eS) AO C8 rfl rfl rfl rfl rfl wz ?_)))))))
    obtain ⟨r_20,hr_21,h_14⟩:=bind_some h_14
    refine dL 4 [0] (.inr (by kernel_rfl)) (λ_ _ ag=>by exact trivial) (jC hr_21) rfl Ic rfl (by kernel_rfl) (by kernel_rfl) (by kernel_rfl) (by kernel_rfl) (by kernel_rfl) (by kernel_rfl) (by kernel_rfl) (by decide) (by kernel_rfl) wz (vS r_20.1) (by kernel_rfl) ([((ak 0),some (.cells 2 [(vL eI r_20.2.L),(vI r_20.2.f_at)])),(n_6,gB 6 Log_.enc r_3.1)]:Hp) (by kernel_rfl) (aa (.ref (ak 0) 0 0) (aa (.ref n_6 (0+(r_16.1).toNat) 0) (aa (.ref n_6 (0+(r_16.1).toNat) 0) (bD oH rfl 5 rfl wz ?_))))
    obtain ⟨e_23,hy_24,h_14⟩:=bind_some h_14
    refine aZ 9 1 (.inr (by kernel_rfl)) (λ_ _ ag=>⟨.inr (.inl (dis1 (ag_ne ag (i:=1) (j:=0) rfl rfl (by decide)))),trivial⟩) sz9 ag9 rfl rfl hy_24 (vS e_23.Sum) rfl wz ?_
    obtain ⟨r_25,hr_26,h_14⟩:=bind_some h_14
    refine aG (xQ hr_26) rfl hb22 rfl rfl rfl rfl wz (kL (([e_23.Sum,r_25]:List ByteArray).map eS) AO C8 rfl rfl rfl rfl rfl wz ?_)
    obtain ⟨r_27,hr_28,h_14⟩:=bind_some h_14
    refine dL 12 [0] (.inr (by kernel_rfl)) (λ_ _ ag=>by exact⟨.inr (.inr (by kernel_rfl)),⟨.inr (.inr (by kernel_rfl)),trivial⟩⟩) (jC hr_28) rfl Ic rfl (by kernel_rfl) (by kernel_rfl) (by kernel_rfl) (by kernel_rfl) (by kernel_rfl) (by kernel_rfl) (by kernel_rfl) (by decide) (by kernel_rfl) wz (vS r_27.1) (by kernel_rfl) ([((ak 0),some (.cells 2 [(vL eI r_27.2.L),(vI r_27.2.f_at)])),(n_6,gB 6 Log_.enc r_3.1)]:Hp) (by kernel_rfl) (aa (.ref n_6 (0+(r_16.1).toNat) 0) (bD wV rfl 1 rfl wz ?_))
    obtain ⟨e_30,hy_31,h_14⟩:=bind_some h_14
    refine cO 15 (.inr (by kernel_rfl)) (λ_ _ ag=>⟨.inr (.inr (by kernel_rfl)),⟨.inr (.inr (by kernel_rfl)),⟨.inr (.inr (by kernel_rfl)),trivial⟩⟩⟩) 1 sz9 rfl rfl hy_31 (⟨e_30.Player,r_20.1,e_30.No,e_30.Clock,e_30.Long,e_30.Sum⟩:Log_) rfl wz (aF (v':=(gV n_6 6 (r_3.1.set (0+(r_16.1).toNat) (⟨e_30.Player,r_20.1,e_30.No,e_30.Clock,e_30.Long,e_30.Sum⟩:Log_)))) 5 rfl (gX (by simp)) (aF (v':=(gV n_6 6 (r_3.1.set (0+(r_16.1).toNat) (⟨e_30.Player,r_20.1,e_30.No,e_30.Clock,e_30.Long,e_30.Sum⟩:Log_)))) 18 rfl (gX (by simp)) (aF (v':=(gV n_6 6 (r_3.1.set (0+(r_16.1).toNat) (⟨e_30.Player,r_20.1,e_30.No,e_30.Clock,e_30.Long,e_30.Sum⟩:Log_)))) 20 rfl (gX (by simp)) (aa (.ref n_6 (0+(r_16.1).toNat) 0) (bD oH rfl 5 rfl wz ?_)))))
    obtain ⟨e_32,hy_33,h_14⟩:=bind_some h_14
    refine cO 18 (.inr (by kernel_rfl)) (λ_ _ ag=>⟨.inr (.inr (by kernel_rfl)),⟨.inr (.inr (by kernel_rfl)),⟨.inr (.inr (by kernel_rfl)),⟨.inr (.inr (by kernel_rfl)),trivial⟩⟩⟩⟩) 1 sz9 rfl rfl hy_33 (⟨e_32.Player,e_32.Item,e_32.No,e_32.Clock,e_32.Long,r_27.1⟩:Log_) rfl wz (aF (v':=(gV n_6 6 ((r_3.1.set (0+(r_16.1).toNat) (⟨e_30.Player,r_20.1,e_30.No,e_30.Clock,e_30.Long,e_30.Sum⟩:Log_)).set (0+(r_16.1).toNat) (⟨e_32.Player,e_32.Item,e_32.No,e_32.Clock,e_32.Long,r_27.1⟩:Log_)))) 5 rfl (gX (by simp)) (aF (v':=(gV n_6 6 ((r_3.1.set (0+(r_16.1).toNat) (⟨e_30.Player,r_20.1,e_30.No,e_30.Clock,e_30.Long,e_30.Sum⟩:Log_)).set (0+(r_16.1).toNat) (⟨e_32.Player,e_32.Item,e_32.No,e_32.Clock,e_32.Long,r_27.1⟩:Log_)))) 18 rfl (gX (by simp)) (aF (v':=(gV n_6 6 ((r_3.1.set (0+(r_16.1).toNat) (⟨e_30.Player,r_20.1,e_30.No,e_30.Clock,e_30.Long,e_30.Sum⟩:Log_)).set (0+(r_16.1).toNat) (⟨e_32.Player,e_32.Item,e_32.No,e_32.Clock,e_32.Long,r_27.1⟩:Log_)))) 20 rfl (gX (by simp)) (af ?_))))
    obtain rfl:=ae h_14
    exact cu
   ·refine aA rfl hc_15 (ay ?_)
    obtain rfl:=ae h_14
    exact cu
  ·rintro ⟨⟩ _ sl_ H_ hp_ hq_
   refine aJ _ hp_ hq_ (au (au ?_))
   obtain ⟨v_34,h_35,hF⟩:=bind_some hF
   refine aH [(0,(.ref (ak 0) 0 0)),(5,(gV n_6 6 v_13.1)),(47,(vB v_34.1))] [((ak 0),some (.cells 2 [(vL eI v_34.2.1),(vI v_34.2.2)])),(n_6,gB 6 Log_.enc v_13.1)] ?_ ?_
   ·refine av (aa (gV n_6 6 v_13.1) (BH lK rfl wz (aa (vB (decide ((v_13.1.length:Int)>0))) ?_)))
    rcases ah h_35 with⟨hc_36,h_35⟩|⟨hc_36,h_35⟩
    ·refine aD rfl hc_36 wz (aL (.ref (ak 0) 0 0) wa rfl ?_)
     obtain ⟨r_37,hr_38,h_35⟩:=bind_some h_35
     refine dL 0 [0] il ft (jD hr_38) rfl hb5 rfl (by kernel_rfl) (by kernel_rfl) (by kernel_rfl) (by kernel_rfl) (by kernel_rfl) (by kernel_rfl) (by kernel_rfl) (by decide) (by kernel_rfl) wa (vB r_37.1) (by kernel_rfl) ([((ak 0),some (.cells 2 [(vL eI r_37.2.L),(vI r_37.2.f_at)])),(n_6,gB 6 Log_.enc v_13.1)]:Hp) (by kernel_rfl) (aa (vB r_37.1) (af ?_))
     obtain rfl:=ae h_35
     exact cu
    ·refine aD rfl hc_36 wz (ai (ai (aa (vB false) (af ?_))))
     obtain rfl:=ae h_35
     exact cu
   ·rintro ⟨⟩ _ sl_ H_ hp_ hq_
    refine aJ _ hp_ hq_ ?_
    obtain ⟨v_40,h_41,hF⟩:=bind_some hF
    refine aH [(5,(gV n_6 6 v_40.1))] [((ak 0),some (.cells 2 [(vL eI v_40.2.1),(vI v_40.2.2)])),(n_6,gB 6 Log_.enc v_40.1)] ?_ ?_
    ·rcases ah h_41 with⟨hc_42,h_41⟩|⟨hc_42,h_41⟩
     ·refine aB rfl hc_42 (aj (aa (gV n_6 6 v_13.1) (aa (.ref (ak 0) 0 0) (aa (gV n_6 6 v_13.1) (BH lK rfl wz ?_)))))
      obtain ⟨r_43,hr_44,h_41⟩:=bind_some h_41
      refine dL 0 [0] il ft (iw hr_44) rfl hb7 rfl (by kernel_rfl) (by kernel_rfl) (by kernel_rfl) (by kernel_rfl) (by kernel_rfl) (by kernel_rfl) (by kernel_rfl) (by decide) (by kernel_rfl) wz (vI r_43.1) (by kernel_rfl) ([((ak 0),some (.cells 2 [(vL eI r_43.2.L),(vI r_43.2.f_at)])),(n_6,gB 6 Log_.enc v_13.1)]:Hp) (by kernel_rfl) ?_
      obtain ⟨_,hi_46,h_41⟩:=bind_some h_41
      refine FD bg rfl rfl (aW hi_46) (aM hi_46) wz (aa (.ref n_6 (0+(r_43.1).toNat) 0) (af (aj (aa (.ref (ak 0) 0 0) ?_))))
      obtain ⟨r_47,hr_48,h_41⟩:=bind_some h_41
      refine dL 0 [0] il ft (iw hr_48) rfl hb7 rfl (by kernel_rfl) (by kernel_rfl) (by kernel_rfl) (by kernel_rfl) (by kernel_rfl) (by kernel_rfl) (by kernel_rfl) (by decide) (by kernel_rfl) wz (vI r_47.1) (by kernel_rfl) ([((ak 0),some (.cells 2 [(vL eI r_47.2.L),(vI r_47.2.f_at)])),(n_6,gB 6 Log_.enc v_13.1)]:Hp) (by kernel_rfl) (af (aI (aj (aa (vB (r_47.1==0)) (aa (vB (r_47.1==0)) (af ?_))))))
      rcases ah h_41 with⟨hc_50,h_41⟩|⟨hc_50,h_41⟩
      ·refine aB rfl hc_50 (av (aa (.ref n_6 (0+(r_43.1).toNat) 0) (aa (.ref n_6 (0+(r_43.1).toNat) 0) (aa (.ref (ak 0) 0 0) (aa (.ref n_6 (0+(r_43.1).toNat) 0) (aa (.ref n_6 (0+(r_43.1).toNat) 0) (bD kv rfl 0 rfl wz ?_)))))))
       obtain ⟨e_51,hy_52,h_41⟩:=bind_some h_41
       refine aZ 0 1 il ft sz9 ag9 rfl rfl hy_52 (vS e_51.Player) rfl wz (kL (([e_51.Player,(⟨#[]⟩:ByteArray),(⟨#[65]⟩:ByteArray)]:List ByteArray).map eS) AO C8 rfl rfl rfl rfl rfl wz ?_)
       obtain ⟨r_53,hr_54,h_41⟩:=bind_some h_41
       refine dL 0 [0] il ft (jC hr_54) rfl Ic rfl (by kernel_rfl) (by kernel_rfl) (by kernel_rfl) (by kernel_rfl) (by kernel_rfl) (by kernel_rfl) (by kernel_rfl) (by decide) (by kernel_rfl) wz (vS r_53.1) (by kernel_rfl) ([((ak 0),some (.cells 2 [(vL eI r_53.2.L),(vI r_53.2.f_at)])),(n_6,gB 6 Log_.enc v_13.1)]:Hp) (by kernel_rfl) (aa (.ref (ak 0) 0 0) (kL (([(⟨#[105,97]⟩:ByteArray),(⟨#[]⟩:ByteArray)]:List ByteArray).map eS) AO C8 rfl rfl rfl rfl rfl wz ?_))
       obtain ⟨r_56,hr_57,h_41⟩:=bind_some h_41
       refine dL 0 [0] il ft (jC hr_57) rfl Ic rfl (by kernel_rfl) (by kernel_rfl) (by kernel_rfl) (by kernel_rfl) (by kernel_rfl) (by kernel_rfl) (by kernel_rfl) (by decide) (by kernel_rfl) wz (vS r_56.1) (by kernel_rfl) ([((ak 0),some (.cells 2 [(vL eI r_56.2.L),(vI r_56.2.f_at)])),(n_6,gB 6 Log_.enc v_13.1)]:Hp) (by kernel_rfl) (aa (.ref n_6 (0+(r_43.1).toNat) 0) (bD kv rfl 0 rfl wz ?_))
       obtain ⟨e_59,hy_60,h_41⟩:=bind_some h_41
       refine cO 0 il ft 1 sz9 rfl rfl hy_60 (⟨r_53.1,e_59.Item,e_59.No,e_59.Clock,e_59.Long,e_59.Sum⟩:Log_) rfl wz (aF (v':=(gV n_6 6 (v_13.1.set (0+(r_43.1).toNat) (⟨r_53.1,e_59.Item,e_59.No,e_59.Clock,e_59.Long,e_59.Sum⟩:Log_)))) 5 rfl (gX (by simp)) (aF (v':=(gV n_6 6 (v_13.1.set (0+(r_43.1).toNat) (⟨r_53.1,e_59.Item,e_59.No,e_59.Clock,e_59.Long,e_59.Sum⟩:Log_)))) 48 rfl (gX (by simp)) (aF (v':=(gV n_6 6 (v_13.1.set (0+(r_43.1).toNat) (⟨r_53.1,e_59.Item,e_59.No,e_59.Clock,e_59.Long,e_59.Sum⟩:Log_)))) 50 rfl (gX (by simp)) (aa (.ref n_6 (0+(r_43.1).toNat) 0) (bD wV rfl 1 rfl wz ?_)))))
       obtain ⟨e_61,hy_62,h_41⟩:=bind_some h_41
       refine cO 0 il ft 1 sz9 rfl rfl hy_62 (⟨e_61.Player,r_56.1,e_61.No,e_61.Clock,e_61.Long,e_61.Sum⟩:Log_) rfl wz (aF (v':=(gV n_6 6 ((v_13.1.set (0+(r_43.1).toNat) (⟨r_53.1,e_59.Item,e_59.No,e_59.Clock,e_59.Long,e_59.Sum⟩:Log_)).set (0+(r_43.1).toNat) (⟨e_61.Player,r_56.1,e_61.No,e_61.Clock,e_61.Long,e_61.Sum⟩:Log_)))) 5 rfl (gX (by simp)) (aF (v':=(gV n_6 6 ((v_13.1.set (0+(r_43.1).toNat) (⟨r_53.1,e_59.Item,e_59.No,e_59.Clock,e_59.Long,e_59.Sum⟩:Log_)).set (0+(r_43.1).toNat) (⟨e_61.Player,r_56.1,e_61.No,e_61.Clock,e_61.Long,e_61.Sum⟩:Log_)))) 48 rfl (gX (by simp)) (aF (v':=(gV n_6 6 ((v_13.1.set (0+(r_43.1).toNat) (⟨r_53.1,e_59.Item,e_59.No,e_59.Clock,e_59.Long,e_59.Sum⟩:Log_)).set (0+(r_43.1).toNat) (⟨e_61.Player,r_56.1,e_61.No,e_61.Clock,e_61.Long,e_61.Sum⟩:Log_)))) 50 rfl (gX (by simp)) (af ?_))))
       obtain rfl:=ae h_41
       exact cu
      ·refine aA rfl hc_50 (aj (aa (vB (r_47.1==1)) (aa (vB (r_47.1==1)) (af ?_))))
       rcases ah h_41 with⟨hc_63,h_41⟩|⟨hc_63,h_41⟩
       ·refine aB rfl hc_63 (av (aa (.ref n_6 (0+(r_43.1).toNat) 0) (aa (.ref (ak 0) 0 0) ?_)))
        obtain ⟨r_64,hr_65,h_41⟩:=bind_some h_41
        refine dL 0 [0] il ft (nO hr_65) rfl hb23 rfl (by kernel_rfl) (by kernel_rfl) (by kernel_rfl) (by kernel_rfl) (by kernel_rfl) (by kernel_rfl) (by kernel_rfl) (by decide) (by kernel_rfl) wz (vI r_64.1) (by kernel_rfl) ([((ak 0),some (.cells 2 [(vL eI r_64.2.L),(vI r_64.2.f_at)])),(n_6,gB 6 Log_.enc v_13.1)]:Hp) (by kernel_rfl) (aa (.ref n_6 (0+(r_43.1).toNat) 0) (bD kH rfl 2 rfl wz ?_))
        obtain ⟨e_67,hy_68,h_41⟩:=bind_some h_41
        refine cO 0 il ft 1 sz3 rfl rfl hy_68 (⟨e_67.Player,e_67.Item,r_64.1,e_67.Clock,e_67.Long,e_67.Sum⟩:Log_) rfl wz (aF (v':=(gV n_6 6 (v_13.1.set (0+(r_43.1).toNat) (⟨e_67.Player,e_67.Item,r_64.1,e_67.Clock,e_67.Long,e_67.Sum⟩:Log_)))) 5 rfl (gX (by simp)) (aF (v':=(gV n_6 6 (v_13.1.set (0+(r_43.1).toNat) (⟨e_67.Player,e_67.Item,r_64.1,e_67.Clock,e_67.Long,e_67.Sum⟩:Log_)))) 48 rfl (gX (by simp)) (aF (v':=(gV n_6 6 (v_13.1.set (0+(r_43.1).toNat) (⟨e_67.Player,e_67.Item,r_64.1,e_67.Clock,e_67.Long,e_67.Sum⟩:Log_)))) 50 rfl (gX (by simp)) (af ?_))))
        obtain rfl:=ae h_41
        exact cu
       ·refine aA rfl hc_63 (aj (aa (vB (r_47.1==2)) (aa (vB (r_47.1==2)) (af ?_))))
        rcases ah h_41 with⟨hc_69,h_41⟩|⟨hc_69,h_41⟩
        ·refine aB rfl hc_69 (av (aa (.ref n_6 (0+(r_43.1).toNat) 0) (aa (.ref n_6 (0+(r_43.1).toNat) 0) (aa (.ref (ak 0) 0 0) ?_))))
         obtain ⟨r_70,hr_71,h_41⟩:=bind_some h_41
         refine dL 0 [0] il ft (nO hr_71) rfl hb23 rfl (by kernel_rfl) (by kernel_rfl) (by kernel_rfl) (by kernel_rfl) (by kernel_rfl) (by kernel_rfl) (by kernel_rfl) (by decide) (by kernel_rfl) wz (vI r_70.1) (by kernel_rfl) ([((ak 0),some (.cells 2 [(vL eI r_70.2.L),(vI r_70.2.f_at)])),(n_6,gB 6 Log_.enc v_13.1)]:Hp) (by kernel_rfl) (aa (.ref (ak 0) 0 0) ?_)
         obtain ⟨r_73,hr_74,h_41⟩:=bind_some h_41
         refine dL 0 [0] il ft (nO hr_74) rfl hb23 rfl (by kernel_rfl) (by kernel_rfl) (by kernel_rfl) (by kernel_rfl) (by kernel_rfl) (by kernel_rfl) (by kernel_rfl) (by decide) (by kernel_rfl) wz (vI r_73.1) (by kernel_rfl) ([((ak 0),some (.cells 2 [(vL eI r_73.2.L),(vI r_73.2.f_at)])),(n_6,gB 6 Log_.enc v_13.1)]:Hp) (by kernel_rfl) (aa (.ref n_6 (0+(r_43.1).toNat) 0) (bD zT rfl 3 rfl wz ?_))
         obtain ⟨e_76,hy_77,h_41⟩:=bind_some h_41
         refine cO 0 il ft 1 sz3 rfl rfl hy_77 (⟨e_76.Player,e_76.Item,e_76.No,r_70.1,e_76.Long,e_76.Sum⟩:Log_) rfl wz (aF (v':=(gV n_6 6 (v_13.1.set (0+(r_43.1).toNat) (⟨e_76.Player,e_76.Item,e_76.No,r_70.1,e_76.Long,e_76.Sum⟩:Log_)))) 5 rfl (gX (by simp)) (aF (v':=(gV n_6 6 (v_13.1.set (0+(r_43.1).toNat) (⟨e_76.Player,e_76.Item,e_76.No,r_70.1,e_76.Long,e_76.Sum⟩:Log_)))) 48 rfl (gX (by simp)) (aF (v':=(gV n_6 6 (v_13.1.set (0+(r_43.1).toNat) (⟨e_76.Player,e_76.Item,e_76.No,r_70.1,e_76.Long,e_76.Sum⟩:Log_)))) 50 rfl (gX (by simp)) (aa (.ref n_6 (0+(r_43.1).toNat) 0) (bD wS rfl 4 rfl wz ?_)))))
         obtain ⟨e_78,hy_79,h_41⟩:=bind_some h_41
         refine cO 0 il ft 1 sz3 rfl rfl hy_79 (⟨e_78.Player,e_78.Item,e_78.No,e_78.Clock,r_73.1,e_78.Sum⟩:Log_) rfl wz (aF (v':=(gV n_6 6 ((v_13.1.set (0+(r_43.1).toNat) (⟨e_76.Player,e_76.Item,e_76.No,r_70.1,e_76.Long,e_76.Sum⟩:Log_)).set (0+(r_43.1).toNat) (⟨e_78.Player,e_78.Item,e_78.No,e_78.Clock,r_73.1,e_78.Sum⟩:Log_)))) 5 rfl (gX (by simp)) (aF (v':=(gV n_6 6 ((v_13.1.set (0+(r_43.1).toNat) (⟨e_76.Player,e_76.Item,e_76.No,r_70.1,e_76.Long,e_76.Sum⟩:Log_)).set (0+(r_43.1).toNat) (⟨e_78.Player,e_78.Item,e_78.No,e_78.Clock,r_73.1,e_78.Sum⟩:Log_)))) 48 rfl (gX (by simp)) (aF (v':=(gV n_6 6 ((v_13.1.set (0+(r_43.1).toNat) (⟨e_76.Player,e_76.Item,e_76.No,r_70.1,e_76.Long,e_76.Sum⟩:Log_)).set (0+(r_43.1).toNat) (⟨e_78.Player,e_78.Item,e_78.No,e_78.Clock,r_73.1,e_78.Sum⟩:Log_)))) 50 rfl (gX (by simp)) (af ?_))))
         obtain rfl:=ae h_41
         exact cu
        ·refine aA rfl hc_69 (av (aa (.ref n_6 (0+(r_43.1).toNat) 0) (aa (.ref (ak 0) 0 0) (kL (([(⟨#[]⟩:ByteArray),(⟨#[120]⟩:ByteArray),(⟨#[48,49,50,51,52,53,54,55,56,57,65,66,67,68,69,70]⟩:ByteArray),(⟨#[48,49,50,51,52,53,54,55,56,57,97,98,99,100,101]⟩:ByteArray)]:List ByteArray).map eS) AO C8 rfl rfl rfl rfl rfl wz ?_))))
         obtain ⟨r_80,hr_81,h_41⟩:=bind_some h_41
         refine dL 0 [0] il ft (jC hr_81) rfl Ic rfl (by kernel_rfl) (by kernel_rfl) (by kernel_rfl) (by kernel_rfl) (by kernel_rfl) (by kernel_rfl) (by kernel_rfl) (by decide) (by kernel_rfl) wz (vS r_80.1) (by kernel_rfl) ([((ak 0),some (.cells 2 [(vL eI r_80.2.L),(vI r_80.2.f_at)])),(n_6,gB 6 Log_.enc v_13.1)]:Hp) (by kernel_rfl) (aa (.ref n_6 (0+(r_43.1).toNat) 0) (bD oH rfl 5 rfl wz ?_))
         obtain ⟨e_83,hy_84,h_41⟩:=bind_some h_41
         refine cO 0 il ft 1 sz9 rfl rfl hy_84 (⟨e_83.Player,e_83.Item,e_83.No,e_83.Clock,e_83.Long,r_80.1⟩:Log_) rfl wz (aF (v':=(gV n_6 6 (v_13.1.set (0+(r_43.1).toNat) (⟨e_83.Player,e_83.Item,e_83.No,e_83.Clock,e_83.Long,r_80.1⟩:Log_)))) 5 rfl (gX (by simp)) (aF (v':=(gV n_6 6 (v_13.1.set (0+(r_43.1).toNat) (⟨e_83.Player,e_83.Item,e_83.No,e_83.Clock,e_83.Long,r_80.1⟩:Log_)))) 48 rfl (gX (by simp)) (aF (v':=(gV n_6 6 (v_13.1.set (0+(r_43.1).toNat) (⟨e_83.Player,e_83.Item,e_83.No,e_83.Clock,e_83.Long,r_80.1⟩:Log_)))) 50 rfl (gX (by simp)) (af ?_))))
         obtain rfl:=ae h_41
         exact cu
     ·refine aA rfl hc_42 (ay ?_)
      obtain rfl:=ae h_41
      exact cu
    ·rintro ⟨⟩ _ sl_ H_ hp_ hq_
     refine aJ _ hp_ hq_ (aj (aa (gV n_6 6 v_40.1) (aa (gV n_6 6 v_40.1) (af (lT 1 rfl (jN 4 1 rfl rfl (jN 5 1 rfl rfl (jN 99 1 rfl rfl ?_))))))))
     obtain rfl:=ae hF
     exact aN (AC (.inr rfl) [(vL Log_.enc v_40.1)] _ [0] [ak 0] ⟨rfl,trivial⟩ (.cons (mE rfl rfl) (.nil)) (by kernel_rfl) ⟨(by kernel_rfl),trivial⟩ (by decide) (by kernel_rfl))
theorem nJ {s_1:(List Log_)} {r:(List Log_)} (hF:dY s_1=some r) :
  FnM Tryz.prog 6 [(vL Log_.enc s_1)] [] (gV (ak 0) 6 r) (([]:List Box).map some++gO 6 Log_.enc r):=by
 refine FnM.of_wH ⟨Tryz.prog,8,[],[]⟩ rfl Tryz.func6 rfl rfl (lb_ rfl) (by kernel_rfl) ?_
 unfold dY at hF
 refine aj (aa .nil (af (au (aj (aa (vL Log_.enc s_1) (h_nileq lK rfl wz (λb_2 hb_3=>af ?_)))))))
 cases b_2 with
 | true =>
  refine aB rfl rfl ?_
  obtain rfl:=hb_3 rfl
  replace hF:=HV hF
  refine aj (aa .nil (af (sH (λn_4 => ?_))))
  obtain rfl:=ae hF
  exact aN (finG (outs:=([]:List Box)) (.inr rfl) 0 rfl rfl rfl (by kernel_rfl) (by kernel_rfl))
 | false =>
  refine aA rfl rfl (ay (aj (h_lit0 bg ez26 rfl wz (aa (vL Log_.enc s_1) ?_))))
  obtain ⟨a_5,hz_6,hF⟩:=bind_some hF
  refine h_appn 0 (.inl rfl) wh wh bf z31 rfl (by decide) GK (by decide) (λ_=>rfl) rfl rfl hz_6 wz (λn_7=>aa (gV n_7 6 a_5) (af ?_))
  obtain rfl:=ae hF
  exact aN (finG (outs:=([]:List Box)) (.inr rfl) 0 rfl rfl rfl (by kernel_rfl) (by kernel_rfl))
theorem o6 {s_1:ByteArray} {r:Bool} (hF:mQ s_1=some r) :
  FnM Tryz.prog 53 [(vS s_1)] [] (vB r) []:=by
 refine FnM.of_wH ⟨Tryz.prog,48,[],[]⟩ rfl Tryz.func53 rfl rfl (lb_ rfl) (by kernel_rfl) ?_
 unfold mQ at hF
 refine aj (aa (vB false) (af (au (aj (aa (vI 0) (af ?_))))))
 obtain ⟨o_10,hj_11,hF⟩:=bind_some hF
 obtain ⟨nq_33,hj_11⟩:=aP hj_11
 refine aU (λ(s_7:Int)=>[(0,(vS s_1))]) (λ(s_7:Int)=>[]) (λ(k_2:Nat)=>(λ(s_7:Int)=>[(0,(vS s_1)),(3,(vI s_7))])) (λs=>ll s_1 s) o_10 nq_33 0 hj_11 rfl (aC rfl) ?_ ?_
 ·rintro ⟨k_2,s_7⟩ hL_9
  dsimp only at hL_9
  cases k_2 with
  | zero=>cases hL_9
  | succ k_2 =>
   obtain ⟨c_,hc_8,hL_9⟩:=bind_some hL_9
   unfold ll at hc_8
   refine au (aj (aa (vI s_7) (aa (vS s_1) (tQ un9 rfl wz (aa (vB (decide (s_7<(s_1.size:Int)))) (af ?_))))))
   rcases ah hc_8 with⟨hc_12,hc_8⟩|⟨hc_12,hc_8⟩
   ·refine aB rfl hc_12 (ay (au (aI (aj (aa (vS s_1) (aa (vI s_7) ?_))))))
    obtain ⟨b_13,hy_14,hc_8⟩:=bind_some hc_8
    refine vo un9 rfl rfl hy_14 wz (aa (.d (.int .u8 (b_13.toNat:Int))) (af (au ?_)))
    obtain ⟨v_15,h_16,hc_8⟩:=bind_some hc_8
    refine aH [(0,(vS s_1)),(3,(vI s_7)),(40,(vB v_15))] [] ?_ ?_
    ·refine av (aa (.d (.int .u8 (b_13.toNat:Int))) (aa (vB (decide ((b_13.toNat:Int)>=97))) ?_))
     rcases ah h_16 with⟨hc_17,h_16⟩|⟨hc_17,h_16⟩
     ·refine aD rfl hc_17 wz (aL (.d (.int .u8 (b_13.toNat:Int))) wa rfl (aL (vB (decide ((b_13.toNat:Int)<=122))) wa rfl (aa (vB (decide ((b_13.toNat:Int)<=122))) ?_)))
      rcases ah h_16 with⟨hc_18,h_16⟩|⟨hc_18,h_16⟩
      ·refine aD rfl hc_18 wz (ai (ai (ai (jh (wn rfl rfl) (jh (wn rfl rfl) (jh (wn rfl rfl) (jh (wn rfl rfl) (jh (wn rfl rfl) (jh (wn rfl rfl) (jh (wn rfl rfl) (jh (wn rfl rfl) (jh (wn rfl rfl) (jh (wn rfl rfl) (jh (wn rfl rfl) (jh (wn rfl rfl) (jh (wn rfl rfl) (jh (wn rfl rfl) (ai (aa (vB true) (aa (vB false) (af ?_)))))))))))))))))))))
       obtain rfl:=ae h_16
       exact cu
      ·refine aD rfl hc_18 wz (aL (vI s_7) wa rfl (aL (vB (decide (s_7>0))) wa rfl ?_))
       rcases ah h_16 with⟨hc_19,h_16⟩|⟨hc_19,h_16⟩
       ·refine aD rfl hc_19 wa (aL (.d (.int .u8 (b_13.toNat:Int))) wa rfl (aL (vB (decide ((b_13.toNat:Int)>=48))) wa rfl ?_))
        rcases ah h_16 with⟨hc_20,h_16⟩|⟨hc_20,h_16⟩
        ·refine aD rfl hc_20 wa (aL (.d (.int .u8 (b_13.toNat:Int))) wa rfl (aL (vB (decide ((b_13.toNat:Int)<=57))) wa rfl (aL (vB (decide ((b_13.toNat:Int)<=57))) wa rfl ?_)))
         rcases ah h_16 with⟨hc_21,h_16⟩|⟨hc_21,h_16⟩
         ·refine aD rfl hc_21 wa (ai (ai (aL (vB true) wa rfl (aL (vB true) wa rfl (ai (ai (aL (vB true) wa rfl (aL (vB true) wa rfl (aa (vB true) (aa (vB false) (af ?_)))))))))))
          obtain rfl:=ae h_16
          exact cu
         ·refine aD rfl hc_21 wa (aL (.d (.int .u8 (b_13.toNat:Int))) wa rfl (aL (vB ((b_13.toNat:Int)==45)) wa rfl (aL (vB ((b_13.toNat:Int)==45)) wa rfl ?_)))
          rcases ah h_16 with⟨hc_22,h_16⟩|⟨hc_22,h_16⟩
          ·refine aD rfl hc_22 wa (ai (ai (aL (vB true) wa rfl (aL (vB true) wa rfl (aa (vB true) (aa (vB false) (af ?_)))))))
           obtain rfl:=ae h_16
           exact cu
          ·refine aD rfl hc_22 wa (aL (.d (.int .u8 (b_13.toNat:Int))) wa rfl (aL (vB ((b_13.toNat:Int)==95)) wa rfl (aL (vB ((b_13.toNat:Int)==95)) wa rfl (aL (vB ((b_13.toNat:Int)==95)) wa rfl (aa (vB ((b_13.toNat:Int)==95)) (aa (vB (!((b_13.toNat:Int)==95))) (af ?_)))))))
           obtain rfl:=ae h_16
           exact cu
        ·refine aD rfl hc_20 wa (ai (ai (aL (vB false) wa rfl (aL (vB false) wa rfl (aL (.d (.int .u8 (b_13.toNat:Int))) wa rfl (aL (vB ((b_13.toNat:Int)==45)) wa rfl (aL (vB ((b_13.toNat:Int)==45)) wa rfl ?_)))))))
         rcases ah h_16 with⟨hc_23,h_16⟩|⟨hc_23,h_16⟩
         ·refine aD rfl hc_23 wa (ai (ai (aL (vB true) wa rfl (aL (vB true) wa rfl (aa (vB true) (aa (vB false) (af ?_)))))))
          obtain rfl:=ae h_16
          exact cu
         ·refine aD rfl hc_23 wa (aL (.d (.int .u8 (b_13.toNat:Int))) wa rfl (aL (vB ((b_13.toNat:Int)==95)) wa rfl (aL (vB ((b_13.toNat:Int)==95)) wa rfl (aL (vB ((b_13.toNat:Int)==95)) wa rfl (aa (vB ((b_13.toNat:Int)==95)) (aa (vB (!((b_13.toNat:Int)==95))) (af ?_)))))))
          obtain rfl:=ae h_16
          exact cu
       ·refine aD rfl hc_19 wa (ai (ai (ai (jh (wn rfl rfl) (jh (wn rfl rfl) (ai (ai (jh (wn rfl rfl) (jh (wn rfl rfl) (ai (ai (jh (wn rfl rfl) (jh (wn rfl rfl) (ai (aL (vB false) wa rfl (aa (vB false) (aa (vB true) (af ?_))))))))))))))))))
        obtain rfl:=ae h_16
        exact cu
     ·refine aD rfl hc_17 wz (ai (ai (aa (vB false) (aa (vB false) (aL (vI s_7) wa rfl (aL (vB (decide (s_7>0))) wa rfl ?_))))))
      rcases ah h_16 with⟨hc_24,h_16⟩|⟨hc_24,h_16⟩
      ·refine aD rfl hc_24 wa (aL (.d (.int .u8 (b_13.toNat:Int))) wa rfl (aL (vB (decide ((b_13.toNat:Int)>=48))) wa rfl ?_))
       rcases ah h_16 with⟨hc_25,h_16⟩|⟨hc_25,h_16⟩
       ·refine aD rfl hc_25 wa (aL (.d (.int .u8 (b_13.toNat:Int))) wa rfl (aL (vB (decide ((b_13.toNat:Int)<=57))) wa rfl (aL (vB (decide ((b_13.toNat:Int)<=57))) wa rfl ?_)))
        rcases ah h_16 with⟨hc_26,h_16⟩|⟨hc_26,h_16⟩
        ·refine aD rfl hc_26 wa (ai (ai (aL (vB true) wa rfl (aL (vB true) wa rfl (ai (ai (aL (vB true) wa rfl (aL (vB true) wa rfl (aa (vB true) (aa (vB false) (af ?_)))))))))))
         obtain rfl:=ae h_16
         exact cu
        ·refine aD rfl hc_26 wa (aL (.d (.int .u8 (b_13.toNat:Int))) wa rfl (aL (vB ((b_13.toNat:Int)==45)) wa rfl (aL (vB ((b_13.toNat:Int)==45)) wa rfl ?_)))
         rcases ah h_16 with⟨hc_27,h_16⟩|⟨hc_27,h_16⟩
         ·refine aD rfl hc_27 wa (ai (ai (aL (vB true) wa rfl (aL (vB true) wa rfl (aa (vB true) (aa (vB false) (af ?_)))))))
          obtain rfl:=ae h_16
          exact cu
         ·refine aD rfl hc_27 wa (aL (.d (.int .u8 (b_13.toNat:Int))) wa rfl (aL (vB ((b_13.toNat:Int)==95)) wa rfl (aL (vB ((b_13.toNat:Int)==95)) wa rfl (aL (vB ((b_13.toNat:Int)==95)) wa rfl (aa (vB ((b_13.toNat:Int)==95)) (aa (vB (!((b_13.toNat:Int)==95))) (af ?_)))))))
          obtain rfl:=ae h_16
          exact cu
       ·refine aD rfl hc_25 wa (ai (ai (aL (vB false) wa rfl (aL (vB false) wa rfl (aL (.d (.int .u8 (b_13.toNat:Int))) wa rfl (aL (vB ((b_13.toNat:Int)==45)) wa rfl (aL (vB ((b_13.toNat:Int)==45)) wa rfl ?_)))))))
        rcases ah h_16 with⟨hc_28,h_16⟩|⟨hc_28,h_16⟩
        ·refine aD rfl hc_28 wa (ai (ai (aL (vB true) wa rfl (aL (vB true) wa rfl (aa (vB true) (aa (vB false) (af ?_)))))))
         obtain rfl:=ae h_16
         exact cu
        ·refine aD rfl hc_28 wa (aL (.d (.int .u8 (b_13.toNat:Int))) wa rfl (aL (vB ((b_13.toNat:Int)==95)) wa rfl (aL (vB ((b_13.toNat:Int)==95)) wa rfl (aL (vB ((b_13.toNat:Int)==95)) wa rfl (aa (vB ((b_13.toNat:Int)==95)) (aa (vB (!((b_13.toNat:Int)==95))) (af ?_)))))))
         obtain rfl:=ae h_16
         exact cu
      ·refine aD rfl hc_24 wa (ai (ai (ai (jh (wn rfl rfl) (jh (wn rfl rfl) (ai (ai (jh (wn rfl rfl) (jh (wn rfl rfl) (ai (ai (jh (wn rfl rfl) (jh (wn rfl rfl) (ai (aL (vB false) wa rfl (aa (vB false) (aa (vB true) (af ?_))))))))))))))))))
       obtain rfl:=ae h_16
       exact cu
    ·rintro ⟨⟩ _ sl_ H_ hp_ hq_
     refine aJ _ hp_ hq_ ?_
     rcases ah hc_8 with⟨hc_29,hc_8⟩|⟨hc_29,hc_8⟩
     ·refine aB rfl hc_29 (aj (aa (vB false) (af ?_)))
      obtain rfl:=ae hc_8
      obtain rfl:=ae hL_9
      obtain rfl:=ae hF
      exact aN (bz [(vB false)] ⟨rfl,trivial⟩)
     ·refine aA rfl hc_29 (ay (av (aa (vI s_7) (aa (vI (w64 (s_7+1))) (aa (vI (w64 (s_7+1))) (af ?_))))))
      obtain rfl:=ae hc_8
      exact aK (k_2,(w64 (s_7+1))) hL_9 (ls_ _) rfl (aC rfl)
   ·refine aA rfl hc_12 (aV ?_)
    obtain rfl:=ae hc_8
    obtain rfl:=ae hL_9
    exact aX (s_7) rfl rfl (aC rfl)
 ·rintro s_7 ho_ sl_ H_ hp_ hq_
  subst ho_
  refine aJ _ hp_ hq_ (au ?_)
  obtain ⟨v_30,h_31,hF⟩:=bind_some hF
  refine aH [(2,(vB v_30))] [] ?_ ?_
  ·refine av (aa (vS s_1) (aa (vB (sNe s_1 (⟨#[]⟩:ByteArray))) ?_))
   rcases ah h_31 with⟨hc_32,h_31⟩|⟨hc_32,h_31⟩
   ·refine aD rfl hc_32 wz (aL (vS s_1) wa rfl (tQ un9 rfl wa (aL (vB (decide ((s_1.size:Int)<=40))) wa rfl (aa (vB (decide ((s_1.size:Int)<=40))) (aa (vB (decide ((s_1.size:Int)<=40))) (af ?_))))))
    obtain rfl:=ae h_31
    exact cu
   ·refine aD rfl hc_32 wz (ai (ai (ai (aa (vB false) (aa (vB false) (af ?_))))))
    obtain rfl:=ae h_31
    exact cu
  ·rintro ⟨⟩ _ sl_ H_ hp_ hq_
   refine aJ _ hp_ hq_ ?_
   obtain rfl:=ae hF
   exact aN (bz [(vB v_30)] ⟨rfl,trivial⟩)
theorem nA {n_1:Int} {low_2:Int} {high_3:Int} {r:Bool} (hF:kC n_1 low_2 high_3=some r) :
  FnM Tryz.prog 54 [(vI n_1),(vI low_2),(vI high_3)] [] (vB r) []:=by
 refine FnM.of_wH ⟨Tryz.prog,15,[],[]⟩ rfl Tryz.func54 rfl rfl (lb_ rfl) (by kernel_rfl) ?_
 unfold kC at hF
 refine aj (aa (vB false) (af (au ?_)))
 obtain ⟨v_4,h_5,hF⟩:=bind_some hF
 refine aH [(6,(vB v_4))] [] ?_ ?_
 ·refine av (aa (vI n_1) (aa (vI low_2) (aa (vB (decide (n_1<low_2))) ?_)))
  rcases ah h_5 with⟨hc_6,h_5⟩|⟨hc_6,h_5⟩
  ·refine aD rfl hc_6 wz (ai (ai (ai (aa (vB true) (aa (vB true) (af ?_))))))
   obtain rfl:=ae h_5
   exact cu
  ·refine aD rfl hc_6 wz (aL (vI n_1) wa rfl (aL (vI high_3) wa rfl (aL (vB (decide (n_1>high_3))) wa rfl (aa (vB (decide (n_1>high_3))) (aa (vB (decide (n_1>high_3))) (af ?_))))))
   obtain rfl:=ae h_5
   exact cu
 ·rintro ⟨⟩ _ sl_ H_ hp_ hq_
  refine aJ _ hp_ hq_ ?_
  obtain rfl:=ae hF
  exact aN (bz [(vB v_4)] ⟨rfl,trivial⟩)
theorem vJ {l_1:Log_} {r:Int} (hF:lN l_1=some r) :
  FnM Tryz.prog 37 [(.d (.agg (Log_.enc l_1)))] [] (vI r) []:=by
 refine FnM.of_wH ⟨Tryz.prog,26,[],[]⟩ rfl Tryz.func37 rfl rfl (lb_ rfl) (by kernel_rfl) ?_
 unfold lN at hF
 refine aj (q8 0 (.inl rfl) (Log_.v l_1) rfl rfl wz (λn_2=>aa (vI 0) (af (au (au ?_)))))
 obtain ⟨v_3,h_4,hF⟩:=bind_some hF
 refine aH [(1,(.ref n_2 0 0)),(12,(vB v_3))] [(n_2,some (.cells 6 (Log_.v l_1)))] ?_ ?_
 ·refine av (bD kv rfl 0 rfl wz (bE 0 0 il ft sz9 ag9 rfl rfl (vS l_1.Player) rfl wz ?_))
  obtain ⟨r_5,hr_6,h_4⟩:=bind_some h_4
  refine aG (o6 hr_6) rfl hb53 rfl rfl rfl rfl wz (aa (vB (!r_5)) ?_)
  rcases ah h_4 with⟨hc_7,h_4⟩|⟨hc_7,h_4⟩
  ·refine aD rfl hc_7 wz (ai (ai (ai (ai (aa (vB true) (af ?_))))))
   obtain rfl:=ae h_4
   exact cu
  ·refine aD rfl hc_7 wz (bD wV rfl 1 rfl wa (bE 0 0 il ft sz9 ag9 rfl rfl (vS l_1.Item) rfl wa ?_))
   obtain ⟨r_8,hr_9,h_4⟩:=bind_some h_4
   refine aG (o6 hr_9) rfl hb53 rfl rfl rfl rfl wa (aL (vB (!r_8)) wa rfl (aa (vB (!r_8)) (af ?_)))
   obtain rfl:=ae h_4
   exact cu
 ·rintro ⟨⟩ _ sl_ H_ hp_ hq_
  refine aJ _ hp_ hq_ ?_
  rcases ah hF with⟨hc_10,hF⟩|⟨hc_10,hF⟩
  ·refine aB rfl hc_10 (aj (aa (vI 5) (af ?_)))
   obtain rfl:=ae hF
   exact aN (bz [(vI 5)] ⟨rfl,trivial⟩)
  ·refine aA rfl hc_10 (ay (au (au ?_)))
   obtain ⟨v_11,h_12,hF⟩:=bind_some hF
   refine aH [(25,(vB v_11))] [(n_2,some (.cells 6 (Log_.v l_1)))] ?_ ?_
   ·refine av (bD kH rfl 2 rfl wz (bE 0 0 il ft sz3 ag3 rfl rfl (vI l_1.No) rfl wz ?_))
    obtain ⟨r_13,hr_14,h_12⟩:=bind_some h_12
    refine aG (nA hr_14) rfl hb54 rfl rfl rfl rfl wz ?_
    rcases ah h_12 with⟨hc_15,h_12⟩|⟨hc_15,h_12⟩
    ·refine aD rfl hc_15 wz (ai (ai (ai (aa (vB true) (aa (vB true) (ai (ai (ai (aa (vB true) (af ?_))))))))))
     obtain rfl:=ae h_12
     exact cu
    ·refine aD rfl hc_15 wz (bD zT rfl 3 rfl wa (bE 0 0 il ft sz3 ag3 rfl rfl (vI l_1.Clock) rfl wa ?_))
     obtain ⟨r_16,hr_17,h_12⟩:=bind_some h_12
     refine aG (nA hr_17) rfl hb54 rfl rfl rfl rfl wa (aa (vB r_16) ?_)
     rcases ah h_12 with⟨hc_18,h_12⟩|⟨hc_18,h_12⟩
     ·refine aD rfl hc_18 wz (ai (ai (ai (aa (vB true) (af ?_)))))
      obtain rfl:=ae h_12
      exact cu
     ·refine aD rfl hc_18 wz (bD wS rfl 4 rfl wa (bE 0 0 il ft sz3 ag3 rfl rfl (vI l_1.Long) rfl wa ?_))
      obtain ⟨r_19,hr_20,h_12⟩:=bind_some h_12
      refine aG (nA hr_20) rfl hb54 rfl rfl rfl rfl wa (aa (vB r_19) (af ?_))
      obtain rfl:=ae h_12
      exact cu
   ·rintro ⟨⟩ _ sl_ H_ hp_ hq_
    refine aJ _ hp_ hq_ ?_
    rcases ah hF with⟨hc_21,hF⟩|⟨hc_21,hF⟩
    ·refine aB rfl hc_21 (aj (aa (vI 1) (af ?_)))
     obtain rfl:=ae hF
     exact aN (bz [(vI 1)] ⟨rfl,trivial⟩)
    ·refine aA rfl hc_21 (ay (aj (aa (vI 0) (af ?_))))
     obtain rfl:=ae hF
     exact aN (bz [(vI 0)] ⟨rfl,trivial⟩)
theorem yx {x0:ByteArray} {x1:ByteArray} {r:ByteArray} (hF:o5 x0 x1=some r) :
  FnM Tryz.prog 55 [(vS x0),(vS x1)] [] (vS r) [] :=
 Jz rfl Tryz.strings_Trim_ascii  hF
theorem yw {s_1:ByteArray} {r:Bool} (hF:ni s_1=some r) :
  FnM Tryz.prog 38 [(vS s_1)] [] (vB r) []:=by
 refine FnM.of_wH ⟨Tryz.prog,11,[],[]⟩ rfl Tryz.func38 rfl rfl (lb_ rfl) (by kernel_rfl) ?_
 unfold ni at hF
 refine aj (aa (vB false) (af (au ?_)))
 obtain ⟨v_2,h_3,hF⟩:=bind_some hF
 refine aH [(2,(vB v_2))] [] ?_ ?_
 ·refine av (aa (vS s_1) (tQ un9 rfl wz (aa (vB ((s_1.size:Int)==16)) ?_)))
  rcases ah h_3 with⟨hc_4,h_3⟩|⟨hc_4,h_3⟩
  ·refine aD rfl hc_4 wz (aL (vS s_1) wa rfl ?_)
   obtain ⟨r_5,hr_6,h_3⟩:=bind_some h_3
   refine aG (yx hr_6) rfl hb55 rfl rfl rfl rfl wa (aL (vB (sEq r_5 (⟨#[]⟩:ByteArray))) wa rfl (aa (vB (sEq r_5 (⟨#[]⟩:ByteArray))) (aa (vB (sEq r_5 (⟨#[]⟩:ByteArray))) (af ?_))))
   obtain rfl:=ae h_3
   exact cu
  ·refine aD rfl hc_4 wz (ai (ai (ai (aa (vB false) (aa (vB false) (af ?_))))))
   obtain rfl:=ae h_3
   exact cu
 ·rintro ⟨⟩ _ sl_ H_ hp_ hq_
  refine aJ _ hp_ hq_ ?_
  obtain rfl:=ae hF
  exact aN (bz [(vB v_2)] ⟨rfl,trivial⟩)
theorem mY {a_1:ByteArray} {b_2:ByteArray} {r:Int} (hF:je a_1 b_2=some r) :
  FnM Tryz.prog 58 [(vS a_1),(vS b_2)] [] (vI r) []:=by
 refine FnM.of_wH ⟨Tryz.prog,8,[],[]⟩ rfl Tryz.func58 rfl rfl (lb_ rfl) (by kernel_rfl) ?_
 unfold je at hF
 refine aj (aa (vI 0) (af (aj (aa (vS a_1) (aa (vS b_2) (h_ext (I4 (f:=77) Tryz.func77 rfl rfl (by kernel_rfl) (by kernel_rfl) _ _) rfl nb77 rfl wz (aa (vI (u7 a_1 b_2)) (af ?_))))))))
 obtain rfl:=ae hF
 exact aN (bz [(vI (u7 a_1 b_2))] ⟨rfl,trivial⟩)
theorem mF {a_1:ByteArray} {b_2:ByteArray} {r:Int} (hF:strings_Compare a_1 b_2=some r) :
  FnM Tryz.prog 42 [(vS a_1),(vS b_2)] [] (vI r) []:=by
 refine FnM.of_wH ⟨Tryz.prog,8,[],[]⟩ rfl Tryz.func42 rfl rfl (lb_ rfl) (by kernel_rfl) ?_
 unfold strings_Compare at hF
 refine aj (aa (vI 0) (af (aj (aa (vS a_1) (aa (vS b_2) ?_)))))
 obtain ⟨r_3,hr_4,hF⟩:=bind_some hF
 refine aG (mY hr_4) rfl hb58 rfl rfl rfl rfl wz (aa (vI r_3) (af ?_))
 obtain rfl:=ae hF
 exact aN (bz [(vI r_3)] ⟨rfl,trivial⟩)
theorem qF {x_1:Int} {r:Bool} (hF:cmp_isNaN_int x_1=some r) :
  FnM Tryz.prog 59 [(vI x_1)] [] (vB r) []:=by
 refine FnM.of_wH ⟨Tryz.prog,6,[],[]⟩ rfl Tryz.func59 rfl rfl (lb_ rfl) (by kernel_rfl) ?_
 unfold cmp_isNaN_int at hF
 refine aj (aa (vB false) (af (aj (aa (vI x_1) (aa (vI x_1) (aa (vB (x_1 != x_1)) (aa (vB (x_1 != x_1)) (af ?_))))))))
 obtain rfl:=ae hF
 exact aN (bz [(vB (x_1 != x_1))] ⟨rfl,trivial⟩)
theorem pF {x_1:Int} {y_2:Int} {r:Int} (hF:cmp_Compare_int x_1 y_2=some r) :
  FnM Tryz.prog 43 [(vI x_1),(vI y_2)] [] (vI r) []:=by
 refine FnM.of_wH ⟨Tryz.prog,20,[],[]⟩ rfl Tryz.func43 rfl rfl (lb_ rfl) (by kernel_rfl) ?_
 unfold cmp_Compare_int at hF
 refine aj (aa (vI 0) (af (aj (aa (vI x_1) ?_))))
 obtain ⟨r_3,hr_4,hF⟩:=bind_some hF
 refine aG (qF hr_4) rfl hb59 rfl rfl rfl rfl wz (aa (vB r_3) (af (aj (aa (vI y_2) ?_))))
 obtain ⟨r_5,hr_6,hF⟩:=bind_some hF
 refine aG (qF hr_6) rfl hb59 rfl rfl rfl rfl wz (aa (vB r_5) (af (au (aj (aa (vB r_3) (af ?_))))))
 rcases ah hF with⟨hc_7,hF⟩|⟨hc_7,hF⟩
 ·refine aB rfl hc_7 (au (aj (aa (vB r_5) (af ?_))))
  rcases ah hF with⟨hc_8,hF⟩|⟨hc_8,hF⟩
  ·refine aB rfl hc_8 (aj (aa (vI 0) (af ?_)))
   obtain rfl:=ae hF
   exact aN (bz [(vI 0)] ⟨rfl,trivial⟩)
  ·refine aA rfl hc_8 (ay (aj (aa (vI (-1)) (af ?_))))
   obtain rfl:=ae hF
   exact aN (bz [(vI (-1))] ⟨rfl,trivial⟩)
 ·refine aA rfl hc_7 (ay (au (aj (aa (vB r_5) (af ?_)))))
  rcases ah hF with⟨hc_9,hF⟩|⟨hc_9,hF⟩
  ·refine aB rfl hc_9 (aj (aa (vI 1) (af ?_)))
   obtain rfl:=ae hF
   exact aN (bz [(vI 1)] ⟨rfl,trivial⟩)
  ·refine aA rfl hc_9 (ay (au (aj (aa (vI x_1) (aa (vI y_2) (aa (vB (decide (x_1<y_2))) (af ?_)))))))
   rcases ah hF with⟨hc_10,hF⟩|⟨hc_10,hF⟩
   ·refine aB rfl hc_10 (aj (aa (vI (-1)) (af ?_)))
    obtain rfl:=ae hF
    exact aN (bz [(vI (-1))] ⟨rfl,trivial⟩)
   ·refine aA rfl hc_10 (ay (au (aj (aa (vI x_1) (aa (vI y_2) (aa (vB (decide (x_1>y_2))) (af ?_)))))))
    rcases ah hF with⟨hc_11,hF⟩|⟨hc_11,hF⟩
    ·refine aB rfl hc_11 (aj (aa (vI 1) (af ?_)))
     obtain rfl:=ae hF
     exact aN (bz [(vI 1)] ⟨rfl,trivial⟩)
    ·refine aA rfl hc_11 (ay (aj (aa (vI 0) (af ?_))))
     obtain rfl:=ae hF
     exact aN (bz [(vI 0)] ⟨rfl,trivial⟩)
theorem uF {vals_1:(List Int)} {r:Int} (hF:nV vals_1=some r) :
  FnM Tryz.prog 41 [(vL eI vals_1)] [] (vI r) []:=by
 refine FnM.of_wH ⟨Tryz.prog,18,[],[]⟩ rfl Tryz.func41 rfl rfl (lb_ rfl) (by kernel_rfl) ?_
 unfold nV at hF
 refine aj (aa (vI 0) (af (aj (aa (vI 0) (af (au (aj (aa (vL eI vals_1) (iT CL rfl wz (aa (vI 0) (af ?_)))))))))))
 obtain ⟨o_10,hj_11,hF⟩:=bind_some hF
 obtain ⟨hn_6,hj_11⟩:=dI hj_11
 refine jE (λ(s_7:Unit)=>[(3,(vI 0))]) (λ(s_7:Unit)=>[]) (λ(k_2:Nat)=>(λ(s_7:Unit)=>[(3,(vI 0)),(6,(vL eI vals_1)),(7,(vI (vals_1.length:Int))),(8,(vI (k_2:Int)))])) (λk x s=>oh k x s) o_10 vals_1 () hj_11 rfl (aC rfl) ?_ ?_
 ·rintro ⟨k_2,l_3,s_7⟩ ⟨hL_9,hD_5⟩
  dsimp only at hL_9 hD_5
  cases l_3 with
  | nil =>
   obtain rfl:=ae hL_9
   refine aj (aa (vB (decide ((k_2:Int)<(vals_1.length:Int)))) (af ?_))
   refine au (aA rfl (drop_nil hD_5) (aV ?_))
   exact aX (s_7) rfl rfl (aC rfl)
  | cons x_4 l_3 =>
   obtain ⟨c_,hc_8,hL_9⟩:=bind_some hL_9
   refine aj (aa (vB (decide ((k_2:Int)<(vals_1.length:Int)))) (af ?_))
   refine au (aB rfl (iy hD_5) (ay ?_))
   unfold oh at hc_8
   refine au (aI (aj (jQ sK rfl rfl (iW hD_5) rfl wz (fO sz3 ag3 rfl (vI x_4) rfl wz (aa (vI x_4) (af (aj (aa (vI x_4) (aa (vI 0) (aa (vB (x_4 != 0)) (af ?_)))))))))))
   rcases ah hc_8 with⟨hc_12,hc_8⟩|⟨hc_12,hc_8⟩
   ·refine aB rfl hc_12 (aj (aa (vI x_4) (aa (vI x_4) (af ?_))))
    obtain rfl:=ae hc_8
    obtain rfl:=ae hL_9
    obtain rfl:=ae hF
    exact aN (bz [(vI x_4)] ⟨rfl,trivial⟩)
   ·refine aA rfl hc_12 (ay (av (lw (iB hD_5 hn_6) wz rfl (aa (vI ((k_2+1:Nat):Int)) (af ?_)))))
    obtain rfl:=ae hc_8
    exact aK (k_2+1,l_3,()) ⟨hL_9,bR hD_5⟩ (ls_ _) rfl (aC rfl)
 ·rintro s_7 ho_ sl_ H_ hp_ hq_
  subst ho_
  refine aJ _ hp_ hq_ (aj (aa (vI 0) (aa (vI 0) (af ?_))))
  obtain rfl:=ae hF
  exact aN (bz [(vI 0)] ⟨rfl,trivial⟩)
theorem bC {a_1:Log_} {b_2:Log_} {r:Int} (hF:bv a_1 b_2=some r) :
  FnM Tryz.prog 28 [(.d (.agg (Log_.enc a_1))),(.d (.agg (Log_.enc b_2)))] [] (vI r) []:=by
 refine FnM.of_wH ⟨Tryz.prog,17,[],[]⟩ rfl Tryz.func28 rfl rfl (lb_ rfl) (by kernel_rfl) ?_
 unfold bv at hF
 refine aj (q8 0 (.inl rfl) (Log_.v a_1) rfl rfl wz (λn_3=>q8 0 (.inl rfl) (Log_.v b_2) rfl rfl wz (λn_4=>aa (vI 0) (af (au (aQ (bD kv rfl 0 rfl wz (bE 1 0 (.inr (by kernel_rfl)) (λ_ _ ag=>trivial) sz9 ag9 rfl rfl (vS a_1.Player) rfl wz (bD kv rfl 0 rfl wz (bE 3 1 (.inr (by kernel_rfl)) (λ_ _ ag=>⟨.inl ⟨rfl,rfl⟩,trivial⟩) sz9 ag9 rfl rfl (vS b_2.Player) rfl wz ?_))))))))))
 obtain ⟨r_5,hr_6,hF⟩:=bind_some hF
 refine aG (mF hr_6) rfl hb42 rfl rfl rfl rfl wz (bD kH rfl 2 rfl wz (bE 6 0 (.inr (by kernel_rfl)) (λ_ _ ag=>⟨.inl ⟨rfl,rfl⟩,⟨.inl ⟨rfl,rfl⟩,trivial⟩⟩) sz3 ag3 rfl rfl (vI a_1.No) rfl wz (bD kH rfl 2 rfl wz (bE 8 1 (.inr (by kernel_rfl)) (λ_ _ ag=>⟨.inl ⟨rfl,rfl⟩,⟨.inl ⟨rfl,rfl⟩,⟨.inl ⟨rfl,rfl⟩,trivial⟩⟩⟩) sz3 ag3 rfl rfl (vI b_2.No) rfl wz ?_))))
 obtain ⟨r_7,hr_8,hF⟩:=bind_some hF
 refine aG (pF hr_8) rfl hb43 rfl rfl rfl rfl wz (kL (([r_5,r_7]:List Int).map eI) sK y8 rfl rfl rfl rfl rfl wz ?_)
 obtain ⟨r_9,hr_10,hF⟩:=bind_some hF
 refine aG (uF hr_10) rfl hb41 rfl rfl rfl rfl wz (aa (vI r_9) (af ?_))
 obtain rfl:=ae hF
 exact aN (bz [(vI r_9)] ⟨rfl,trivial⟩)
end Go.Proofs.YtdpginbnipklcaaGreatDoor.Law

