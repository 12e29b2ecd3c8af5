/-
 The machine computes these plain functions (written by a program of ours).
-/
import Derived.Test.YtdenjndllgahgaaGreatDoorFacts
import Derived.Test.YtdenjndllgahgaaGreatDoorDefs
import Derived.Test.YtdenjndllgahgaaGreatDoorShelf
open Go Go.Eng Go.Proofs
namespace Go.Proofs.YtdenjndllgahgaaGreatDoor.Law
set_option maxRecDepth 100000
set_option linter.unusedVariables false
set_option maxHeartbeats 1000000
theorem nN {x_1:Int} {n_2:Int} {r:Int} (hF:kT x_1 n_2=some r) :
  FnM Tryz.prog 77 [(vI x_1),(vI n_2)] [] (vI r) []:=by
 refine FnM.of_wH ⟨Tryz.prog,16,[],[]⟩ rfl Tryz.func77 rfl rfl (lb_ rfl) (by kernel_rfl) ?_
 unfold kT at hF
 refine af (aa (ae (vI 0) wz rfl (ai (af (af (aa (ae (vI n_2) wz rfl (ae (vB (decide (n_2<1))) wz rfl (ai ?_)))))))))
 rcases ak hF with⟨hc_3,hF⟩|⟨hc_3,hF⟩
 ·refine aB rfl hc_3 (af (aa (ae (vI 0) wz rfl (ai ?_))))
  obtain rfl:=ah hF
  exact av (aS (.inr rfl) [(vI 0)] ⟨rfl,trivial⟩ rfl rfl rfl)
 ·refine aA rfl hc_3 (ax (af (aa (ae (vI x_1) wz rfl (ae (vI n_2) wz rfl ?_)))))
  obtain ⟨q_4,hz_5,hF⟩:=bind_some hF
  refine h_rem rfl rfl hz_5 wz (ae (vI q_4) wz rfl (ai (af (af (aa (ae (vI q_4) wz rfl (ae (vB (decide (q_4<0))) wz rfl (ai ?_))))))))
  obtain ⟨v_6,h_7,hF⟩:=bind_some hF
  refine aH (β:=Unit) (λ_=>([(0,(vI v_6))]:SL_)) (λ_=>([]:Hp)) (λ_=>True) ?_ ?_
  ·rcases ak h_7 with⟨hc_8,h_7⟩|⟨hc_8,h_7⟩
   ·refine aB rfl hc_8 (aa (ae (vI q_4) wz rfl (ae (vI n_2) wz rfl (ae (vI (w64 (q_4+n_2))) wz rfl (ae (vI (w64 (q_4+n_2))) wz rfl (ai ?_))))))
    obtain rfl:=ah h_7
    exact cu
   ·refine aA rfl hc_8 (ax ?_)
    obtain rfl:=ah h_7
    exact cu
  ·rintro ⟨⟩ _ sl_ H_ hp_ hq_
   refine aV _ hp_ hq_ (af (aa (ae (vI v_6) wz rfl (ae (vI v_6) wz rfl (ai ?_)))))
   obtain rfl:=ah hF
   exact av (aS (.inr rfl) [(vI v_6)] ⟨rfl,trivial⟩ rfl rfl rfl)
theorem dw {s_1:Stream} {n_2:Int} {r:Int×Stream} (hF:bB s_1 n_2=some r) :
  FnM Tryz.prog 30 [(.ref (au 0) 0 0),(vI n_2)] [(.cells 2 [(vL eI s_1.L),(vI s_1.f_at)])] (vI r.1) [some (.cells 2 [(vL eI r.2.L),(vI r.2.f_at)])]:=by
 refine FnM.of_wH ⟨Tryz.prog,64,[],[]⟩ rfl Tryz.func30 rfl rfl (lb_ rfl) (by kernel_rfl) ?_
 unfold bB at hF
 refine af (aa (ae (vI 0) wz rfl (ai (af (aa (ae (.ref (au 0) 0 0) wz rfl (ae (.ref (au 0) 0 0) wz rfl (aO uG rfl 1 rfl wz (aK 0 0 il ft sz3 ag3 rfl rfl (vI s_1.f_at) rfl wz (ae (vI (w64 (s_1.f_at+1))) wz rfl (ae (.ref (au 0) 0 0) wz rfl (aO uG rfl 1 rfl wz (lm 0 il ft 0 sz3 rfl rfl [(vL eI s_1.L),(vI (w64 (s_1.f_at+1)))] rfl wz (ai (af (af (aa (ae (.ref (au 0) 0 0) wz rfl (ae (.ref (au 0) 0 0) wz rfl (aO xD rfl 0 rfl wz (aK 0 0 il ft sz22 ag22 rfl rfl (vL eI s_1.L) rfl wz (eP Cw rfl wz (ae (vB ((s_1.L.length:Int)==0)) wz rfl ?_)))))))))))))))))))))))
 refine ai ?_
 rcases ak hF with⟨hc_3,hF⟩|⟨hc_3,hF⟩
 ·refine aB rfl hc_3 (af (aa (ae (.ref (au 0) 0 0) wz rfl (ae (.ref (au 0) 0 0) wz rfl (aO uG rfl 1 rfl wz (aK 0 0 il ft sz3 ag3 rfl rfl (vI (w64 (s_1.f_at+1))) rfl wz (ae (vI (w64 ((w64 (s_1.f_at+1))*7919))) wz rfl (ae (vI n_2) wz rfl ?_))))))))
  obtain ⟨r_4,hr_5,hF⟩:=bind_some hF
  refine ay (nN hr_5) rfl hb77 rfl rfl rfl rfl wz (ae (vI r_4) wz rfl (ai ?_))
  obtain rfl:=ah hF
  exact av (nI (.inr rfl) [(vI r_4)] _ [0] [au 0] ⟨rfl,trivial⟩ (.cons (eQ rfl rfl) (.nil)) (by kernel_rfl) ⟨(by kernel_rfl),trivial⟩ (by decide) (by kernel_rfl))
 ·refine aA rfl hc_3 (ax (af (bU (ae (.ref (au 0) 0 0) wz rfl (ae (.ref (au 0) 0 0) wz rfl (aO uG rfl 1 rfl wz (aK 3 0 (.inr (by kernel_rfl)) (λ_ _ ag=>trivial) sz3 ag3 rfl rfl (vI (w64 (s_1.f_at+1))) rfl wz (ae (vI (w64 ((w64 (s_1.f_at+1))-1))) wz rfl (ae (.ref (au 0) 0 0) wz rfl (ae (.ref (au 0) 0 0) wz rfl (aO xD rfl 0 rfl wz (aK 8 0 (.inr (by kernel_rfl)) (λ_ _ ag=>⟨.inl ⟨rfl,rfl⟩,trivial⟩) sz22 ag22 rfl rfl (vL eI s_1.L) rfl wz (eP Cw rfl wz ?_)))))))))))))
  obtain ⟨q_6,hz_7,hF⟩:=bind_some hF
  refine h_rem rfl rfl hz_7 wz (ae (vI q_6) wz rfl (ai (af (bU (ae (.ref (au 0) 0 0) wz rfl (ae (.ref (au 0) 0 0) wz rfl (aO uG rfl 1 rfl wz (aK 3 0 (.inr (by kernel_rfl)) (λ_ _ ag=>trivial) sz3 ag3 rfl rfl (vI (w64 (s_1.f_at+1))) rfl wz (ae (vI (w64 ((w64 (s_1.f_at+1))-1))) wz rfl (ae (.ref (au 0) 0 0) wz rfl (ae (.ref (au 0) 0 0) wz rfl (aO xD rfl 0 rfl wz (aK 8 0 (.inr (by kernel_rfl)) (λ_ _ ag=>⟨.inl ⟨rfl,rfl⟩,trivial⟩) sz22 ag22 rfl rfl (vL eI s_1.L) rfl wz (eP Cw rfl wz ?_))))))))))))))
  obtain ⟨q_8,hz_9,hF⟩:=bind_some hF
  refine Dy rfl rfl hz_9 wz (ae (vI q_8) wz rfl (ai (aV (H0:=([((au 0),some (.cells 2 [(vL eI s_1.L),(vI (w64 (s_1.f_at+1)))]))]:Hp)) ([(0,(.ref (au 0) 0 0)),(1,(vI n_2)),(5,(vI q_6)),(6,(vI q_8))]:SL_) (by kernel_rfl) (yn (by kernel_rfl)) (af (aa (ae (.ref (au 0) 0 0) wz rfl (ae (.ref (au 0) 0 0) wz rfl (aO xD rfl 0 rfl wz (aK 0 0 il ft sz22 ag22 rfl rfl (vL eI s_1.L) rfl wz (ae (vI q_6) wz rfl ?_))))))))))
  obtain ⟨y_10,hy_11,hF⟩:=bind_some hF
  refine gM uV rfl rfl hy_11 rfl wz (dM sz3 ag3 rfl (vI y_10) rfl wz ?_)
  obtain ⟨r_12,hr_13,hF⟩:=bind_some hF
  refine ay (nN hr_13) rfl hb77 rfl rfl rfl rfl wz (ae (vI q_8) wz rfl (ae (vI q_6) wz rfl (ae (vI (w64 (7919+q_6))) wz rfl (ae (vI (w64 (q_8*(w64 (7919+q_6))))) wz rfl (ae (vI (w64 (r_12+(w64 (q_8*(w64 (7919+q_6))))))) wz rfl (ae (vI n_2) wz rfl ?_))))))
  obtain ⟨r_14,hr_15,hF⟩:=bind_some hF
  refine ay (nN hr_15) rfl hb77 rfl rfl rfl rfl wz (ae (vI r_14) wz rfl (ai ?_))
  obtain rfl:=ah hF
  exact av (nI (.inr rfl) [(vI r_14)] _ [0] [au 0] ⟨rfl,trivial⟩ (.cons (eQ rfl rfl) (.nil)) (by kernel_rfl) ⟨(by kernel_rfl),trivial⟩ (by decide) (by kernel_rfl))
theorem fT {s_1:Stream} {l_2:(List Int)} {r:Int×Stream} (hF:dx s_1 l_2=some r) :
  FnM Tryz.prog 12 [(.ref (au 0) 0 0),(vL eI l_2)] [(.cells 2 [(vL eI s_1.L),(vI s_1.f_at)])] (vI r.1) [some (.cells 2 [(vL eI r.2.L),(vI r.2.f_at)])]:=by
 refine FnM.of_wH ⟨Tryz.prog,12,[],[]⟩ rfl Tryz.func12 rfl rfl (lb_ rfl) (by kernel_rfl) ?_
 unfold dx at hF
 refine af (aa (ae (vI 0) wz rfl (ai (af (aa (ae (vL eI l_2) wz rfl (ae (.ref (au 0) 0 0) wz rfl (ae (vL eI l_2) wz rfl (eP Cw rfl wz ?_)))))))))
 obtain ⟨r_3,hr_4,hF⟩:=bind_some hF
 refine bu 0 [0] il ft (dw hr_4) rfl AV rfl (by kernel_rfl) (by kernel_rfl) (by kernel_rfl) (by kernel_rfl) (by kernel_rfl) (by kernel_rfl) (by kernel_rfl) (by decide) (by kernel_rfl) wz (vI r_3.1) (by kernel_rfl) ([((au 0),some (.cells 2 [(vL eI r_3.2.L),(vI r_3.2.f_at)]))]:Hp) (by kernel_rfl) ?_
 obtain ⟨y_6,hy_7,hF⟩:=bind_some hF
 refine gM uV rfl rfl hy_7 rfl wz (dM sz3 ag3 rfl (vI y_6) rfl wz (ae (vI y_6) wz rfl (ai ?_)))
 obtain rfl:=ah hF
 exact av (nI (.inr rfl) [(vI y_6)] _ [0] [au 0] ⟨rfl,trivial⟩ (.cons (eQ rfl rfl) (.nil)) (by kernel_rfl) ⟨(by kernel_rfl),trivial⟩ (by decide) (by kernel_rfl))
theorem lg {s_1:Stream} {low_2:Int} {high_3:Int} {r:Int×Stream} (hF:dQ s_1 low_2 high_3=some r) :
  FnM Tryz.prog 109 [(.ref (au 0) 0 0),(vI low_2),(vI high_3)] [(.cells 2 [(vL eI s_1.L),(vI s_1.f_at)])] (vI r.1) [some (.cells 2 [(vL eI r.2.L),(vI r.2.f_at)])]:=by
 refine FnM.of_wH ⟨Tryz.prog,19,[],[]⟩ rfl Tryz.func109 rfl rfl (lb_ rfl) (by kernel_rfl) ?_
 unfold dQ at hF
 refine af (aa (ae (vI 0) wz rfl (ai (af (af (aa (ae (vI high_3) wz rfl (ae (vI low_2) wz rfl (ae (vB (decide (high_3<low_2))) wz rfl (ai ?_))))))))))
 rcases ak hF with⟨hc_4,hF⟩|⟨hc_4,hF⟩
 ·refine aB rfl hc_4 (af (aa (ae (vI low_2) wz rfl (ae (vI low_2) wz rfl (ai ?_)))))
  obtain rfl:=ah hF
  exact av (nI (.inr rfl) [(vI low_2)] _ [0] [au 0] ⟨rfl,trivial⟩ (.cons (eQ rfl rfl) (.nil)) (by kernel_rfl) ⟨(by kernel_rfl),trivial⟩ (by decide) (by kernel_rfl))
 ·refine aA rfl hc_4 (ax (af (aa (ae (vI low_2) wz rfl (ae (.ref (au 0) 0 0) wz rfl (ae (vI high_3) wz rfl (ae (vI low_2) wz rfl (ae (vI (w64 (high_3-low_2))) wz rfl (ae (vI (w64 ((w64 (high_3-low_2))+1))) wz rfl ?_)))))))))
  obtain ⟨r_5,hr_6,hF⟩:=bind_some hF
  refine bu 0 [0] il ft (dw hr_6) rfl AV rfl (by kernel_rfl) (by kernel_rfl) (by kernel_rfl) (by kernel_rfl) (by kernel_rfl) (by kernel_rfl) (by kernel_rfl) (by decide) (by kernel_rfl) wz (vI r_5.1) (by kernel_rfl) ([((au 0),some (.cells 2 [(vL eI r_5.2.L),(vI r_5.2.f_at)]))]:Hp) (by kernel_rfl) (ae (vI (w64 (low_2+r_5.1))) wz rfl (ae (vI (w64 (low_2+r_5.1))) wz rfl (ai ?_)))
  obtain rfl:=ah hF
  exact av (nI (.inr rfl) [(vI (w64 (low_2+r_5.1)))] _ [0] [au 0] ⟨rfl,trivial⟩ (.cons (eQ rfl rfl) (.nil)) (by kernel_rfl) ⟨(by kernel_rfl),trivial⟩ (by decide) (by kernel_rfl))
theorem dz {s_1:Stream} {l_2:(List ByteArray)} {r:ByteArray×Stream} (hF:bA s_1 l_2=some r) :
  FnM Tryz.prog 21 [(.ref (au 0) 0 0),(vL eS l_2)] [(.cells 2 [(vL eI s_1.L),(vI s_1.f_at)])] (vS r.1) [some (.cells 2 [(vL eI r.2.L),(vI r.2.f_at)])]:=by
 refine FnM.of_wH ⟨Tryz.prog,12,[],[]⟩ rfl Tryz.func21 rfl rfl (lb_ rfl) (by kernel_rfl) ?_
 unfold bA at hF
 refine af (aa (ae (vS (⟨#[]⟩:ByteArray)) wz rfl (ai (af (aa (ae (vL eS l_2) wz rfl (ae (.ref (au 0) 0 0) wz rfl (ae (vL eS l_2) wz rfl (eP un34 rfl wz ?_)))))))))
 obtain ⟨r_3,hr_4,hF⟩:=bind_some hF
 refine bu 0 [0] il ft (dw hr_4) rfl AV rfl (by kernel_rfl) (by kernel_rfl) (by kernel_rfl) (by kernel_rfl) (by kernel_rfl) (by kernel_rfl) (by kernel_rfl) (by decide) (by kernel_rfl) wz (vI r_3.1) (by kernel_rfl) ([((au 0),some (.cells 2 [(vL eI r_3.2.L),(vI r_3.2.f_at)]))]:Hp) (by kernel_rfl) ?_
 obtain ⟨y_6,hy_7,hF⟩:=bind_some hF
 refine gM uy rfl rfl hy_7 rfl wz (dM sz9 ag9 rfl (vS y_6) rfl wz (ae (vS y_6) wz rfl (ai ?_)))
 obtain rfl:=ah hF
 exact av (nI (.inr rfl) [(vS y_6)] _ [0] [au 0] ⟨rfl,trivial⟩ (.cons (eQ rfl rfl) (.nil)) (by kernel_rfl) ⟨(by kernel_rfl),trivial⟩ (by decide) (by kernel_rfl))
theorem iy {x0:Int} {r:ByteArray} (hF:strconv_Itoa x0=some r) :
  FnM Tryz.prog 123 [(vI x0)] [] (vS r) [] :=
 itoa_ok Tryz.strconv_Itoa AX hF
theorem sU {x0:(List ByteArray)} {x1:ByteArray} {r:ByteArray} (hF:strings_Join x0 x1=some r) :
  FnM Tryz.prog 155 [(vL eS x0),(vS x1)] [] (vS r) [] :=
 join_ok rfl Tryz.strings_Join_none Tryz.strings_Join hF
theorem vD {l_1:(List Int)} {r:ByteArray} (hF:jT l_1=some r) :
  FnM Tryz.prog 121 [(vL eI l_1)] [] (vS r) []:=by
 refine FnM.of_wH ⟨Tryz.prog,20,[],[]⟩ rfl Tryz.func121 rfl rfl (lb_ rfl) (by kernel_rfl) ?_
 unfold jT at hF
 refine af (aa (ae (vS (⟨#[]⟩:ByteArray)) wz rfl (ai (af (aa (ae .nil wz rfl (ai (af (af (aa (ae (vL eI l_1) wz rfl (eP Cw rfl wz (ae (vI 0) wz rfl (ai (ut (λn_8 => ?_))))))))))))))))
 obtain ⟨o_13,hj_14,hF⟩:=bind_some hF
 obtain ⟨hn_6,hj_14⟩:=bJ hj_14
 refine aH (β:=((List ByteArray))×Nm) (λp=>(λ(s_7:List ByteArray) (n_10:Nm)=>([(3,(gV n_10 1 s_7))]:SL_)) p.1 p.2) (λp=>(λ(s_7:List ByteArray) (n_10:Nm)=>([(n_10,gB 1 eS s_7)]:Hp)) p.1 p.2) (λp=>o_13 = .go p.1) ?_ ?_
 ·refine aG (bZ (β:=Nat×(List Int)×((List ByteArray))×Nm) (λp=>(λ(k_2:Nat) (l_3:List Int) (s_7:List ByteArray) (n_10:Nm)=>([(3,(gV n_10 1 s_7)),(6,(vL eI l_1)),(7,(vI (l_1.length:Int))),(8,(vI (k_2:Int)))]:SL_)) p.1 p.2.1 p.2.2.1 p.2.2.2) (λp=>(λ(k_2:Nat) (l_3:List Int) (s_7:List ByteArray) (n_10:Nm)=>([(n_10,gB 1 eS s_7)]:Hp)) p.1 p.2.1 p.2.2.1 p.2.2.2) (λp=>dF (λk x s=>fu k x s) p.2.1 p.1 p.2.2.1=some o_13/\(l_1).drop p.1=p.2.1) (λp=>p.2.1.length) (0,l_1,([]:List ByteArray),n_8) ⟨hj_14,rfl⟩ rfl (aN rfl) ?_)
  rintro ⟨k_2,l_3,s_7,n_10⟩ ⟨hL_12,hD_5⟩
  dsimp only at hL_12 hD_5
  cases l_3 with
  | nil =>
   obtain rfl:=ah hL_12
   refine af (aa (ae (vB (decide ((k_2:Int)<(l_1.length:Int)))) wz rfl (ai ?_)))
   refine af (aA rfl (drop_nil hD_5) (cz ?_))
   exact bW (s_7,n_10) rfl rfl (aN rfl)
  | cons x_4 l_3 =>
   obtain ⟨c_,hc_11,hL_12⟩:=bind_some hL_12
   refine af (aa (ae (vB (decide ((k_2:Int)<(l_1.length:Int)))) wz rfl (ai ?_)))
   refine af (aB rfl (dN hD_5) (ax ?_))
   unfold fu at hc_11
   refine af (aG (af (aa (gM uV rfl rfl (eB hD_5) rfl wz (dM sz3 ag3 rfl (vI x_4) rfl wz (ae (vI x_4) wz rfl (ai (aa (ae (gV n_10 1 s_7) wz rfl (ae (vI x_4) wz rfl ?_))))))))))
   obtain ⟨r_15,hr_16,hc_11⟩:=bind_some hc_11
   refine ay (iy hr_16) rfl Bw rfl rfl rfl rfl wz (gW (([r_15]:List ByteArray).map eS) uy yc rfl rfl rfl rfl rfl wz ?_)
   obtain ⟨a_17,hz_18,hc_11⟩:=bind_some hc_11
   refine vM 0 il ft (i:=0) el34 el34 sz9 z9 rfl (by decide) by9 (by decide) (λ_=>rfl) rfl rfl rfl hz_18 wz (λn_19=>ae (gV n_19 1 a_17) wz rfl (ai (aa (iQ (dX hD_5 hn_6) wz rfl (ae (vI ((k_2+1:Nat):Int)) wz rfl (ai ?_))))))
   obtain rfl:=ah hc_11
   exact cO (k_2+1,l_3,a_17,n_19) ⟨hL_12,bv hD_5⟩ (ls_ _) rfl (aN rfl)
 ·rintro ⟨s_7,n_10⟩ ho_ sl_ H_ hp_ hq_
  subst ho_
  refine aV _ hp_ hq_ (af (lV 0 rfl (jc 3 0 rfl rfl (aa (ae (vL eS s_7) wz rfl ?_)))))
  obtain ⟨r_20,hr_21,hF⟩:=bind_some hF
  refine ay (sU hr_21) rfl hb155 rfl rfl rfl rfl wz (ae (vS r_20) wz rfl (ai ?_))
  obtain rfl:=ah hF
  exact av (aS (.inr rfl) [(vS r_20)] ⟨rfl,trivial⟩ rfl rfl rfl)
theorem vN {l_1:Log_} {r:ByteArray} (hF:jP l_1=some r) :
  FnM Tryz.prog 86 [(.d (.agg (Log_.enc l_1)))] [] (vS r) []:=by
 refine FnM.of_wH ⟨Tryz.prog,19,[],[]⟩ rfl Tryz.func86 rfl rfl (lb_ rfl) (by kernel_rfl) ?_
 unfold jP at hF
 refine af (aa (kY 0 (.inl rfl) [(vS l_1.Player),(vS l_1.Item),(vI l_1.No),(vI l_1.Clock),(vI l_1.Long),(vS l_1.Sum)] rfl rfl wz (λn_2=>ae (vS (⟨#[]⟩:ByteArray)) wz rfl (ai (af (bU (aO fZ rfl 0 rfl wz (aK 1 0 (.inr (by kernel_rfl)) (λ_ _ ag=>trivial) sz9 ag9 rfl rfl (vS l_1.Player) rfl wz ?_))))))))
 obtain ⟨s_3,hz_4,hF⟩:=bind_some hF
 refine ji rfl rfl hz_4 wz (aO rV rfl 1 rfl wz (aK 4 0 (.inr (by kernel_rfl)) (λ_ _ ag=>⟨.inl ⟨rfl,rfl⟩,trivial⟩) sz9 ag9 rfl rfl (vS l_1.Item) rfl wz ?_))
 obtain ⟨s_5,hz_6,hF⟩:=bind_some hF
 refine ji rfl rfl hz_6 wz ?_
 obtain ⟨s_7,hz_8,hF⟩:=bind_some hF
 refine ji rfl rfl hz_8 wz (aO iX rfl 2 rfl wz (aK 8 0 (.inr (by kernel_rfl)) (λ_ _ ag=>⟨.inl ⟨rfl,rfl⟩,⟨.inl ⟨rfl,rfl⟩,trivial⟩⟩) sz3 ag3 rfl rfl (vI l_1.No) rfl wz (aO vk rfl 3 rfl wz (aK 10 0 (.inr (by kernel_rfl)) (λ_ _ ag=>⟨.inl ⟨rfl,rfl⟩,⟨.inl ⟨rfl,rfl⟩,⟨.inl ⟨rfl,rfl⟩,trivial⟩⟩⟩) sz3 ag3 rfl rfl (vI l_1.Clock) rfl wz (aO uT rfl 4 rfl wz (aK 12 0 (.inr (by kernel_rfl)) (λ_ _ ag=>⟨.inl ⟨rfl,rfl⟩,⟨.inl ⟨rfl,rfl⟩,⟨.inl ⟨rfl,rfl⟩,⟨.inl ⟨rfl,rfl⟩,trivial⟩⟩⟩⟩) sz3 ag3 rfl rfl (vI l_1.Long) rfl wz (gW (([l_1.No,l_1.Clock,l_1.Long]:List Int).map eI) uV Al rfl rfl rfl rfl rfl wz ?_)))))))
 obtain ⟨r_9,hr_10,hF⟩:=bind_some hF
 refine ay (vD hr_10) rfl hb121 rfl rfl rfl rfl wz ?_
 obtain ⟨s_11,hz_12,hF⟩:=bind_some hF
 refine ji rfl rfl hz_12 wz (ae (vS s_11) wz rfl (ai ?_))
 obtain rfl:=ah hF
 exact av (aS (.inr rfl) [(vS s_11)] ⟨rfl,trivial⟩ rfl rfl rfl)
theorem oo {s_1:ByteArray} {r:ByteArray} (hF:jS s_1=some r) :
  FnM Tryz.prog 18 [(vS s_1)] [] (vS r) []:=by
 refine FnM.of_wH ⟨Tryz.prog,34,[],[]⟩ rfl Tryz.func18 rfl rfl (lb_ rfl) (by kernel_rfl) ?_
 unfold jS at hF
 refine af (aa (ae (vS (⟨#[]⟩:ByteArray)) wz rfl (ai (af (aa (ae (.d (.int .u64 14695981039346656037)) wz rfl (ai (af (af (aa (ae (vS s_1) wz rfl (h_convs un9 un92 un5 rfl wz (eP un92 rfl wz (ae (vI 0) wz rfl (ai ?_)))))))))))))))
 obtain ⟨o_10,hj_11,hF⟩:=bind_some hF
 obtain ⟨hn_6,hj_11⟩:=bJ hj_11
 refine aH (β:=(Int)) (λ(s_7:Int)=>([(3,(.d (.int .u64 s_7)))]:SL_)) (λ(s_7:Int)=>([]:Hp)) (λp=>o_10 = .go p) ?_ ?_
 ·refine aG (bZ (β:=Nat×(List Int)×(Int)) (λp=>(λ(k_2:Nat) (l_3:List Int) (s_7:Int)=>([(3,(.d (.int .u64 s_7))),(8,(vL (eK .u8) (bE s_1))),(9,(vI ((bE s_1).length:Int))),(10,(vI (k_2:Int)))]:SL_)) p.1 p.2.1 p.2.2) (λp=>(λ(k_2:Nat) (l_3:List Int) (s_7:Int)=>([]:Hp)) p.1 p.2.1 p.2.2) (λp=>dF (λk x s=>lK k x s) p.2.1 p.1 p.2.2=some o_10/\((bE s_1)).drop p.1=p.2.1) (λp=>p.2.1.length) (0,(bE s_1),14695981039346656037) ⟨hj_11,rfl⟩ rfl (aN rfl) ?_)
  rintro ⟨k_2,l_3,s_7⟩ ⟨hL_9,hD_5⟩
  dsimp only at hL_9 hD_5
  cases l_3 with
  | nil =>
   obtain rfl:=ah hL_9
   refine af (aa (ae (vB (decide ((k_2:Int)<((bE s_1).length:Int)))) wz rfl (ai ?_)))
   refine af (aA rfl (drop_nil hD_5) (cz ?_))
   exact bW (s_7) rfl rfl (aN rfl)
  | cons x_4 l_3 =>
   obtain ⟨c_,hc_8,hL_9⟩:=bind_some hL_9
   refine af (aa (ae (vB (decide ((k_2:Int)<((bE s_1).length:Int)))) wz rfl (ai ?_)))
   refine af (aB rfl (dN hD_5) (ax ?_))
   unfold lK at hc_8
   refine af (aG (af (aa (gM es92 rfl rfl (eB hD_5) rfl wz (dM sz5 ag5 rfl (.d (.int .u8 x_4)) rfl wz (ae (.d (.int .u8 x_4)) wz rfl (ai (aa (ae (.d (.int .u64 s_7)) wz rfl (ae (.d (.int .u8 x_4)) wz rfl (nP un5 Et rfl wz (ae (.d (.int .u64 (vo .u64 s_7 (IntKind.u64.wrap x_4)))) wz rfl (ae (.d (.int .u64 (IntKind.u64.wrap ((vo .u64 s_7 (IntKind.u64.wrap x_4))*1099511628211)))) wz rfl (ae (.d (.int .u64 (IntKind.u64.wrap ((vo .u64 s_7 (IntKind.u64.wrap x_4))*1099511628211)))) wz rfl (ai (aa (iQ (dX hD_5 hn_6) wz rfl (ae (vI ((k_2+1:Nat):Int)) wz rfl (ai ?_)))))))))))))))))))
   obtain rfl:=ah hc_8
   exact cO (k_2+1,l_3,(IntKind.u64.wrap ((vo .u64 s_7 (IntKind.u64.wrap x_4))*1099511628211))) ⟨hL_9,bv hD_5⟩ (ls_ _) rfl (aN rfl)
 ·rintro s_7 ho_ sl_ H_ hp_ hq_
  subst ho_
  refine aV _ hp_ hq_ (af (aa (ae (vS (⟨#[]⟩:ByteArray)) wz rfl (ai (af (af (aa (ae (vI 0) wz rfl (ai ?_)))))))))
  obtain ⟨o_20,hj_21,hF⟩:=bind_some hF
  obtain ⟨hn_16,hj_21⟩:=bJ hj_21
  refine aH (β:=(Int×ByteArray)) (λ(s_17:Int×ByteArray)=>([(6,(vS s_17.2))]:SL_)) (λ(s_17:Int×ByteArray)=>([]:Hp)) (λp=>o_20 = .go p) ?_ ?_
  ·refine aG (bZ (β:=Nat×(List Nat)×(Int×ByteArray)) (λp=>(λ(k_12:Nat) (l_13:List Nat) (s_17:Int×ByteArray)=>([(3,(.d (.int .u64 s_17.1))),(6,(vS s_17.2)),(20,(vI (k_12:Int)))]:SL_)) p.1 p.2.1 p.2.2) (λp=>(λ(k_12:Nat) (l_13:List Nat) (s_17:Int×ByteArray)=>([]:Hp)) p.1 p.2.1 p.2.2) (λp=>dF (λk x s=>iP k x s) p.2.1 p.1 p.2.2=some o_20/\((List.range (16:Int).toNat)).drop p.1=p.2.1) (λp=>p.2.1.length) (0,(List.range (16:Int).toNat),(s_7,(⟨#[]⟩:ByteArray))) ⟨hj_21,rfl⟩ rfl (aN rfl) ?_)
   rintro ⟨k_12,l_13,s_17⟩ ⟨hL_19,hD_15⟩
   dsimp only at hL_19 hD_15
   cases l_13 with
   | nil =>
    obtain rfl:=ah hL_19
    refine af (aa (ae (vB (decide ((k_12:Int)<16))) wz rfl (ai ?_)))
    refine af (aA rfl (kJ hD_15) (cz ?_))
    exact bW (s_17) rfl rfl (aN rfl)
   | cons x_14 l_13 =>
    obtain ⟨c_,hc_18,hL_19⟩:=bind_some hL_19
    refine af (aa (ae (vB (decide ((k_12:Int)<16))) wz rfl (ai ?_)))
    refine af (aB rfl (jm hD_15) (ax ?_))
    unfold iP at hc_18
    refine af (aG (af (aa (ae (.d (.int .u64 s_17.1)) wz rfl (ae (.d (.int .u64 (s_17.1.tmod 16))) wz rfl (ae (.d (.int .u64 s_17.1)) wz rfl (ae (.d (.int .u64 (s_17.1.tmod 16))) wz rfl (ae (.d (.int .u64 (IntKind.u64.wrap ((s_17.1.tmod 16)+1)))) wz rfl ?_))))))))
    obtain ⟨y_22,hy_23,hc_18⟩:=bind_some hc_18
    refine vZ un9 rfl rfl rfl hy_23 wz (ae (vS s_17.2) wz rfl ?_)
    obtain ⟨s_24,hz_25,hc_18⟩:=bind_some hc_18
    refine ji rfl rfl hz_25 wz (ae (vS s_24) wz rfl (ai (aa (ae (.d (.int .u64 s_17.1)) wz rfl (ae (.d (.int .u64 (IntKind.u64.wrap (s_17.1.tdiv 16)))) wz rfl (ae (.d (.int .u64 (IntKind.u64.wrap (s_17.1.tdiv 16)))) wz rfl (ai (aa (iQ (kN hD_15 hn_16) wz rfl (ae (vI ((k_12+1:Nat):Int)) wz rfl (ai ?_)))))))))))
    obtain rfl:=ah hc_18
    exact cO (k_12+1,l_13,((IntKind.u64.wrap (s_17.1.tdiv 16)),s_24)) ⟨hL_19,bv hD_15⟩ (ls_ _) rfl (aN rfl)
  ·rintro s_17 ho_ sl_ H_ hp_ hq_
   subst ho_
   refine aV _ hp_ hq_ (af (aa (ae (vS s_17.2) wz rfl (ae (vS s_17.2) wz rfl (ai ?_)))))
   obtain rfl:=ah hF
   exact av (aS (.inr rfl) [(vS s_17.2)] ⟨rfl,trivial⟩ rfl rfl rfl)
theorem mR {last_1:ByteArray} {l_2:Log_} {r:ByteArray} (hF:iT last_1 l_2=some r) :
  FnM Tryz.prog 42 [(vS last_1),(.d (.agg (Log_.enc l_2)))] [] (vS r) []:=by
 refine FnM.of_wH ⟨Tryz.prog,11,[],[]⟩ rfl Tryz.func42 rfl rfl (lb_ rfl) (by kernel_rfl) ?_
 unfold iT at hF
 refine af (aa (kY 0 (.inl rfl) [(vS l_2.Player),(vS l_2.Item),(vI l_2.No),(vI l_2.Clock),(vI l_2.Long),(vS l_2.Sum)] rfl rfl wz (λn_3=>ae (vS (⟨#[]⟩:ByteArray)) wz rfl (ai (af (aa (ae (vS last_1) wz rfl ?_)))))))
 obtain ⟨s_4,hz_5,hF⟩:=bind_some hF
 refine ji rfl rfl hz_5 wz (aK 0 0 il ft eG iw rfl rfl (.d (.agg (Log_.enc l_2))) rfl wz ?_)
 obtain ⟨r_6,hr_7,hF⟩:=bind_some hF
 refine ay (vN hr_7) rfl hb86 rfl rfl rfl rfl wz ?_
 obtain ⟨s_8,hz_9,hF⟩:=bind_some hF
 refine ji rfl rfl hz_9 wz ?_
 obtain ⟨r_10,hr_11,hF⟩:=bind_some hF
 refine ay (oo hr_11) rfl hb18 rfl rfl rfl rfl wz (ae (vS r_10) wz rfl (ai ?_))
 obtain rfl:=ah hF
 exact av (aS (.inr rfl) [(vS r_10)] ⟨rfl,trivial⟩ rfl rfl rfl)
theorem dP {s_1:Stream} {n_2:Int} {r:Bool×Stream} (hF:bM s_1 n_2=some r) :
  FnM Tryz.prog 19 [(.ref (au 0) 0 0),(vI n_2)] [(.cells 2 [(vL eI s_1.L),(vI s_1.f_at)])] (vB r.1) [some (.cells 2 [(vL eI r.2.L),(vI r.2.f_at)])]:=by
 refine FnM.of_wH ⟨Tryz.prog,9,[],[]⟩ rfl Tryz.func19 rfl rfl (lb_ rfl) (by kernel_rfl) ?_
 unfold bM at hF
 refine af (aa (ae (vB false) wz rfl (ai (af (aa (ae (.ref (au 0) 0 0) wz rfl (ae (vI n_2) wz rfl ?_)))))))
 obtain ⟨r_3,hr_4,hF⟩:=bind_some hF
 refine bu 0 [0] il ft (dw hr_4) rfl AV rfl (by kernel_rfl) (by kernel_rfl) (by kernel_rfl) (by kernel_rfl) (by kernel_rfl) (by kernel_rfl) (by kernel_rfl) (by decide) (by kernel_rfl) wz (vI r_3.1) (by kernel_rfl) ([((au 0),some (.cells 2 [(vL eI r_3.2.L),(vI r_3.2.f_at)]))]:Hp) (by kernel_rfl) (ae (vB (r_3.1==0)) wz rfl (ae (vB (r_3.1==0)) wz rfl (ai ?_)))
 obtain rfl:=ah hF
 exact av (nI (.inr rfl) [(vB (r_3.1==0))] _ [0] [au 0] ⟨rfl,trivial⟩ (.cons (eQ rfl rfl) (.nil)) (by kernel_rfl) ⟨(by kernel_rfl),trivial⟩ (by decide) (by kernel_rfl))
theorem mF {s_1:Stream} {most_2:Int} {r:(List Log_)×Stream} (hF:dS s_1 most_2=some r) :
  FnM Tryz.prog 57 [(.ref (au 0) 0 0),(vI most_2)] [(.cells 2 [(vL eI s_1.L),(vI s_1.f_at)])] (gV (au 1) 6 r.1) (([(.cells 2 [(vL eI r.2.L),(vI r.2.f_at)])]:List Box).map some++gO 6 Log_.enc r.1):=by
 refine FnM.of_wH ⟨Tryz.prog,59,[],[]⟩ rfl Tryz.func57 rfl rfl (lb_ rfl) (by kernel_rfl) ?_
 unfold dS at hF
 refine af (aa (ae .nil wz rfl (ai (af (aa (ae .nil wz rfl (ai (af (af (aa (gW (([(⟨#[112,97]⟩:ByteArray),(⟨#[112,98]⟩:ByteArray)]:List ByteArray).map eS) uy yc rfl rfl rfl rfl rfl wz (eP un34 rfl wz (ae (vI 0) wz rfl (ai (ut (λn_9 => ?_))))))))))))))))
 obtain ⟨o_14,hj_15,hF⟩:=bind_some hF
 obtain ⟨hn_7,hj_15⟩:=bJ hj_15
 refine aH (β:=((List Log_)×(List Int)×Int)×Nm) (λp=>(λ(s_8:(List Log_)×(List Int)×Int) (n_11:Nm)=>([(5,(gV n_11 6 s_8.1))]:SL_)) p.1 p.2) (λp=>(λ(s_8:(List Log_)×(List Int)×Int) (n_11:Nm)=>([((au 0),some (.cells 2 [(vL eI s_8.2.1),(vI s_8.2.2)])),(n_11,gB 6 Log_.enc s_8.1)]:Hp)) p.1 p.2) (λp=>o_14 = .go p.1) ?_ ?_
 ·refine aG (bZ (β:=Nat×(List ByteArray)×((List Log_)×(List Int)×Int)×Nm) (λp=>(λ(k_3:Nat) (l_4:List ByteArray) (s_8:(List Log_)×(List Int)×Int) (n_11:Nm)=>([(0,(.ref (au 0) 0 0)),(1,(vI most_2)),(5,(gV n_11 6 s_8.1)),(12,(vL eS ([(⟨#[112,97]⟩:ByteArray),(⟨#[112,98]⟩:ByteArray)]:List ByteArray))),(13,(vI (([(⟨#[112,97]⟩:ByteArray),(⟨#[112,98]⟩:ByteArray)]:List ByteArray).length:Int))),(14,(vI (k_3:Int)))]:SL_)) p.1 p.2.1 p.2.2.1 p.2.2.2) (λp=>(λ(k_3:Nat) (l_4:List ByteArray) (s_8:(List Log_)×(List Int)×Int) (n_11:Nm)=>([((au 0),some (.cells 2 [(vL eI s_8.2.1),(vI s_8.2.2)])),(n_11,gB 6 Log_.enc s_8.1)]:Hp)) p.1 p.2.1 p.2.2.1 p.2.2.2) (λp=>dF (λk x s=>bO most_2 k x s) p.2.1 p.1 p.2.2.1=some o_14/\(([(⟨#[112,97]⟩:ByteArray),(⟨#[112,98]⟩:ByteArray)]:List ByteArray)).drop p.1=p.2.1) (λp=>p.2.1.length) (0,([(⟨#[112,97]⟩:ByteArray),(⟨#[112,98]⟩:ByteArray)]:List ByteArray),(([]:List Log_),s_1.L,s_1.f_at),n_9) ⟨hj_15,rfl⟩ rfl (aN rfl) ?_)
  rintro ⟨k_3,l_4,s_8,n_11⟩ ⟨hL_13,hD_6⟩
  dsimp only at hL_13 hD_6
  cases l_4 with
  | nil =>
   obtain rfl:=ah hL_13
   refine af (aa (ae (vB (decide ((k_3:Int)<(([(⟨#[112,97]⟩:ByteArray),(⟨#[112,98]⟩:ByteArray)]:List ByteArray).length:Int)))) wz rfl (ai ?_)))
   refine af (aA rfl (drop_nil hD_6) (cz ?_))
   exact bW (s_8,n_11) rfl rfl (aN rfl)
  | cons x_5 l_4 =>
   obtain ⟨c_,hc_12,hL_13⟩:=bind_some hL_13
   refine af (aa (ae (vB (decide ((k_3:Int)<(([(⟨#[112,97]⟩:ByteArray),(⟨#[112,98]⟩:ByteArray)]:List ByteArray).length:Int)))) wz rfl (ai ?_)))
   refine af (aB rfl (dN hD_6) (ax ?_))
   unfold bO at hc_12
   refine af (aG (af (aa (gM uy rfl rfl (eB hD_6) rfl wz (dM sz9 ag9 rfl (vS x_5) rfl wz (ae (vS x_5) wz rfl (ai (af (aa (ae (.ref (au 0) 0 0) wz rfl (gW (([0,50,1000]:List Int).map eI) uV Al rfl rfl rfl rfl rfl wz ?_)))))))))))
   obtain ⟨r_16,hr_17,hc_12⟩:=bind_some hc_12
   refine bu 0 [0] il ft (fT hr_17) rfl hb12 rfl (by kernel_rfl) (by kernel_rfl) (by kernel_rfl) (by kernel_rfl) (by kernel_rfl) (by kernel_rfl) (by kernel_rfl) (by decide) (by kernel_rfl) wz (vI r_16.1) (by kernel_rfl) ([((au 0),some (.cells 2 [(vL eI r_16.2.L),(vI r_16.2.f_at)])),(n_11,gB 6 Log_.enc s_8.1)]:Hp) (by kernel_rfl) (ae (vS (⟨#[]⟩:ByteArray)) wz rfl (ae (vI r_16.1) wz rfl (ai (af (aa (ae (.ref (au 0) 0 0) wz rfl (ae (vI most_2) wz rfl ?_)))))))
   obtain ⟨r_19,hr_20,hc_12⟩:=bind_some hc_12
   refine bu 0 [0] il ft (lg hr_20) rfl hb109 rfl (by kernel_rfl) (by kernel_rfl) (by kernel_rfl) (by kernel_rfl) (by kernel_rfl) (by kernel_rfl) (by kernel_rfl) (by decide) (by kernel_rfl) wz (vI r_19.1) (by kernel_rfl) ([((au 0),some (.cells 2 [(vL eI r_19.2.L),(vI r_19.2.f_at)])),(n_11,gB 6 Log_.enc s_8.1)]:Hp) (by kernel_rfl) (ae (vI 0) wz rfl (ai ?_))
   obtain ⟨o_32,hj_33,hc_12⟩:=bind_some hc_12
   obtain ⟨hn_26,hj_33⟩:=bJ hj_33
   refine aH (β:=((List Log_)×ByteArray×Int×(List Int)×Int)×Nm) (λp=>(λ(s_27:(List Log_)×ByteArray×Int×(List Int)×Int) (n_29:Nm)=>([(0,(.ref (au 0) 0 0)),(1,(vI most_2)),(5,(gV n_29 6 s_27.1)),(12,(vL eS ([(⟨#[112,97]⟩:ByteArray),(⟨#[112,98]⟩:ByteArray)]:List ByteArray))),(13,(vI (([(⟨#[112,97]⟩:ByteArray),(⟨#[112,98]⟩:ByteArray)]:List ByteArray).length:Int))),(14,(vI (k_3:Int)))]:SL_)) p.1 p.2) (λp=>(λ(s_27:(List Log_)×ByteArray×Int×(List Int)×Int) (n_29:Nm)=>([((au 0),some (.cells 2 [(vL eI s_27.2.2.2.1),(vI s_27.2.2.2.2)])),(n_29,gB 6 Log_.enc s_27.1)]:Hp)) p.1 p.2) (λp=>o_32 = .go p.1) ?_ ?_
   ·refine aG (bZ (β:=Nat×(List Nat)×((List Log_)×ByteArray×Int×(List Int)×Int)×Nm) (λp=>(λ(k_22:Nat) (l_23:List Nat) (s_27:(List Log_)×ByteArray×Int×(List Int)×Int) (n_29:Nm)=>([(0,(.ref (au 0) 0 0)),(1,(vI most_2)),(5,(gV n_29 6 s_27.1)),(7,(vS x_5)),(8,(vS s_27.2.1)),(9,(vI s_27.2.2.1)),(12,(vL eS ([(⟨#[112,97]⟩:ByteArray),(⟨#[112,98]⟩:ByteArray)]:List ByteArray))),(13,(vI (([(⟨#[112,97]⟩:ByteArray),(⟨#[112,98]⟩:ByteArray)]:List ByteArray).length:Int))),(14,(vI (k_3:Int))),(23,(vI r_19.1)),(24,(vI (k_22:Int)))]:SL_)) p.1 p.2.1 p.2.2.1 p.2.2.2) (λp=>(λ(k_22:Nat) (l_23:List Nat) (s_27:(List Log_)×ByteArray×Int×(List Int)×Int) (n_29:Nm)=>([((au 0),some (.cells 2 [(vL eI s_27.2.2.2.1),(vI s_27.2.2.2.2)])),(n_29,gB 6 Log_.enc s_27.1)]:Hp)) p.1 p.2.1 p.2.2.1 p.2.2.2) (λp=>dF (λk x s=>dn x_5 k x s) p.2.1 p.1 p.2.2.1=some o_32/\((List.range (r_19.1).toNat)).drop p.1=p.2.1) (λp=>p.2.1.length) (0,(List.range (r_19.1).toNat),(s_8.1,(⟨#[]⟩:ByteArray),r_16.1,r_19.2.L,r_19.2.f_at),n_11) ⟨hj_33,rfl⟩ rfl (aN rfl) ?_)
    rintro ⟨k_22,l_23,s_27,n_29⟩ ⟨hL_31,hD_25⟩
    dsimp only at hL_31 hD_25
    cases l_23 with
    | nil =>
     obtain rfl:=ah hL_31
     refine af (aa (ae (vB (decide ((k_22:Int)<r_19.1))) wz rfl (ai ?_)))
     refine af (aA rfl (kJ hD_25) (cz ?_))
     exact bW (s_27,n_29) rfl rfl (aN rfl)
    | cons x_24 l_23 =>
     obtain ⟨c_,hc_30,hL_31⟩:=bind_some hL_31
     refine af (aa (ae (vB (decide ((k_22:Int)<r_19.1))) wz rfl (ai ?_)))
     refine af (aB rfl (jm hD_25) (ax ?_))
     unfold dn at hc_30
     refine af (aG (af (aa (ae (vI (k_22:Int)) wz rfl (ae (vI (k_22:Int)) wz rfl (ai (af (aa (ae (vS x_5) wz rfl (ae (.ref (au 0) 0 0) wz rfl (gW (([(⟨#[105,97]⟩:ByteArray),(⟨#[105,98]⟩:ByteArray)]:List ByteArray).map eS) uy yc rfl rfl rfl rfl rfl wz ?_)))))))))))
     obtain ⟨r_34,hr_35,hc_30⟩:=bind_some hc_30
     refine bu 0 [0] il ft (dz hr_35) rfl AQ rfl (by kernel_rfl) (by kernel_rfl) (by kernel_rfl) (by kernel_rfl) (by kernel_rfl) (by kernel_rfl) (by kernel_rfl) (by decide) (by kernel_rfl) wz (vS r_34.1) (by kernel_rfl) ([((au 0),some (.cells 2 [(vL eI r_34.2.L),(vI r_34.2.f_at)])),(n_29,gB 6 Log_.enc s_27.1)]:Hp) (by kernel_rfl) (ae (vI (k_22:Int)) wz rfl (ae (vI (w64 ((k_22:Int)+1))) wz rfl (ae (vI s_27.2.2.1) wz rfl (ae (.ref (au 0) 0 0) wz rfl (gW (([1,10,30,100]:List Int).map eI) uV Al rfl rfl rfl rfl rfl wz ?_)))))
     obtain ⟨r_37,hr_38,hc_30⟩:=bind_some hc_30
     refine bu 0 [0] il ft (fT hr_38) rfl hb12 rfl (by kernel_rfl) (by kernel_rfl) (by kernel_rfl) (by kernel_rfl) (by kernel_rfl) (by kernel_rfl) (by kernel_rfl) (by decide) (by kernel_rfl) wz (vI r_37.1) (by kernel_rfl) ([((au 0),some (.cells 2 [(vL eI r_37.2.L),(vI r_37.2.f_at)])),(n_29,gB 6 Log_.enc s_27.1)]:Hp) (by kernel_rfl) (ae (.d (.agg (Log_.enc (⟨x_5,r_34.1,(w64 ((k_22:Int)+1)),s_27.2.2.1,r_37.1,(⟨#[]⟩:ByteArray)⟩:Log_)))) wz (by kernel_rfl) (iA 0 (.inl rfl) z43 rfl wz (λn_40=>lm 0 il ft 2 eG rfl rfl [(vS x_5),(vS r_34.1),(vI (w64 ((k_22:Int)+1))),(vI s_27.2.2.1),(vI r_37.1),(vS (⟨#[]⟩:ByteArray))] rfl wz (ai (af (aa (ae (vS s_27.2.1) wz rfl (aK 0 2 il ft eG iw rfl rfl (.d (.agg (Log_.enc (⟨x_5,r_34.1,(w64 ((k_22:Int)+1)),s_27.2.2.1,r_37.1,(⟨#[]⟩:ByteArray)⟩:Log_)))) rfl wz ?_))))))))
     obtain ⟨r_41,hr_42,hc_30⟩:=bind_some hc_30
     refine ay (mR hr_42) rfl hb42 rfl rfl rfl rfl wz (aO mJ rfl 5 rfl wz (lm 0 il ft 2 sz9 rfl rfl [(vS x_5),(vS r_34.1),(vI (w64 ((k_22:Int)+1))),(vI s_27.2.2.1),(vI r_37.1),(vS r_41)] rfl wz (ai (af (aa (aO mJ rfl 5 rfl wz (aK 0 2 il ft sz9 ag9 rfl rfl (vS r_41) rfl wz (ae (vS r_41) wz rfl (ai (af (aa (ae (vI s_27.2.2.1) wz rfl (ae (.ref (au 0) 0 0) wz rfl (gW (([0,5,10,50,100]:List Int).map eI) uV Al rfl rfl rfl rfl rfl wz ?_))))))))))))))
     obtain ⟨r_43,hr_44,hc_30⟩:=bind_some hc_30
     refine bu 0 [0] il ft (fT hr_44) rfl hb12 rfl (by kernel_rfl) (by kernel_rfl) (by kernel_rfl) (by kernel_rfl) (by kernel_rfl) (by kernel_rfl) (by kernel_rfl) (by decide) (by kernel_rfl) wz (vI r_43.1) (by kernel_rfl) ([((au 0),some (.cells 2 [(vL eI r_43.2.L),(vI r_43.2.f_at)])),(n_29,gB 6 Log_.enc s_27.1),(n_40,some (.cells 6 [(vS x_5),(vS r_34.1),(vI (w64 ((k_22:Int)+1))),(vI s_27.2.2.1),(vI r_37.1),(vS r_41)]))]:Hp) (by kernel_rfl) (ae (vI (w64 (s_27.2.2.1+r_43.1))) wz rfl (ae (vI (w64 (s_27.2.2.1+r_43.1))) wz rfl (ai (af (aa (ae (.ref (au 0) 0 0) wz rfl ?_))))))
     obtain ⟨r_46,hr_47,hc_30⟩:=bind_some hc_30
     refine bu 0 [0] il ft (dP hr_47) rfl CR rfl (by kernel_rfl) (by kernel_rfl) (by kernel_rfl) (by kernel_rfl) (by kernel_rfl) (by kernel_rfl) (by kernel_rfl) (by decide) (by kernel_rfl) wz (vB r_46.1) (by kernel_rfl) ([((au 0),some (.cells 2 [(vL eI r_46.2.L),(vI r_46.2.f_at)])),(n_29,gB 6 Log_.enc s_27.1),(n_40,some (.cells 6 [(vS x_5),(vS r_34.1),(vI (w64 ((k_22:Int)+1))),(vI s_27.2.2.1),(vI r_37.1),(vS r_41)]))]:Hp) (by kernel_rfl) (ae (vB (!r_46.1)) wz rfl (ai (aV (H0:=([((au 0),some (.cells 2 [(vL eI r_46.2.L),(vI r_46.2.f_at)])),(n_29,gB 6 Log_.enc s_27.1),(n_40,some (.cells 6 [(vS x_5),(vS r_34.1),(vI (w64 ((k_22:Int)+1))),(vI s_27.2.2.1),(vI r_37.1),(vS r_41)]))]:Hp)) ([(0,(.ref (au 0) 0 0)),(1,(vI most_2)),(5,(gV n_29 6 s_27.1)),(7,(vS x_5)),(8,(vS r_41)),(9,(vI (w64 (s_27.2.2.1+r_43.1)))),(11,(.ref n_40 0 0)),(12,(vL eS ([(⟨#[112,97]⟩:ByteArray),(⟨#[112,98]⟩:ByteArray)]:List ByteArray))),(13,(vI (([(⟨#[112,97]⟩:ByteArray),(⟨#[112,98]⟩:ByteArray)]:List ByteArray).length:Int))),(14,(vI (k_3:Int))),(23,(vI r_19.1)),(24,(vI (k_22:Int))),(51,(vB (!r_46.1)))]:SL_) (by kernel_rfl) (yn (by kernel_rfl)) ?_)))
     obtain ⟨v_49,h_50,hc_30⟩:=bind_some hc_30
     refine aH (β:=Nm) (λ(n_51:Nm)=>([(0,(.ref (au 0) 0 0)),(1,(vI most_2)),(5,(gV n_51 6 v_49)),(7,(vS x_5)),(8,(vS r_41)),(9,(vI (w64 (s_27.2.2.1+r_43.1)))),(12,(vL eS ([(⟨#[112,97]⟩:ByteArray),(⟨#[112,98]⟩:ByteArray)]:List ByteArray))),(13,(vI (([(⟨#[112,97]⟩:ByteArray),(⟨#[112,98]⟩:ByteArray)]:List ByteArray).length:Int))),(14,(vI (k_3:Int))),(23,(vI r_19.1)),(24,(vI (k_22:Int)))]:SL_)) (λ(n_51:Nm)=>([((au 0),some (.cells 2 [(vL eI r_46.2.L),(vI r_46.2.f_at)])),(n_51,gB 6 Log_.enc v_49),(n_40,some (.cells 6 [(vS x_5),(vS r_34.1),(vI (w64 ((k_22:Int)+1))),(vI s_27.2.2.1),(vI r_37.1),(vS r_41)]))]:Hp)) (λ_=>True) ?_ ?_
     ·rcases ak h_50 with⟨hc_52,h_50⟩|⟨hc_52,h_50⟩
      ·refine aB rfl hc_52 (aa (ae (gV n_29 6 s_27.1) wz rfl (aK 0 2 il ft eG iw rfl rfl (.d (.agg (Log_.enc (⟨x_5,r_34.1,(w64 ((k_22:Int)+1)),s_27.2.2.1,r_37.1,r_41⟩:Log_)))) rfl wz (gW (([(⟨x_5,r_34.1,(w64 ((k_22:Int)+1)),s_27.2.2.1,r_37.1,r_41⟩:Log_)]:List Log_).map Log_.enc) kz ez26 rfl rfl rfl rfl rfl wz ?_))))
       obtain ⟨a_53,hz_54,h_50⟩:=bind_some h_50
       refine vM 0 il ft (i:=1) Ae Ae eG z43 rfl (by decide) by43 (by decide) (λ_=>rfl) rfl rfl rfl hz_54 wz (λn_55=>ae (gV n_55 6 a_53) wz rfl (ai ?_))
       obtain rfl:=ah h_50
       exact bW n_55 trivial rfl (aN rfl)
      ·refine aA rfl hc_52 (ax ?_)
       obtain rfl:=ah h_50
       exact bW n_29 trivial rfl (aN rfl)
     ·rintro n_51 _ sl_ H_ hp_ hq_
      refine aV _ hp_ hq_ (aa (iQ (kN hD_25 hn_26) wz rfl (ae (vI ((k_22+1:Nat):Int)) wz rfl (ai ?_))))
      obtain rfl:=ah hc_30
      exact cO (k_22+1,l_23,(v_49,r_41,(w64 (s_27.2.2.1+r_43.1)),r_46.2.L,r_46.2.f_at),n_51) ⟨hL_31,bv hD_25⟩ (ls_ _) rfl (aN rfl)
   ·rintro ⟨s_27,n_29⟩ ho_ sl_ H_ hp_ hq_
    subst ho_
    refine aV _ hp_ hq_ (aa (iQ (dX hD_6 hn_7) wz rfl (ae (vI ((k_3+1:Nat):Int)) wz rfl (ai ?_))))
    obtain rfl:=ah hc_12
    exact cO (k_3+1,l_4,(s_27.1,s_27.2.2.2.1,s_27.2.2.2.2),n_29) ⟨hL_13,bv hD_6⟩ (ls_ _) rfl (aN rfl)
 ·rintro ⟨s_8,n_11⟩ ho_ sl_ H_ hp_ hq_
  subst ho_
  refine aV _ hp_ hq_ (af (aa (ae (gV n_11 6 s_8.1) wz rfl (ae (gV n_11 6 s_8.1) wz rfl (ai ?_)))))
  obtain rfl:=ah hF
  exact av (finG (outs:=([(.cells 2 [(vL eI s_8.2.1),(vI s_8.2.2)])]:List Box)) (.inr rfl) 1 rfl rfl rfl (by kernel_rfl) (by kernel_rfl))
theorem jw {s_1:Stream} {low_2:Int} {high_3:Int} {r:Int×Stream} (hF:eY s_1 low_2 high_3=some r) :
  FnM Tryz.prog 58 [(.ref (au 0) 0 0),(vI low_2),(vI high_3)] [(.cells 2 [(vL eI s_1.L),(vI s_1.f_at)])] (vI r.1) [some (.cells 2 [(vL eI r.2.L),(vI r.2.f_at)])]:=by
 refine FnM.of_wH ⟨Tryz.prog,22,[],[]⟩ rfl Tryz.func58 rfl rfl (lb_ rfl) (by kernel_rfl) ?_
 unfold eY at hF
 refine af (aa (ae (vI 0) wz rfl (ai (af (af (aa (ae (.ref (au 0) 0 0) wz rfl ?_)))))))
 obtain ⟨r_4,hr_5,hF⟩:=bind_some hF
 refine bu 0 [0] il ft (dP hr_5) rfl CR rfl (by kernel_rfl) (by kernel_rfl) (by kernel_rfl) (by kernel_rfl) (by kernel_rfl) (by kernel_rfl) (by kernel_rfl) (by decide) (by kernel_rfl) wz (vB r_4.1) (by kernel_rfl) ([((au 0),some (.cells 2 [(vL eI r_4.2.L),(vI r_4.2.f_at)]))]:Hp) (by kernel_rfl) (ai ?_)
 rcases ak hF with⟨hc_7,hF⟩|⟨hc_7,hF⟩
 ·refine aB rfl hc_7 (af (aa (ae (.ref (au 0) 0 0) wz rfl (ae (vI low_2) wz rfl (ae (vI (w64 (low_2-1))) wz rfl (ae (vI high_3) wz rfl (ae (vI (w64 (high_3+1))) wz rfl (ae (vI low_2) wz rfl (ae (vI high_3) wz rfl (gW (([(w64 (low_2-1)),(w64 (high_3+1)),low_2,high_3,(-1099511627776),1099511627776]:List Int).map eI) uV Al rfl rfl rfl rfl rfl wz ?_))))))))))
  obtain ⟨r_8,hr_9,hF⟩:=bind_some hF
  refine bu 0 [0] il ft (fT hr_9) rfl hb12 rfl (by kernel_rfl) (by kernel_rfl) (by kernel_rfl) (by kernel_rfl) (by kernel_rfl) (by kernel_rfl) (by kernel_rfl) (by decide) (by kernel_rfl) wz (vI r_8.1) (by kernel_rfl) ([((au 0),some (.cells 2 [(vL eI r_8.2.L),(vI r_8.2.f_at)]))]:Hp) (by kernel_rfl) (ae (vI r_8.1) wz rfl (ai ?_))
  obtain rfl:=ah hF
  exact av (nI (.inr rfl) [(vI r_8.1)] _ [0] [au 0] ⟨rfl,trivial⟩ (.cons (eQ rfl rfl) (.nil)) (by kernel_rfl) ⟨(by kernel_rfl),trivial⟩ (by decide) (by kernel_rfl))
 ·refine aA rfl hc_7 (ax (af (aa (ae (.ref (au 0) 0 0) wz rfl (ae (vI low_2) wz rfl (ae (vI high_3) wz rfl ?_))))))
  obtain ⟨r_11,hr_12,hF⟩:=bind_some hF
  refine bu 0 [0] il ft (lg hr_12) rfl hb109 rfl (by kernel_rfl) (by kernel_rfl) (by kernel_rfl) (by kernel_rfl) (by kernel_rfl) (by kernel_rfl) (by kernel_rfl) (by decide) (by kernel_rfl) wz (vI r_11.1) (by kernel_rfl) ([((au 0),some (.cells 2 [(vL eI r_11.2.L),(vI r_11.2.f_at)]))]:Hp) (by kernel_rfl) (ae (vI r_11.1) wz rfl (ai ?_))
  obtain rfl:=ah hF
  exact av (nI (.inr rfl) [(vI r_11.1)] _ [0] [au 0] ⟨rfl,trivial⟩ (.cons (eQ rfl rfl) (.nil)) (by kernel_rfl) ⟨(by kernel_rfl),trivial⟩ (by decide) (by kernel_rfl))
theorem qN {s_1:Stream} {most_2:Int} {r:(List Log_)×Stream} (hF:gH s_1 most_2=some r) :
  FnM Tryz.prog 8 [(.ref (au 0) 0 0),(vI most_2)] [(.cells 2 [(vL eI s_1.L),(vI s_1.f_at)])] (vL Log_.enc r.1) [some (.cells 2 [(vL eI r.2.L),(vI r.2.f_at)])]:=by
 refine FnM.of_wH ⟨Tryz.prog,100,[],[]⟩ rfl Tryz.func8 rfl rfl (lb_ rfl) (by kernel_rfl) ?_
 unfold gH at hF
 refine af (aa (ae .nil wz rfl (ai (af (aa (ae (.ref (au 0) 0 0) wz rfl (ae (vI most_2) wz rfl ?_)))))))
 obtain ⟨r_3,hr_4,hF⟩:=bind_some hF
 refine yg [0] (mF hr_4) rfl hb57 rfl (by kernel_rfl) (by kernel_rfl) (by kernel_rfl) (by kernel_rfl) (by kernel_rfl) rfl (by decide) (by kernel_rfl) wz ([((au 0),some (.cells 2 [(vL eI r_3.2.L),(vI r_3.2.f_at)]))]:Hp) (λ_=>by kernel_rfl) (λn_6=>ae (gV n_6 6 r_3.1) wz rfl (ai (af (af ?_))))
 obtain ⟨v_7,h_8,hF⟩:=bind_some hF
 refine aH (β:=Unit) (λ_=>([(0,(.ref (au 0) 0 0)),(5,(gV n_6 6 r_3.1)),(17,(vB v_7.1))]:SL_)) (λ_=>([((au 0),some (.cells 2 [(vL eI v_7.2.1),(vI v_7.2.2)])),(n_6,gB 6 Log_.enc r_3.1)]:Hp)) (λ_=>True) ?_ ?_
 ·refine aa (ae (gV n_6 6 r_3.1) wz rfl (uW kC rfl wz (ae (vB (decide ((r_3.1.length:Int)>0))) wz rfl ?_)))
  rcases ak h_8 with⟨hc_9,h_8⟩|⟨hc_9,h_8⟩
  ·refine aC rfl hc_9 wz (ae (.ref (au 0) 0 0) wa rfl ?_)
   obtain ⟨r_10,hr_11,h_8⟩:=bind_some h_8
   refine bu 0 [0] il ft (dP hr_11) rfl CR rfl (by kernel_rfl) (by kernel_rfl) (by kernel_rfl) (by kernel_rfl) (by kernel_rfl) (by kernel_rfl) (by kernel_rfl) (by decide) (by kernel_rfl) wa (vB r_10.1) (by kernel_rfl) ([((au 0),some (.cells 2 [(vL eI r_10.2.L),(vI r_10.2.f_at)])),(n_6,gB 6 Log_.enc r_3.1)]:Hp) (by kernel_rfl) (ae (vB r_10.1) wz rfl (ai ?_))
   obtain rfl:=ah h_8
   exact cu
  ·refine aC rfl hc_9 wz (aj wa (aj wa (ae (vB false) wz rfl (ai ?_))))
   obtain rfl:=ah h_8
   exact cu
 ·rintro ⟨⟩ _ sl_ H_ hp_ hq_
  refine aV _ hp_ hq_ ?_
  obtain ⟨v_13,h_14,hF⟩:=bind_some hF
  refine aH (β:=Unit) (λ_=>([(0,(.ref (au 0) 0 0)),(5,(gV n_6 6 v_13.1))]:SL_)) (λ_=>([((au 0),some (.cells 2 [(vL eI v_13.2.1),(vI v_13.2.2)])),(n_6,gB 6 Log_.enc v_13.1)]:Hp)) (λ_=>True) ?_ ?_
  ·rcases ak h_14 with⟨hc_15,h_14⟩|⟨hc_15,h_14⟩
   ·refine aB rfl hc_15 (af (aa (ae (gV n_6 6 r_3.1) wz rfl (ae (.ref (au 0) 0 0) wz rfl (ae (gV n_6 6 r_3.1) wz rfl (uW kC rfl wz ?_))))))
    obtain ⟨r_16,hr_17,h_14⟩:=bind_some h_14
    refine bu 0 [0] il ft (dw hr_17) rfl AV rfl (by kernel_rfl) (by kernel_rfl) (by kernel_rfl) (by kernel_rfl) (by kernel_rfl) (by kernel_rfl) (by kernel_rfl) (by decide) (by kernel_rfl) wz (vI r_16.1) (by kernel_rfl) ([((au 0),some (.cells 2 [(vL eI r_16.2.L),(vI r_16.2.f_at)])),(n_6,gB 6 Log_.enc r_3.1)]:Hp) (by kernel_rfl) ?_
    obtain ⟨_,hi_19,h_14⟩:=bind_some h_14
    refine xP kz rfl rfl (uS hi_19) (nT hi_19) wz (ae (.ref n_6 (0+(r_16.1).toNat) 0) wz rfl (ai (bU (ae (.ref n_6 (0+(r_16.1).toNat) 0) wz rfl (ae (.ref n_6 (0+(r_16.1).toNat) 0) wz rfl (ae (.ref (au 0) 0 0) wz rfl (gW (([(⟨#[105,97]⟩:ByteArray),(⟨#[105,99]⟩:ByteArray)]:List ByteArray).map eS) uy yc rfl rfl rfl rfl rfl wz ?_)))))))
    obtain ⟨r_20,hr_21,h_14⟩:=bind_some h_14
    refine bu 4 [0] (.inr (by kernel_rfl)) (λ_ _ ag=>by exact trivial) (dz hr_21) rfl AQ rfl (by kernel_rfl) (by kernel_rfl) (by kernel_rfl) (by kernel_rfl) (by kernel_rfl) (by kernel_rfl) (by kernel_rfl) (by decide) (by kernel_rfl) wz (vS r_20.1) (by kernel_rfl) ([((au 0),some (.cells 2 [(vL eI r_20.2.L),(vI r_20.2.f_at)])),(n_6,gB 6 Log_.enc r_3.1)]:Hp) (by kernel_rfl) (ae (.ref (au 0) 0 0) wz rfl (ae (.ref n_6 (0+(r_16.1).toNat) 0) wz rfl (ae (.ref n_6 (0+(r_16.1).toNat) 0) wz rfl (aO mJ rfl 5 rfl wz ?_))))
    obtain ⟨e_23,hy_24,h_14⟩:=bind_some h_14
    refine Ef 9 1 (.inr (by kernel_rfl)) (λ_ _ ag=>⟨.inr (.inl (dis1 (ag_ne ag (i:=1) (j:=0) rfl rfl (by decide)))),trivial⟩) sz9 ag9 rfl rfl hy_24 (vS e_23.Sum) rfl wz ?_
    obtain ⟨r_25,hr_26,h_14⟩:=bind_some h_14
    refine ay (oo hr_26) rfl hb18 rfl rfl rfl rfl wz (gW (([e_23.Sum,r_25]:List ByteArray).map eS) uy yc rfl rfl rfl rfl rfl wz ?_)
    obtain ⟨r_27,hr_28,h_14⟩:=bind_some h_14
    refine bu 12 [0] (.inr (by kernel_rfl)) (λ_ _ ag=>by exact⟨.inr (.inr (by kernel_rfl)),⟨.inr (.inr (by kernel_rfl)),trivial⟩⟩) (dz hr_28) rfl AQ rfl (by kernel_rfl) (by kernel_rfl) (by kernel_rfl) (by kernel_rfl) (by kernel_rfl) (by kernel_rfl) (by kernel_rfl) (by decide) (by kernel_rfl) wz (vS r_27.1) (by kernel_rfl) ([((au 0),some (.cells 2 [(vL eI r_27.2.L),(vI r_27.2.f_at)])),(n_6,gB 6 Log_.enc r_3.1)]:Hp) (by kernel_rfl) (ae (.ref n_6 (0+(r_16.1).toNat) 0) wz rfl (aO rV rfl 1 rfl wz ?_))
    obtain ⟨e_30,hy_31,h_14⟩:=bind_some h_14
    refine lS 15 (.inr (by kernel_rfl)) (λ_ _ ag=>⟨.inr (.inr (by kernel_rfl)),⟨.inr (.inr (by kernel_rfl)),⟨.inr (.inr (by kernel_rfl)),trivial⟩⟩⟩) 1 sz9 rfl rfl hy_31 (⟨e_30.Player,r_20.1,e_30.No,e_30.Clock,e_30.Long,e_30.Sum⟩:Log_) rfl wz (fH (v':=(gV n_6 6 (r_3.1.set (0+(r_16.1).toNat) (⟨e_30.Player,r_20.1,e_30.No,e_30.Clock,e_30.Long,e_30.Sum⟩:Log_)))) 5 rfl (dD (by simp)) (fH (v':=(gV n_6 6 (r_3.1.set (0+(r_16.1).toNat) (⟨e_30.Player,r_20.1,e_30.No,e_30.Clock,e_30.Long,e_30.Sum⟩:Log_)))) 18 rfl (dD (by simp)) (fH (v':=(gV n_6 6 (r_3.1.set (0+(r_16.1).toNat) (⟨e_30.Player,r_20.1,e_30.No,e_30.Clock,e_30.Long,e_30.Sum⟩:Log_)))) 20 rfl (dD (by simp)) (ae (.ref n_6 (0+(r_16.1).toNat) 0) wz rfl (aO mJ rfl 5 rfl wz ?_)))))
    obtain ⟨e_32,hy_33,h_14⟩:=bind_some h_14
    refine lS 18 (.inr (by kernel_rfl)) (λ_ _ ag=>⟨.inr (.inr (by kernel_rfl)),⟨.inr (.inr (by kernel_rfl)),⟨.inr (.inr (by kernel_rfl)),⟨.inr (.inr (by kernel_rfl)),trivial⟩⟩⟩⟩) 1 sz9 rfl rfl hy_33 (⟨e_32.Player,e_32.Item,e_32.No,e_32.Clock,e_32.Long,r_27.1⟩:Log_) rfl wz (fH (v':=(gV n_6 6 ((r_3.1.set (0+(r_16.1).toNat) (⟨e_30.Player,r_20.1,e_30.No,e_30.Clock,e_30.Long,e_30.Sum⟩:Log_)).set (0+(r_16.1).toNat) (⟨e_32.Player,e_32.Item,e_32.No,e_32.Clock,e_32.Long,r_27.1⟩:Log_)))) 5 rfl (dD (by simp)) (fH (v':=(gV n_6 6 ((r_3.1.set (0+(r_16.1).toNat) (⟨e_30.Player,r_20.1,e_30.No,e_30.Clock,e_30.Long,e_30.Sum⟩:Log_)).set (0+(r_16.1).toNat) (⟨e_32.Player,e_32.Item,e_32.No,e_32.Clock,e_32.Long,r_27.1⟩:Log_)))) 18 rfl (dD (by simp)) (fH (v':=(gV n_6 6 ((r_3.1.set (0+(r_16.1).toNat) (⟨e_30.Player,r_20.1,e_30.No,e_30.Clock,e_30.Long,e_30.Sum⟩:Log_)).set (0+(r_16.1).toNat) (⟨e_32.Player,e_32.Item,e_32.No,e_32.Clock,e_32.Long,r_27.1⟩:Log_)))) 20 rfl (dD (by simp)) (ai ?_))))
    obtain rfl:=ah h_14
    exact cu
   ·refine aA rfl hc_15 (ax ?_)
    obtain rfl:=ah h_14
    exact cu
  ·rintro ⟨⟩ _ sl_ H_ hp_ hq_
   refine aV _ hp_ hq_ (af (af ?_))
   obtain ⟨v_34,h_35,hF⟩:=bind_some hF
   refine aH (β:=Unit) (λ_=>([(0,(.ref (au 0) 0 0)),(5,(gV n_6 6 v_13.1)),(47,(vB v_34.1))]:SL_)) (λ_=>([((au 0),some (.cells 2 [(vL eI v_34.2.1),(vI v_34.2.2)])),(n_6,gB 6 Log_.enc v_13.1)]:Hp)) (λ_=>True) ?_ ?_
   ·refine aa (ae (gV n_6 6 v_13.1) wz rfl (uW kC rfl wz (ae (vB (decide ((v_13.1.length:Int)>0))) wz rfl ?_)))
    rcases ak h_35 with⟨hc_36,h_35⟩|⟨hc_36,h_35⟩
    ·refine aC rfl hc_36 wz (ae (.ref (au 0) 0 0) wa rfl ?_)
     obtain ⟨r_37,hr_38,h_35⟩:=bind_some h_35
     refine bu 0 [0] il ft (dP hr_38) rfl CR rfl (by kernel_rfl) (by kernel_rfl) (by kernel_rfl) (by kernel_rfl) (by kernel_rfl) (by kernel_rfl) (by kernel_rfl) (by decide) (by kernel_rfl) wa (vB r_37.1) (by kernel_rfl) ([((au 0),some (.cells 2 [(vL eI r_37.2.L),(vI r_37.2.f_at)])),(n_6,gB 6 Log_.enc v_13.1)]:Hp) (by kernel_rfl) (ae (vB r_37.1) wz rfl (ai ?_))
     obtain rfl:=ah h_35
     exact cu
    ·refine aC rfl hc_36 wz (aj wa (aj wa (ae (vB false) wz rfl (ai ?_))))
     obtain rfl:=ah h_35
     exact cu
   ·rintro ⟨⟩ _ sl_ H_ hp_ hq_
    refine aV _ hp_ hq_ ?_
    obtain ⟨v_40,h_41,hF⟩:=bind_some hF
    refine aH (β:=Unit) (λ_=>([(5,(gV n_6 6 v_40.1))]:SL_)) (λ_=>([((au 0),some (.cells 2 [(vL eI v_40.2.1),(vI v_40.2.2)])),(n_6,gB 6 Log_.enc v_40.1)]:Hp)) (λ_=>True) ?_ ?_
    ·rcases ak h_41 with⟨hc_42,h_41⟩|⟨hc_42,h_41⟩
     ·refine aB rfl hc_42 (af (aa (ae (gV n_6 6 v_13.1) wz rfl (ae (.ref (au 0) 0 0) wz rfl (ae (gV n_6 6 v_13.1) wz rfl (uW kC rfl wz ?_))))))
      obtain ⟨r_43,hr_44,h_41⟩:=bind_some h_41
      refine bu 0 [0] il ft (dw hr_44) rfl AV rfl (by kernel_rfl) (by kernel_rfl) (by kernel_rfl) (by kernel_rfl) (by kernel_rfl) (by kernel_rfl) (by kernel_rfl) (by decide) (by kernel_rfl) wz (vI r_43.1) (by kernel_rfl) ([((au 0),some (.cells 2 [(vL eI r_43.2.L),(vI r_43.2.f_at)])),(n_6,gB 6 Log_.enc v_13.1)]:Hp) (by kernel_rfl) ?_
      obtain ⟨_,hi_46,h_41⟩:=bind_some h_41
      refine xP kz rfl rfl (uS hi_46) (nT hi_46) wz (ae (.ref n_6 (0+(r_43.1).toNat) 0) wz rfl (ai (af (aa (ae (.ref (au 0) 0 0) wz rfl ?_)))))
      obtain ⟨r_47,hr_48,h_41⟩:=bind_some h_41
      refine bu 0 [0] il ft (dw hr_48) rfl AV rfl (by kernel_rfl) (by kernel_rfl) (by kernel_rfl) (by kernel_rfl) (by kernel_rfl) (by kernel_rfl) (by kernel_rfl) (by decide) (by kernel_rfl) wz (vI r_47.1) (by kernel_rfl) ([((au 0),some (.cells 2 [(vL eI r_47.2.L),(vI r_47.2.f_at)])),(n_6,gB 6 Log_.enc v_13.1)]:Hp) (by kernel_rfl) (ai (aG (af (aa (ae (vB (r_47.1==0)) wz rfl (ae (vB (r_47.1==0)) wz rfl (ai ?_)))))))
      rcases ak h_41 with⟨hc_50,h_41⟩|⟨hc_50,h_41⟩
      ·refine aB rfl hc_50 (aa (ae (.ref n_6 (0+(r_43.1).toNat) 0) wz rfl (ae (.ref n_6 (0+(r_43.1).toNat) 0) wz rfl (ae (.ref (au 0) 0 0) wz rfl (ae (.ref n_6 (0+(r_43.1).toNat) 0) wz rfl (ae (.ref n_6 (0+(r_43.1).toNat) 0) wz rfl (aO fZ rfl 0 rfl wz ?_)))))))
       obtain ⟨e_51,hy_52,h_41⟩:=bind_some h_41
       refine Ef 0 1 il ft sz9 ag9 rfl rfl hy_52 (vS e_51.Player) rfl wz (gW (([e_51.Player,(⟨#[]⟩:ByteArray),(⟨#[65]⟩:ByteArray)]:List ByteArray).map eS) uy yc rfl rfl rfl rfl rfl wz ?_)
       obtain ⟨r_53,hr_54,h_41⟩:=bind_some h_41
       refine bu 0 [0] il ft (dz hr_54) rfl AQ rfl (by kernel_rfl) (by kernel_rfl) (by kernel_rfl) (by kernel_rfl) (by kernel_rfl) (by kernel_rfl) (by kernel_rfl) (by decide) (by kernel_rfl) wz (vS r_53.1) (by kernel_rfl) ([((au 0),some (.cells 2 [(vL eI r_53.2.L),(vI r_53.2.f_at)])),(n_6,gB 6 Log_.enc v_13.1)]:Hp) (by kernel_rfl) (ae (.ref (au 0) 0 0) wz rfl (gW (([(⟨#[105,97]⟩:ByteArray),(⟨#[]⟩:ByteArray)]:List ByteArray).map eS) uy yc rfl rfl rfl rfl rfl wz ?_))
       obtain ⟨r_56,hr_57,h_41⟩:=bind_some h_41
       refine bu 0 [0] il ft (dz hr_57) rfl AQ rfl (by kernel_rfl) (by kernel_rfl) (by kernel_rfl) (by kernel_rfl) (by kernel_rfl) (by kernel_rfl) (by kernel_rfl) (by decide) (by kernel_rfl) wz (vS r_56.1) (by kernel_rfl) ([((au 0),some (.cells 2 [(vL eI r_56.2.L),(vI r_56.2.f_at)])),(n_6,gB 6 Log_.enc v_13.1)]:Hp) (by kernel_rfl) (ae (.ref n_6 (0+(r_43.1).toNat) 0) wz rfl (aO fZ rfl 0 rfl wz ?_))
       obtain ⟨e_59,hy_60,h_41⟩:=bind_some h_41
       refine lS 0 il ft 1 sz9 rfl rfl hy_60 (⟨r_53.1,e_59.Item,e_59.No,e_59.Clock,e_59.Long,e_59.Sum⟩:Log_) rfl wz (fH (v':=(gV n_6 6 (v_13.1.set (0+(r_43.1).toNat) (⟨r_53.1,e_59.Item,e_59.No,e_59.Clock,e_59.Long,e_59.Sum⟩:Log_)))) 5 rfl (dD (by simp)) (fH (v':=(gV n_6 6 (v_13.1.set (0+(r_43.1).toNat) (⟨r_53.1,e_59.Item,e_59.No,e_59.Clock,e_59.Long,e_59.Sum⟩:Log_)))) 48 rfl (dD (by simp)) (fH (v':=(gV n_6 6 (v_13.1.set (0+(r_43.1).toNat) (⟨r_53.1,e_59.Item,e_59.No,e_59.Clock,e_59.Long,e_59.Sum⟩:Log_)))) 50 rfl (dD (by simp)) (ae (.ref n_6 (0+(r_43.1).toNat) 0) wz rfl (aO rV rfl 1 rfl wz ?_)))))
       obtain ⟨e_61,hy_62,h_41⟩:=bind_some h_41
       refine lS 0 il ft 1 sz9 rfl rfl hy_62 (⟨e_61.Player,r_56.1,e_61.No,e_61.Clock,e_61.Long,e_61.Sum⟩:Log_) rfl wz (fH (v':=(gV n_6 6 ((v_13.1.set (0+(r_43.1).toNat) (⟨r_53.1,e_59.Item,e_59.No,e_59.Clock,e_59.Long,e_59.Sum⟩:Log_)).set (0+(r_43.1).toNat) (⟨e_61.Player,r_56.1,e_61.No,e_61.Clock,e_61.Long,e_61.Sum⟩:Log_)))) 5 rfl (dD (by simp)) (fH (v':=(gV n_6 6 ((v_13.1.set (0+(r_43.1).toNat) (⟨r_53.1,e_59.Item,e_59.No,e_59.Clock,e_59.Long,e_59.Sum⟩:Log_)).set (0+(r_43.1).toNat) (⟨e_61.Player,r_56.1,e_61.No,e_61.Clock,e_61.Long,e_61.Sum⟩:Log_)))) 48 rfl (dD (by simp)) (fH (v':=(gV n_6 6 ((v_13.1.set (0+(r_43.1).toNat) (⟨r_53.1,e_59.Item,e_59.No,e_59.Clock,e_59.Long,e_59.Sum⟩:Log_)).set (0+(r_43.1).toNat) (⟨e_61.Player,r_56.1,e_61.No,e_61.Clock,e_61.Long,e_61.Sum⟩:Log_)))) 50 rfl (dD (by simp)) (ai ?_))))
       obtain rfl:=ah h_41
       exact cu
      ·refine aA rfl hc_50 (af (aa (ae (vB (r_47.1==1)) wz rfl (ae (vB (r_47.1==1)) wz rfl (ai ?_)))))
       rcases ak h_41 with⟨hc_63,h_41⟩|⟨hc_63,h_41⟩
       ·refine aB rfl hc_63 (aa (ae (.ref n_6 (0+(r_43.1).toNat) 0) wz rfl (ae (.ref (au 0) 0 0) wz rfl ?_)))
        obtain ⟨r_64,hr_65,h_41⟩:=bind_some h_41
        refine bu 0 [0] il ft (jw hr_65) rfl hb58 rfl (by kernel_rfl) (by kernel_rfl) (by kernel_rfl) (by kernel_rfl) (by kernel_rfl) (by kernel_rfl) (by kernel_rfl) (by decide) (by kernel_rfl) wz (vI r_64.1) (by kernel_rfl) ([((au 0),some (.cells 2 [(vL eI r_64.2.L),(vI r_64.2.f_at)])),(n_6,gB 6 Log_.enc v_13.1)]:Hp) (by kernel_rfl) (ae (.ref n_6 (0+(r_43.1).toNat) 0) wz rfl (aO iX rfl 2 rfl wz ?_))
        obtain ⟨e_67,hy_68,h_41⟩:=bind_some h_41
        refine lS 0 il ft 1 sz3 rfl rfl hy_68 (⟨e_67.Player,e_67.Item,r_64.1,e_67.Clock,e_67.Long,e_67.Sum⟩:Log_) rfl wz (fH (v':=(gV n_6 6 (v_13.1.set (0+(r_43.1).toNat) (⟨e_67.Player,e_67.Item,r_64.1,e_67.Clock,e_67.Long,e_67.Sum⟩:Log_)))) 5 rfl (dD (by simp)) (fH (v':=(gV n_6 6 (v_13.1.set (0+(r_43.1).toNat) (⟨e_67.Player,e_67.Item,r_64.1,e_67.Clock,e_67.Long,e_67.Sum⟩:Log_)))) 48 rfl (dD (by simp)) (fH (v':=(gV n_6 6 (v_13.1.set (0+(r_43.1).toNat) (⟨e_67.Player,e_67.Item,r_64.1,e_67.Clock,e_67.Long,e_67.Sum⟩:Log_)))) 50 rfl (dD (by simp)) (ai ?_))))
        obtain rfl:=ah h_41
        exact cu
       ·refine aA rfl hc_63 (af (aa (ae (vB (r_47.1==2)) wz rfl (ae (vB (r_47.1==2)) wz rfl (ai ?_)))))
        rcases ak h_41 with⟨hc_69,h_41⟩|⟨hc_69,h_41⟩
        ·refine aB rfl hc_69 (aa (ae (.ref n_6 (0+(r_43.1).toNat) 0) wz rfl (ae (.ref n_6 (0+(r_43.1).toNat) 0) wz rfl (ae (.ref (au 0) 0 0) wz rfl ?_))))
         obtain ⟨r_70,hr_71,h_41⟩:=bind_some h_41
         refine bu 0 [0] il ft (jw hr_71) rfl hb58 rfl (by kernel_rfl) (by kernel_rfl) (by kernel_rfl) (by kernel_rfl) (by kernel_rfl) (by kernel_rfl) (by kernel_rfl) (by decide) (by kernel_rfl) wz (vI r_70.1) (by kernel_rfl) ([((au 0),some (.cells 2 [(vL eI r_70.2.L),(vI r_70.2.f_at)])),(n_6,gB 6 Log_.enc v_13.1)]:Hp) (by kernel_rfl) (ae (.ref (au 0) 0 0) wz rfl ?_)
         obtain ⟨r_73,hr_74,h_41⟩:=bind_some h_41
         refine bu 0 [0] il ft (jw hr_74) rfl hb58 rfl (by kernel_rfl) (by kernel_rfl) (by kernel_rfl) (by kernel_rfl) (by kernel_rfl) (by kernel_rfl) (by kernel_rfl) (by decide) (by kernel_rfl) wz (vI r_73.1) (by kernel_rfl) ([((au 0),some (.cells 2 [(vL eI r_73.2.L),(vI r_73.2.f_at)])),(n_6,gB 6 Log_.enc v_13.1)]:Hp) (by kernel_rfl) (ae (.ref n_6 (0+(r_43.1).toNat) 0) wz rfl (aO vk rfl 3 rfl wz ?_))
         obtain ⟨e_76,hy_77,h_41⟩:=bind_some h_41
         refine lS 0 il ft 1 sz3 rfl rfl hy_77 (⟨e_76.Player,e_76.Item,e_76.No,r_70.1,e_76.Long,e_76.Sum⟩:Log_) rfl wz (fH (v':=(gV n_6 6 (v_13.1.set (0+(r_43.1).toNat) (⟨e_76.Player,e_76.Item,e_76.No,r_70.1,e_76.Long,e_76.Sum⟩:Log_)))) 5 rfl (dD (by simp)) (fH (v':=(gV n_6 6 (v_13.1.set (0+(r_43.1).toNat) (⟨e_76.Player,e_76.Item,e_76.No,r_70.1,e_76.Long,e_76.Sum⟩:Log_)))) 48 rfl (dD (by simp)) (fH (v':=(gV n_6 6 (v_13.1.set (0+(r_43.1).toNat) (⟨e_76.Player,e_76.Item,e_76.No,r_70.1,e_76.Long,e_76.Sum⟩:Log_)))) 50 rfl (dD (by simp)) (ae (.ref n_6 (0+(r_43.1).toNat) 0) wz rfl (aO uT rfl 4 rfl wz ?_)))))
         obtain ⟨e_78,hy_79,h_41⟩:=bind_some h_41
         refine lS 0 il ft 1 sz3 rfl rfl hy_79 (⟨e_78.Player,e_78.Item,e_78.No,e_78.Clock,r_73.1,e_78.Sum⟩:Log_) rfl wz (fH (v':=(gV n_6 6 ((v_13.1.set (0+(r_43.1).toNat) (⟨e_76.Player,e_76.Item,e_76.No,r_70.1,e_76.Long,e_76.Sum⟩:Log_)).set (0+(r_43.1).toNat) (⟨e_78.Player,e_78.Item,e_78.No,e_78.Clock,r_73.1,e_78.Sum⟩:Log_)))) 5 rfl (dD (by simp)) (fH (v':=(gV n_6 6 ((v_13.1.set (0+(r_43.1).toNat) (⟨e_76.Player,e_76.Item,e_76.No,r_70.1,e_76.Long,e_76.Sum⟩:Log_)).set (0+(r_43.1).toNat) (⟨e_78.Player,e_78.Item,e_78.No,e_78.Clock,r_73.1,e_78.Sum⟩:Log_)))) 48 rfl (dD (by simp)) (fH (v':=(gV n_6 6 ((v_13.1.set (0+(r_43.1).toNat) (⟨e_76.Player,e_76.Item,e_76.No,r_70.1,e_76.Long,e_76.Sum⟩:Log_)).set (0+(r_43.1).toNat) (⟨e_78.Player,e_78.Item,e_78.No,e_78.Clock,r_73.1,e_78.Sum⟩:Log_)))) 50 rfl (dD (by simp)) (ai ?_))))
         obtain rfl:=ah h_41
         exact cu
        ·refine aA rfl hc_69 (aa (ae (.ref n_6 (0+(r_43.1).toNat) 0) wz rfl (ae (.ref (au 0) 0 0) wz rfl (gW (([(⟨#[]⟩:ByteArray),(⟨#[120]⟩:ByteArray),(⟨#[48,49,50,51,52,53,54,55,56,57,65,66,67,68,69,70]⟩:ByteArray),(⟨#[48,49,50,51,52,53,54,55,56,57,97,98,99,100,101]⟩:ByteArray)]:List ByteArray).map eS) uy yc rfl rfl rfl rfl rfl wz ?_))))
         obtain ⟨r_80,hr_81,h_41⟩:=bind_some h_41
         refine bu 0 [0] il ft (dz hr_81) rfl AQ rfl (by kernel_rfl) (by kernel_rfl) (by kernel_rfl) (by kernel_rfl) (by kernel_rfl) (by kernel_rfl) (by kernel_rfl) (by decide) (by kernel_rfl) wz (vS r_80.1) (by kernel_rfl) ([((au 0),some (.cells 2 [(vL eI r_80.2.L),(vI r_80.2.f_at)])),(n_6,gB 6 Log_.enc v_13.1)]:Hp) (by kernel_rfl) (ae (.ref n_6 (0+(r_43.1).toNat) 0) wz rfl (aO mJ rfl 5 rfl wz ?_))
         obtain ⟨e_83,hy_84,h_41⟩:=bind_some h_41
         refine lS 0 il ft 1 sz9 rfl rfl hy_84 (⟨e_83.Player,e_83.Item,e_83.No,e_83.Clock,e_83.Long,r_80.1⟩:Log_) rfl wz (fH (v':=(gV n_6 6 (v_13.1.set (0+(r_43.1).toNat) (⟨e_83.Player,e_83.Item,e_83.No,e_83.Clock,e_83.Long,r_80.1⟩:Log_)))) 5 rfl (dD (by simp)) (fH (v':=(gV n_6 6 (v_13.1.set (0+(r_43.1).toNat) (⟨e_83.Player,e_83.Item,e_83.No,e_83.Clock,e_83.Long,r_80.1⟩:Log_)))) 48 rfl (dD (by simp)) (fH (v':=(gV n_6 6 (v_13.1.set (0+(r_43.1).toNat) (⟨e_83.Player,e_83.Item,e_83.No,e_83.Clock,e_83.Long,r_80.1⟩:Log_)))) 50 rfl (dD (by simp)) (ai ?_))))
         obtain rfl:=ah h_41
         exact cu
     ·refine aA rfl hc_42 (ax ?_)
      obtain rfl:=ah h_41
      exact cu
    ·rintro ⟨⟩ _ sl_ H_ hp_ hq_
     refine aV _ hp_ hq_ (af (aa (ae (gV n_6 6 v_40.1) wz rfl (ae (gV n_6 6 v_40.1) wz rfl (ai (lV 1 rfl (jc 4 1 rfl rfl (jc 5 1 rfl rfl (jc 99 1 rfl rfl ?_)))))))))
     obtain rfl:=ah hF
     exact av (nI (.inr rfl) [(vL Log_.enc v_40.1)] _ [0] [au 0] ⟨rfl,trivial⟩ (.cons (eQ rfl rfl) (.nil)) (by kernel_rfl) ⟨(by kernel_rfl),trivial⟩ (by decide) (by kernel_rfl))
theorem kE {s_1:ByteArray} {r:Bool} (hF:iJ s_1=some r) :
  FnM Tryz.prog 119 [(vS s_1)] [] (vB r) []:=by
 refine FnM.of_wH ⟨Tryz.prog,48,[],[]⟩ rfl Tryz.func119 rfl rfl (lb_ rfl) (by kernel_rfl) ?_
 unfold iJ at hF
 refine af (aa (ae (vB false) wz rfl (ai (af (af (aa (ae (vI 0) wz rfl (ai ?_))))))))
 obtain ⟨o_10,hj_11,hF⟩:=bind_some hF
 obtain ⟨nq_33,hj_11⟩:=jA hj_11
 refine aH (β:=(Int)) (λ(s_7:Int)=>([(0,(vS s_1))]:SL_)) (λ(s_7:Int)=>([]:Hp)) (λp=>o_10 = .go p) ?_ ?_
 ·refine aG (bZ (β:=Nat×(Int)) (λp=>(λ(k_2:Nat) (s_7:Int)=>([(0,(vS s_1)),(3,(vI s_7))]:SL_)) p.1 p.2) (λp=>(λ(k_2:Nat) (s_7:Int)=>([]:Hp)) p.1 p.2) (λp=>fE (λs=>fG s_1 s) p.1 p.2=some o_10) (λp=>p.1) (nq_33,0) hj_11 rfl (aN rfl) ?_)
  rintro ⟨k_2,s_7⟩ hL_9
  dsimp only at hL_9
  cases k_2 with
  | zero=>cases hL_9
  | succ k_2 =>
   obtain ⟨c_,hc_8,hL_9⟩:=bind_some hL_9
   unfold fG at hc_8
   refine af (af (aa (ae (vI s_7) wz rfl (ae (vS s_1) wz rfl (oF un9 rfl wz (ae (vB (decide (s_7<(s_1.size:Int)))) wz rfl (ai ?_)))))))
   rcases ak hc_8 with⟨hc_12,hc_8⟩|⟨hc_12,hc_8⟩
   ·refine aB rfl hc_12 (ax (af (aG (af (aa (ae (vS s_1) wz rfl (ae (vI s_7) wz rfl ?_)))))))
    obtain ⟨b_13,hy_14,hc_8⟩:=bind_some hc_8
    refine p8 un9 rfl rfl hy_14 wz (ae (.d (.int .u8 (b_13.toNat:Int))) wz rfl (ai (af ?_)))
    obtain ⟨v_15,h_16,hc_8⟩:=bind_some hc_8
    refine aH (β:=Unit) (λ_=>([(0,(vS s_1)),(3,(vI s_7)),(40,(vB v_15))]:SL_)) (λ_=>([]:Hp)) (λ_=>True) ?_ ?_
    ·refine aa (ae (.d (.int .u8 (b_13.toNat:Int))) wz rfl (ae (vB (decide ((b_13.toNat:Int)>=97))) wz rfl ?_))
     rcases ak h_16 with⟨hc_17,h_16⟩|⟨hc_17,h_16⟩
     ·refine aC rfl hc_17 wz (ae (.d (.int .u8 (b_13.toNat:Int))) wa rfl (ae (vB (decide ((b_13.toNat:Int)<=122))) wa rfl (ae (vB (decide ((b_13.toNat:Int)<=122))) wz rfl ?_)))
      rcases ak h_16 with⟨hc_18,h_16⟩|⟨hc_18,h_16⟩
      ·refine aC rfl hc_18 wz (aj wa (aj wa (aj wa (aj (wn rfl rfl) (aj (wn rfl rfl) (aj (wn rfl rfl) (aj (wn rfl rfl) (aj (wn rfl rfl) (aj (wn rfl rfl) (aj (wn rfl rfl) (aj (wn rfl rfl) (aj (wn rfl rfl) (aj (wn rfl rfl) (aj (wn rfl rfl) (aj (wn rfl rfl) (aj (wn rfl rfl) (aj (wn rfl rfl) (aj wa (ae (vB true) wz rfl (ae (vB false) wz rfl (ai ?_)))))))))))))))))))))
       obtain rfl:=ah h_16
       exact cu
      ·refine aC rfl hc_18 wz (ae (vI s_7) wa rfl (ae (vB (decide (s_7>0))) wa rfl ?_))
       rcases ak h_16 with⟨hc_19,h_16⟩|⟨hc_19,h_16⟩
       ·refine aC rfl hc_19 wa (ae (.d (.int .u8 (b_13.toNat:Int))) wa rfl (ae (vB (decide ((b_13.toNat:Int)>=48))) wa rfl ?_))
        rcases ak h_16 with⟨hc_20,h_16⟩|⟨hc_20,h_16⟩
        ·refine aC rfl hc_20 wa (ae (.d (.int .u8 (b_13.toNat:Int))) wa rfl (ae (vB (decide ((b_13.toNat:Int)<=57))) wa rfl (ae (vB (decide ((b_13.toNat:Int)<=57))) wa rfl ?_)))
         rcases ak h_16 with⟨hc_21,h_16⟩|⟨hc_21,h_16⟩
         ·refine aC rfl hc_21 wa (aj wa (aj wa (ae (vB true) wa rfl (ae (vB true) wa rfl (aj wa (aj wa (ae (vB true) wa rfl (ae (vB true) wa rfl (ae (vB true) wz rfl (ae (vB false) wz rfl (ai ?_)))))))))))
          obtain rfl:=ah h_16
          exact cu
         ·refine aC rfl hc_21 wa (ae (.d (.int .u8 (b_13.toNat:Int))) wa rfl (ae (vB ((b_13.toNat:Int)==45)) wa rfl (ae (vB ((b_13.toNat:Int)==45)) wa rfl ?_)))
          rcases ak h_16 with⟨hc_22,h_16⟩|⟨hc_22,h_16⟩
          ·refine aC rfl hc_22 wa (aj wa (aj wa (ae (vB true) wa rfl (ae (vB true) wa rfl (ae (vB true) wz rfl (ae (vB false) wz rfl (ai ?_)))))))
           obtain rfl:=ah h_16
           exact cu
          ·refine aC rfl hc_22 wa (ae (.d (.int .u8 (b_13.toNat:Int))) wa rfl (ae (vB ((b_13.toNat:Int)==95)) wa rfl (ae (vB ((b_13.toNat:Int)==95)) wa rfl (ae (vB ((b_13.toNat:Int)==95)) wa rfl (ae (vB ((b_13.toNat:Int)==95)) wz rfl (ae (vB (!((b_13.toNat:Int)==95))) wz rfl (ai ?_)))))))
           obtain rfl:=ah h_16
           exact cu
        ·refine aC rfl hc_20 wa (aj wa (aj wa (ae (vB false) wa rfl (ae (vB false) wa rfl (ae (.d (.int .u8 (b_13.toNat:Int))) wa rfl (ae (vB ((b_13.toNat:Int)==45)) wa rfl (ae (vB ((b_13.toNat:Int)==45)) wa rfl ?_)))))))
         rcases ak h_16 with⟨hc_23,h_16⟩|⟨hc_23,h_16⟩
         ·refine aC rfl hc_23 wa (aj wa (aj wa (ae (vB true) wa rfl (ae (vB true) wa rfl (ae (vB true) wz rfl (ae (vB false) wz rfl (ai ?_)))))))
          obtain rfl:=ah h_16
          exact cu
         ·refine aC rfl hc_23 wa (ae (.d (.int .u8 (b_13.toNat:Int))) wa rfl (ae (vB ((b_13.toNat:Int)==95)) wa rfl (ae (vB ((b_13.toNat:Int)==95)) wa rfl (ae (vB ((b_13.toNat:Int)==95)) wa rfl (ae (vB ((b_13.toNat:Int)==95)) wz rfl (ae (vB (!((b_13.toNat:Int)==95))) wz rfl (ai ?_)))))))
          obtain rfl:=ah h_16
          exact cu
       ·refine aC rfl hc_19 wa (aj wa (aj wa (aj wa (aj (wn rfl rfl) (aj (wn rfl rfl) (aj wa (aj wa (aj (wn rfl rfl) (aj (wn rfl rfl) (aj wa (aj wa (aj (wn rfl rfl) (aj (wn rfl rfl) (aj wa (ae (vB false) wa rfl (ae (vB false) wz rfl (ae (vB true) wz rfl (ai ?_))))))))))))))))))
        obtain rfl:=ah h_16
        exact cu
     ·refine aC rfl hc_17 wz (aj wa (aj wa (ae (vB false) wz rfl (ae (vB false) wz rfl (ae (vI s_7) wa rfl (ae (vB (decide (s_7>0))) wa rfl ?_))))))
      rcases ak h_16 with⟨hc_24,h_16⟩|⟨hc_24,h_16⟩
      ·refine aC rfl hc_24 wa (ae (.d (.int .u8 (b_13.toNat:Int))) wa rfl (ae (vB (decide ((b_13.toNat:Int)>=48))) wa rfl ?_))
       rcases ak h_16 with⟨hc_25,h_16⟩|⟨hc_25,h_16⟩
       ·refine aC rfl hc_25 wa (ae (.d (.int .u8 (b_13.toNat:Int))) wa rfl (ae (vB (decide ((b_13.toNat:Int)<=57))) wa rfl (ae (vB (decide ((b_13.toNat:Int)<=57))) wa rfl ?_)))
        rcases ak h_16 with⟨hc_26,h_16⟩|⟨hc_26,h_16⟩
        ·refine aC rfl hc_26 wa (aj wa (aj wa (ae (vB true) wa rfl (ae (vB true) wa rfl (aj wa (aj wa (ae (vB true) wa rfl (ae (vB true) wa rfl (ae (vB true) wz rfl (ae (vB false) wz rfl (ai ?_)))))))))))
         obtain rfl:=ah h_16
         exact cu
        ·refine aC rfl hc_26 wa (ae (.d (.int .u8 (b_13.toNat:Int))) wa rfl (ae (vB ((b_13.toNat:Int)==45)) wa rfl (ae (vB ((b_13.toNat:Int)==45)) wa rfl ?_)))
         rcases ak h_16 with⟨hc_27,h_16⟩|⟨hc_27,h_16⟩
         ·refine aC rfl hc_27 wa (aj wa (aj wa (ae (vB true) wa rfl (ae (vB true) wa rfl (ae (vB true) wz rfl (ae (vB false) wz rfl (ai ?_)))))))
          obtain rfl:=ah h_16
          exact cu
         ·refine aC rfl hc_27 wa (ae (.d (.int .u8 (b_13.toNat:Int))) wa rfl (ae (vB ((b_13.toNat:Int)==95)) wa rfl (ae (vB ((b_13.toNat:Int)==95)) wa rfl (ae (vB ((b_13.toNat:Int)==95)) wa rfl (ae (vB ((b_13.toNat:Int)==95)) wz rfl (ae (vB (!((b_13.toNat:Int)==95))) wz rfl (ai ?_)))))))
          obtain rfl:=ah h_16
          exact cu
       ·refine aC rfl hc_25 wa (aj wa (aj wa (ae (vB false) wa rfl (ae (vB false) wa rfl (ae (.d (.int .u8 (b_13.toNat:Int))) wa rfl (ae (vB ((b_13.toNat:Int)==45)) wa rfl (ae (vB ((b_13.toNat:Int)==45)) wa rfl ?_)))))))
        rcases ak h_16 with⟨hc_28,h_16⟩|⟨hc_28,h_16⟩
        ·refine aC rfl hc_28 wa (aj wa (aj wa (ae (vB true) wa rfl (ae (vB true) wa rfl (ae (vB true) wz rfl (ae (vB false) wz rfl (ai ?_)))))))
         obtain rfl:=ah h_16
         exact cu
        ·refine aC rfl hc_28 wa (ae (.d (.int .u8 (b_13.toNat:Int))) wa rfl (ae (vB ((b_13.toNat:Int)==95)) wa rfl (ae (vB ((b_13.toNat:Int)==95)) wa rfl (ae (vB ((b_13.toNat:Int)==95)) wa rfl (ae (vB ((b_13.toNat:Int)==95)) wz rfl (ae (vB (!((b_13.toNat:Int)==95))) wz rfl (ai ?_)))))))
         obtain rfl:=ah h_16
         exact cu
      ·refine aC rfl hc_24 wa (aj wa (aj wa (aj wa (aj (wn rfl rfl) (aj (wn rfl rfl) (aj wa (aj wa (aj (wn rfl rfl) (aj (wn rfl rfl) (aj wa (aj wa (aj (wn rfl rfl) (aj (wn rfl rfl) (aj wa (ae (vB false) wa rfl (ae (vB false) wz rfl (ae (vB true) wz rfl (ai ?_))))))))))))))))))
       obtain rfl:=ah h_16
       exact cu
    ·rintro ⟨⟩ _ sl_ H_ hp_ hq_
     refine aV _ hp_ hq_ ?_
     rcases ak hc_8 with⟨hc_29,hc_8⟩|⟨hc_29,hc_8⟩
     ·refine aB rfl hc_29 (af (aa (ae (vB false) wz rfl (ai ?_))))
      obtain rfl:=ah hc_8
      obtain rfl:=ah hL_9
      obtain rfl:=ah hF
      exact av (aS (.inr rfl) [(vB false)] ⟨rfl,trivial⟩ rfl rfl rfl)
     ·refine aA rfl hc_29 (ax (aa (ae (vI s_7) wz rfl (ae (vI (w64 (s_7+1))) wz rfl (ae (vI (w64 (s_7+1))) wz rfl (ai ?_))))))
      obtain rfl:=ah hc_8
      exact cO (k_2,(w64 (s_7+1))) hL_9 (ls_ _) rfl (aN rfl)
   ·refine aA rfl hc_12 (cz ?_)
    obtain rfl:=ah hc_8
    obtain rfl:=ah hL_9
    exact bW (s_7) rfl rfl (aN rfl)
 ·rintro s_7 ho_ sl_ H_ hp_ hq_
  subst ho_
  refine aV _ hp_ hq_ (af ?_)
  obtain ⟨v_30,h_31,hF⟩:=bind_some hF
  refine aH (β:=Unit) (λ_=>([(2,(vB v_30))]:SL_)) (λ_=>([]:Hp)) (λ_=>True) ?_ ?_
  ·refine aa (ae (vS s_1) wz rfl (ae (vB (sNe s_1 (⟨#[]⟩:ByteArray))) wz rfl ?_))
   rcases ak h_31 with⟨hc_32,h_31⟩|⟨hc_32,h_31⟩
   ·refine aC rfl hc_32 wz (ae (vS s_1) wa rfl (oF un9 rfl wa (ae (vB (decide ((s_1.size:Int)<=40))) wa rfl (ae (vB (decide ((s_1.size:Int)<=40))) wz rfl (ae (vB (decide ((s_1.size:Int)<=40))) wz rfl (ai ?_))))))
    obtain rfl:=ah h_31
    exact cu
   ·refine aC rfl hc_32 wz (aj wa (aj wa (aj wa (ae (vB false) wz rfl (ae (vB false) wz rfl (ai ?_))))))
    obtain rfl:=ah h_31
    exact cu
  ·rintro ⟨⟩ _ sl_ H_ hp_ hq_
   refine aV _ hp_ hq_ ?_
   obtain rfl:=ah hF
   exact av (aS (.inr rfl) [(vB v_30)] ⟨rfl,trivial⟩ rfl rfl rfl)
theorem jd {n_1:Int} {low_2:Int} {high_3:Int} {r:Bool} (hF:eT n_1 low_2 high_3=some r) :
  FnM Tryz.prog 65 [(vI n_1),(vI low_2),(vI high_3)] [] (vB r) []:=by
 refine FnM.of_wH ⟨Tryz.prog,15,[],[]⟩ rfl Tryz.func65 rfl rfl (lb_ rfl) (by kernel_rfl) ?_
 unfold eT at hF
 refine af (aa (ae (vB false) wz rfl (ai (af ?_))))
 obtain ⟨v_4,h_5,hF⟩:=bind_some hF
 refine aH (β:=Unit) (λ_=>([(6,(vB v_4))]:SL_)) (λ_=>([]:Hp)) (λ_=>True) ?_ ?_
 ·refine aa (ae (vI n_1) wz rfl (ae (vI low_2) wz rfl (ae (vB (decide (n_1<low_2))) wz rfl ?_)))
  rcases ak h_5 with⟨hc_6,h_5⟩|⟨hc_6,h_5⟩
  ·refine aC rfl hc_6 wz (aj wa (aj wa (aj wa (ae (vB true) wz rfl (ae (vB true) wz rfl (ai ?_))))))
   obtain rfl:=ah h_5
   exact cu
  ·refine aC rfl hc_6 wz (ae (vI n_1) wa rfl (ae (vI high_3) wa rfl (ae (vB (decide (n_1>high_3))) wa rfl (ae (vB (decide (n_1>high_3))) wz rfl (ae (vB (decide (n_1>high_3))) wz rfl (ai ?_))))))
   obtain rfl:=ah h_5
   exact cu
 ·rintro ⟨⟩ _ sl_ H_ hp_ hq_
  refine aV _ hp_ hq_ ?_
  obtain rfl:=ah hF
  exact av (aS (.inr rfl) [(vB v_4)] ⟨rfl,trivial⟩ rfl rfl rfl)
theorem ja {l_1:Log_} {r:Int} (hF:ed l_1=some r) :
  FnM Tryz.prog 83 [(.d (.agg (Log_.enc l_1)))] [] (vI r) []:=by
 refine FnM.of_wH ⟨Tryz.prog,26,[],[]⟩ rfl Tryz.func83 rfl rfl (lb_ rfl) (by kernel_rfl) ?_
 unfold ed at hF
 refine af (aa (kY 0 (.inl rfl) [(vS l_1.Player),(vS l_1.Item),(vI l_1.No),(vI l_1.Clock),(vI l_1.Long),(vS l_1.Sum)] rfl rfl wz (λn_2=>ae (vI 0) wz rfl (ai (af (af ?_))))))
 obtain ⟨v_3,h_4,hF⟩:=bind_some hF
 refine aH (β:=Unit) (λ_=>([(1,(.ref n_2 0 0)),(12,(vB v_3))]:SL_)) (λ_=>([(n_2,some (.cells 6 [(vS l_1.Player),(vS l_1.Item),(vI l_1.No),(vI l_1.Clock),(vI l_1.Long),(vS l_1.Sum)]))]:Hp)) (λ_=>True) ?_ ?_
 ·refine aa (aO fZ rfl 0 rfl wz (aK 0 0 il ft sz9 ag9 rfl rfl (vS l_1.Player) rfl wz ?_))
  obtain ⟨r_5,hr_6,h_4⟩:=bind_some h_4
  refine ay (kE hr_6) rfl Cb rfl rfl rfl rfl wz (ae (vB (!r_5)) wz rfl ?_)
  rcases ak h_4 with⟨hc_7,h_4⟩|⟨hc_7,h_4⟩
  ·refine aC rfl hc_7 wz (aj wa (aj wa (aj wa (aj wa (ae (vB true) wz rfl (ai ?_))))))
   obtain rfl:=ah h_4
   exact cu
  ·refine aC rfl hc_7 wz (aO rV rfl 1 rfl wa (aK 0 0 il ft sz9 ag9 rfl rfl (vS l_1.Item) rfl wa ?_))
   obtain ⟨r_8,hr_9,h_4⟩:=bind_some h_4
   refine ay (kE hr_9) rfl Cb rfl rfl rfl rfl wa (ae (vB (!r_8)) wa rfl (ae (vB (!r_8)) wz rfl (ai ?_)))
   obtain rfl:=ah h_4
   exact cu
 ·rintro ⟨⟩ _ sl_ H_ hp_ hq_
  refine aV _ hp_ hq_ ?_
  rcases ak hF with⟨hc_10,hF⟩|⟨hc_10,hF⟩
  ·refine aB rfl hc_10 (af (aa (ae (vI 5) wz rfl (ai ?_))))
   obtain rfl:=ah hF
   exact av (aS (.inr rfl) [(vI 5)] ⟨rfl,trivial⟩ rfl rfl rfl)
  ·refine aA rfl hc_10 (ax (af (af ?_)))
   obtain ⟨v_11,h_12,hF⟩:=bind_some hF
   refine aH (β:=Unit) (λ_=>([(25,(vB v_11))]:SL_)) (λ_=>([(n_2,some (.cells 6 [(vS l_1.Player),(vS l_1.Item),(vI l_1.No),(vI l_1.Clock),(vI l_1.Long),(vS l_1.Sum)]))]:Hp)) (λ_=>True) ?_ ?_
   ·refine aa (aO iX rfl 2 rfl wz (aK 0 0 il ft sz3 ag3 rfl rfl (vI l_1.No) rfl wz ?_))
    obtain ⟨r_13,hr_14,h_12⟩:=bind_some h_12
    refine ay (jd hr_14) rfl hb65 rfl rfl rfl rfl wz ?_
    rcases ak h_12 with⟨hc_15,h_12⟩|⟨hc_15,h_12⟩
    ·refine aC rfl hc_15 wz (aj wa (aj wa (aj wa (ae (vB true) wz rfl (ae (vB true) wz rfl (aj wa (aj wa (aj wa (ae (vB true) wz rfl (ai ?_))))))))))
     obtain rfl:=ah h_12
     exact cu
    ·refine aC rfl hc_15 wz (aO vk rfl 3 rfl wa (aK 0 0 il ft sz3 ag3 rfl rfl (vI l_1.Clock) rfl wa ?_))
     obtain ⟨r_16,hr_17,h_12⟩:=bind_some h_12
     refine ay (jd hr_17) rfl hb65 rfl rfl rfl rfl wa (ae (vB r_16) wz rfl ?_)
     rcases ak h_12 with⟨hc_18,h_12⟩|⟨hc_18,h_12⟩
     ·refine aC rfl hc_18 wz (aj wa (aj wa (aj wa (ae (vB true) wz rfl (ai ?_)))))
      obtain rfl:=ah h_12
      exact cu
     ·refine aC rfl hc_18 wz (aO uT rfl 4 rfl wa (aK 0 0 il ft sz3 ag3 rfl rfl (vI l_1.Long) rfl wa ?_))
      obtain ⟨r_19,hr_20,h_12⟩:=bind_some h_12
      refine ay (jd hr_20) rfl hb65 rfl rfl rfl rfl wa (ae (vB r_19) wz rfl (ai ?_))
      obtain rfl:=ah h_12
      exact cu
   ·rintro ⟨⟩ _ sl_ H_ hp_ hq_
    refine aV _ hp_ hq_ ?_
    rcases ak hF with⟨hc_21,hF⟩|⟨hc_21,hF⟩
    ·refine aB rfl hc_21 (af (aa (ae (vI 1) wz rfl (ai ?_))))
     obtain rfl:=ah hF
     exact av (aS (.inr rfl) [(vI 1)] ⟨rfl,trivial⟩ rfl rfl rfl)
    ·refine aA rfl hc_21 (ax (af (aa (ae (vI 0) wz rfl (ai ?_)))))
     obtain rfl:=ah hF
     exact av (aS (.inr rfl) [(vI 0)] ⟨rfl,trivial⟩ rfl rfl rfl)
theorem sW {x0:ByteArray} {x1:ByteArray} {r:ByteArray} (hF:kH x0 x1=some r) :
  FnM Tryz.prog 120 [(vS x0),(vS x1)] [] (vS r) [] :=
 Db rfl Tryz.strings_Trim_ascii  hF
theorem nk {s_1:ByteArray} {r:Bool} (hF:gQ s_1=some r) :
  FnM Tryz.prog 84 [(vS s_1)] [] (vB r) []:=by
 refine FnM.of_wH ⟨Tryz.prog,11,[],[]⟩ rfl Tryz.func84 rfl rfl (lb_ rfl) (by kernel_rfl) ?_
 unfold gQ at hF
 refine af (aa (ae (vB false) wz rfl (ai (af ?_))))
 obtain ⟨v_2,h_3,hF⟩:=bind_some hF
 refine aH (β:=Unit) (λ_=>([(2,(vB v_2))]:SL_)) (λ_=>([]:Hp)) (λ_=>True) ?_ ?_
 ·refine aa (ae (vS s_1) wz rfl (oF un9 rfl wz (ae (vB ((s_1.size:Int)==16)) wz rfl ?_)))
  rcases ak h_3 with⟨hc_4,h_3⟩|⟨hc_4,h_3⟩
  ·refine aC rfl hc_4 wz (ae (vS s_1) wa rfl ?_)
   obtain ⟨r_5,hr_6,h_3⟩:=bind_some h_3
   refine ay (sW hr_6) rfl hb120 rfl rfl rfl rfl wa (ae (vB (sEq r_5 (⟨#[]⟩:ByteArray))) wa rfl (ae (vB (sEq r_5 (⟨#[]⟩:ByteArray))) wz rfl (ae (vB (sEq r_5 (⟨#[]⟩:ByteArray))) wz rfl (ai ?_))))
   obtain rfl:=ah h_3
   exact cu
  ·refine aC rfl hc_4 wz (aj wa (aj wa (aj wa (ae (vB false) wz rfl (ae (vB false) wz rfl (ai ?_))))))
   obtain rfl:=ah h_3
   exact cu
 ·rintro ⟨⟩ _ sl_ H_ hp_ hq_
  refine aV _ hp_ hq_ ?_
  obtain rfl:=ah hF
  exact av (aS (.inr rfl) [(vB v_2)] ⟨rfl,trivial⟩ rfl rfl rfl)
theorem iW {a_1:ByteArray} {b_2:ByteArray} {r:Int} (hF:dH a_1 b_2=some r) :
  FnM Tryz.prog 139 [(vS a_1),(vS b_2)] [] (vI r) []:=by
 refine FnM.of_wH ⟨Tryz.prog,8,[],[]⟩ rfl Tryz.func139 rfl rfl (lb_ rfl) (by kernel_rfl) ?_
 unfold dH at hF
 refine af (aa (ae (vI 0) wz rfl (ai (af (aa (ae (vS a_1) wz rfl (ae (vS b_2) wz rfl (h_ext (DY (f:=180) Tryz.func180 rfl rfl (by kernel_rfl) (by kernel_rfl) _ _) rfl nb180 rfl wz (ae (vI (qc a_1 b_2)) wz rfl (ai ?_))))))))))
 obtain rfl:=ah hF
 exact av (aS (.inr rfl) [(vI (qc a_1 b_2))] ⟨rfl,trivial⟩ rfl rfl rfl)
theorem iC {a_1:ByteArray} {b_2:ByteArray} {r:Int} (hF:strings_Compare a_1 b_2=some r) :
  FnM Tryz.prog 107 [(vS a_1),(vS b_2)] [] (vI r) []:=by
 refine FnM.of_wH ⟨Tryz.prog,8,[],[]⟩ rfl Tryz.func107 rfl rfl (lb_ rfl) (by kernel_rfl) ?_
 unfold strings_Compare at hF
 refine af (aa (ae (vI 0) wz rfl (ai (af (aa (ae (vS a_1) wz rfl (ae (vS b_2) wz rfl ?_)))))))
 obtain ⟨r_3,hr_4,hF⟩:=bind_some hF
 refine ay (iW hr_4) rfl hb139 rfl rfl rfl rfl wz (ae (vI r_3) wz rfl (ai ?_))
 obtain rfl:=ah hF
 exact av (aS (.inr rfl) [(vI r_3)] ⟨rfl,trivial⟩ rfl rfl rfl)
theorem l9 {x_1:Int} {r:Bool} (hF:cmp_isNaN_int x_1=some r) :
  FnM Tryz.prog 147 [(vI x_1)] [] (vB r) []:=by
 refine FnM.of_wH ⟨Tryz.prog,6,[],[]⟩ rfl Tryz.func147 rfl rfl (lb_ rfl) (by kernel_rfl) ?_
 unfold cmp_isNaN_int at hF
 refine af (aa (ae (vB false) wz rfl (ai (af (aa (ae (vI x_1) wz rfl (ae (vI x_1) wz rfl (ae (vB (x_1 != x_1)) wz rfl (ae (vB (x_1 != x_1)) wz rfl (ai ?_))))))))))
 obtain rfl:=ah hF
 exact av (aS (.inr rfl) [(vB (x_1 != x_1))] ⟨rfl,trivial⟩ rfl rfl rfl)
end Go.Proofs.YtdenjndllgahgaaGreatDoor.Law

