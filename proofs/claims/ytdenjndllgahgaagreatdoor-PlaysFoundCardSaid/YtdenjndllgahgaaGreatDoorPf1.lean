/-
 The machine computes these plain functions (written by a program of ours).
-/
import Derived.Test.YtdenjndllgahgaaGreatDoorFacts
import Derived.Test.YtdenjndllgahgaaGreatDoorDefs
import Derived.Test.YtdenjndllgahgaaGreatDoorShelf
open Go Go.Eng Go.Proofs
namespace Go.Proofs.YtdenjndllgahgaaGreatDoor.Law
set_option maxRecDepth 100000
set_option linter.unusedVariables false
set_option maxHeartbeats 1000000
theorem pJ {x_1:Int} {n_2:Int} {r:Int} (hF:lZ x_1 n_2=some r) :
  FnM Tryz.prog 77 [(vI x_1),(vI n_2)] [] (vI r) []:=by
 refine FnM.of_wH ⟨Tryz.prog,16,[],[]⟩ rfl Tryz.func77 rfl rfl (lb_ rfl) (by kernel_rfl) ?_
 unfold lZ at hF
 refine af (aa (ae (vI 0) wz rfl (ai (af (af (aa (ae (vI n_2) wz rfl (ae (vB (decide (n_2<1))) wz rfl (ai ?_)))))))))
 rcases ak hF with⟨hc_3,hF⟩|⟨hc_3,hF⟩
 ·refine ay rfl hc_3 (af (aa (ae (vI 0) wz rfl (ai ?_))))
  obtain rfl:=ah hF
  exact aB (bu (.inr rfl) [(vI 0)] ⟨rfl,trivial⟩ rfl rfl rfl)
 ·refine aA rfl hc_3 (av (af (aa (ae (vI x_1) wz rfl (ae (vI n_2) wz rfl ?_)))))
  obtain ⟨q_4,hz_5,hF⟩:=bind_some hF
  refine h_rem rfl rfl hz_5 wz (ae (vI q_4) wz rfl (ai (af (af (aa (ae (vI q_4) wz rfl (ae (vB (decide (q_4<0))) wz rfl (ai ?_))))))))
  obtain ⟨v_6,h_7,hF⟩:=bind_some hF
  refine aG (β:=Unit) (λ_=>([(0,(vI v_6))]:SL_)) (λ_=>([]:Hp)) (λ_=>True) ?_ ?_
  ·rcases ak h_7 with⟨hc_8,h_7⟩|⟨hc_8,h_7⟩
   ·refine ay rfl hc_8 (aa (ae (vI q_4) wz rfl (ae (vI n_2) wz rfl (ae (vI (w64 (q_4+n_2))) wz rfl (ae (vI (w64 (q_4+n_2))) wz rfl (ai ?_))))))
    obtain rfl:=ah h_7
    exact cu
   ·refine aA rfl hc_8 (av ?_)
    obtain rfl:=ah h_7
    exact cu
  ·rintro ⟨⟩ _ sl_ H_ hp_ hq_
   refine aQ _ hp_ hq_ (af (aa (ae (vI v_6) wz rfl (ae (vI v_6) wz rfl (ai ?_)))))
   obtain rfl:=ah hF
   exact aB (bu (.inr rfl) [(vI v_6)] ⟨rfl,trivial⟩ rfl rfl rfl)
theorem dQ {s_1:Stream} {n_2:Int} {r:Int×Stream} (hF:bQ s_1 n_2=some r) :
  FnM Tryz.prog 30 [(.ref (au 0) 0 0),(vI n_2)] [(.cells 2 [(vL eI s_1.L),(vI s_1.f_at)])] (vI r.1) [some (.cells 2 [(vL eI r.2.L),(vI r.2.f_at)])]:=by
 refine FnM.of_wH ⟨Tryz.prog,64,[],[]⟩ rfl Tryz.func30 rfl rfl (lb_ rfl) (by kernel_rfl) ?_
 unfold bQ at hF
 refine af (aa (ae (vI 0) wz rfl (ai (af (aa (ae (.ref (au 0) 0 0) wz rfl (ae (.ref (au 0) 0 0) wz rfl (aJ vX rfl 1 rfl wz (aK 0 0 il ft sz3 ag3 rfl rfl (vI s_1.f_at) rfl wz (ae (vI (w64 (s_1.f_at+1))) wz rfl (ae (.ref (au 0) 0 0) wz rfl (aJ vX rfl 1 rfl wz (jE 0 il ft 0 sz3 rfl rfl [(vL eI s_1.L),(vI (w64 (s_1.f_at+1)))] rfl wz (ai (af (af (aa (ae (.ref (au 0) 0 0) wz rfl (ae (.ref (au 0) 0 0) wz rfl (aJ Ao rfl 0 rfl wz (aK 0 0 il ft sz22 ag22 rfl rfl (vL eI s_1.L) rfl wz (eY yl rfl wz (ae (vB ((s_1.L.length:Int)==0)) wz rfl ?_)))))))))))))))))))))))
 refine ai ?_
 rcases ak hF with⟨hc_3,hF⟩|⟨hc_3,hF⟩
 ·refine ay rfl hc_3 (af (aa (ae (.ref (au 0) 0 0) wz rfl (ae (.ref (au 0) 0 0) wz rfl (aJ vX rfl 1 rfl wz (aK 0 0 il ft sz3 ag3 rfl rfl (vI (w64 (s_1.f_at+1))) rfl wz (ae (vI (w64 ((w64 (s_1.f_at+1))*7919))) wz rfl (ae (vI n_2) wz rfl ?_))))))))
  obtain ⟨r_4,hr_5,hF⟩:=bind_some hF
  refine aH (pJ hr_5) rfl hb77 rfl rfl rfl rfl wz (ae (vI r_4) wz rfl (ai ?_))
  obtain rfl:=ah hF
  exact aB (tV (.inr rfl) [(vI r_4)] _ [0] [au 0] ⟨rfl,trivial⟩ (.cons (iL rfl rfl) (.nil)) (by kernel_rfl) ⟨(by kernel_rfl),trivial⟩ (by decide) (by kernel_rfl))
 ·refine aA rfl hc_3 (av (af (bK (ae (.ref (au 0) 0 0) wz rfl (ae (.ref (au 0) 0 0) wz rfl (aJ vX rfl 1 rfl wz (aK 3 0 (.inr (by kernel_rfl)) (λ_ _ ag=>trivial) sz3 ag3 rfl rfl (vI (w64 (s_1.f_at+1))) rfl wz (ae (vI (w64 ((w64 (s_1.f_at+1))-1))) wz rfl (ae (.ref (au 0) 0 0) wz rfl (ae (.ref (au 0) 0 0) wz rfl (aJ Ao rfl 0 rfl wz (aK 8 0 (.inr (by kernel_rfl)) (λ_ _ ag=>⟨.inl ⟨rfl,rfl⟩,trivial⟩) sz22 ag22 rfl rfl (vL eI s_1.L) rfl wz (eY yl rfl wz ?_)))))))))))))
  obtain ⟨q_6,hz_7,hF⟩:=bind_some hF
  refine h_rem rfl rfl hz_7 wz (ae (vI q_6) wz rfl (ai (af (bK (ae (.ref (au 0) 0 0) wz rfl (ae (.ref (au 0) 0 0) wz rfl (aJ vX rfl 1 rfl wz (aK 3 0 (.inr (by kernel_rfl)) (λ_ _ ag=>trivial) sz3 ag3 rfl rfl (vI (w64 (s_1.f_at+1))) rfl wz (ae (vI (w64 ((w64 (s_1.f_at+1))-1))) wz rfl (ae (.ref (au 0) 0 0) wz rfl (ae (.ref (au 0) 0 0) wz rfl (aJ Ao rfl 0 rfl wz (aK 8 0 (.inr (by kernel_rfl)) (λ_ _ ag=>⟨.inl ⟨rfl,rfl⟩,trivial⟩) sz22 ag22 rfl rfl (vL eI s_1.L) rfl wz (eY yl rfl wz ?_))))))))))))))
  obtain ⟨q_8,hz_9,hF⟩:=bind_some hF
  refine Gg rfl rfl hz_9 wz (ae (vI q_8) wz rfl (ai (aQ (H0:=([((au 0),some (.cells 2 [(vL eI s_1.L),(vI (w64 (s_1.f_at+1)))]))]:Hp)) ([(0,(.ref (au 0) 0 0)),(1,(vI n_2)),(5,(vI q_6)),(6,(vI q_8))]:SL_) (by kernel_rfl) (tL (by kernel_rfl)) (af (aa (ae (.ref (au 0) 0 0) wz rfl (ae (.ref (au 0) 0 0) wz rfl (aJ Ao rfl 0 rfl wz (aK 0 0 il ft sz22 ag22 rfl rfl (vL eI s_1.L) rfl wz (ae (vI q_6) wz rfl ?_))))))))))
  obtain ⟨y_10,hy_11,hF⟩:=bind_some hF
  refine fH oC rfl rfl hy_11 rfl wz (cO sz3 ag3 rfl (vI y_10) rfl wz ?_)
  obtain ⟨r_12,hr_13,hF⟩:=bind_some hF
  refine aH (pJ hr_13) rfl hb77 rfl rfl rfl rfl wz (ae (vI q_8) wz rfl (ae (vI q_6) wz rfl (ae (vI (w64 (7919+q_6))) wz rfl (ae (vI (w64 (q_8*(w64 (7919+q_6))))) wz rfl (ae (vI (w64 (r_12+(w64 (q_8*(w64 (7919+q_6))))))) wz rfl (ae (vI n_2) wz rfl ?_))))))
  obtain ⟨r_14,hr_15,hF⟩:=bind_some hF
  refine aH (pJ hr_15) rfl hb77 rfl rfl rfl rfl wz (ae (vI r_14) wz rfl (ai ?_))
  obtain rfl:=ah hF
  exact aB (tV (.inr rfl) [(vI r_14)] _ [0] [au 0] ⟨rfl,trivial⟩ (.cons (iL rfl rfl) (.nil)) (by kernel_rfl) ⟨(by kernel_rfl),trivial⟩ (by decide) (by kernel_rfl))
theorem fE {s_1:Stream} {l_2:(List Int)} {r:Int×Stream} (hF:dC s_1 l_2=some r) :
  FnM Tryz.prog 12 [(.ref (au 0) 0 0),(vL eI l_2)] [(.cells 2 [(vL eI s_1.L),(vI s_1.f_at)])] (vI r.1) [some (.cells 2 [(vL eI r.2.L),(vI r.2.f_at)])]:=by
 refine FnM.of_wH ⟨Tryz.prog,12,[],[]⟩ rfl Tryz.func12 rfl rfl (lb_ rfl) (by kernel_rfl) ?_
 unfold dC at hF
 refine af (aa (ae (vI 0) wz rfl (ai (af (aa (ae (vL eI l_2) wz rfl (ae (.ref (au 0) 0 0) wz rfl (ae (vL eI l_2) wz rfl (eY yl rfl wz ?_)))))))))
 obtain ⟨r_3,hr_4,hF⟩:=bind_some hF
 refine bn 0 [0] il ft (dQ hr_4) rfl AV rfl (by kernel_rfl) (by kernel_rfl) (by kernel_rfl) (by kernel_rfl) (by kernel_rfl) (by kernel_rfl) (by kernel_rfl) (by decide) (by kernel_rfl) wz (vI r_3.1) (by kernel_rfl) ([((au 0),some (.cells 2 [(vL eI r_3.2.L),(vI r_3.2.f_at)]))]:Hp) (by kernel_rfl) ?_
 obtain ⟨y_6,hy_7,hF⟩:=bind_some hF
 refine fH oC rfl rfl hy_7 rfl wz (cO sz3 ag3 rfl (vI y_6) rfl wz (ae (vI y_6) wz rfl (ai ?_)))
 obtain rfl:=ah hF
 exact aB (tV (.inr rfl) [(vI y_6)] _ [0] [au 0] ⟨rfl,trivial⟩ (.cons (iL rfl rfl) (.nil)) (by kernel_rfl) ⟨(by kernel_rfl),trivial⟩ (by decide) (by kernel_rfl))
theorem fQ {s_1:Stream} {low_2:Int} {high_3:Int} {r:Int×Stream} (hF:dD s_1 low_2 high_3=some r) :
  FnM Tryz.prog 109 [(.ref (au 0) 0 0),(vI low_2),(vI high_3)] [(.cells 2 [(vL eI s_1.L),(vI s_1.f_at)])] (vI r.1) [some (.cells 2 [(vL eI r.2.L),(vI r.2.f_at)])]:=by
 refine FnM.of_wH ⟨Tryz.prog,19,[],[]⟩ rfl Tryz.func109 rfl rfl (lb_ rfl) (by kernel_rfl) ?_
 unfold dD at hF
 refine af (aa (ae (vI 0) wz rfl (ai (af (af (aa (ae (vI high_3) wz rfl (ae (vI low_2) wz rfl (ae (vB (decide (high_3<low_2))) wz rfl (ai ?_))))))))))
 rcases ak hF with⟨hc_4,hF⟩|⟨hc_4,hF⟩
 ·refine ay rfl hc_4 (af (aa (ae (vI low_2) wz rfl (ae (vI low_2) wz rfl (ai ?_)))))
  obtain rfl:=ah hF
  exact aB (tV (.inr rfl) [(vI low_2)] _ [0] [au 0] ⟨rfl,trivial⟩ (.cons (iL rfl rfl) (.nil)) (by kernel_rfl) ⟨(by kernel_rfl),trivial⟩ (by decide) (by kernel_rfl))
 ·refine aA rfl hc_4 (av (af (aa (ae (vI low_2) wz rfl (ae (.ref (au 0) 0 0) wz rfl (ae (vI high_3) wz rfl (ae (vI low_2) wz rfl (ae (vI (w64 (high_3-low_2))) wz rfl (ae (vI (w64 ((w64 (high_3-low_2))+1))) wz rfl ?_)))))))))
  obtain ⟨r_5,hr_6,hF⟩:=bind_some hF
  refine bn 0 [0] il ft (dQ hr_6) rfl AV rfl (by kernel_rfl) (by kernel_rfl) (by kernel_rfl) (by kernel_rfl) (by kernel_rfl) (by kernel_rfl) (by kernel_rfl) (by decide) (by kernel_rfl) wz (vI r_5.1) (by kernel_rfl) ([((au 0),some (.cells 2 [(vL eI r_5.2.L),(vI r_5.2.f_at)]))]:Hp) (by kernel_rfl) (ae (vI (w64 (low_2+r_5.1))) wz rfl (ae (vI (w64 (low_2+r_5.1))) wz rfl (ai ?_)))
  obtain rfl:=ah hF
  exact aB (tV (.inr rfl) [(vI (w64 (low_2+r_5.1)))] _ [0] [au 0] ⟨rfl,trivial⟩ (.cons (iL rfl rfl) (.nil)) (by kernel_rfl) ⟨(by kernel_rfl),trivial⟩ (by decide) (by kernel_rfl))
theorem eT {s_1:Stream} {l_2:(List ByteArray)} {r:ByteArray×Stream} (hF:cB s_1 l_2=some r) :
  FnM Tryz.prog 21 [(.ref (au 0) 0 0),(vL eS l_2)] [(.cells 2 [(vL eI s_1.L),(vI s_1.f_at)])] (vS r.1) [some (.cells 2 [(vL eI r.2.L),(vI r.2.f_at)])]:=by
 refine FnM.of_wH ⟨Tryz.prog,12,[],[]⟩ rfl Tryz.func21 rfl rfl (lb_ rfl) (by kernel_rfl) ?_
 unfold cB at hF
 refine af (aa (ae (vS (⟨#[]⟩:ByteArray)) wz rfl (ai (af (aa (ae (vL eS l_2) wz rfl (ae (.ref (au 0) 0 0) wz rfl (ae (vL eS l_2) wz rfl (eY un34 rfl wz ?_)))))))))
 obtain ⟨r_3,hr_4,hF⟩:=bind_some hF
 refine bn 0 [0] il ft (dQ hr_4) rfl AV rfl (by kernel_rfl) (by kernel_rfl) (by kernel_rfl) (by kernel_rfl) (by kernel_rfl) (by kernel_rfl) (by kernel_rfl) (by decide) (by kernel_rfl) wz (vI r_3.1) (by kernel_rfl) ([((au 0),some (.cells 2 [(vL eI r_3.2.L),(vI r_3.2.f_at)]))]:Hp) (by kernel_rfl) ?_
 obtain ⟨y_6,hy_7,hF⟩:=bind_some hF
 refine fH uz rfl rfl hy_7 rfl wz (cO sz9 ag9 rfl (vS y_6) rfl wz (ae (vS y_6) wz rfl (ai ?_)))
 obtain rfl:=ah hF
 exact aB (tV (.inr rfl) [(vS y_6)] _ [0] [au 0] ⟨rfl,trivial⟩ (.cons (iL rfl rfl) (.nil)) (by kernel_rfl) ⟨(by kernel_rfl),trivial⟩ (by decide) (by kernel_rfl))
theorem u7 {x0:Int} {r:ByteArray} (hF:strconv_Itoa x0=some r) :
  FnM Tryz.prog 123 [(vI x0)] [] (vS r) [] :=
 itoa_ok Tryz.strconv_Itoa CX hF
theorem uY {x0:(List ByteArray)} {x1:ByteArray} {r:ByteArray} (hF:strings_Join x0 x1=some r) :
  FnM Tryz.prog 155 [(vL eS x0),(vS x1)] [] (vS r) [] :=
 join_ok rfl Tryz.strings_Join_none Tryz.strings_Join hF
theorem wD {l_1:(List Int)} {r:ByteArray} (hF:lw l_1=some r) :
  FnM Tryz.prog 121 [(vL eI l_1)] [] (vS r) []:=by
 refine FnM.of_wH ⟨Tryz.prog,20,[],[]⟩ rfl Tryz.func121 rfl rfl (lb_ rfl) (by kernel_rfl) ?_
 unfold lw at hF
 refine af (aa (ae (vS (⟨#[]⟩:ByteArray)) wz rfl (ai (af (aa (ae .nil wz rfl (ai (af (af (aa (ae (vL eI l_1) wz rfl (eY yl rfl wz (ae (vI 0) wz rfl (ai (lJ (λn_8 => ?_))))))))))))))))
 obtain ⟨o_13,hj_14,hF⟩:=bind_some hF
 obtain ⟨hn_6,hj_14⟩:=bX hj_14
 refine aG (β:=((List ByteArray))×Nm) (λp=>(λ(s_7:List ByteArray) (n_10:Nm)=>([(3,(gV n_10 1 s_7))]:SL_)) p.1 p.2) (λp=>(λ(s_7:List ByteArray) (n_10:Nm)=>([(n_10,gB 1 eS s_7)]:Hp)) p.1 p.2) (λp=>o_13 = .go p.1) ?_ ?_
 ·refine ax (bA (β:=Nat×(List Int)×((List ByteArray))×Nm) (λp=>(λ(k_2:Nat) (l_3:List Int) (s_7:List ByteArray) (n_10:Nm)=>([(3,(gV n_10 1 s_7)),(6,(vL eI l_1)),(7,(vI (l_1.length:Int))),(8,(vI (k_2:Int)))]:SL_)) p.1 p.2.1 p.2.2.1 p.2.2.2) (λp=>(λ(k_2:Nat) (l_3:List Int) (s_7:List ByteArray) (n_10:Nm)=>([(n_10,gB 1 eS s_7)]:Hp)) p.1 p.2.1 p.2.2.1 p.2.2.2) (λp=>dY (λk x s=>iy k x s) p.2.1 p.1 p.2.2.1=some o_13/\(l_1).drop p.1=p.2.1) (λp=>p.2.1.length) (0,l_1,([]:List ByteArray),n_8) ⟨hj_14,rfl⟩ rfl (aL rfl) ?_)
  rintro ⟨k_2,l_3,s_7,n_10⟩ ⟨hL_12,hD_5⟩
  dsimp only at hL_12 hD_5
  cases l_3 with
  | nil =>
   obtain rfl:=ah hL_12
   refine af (aa (ae (vB (decide ((k_2:Int)<(l_1.length:Int)))) wz rfl (ai ?_)))
   refine af (aA rfl (drop_nil hD_5) (aY ?_))
   exact bz (s_7,n_10) rfl rfl (aL rfl)
  | cons x_4 l_3 =>
   obtain ⟨c_,hc_11,hL_12⟩:=bind_some hL_12
   refine af (aa (ae (vB (decide ((k_2:Int)<(l_1.length:Int)))) wz rfl (ai ?_)))
   refine af (ay rfl (ek hD_5) (av ?_))
   unfold iy at hc_11
   refine af (ax (af (aa (fH oC rfl rfl (eU hD_5) rfl wz (cO sz3 ag3 rfl (vI x_4) rfl wz (ae (vI x_4) wz rfl (ai (aa (ae (gV n_10 1 s_7) wz rfl (ae (vI x_4) wz rfl ?_))))))))))
   obtain ⟨r_15,hr_16,hc_11⟩:=bind_some hc_11
   refine aH (u7 hr_16) rfl hb123 rfl rfl rfl rfl wz (fw (([r_15]:List ByteArray).map eS) uz yo rfl rfl rfl rfl rfl wz ?_)
   obtain ⟨a_17,hz_18,hc_11⟩:=bind_some hc_11
   refine jC 0 il ft (i:=0) el34 el34 sz9 z9 rfl (by decide) by9 (by decide) (λ_=>rfl) rfl rfl rfl hz_18 wz (λn_19=>ae (gV n_19 1 a_17) wz rfl (ai (aa (gW (dh hD_5 hn_6) wz rfl (ae (vI ((k_2+1:Nat):Int)) wz rfl (ai ?_))))))
   obtain rfl:=ah hc_11
   exact bf (k_2+1,l_3,a_17,n_19) ⟨hL_12,aU hD_5⟩ (ls_ _) rfl (aL rfl)
 ·rintro ⟨s_7,n_10⟩ ho_ sl_ H_ hp_ hq_
  subst ho_
  refine aQ _ hp_ hq_ (af (iR 0 rfl (dS 3 0 rfl rfl (aa (ae (vL eS s_7) wz rfl ?_)))))
  obtain ⟨r_20,hr_21,hF⟩:=bind_some hF
  refine aH (uY hr_21) rfl hb155 rfl rfl rfl rfl wz (ae (vS r_20) wz rfl (ai ?_))
  obtain rfl:=ah hF
  exact aB (bu (.inr rfl) [(vS r_20)] ⟨rfl,trivial⟩ rfl rfl rfl)
theorem wL {l_1:Log_} {r:ByteArray} (hF:lg l_1=some r) :
  FnM Tryz.prog 86 [(.d (.agg (Log_.enc l_1)))] [] (vS r) []:=by
 refine FnM.of_wH ⟨Tryz.prog,19,[],[]⟩ rfl Tryz.func86 rfl rfl (lb_ rfl) (by kernel_rfl) ?_
 unfold lg at hF
 refine af (aa (kN 0 (.inl rfl) [(vS l_1.Player),(vS l_1.Item),(vI l_1.No),(vI l_1.Clock),(vI l_1.Long),(vS l_1.Sum)] rfl rfl wz (λn_2=>ae (vS (⟨#[]⟩:ByteArray)) wz rfl (ai (af (bK (aJ iJ rfl 0 rfl wz (aK 1 0 (.inr (by kernel_rfl)) (λ_ _ ag=>trivial) sz9 ag9 rfl rfl (vS l_1.Player) rfl wz ?_))))))))
 obtain ⟨s_3,hz_4,hF⟩:=bind_some hF
 refine wC rfl rfl hz_4 wz (aJ rq rfl 1 rfl wz (aK 4 0 (.inr (by kernel_rfl)) (λ_ _ ag=>⟨.inl ⟨rfl,rfl⟩,trivial⟩) sz9 ag9 rfl rfl (vS l_1.Item) rfl wz ?_))
 obtain ⟨s_5,hz_6,hF⟩:=bind_some hF
 refine wC rfl rfl hz_6 wz ?_
 obtain ⟨s_7,hz_8,hF⟩:=bind_some hF
 refine wC rfl rfl hz_8 wz (aJ pO rfl 2 rfl wz (aK 8 0 (.inr (by kernel_rfl)) (λ_ _ ag=>⟨.inl ⟨rfl,rfl⟩,⟨.inl ⟨rfl,rfl⟩,trivial⟩⟩) sz3 ag3 rfl rfl (vI l_1.No) rfl wz (aJ ou rfl 3 rfl wz (aK 10 0 (.inr (by kernel_rfl)) (λ_ _ ag=>⟨.inl ⟨rfl,rfl⟩,⟨.inl ⟨rfl,rfl⟩,⟨.inl ⟨rfl,rfl⟩,trivial⟩⟩⟩) sz3 ag3 rfl rfl (vI l_1.Clock) rfl wz (aJ sV rfl 4 rfl wz (aK 12 0 (.inr (by kernel_rfl)) (λ_ _ ag=>⟨.inl ⟨rfl,rfl⟩,⟨.inl ⟨rfl,rfl⟩,⟨.inl ⟨rfl,rfl⟩,⟨.inl ⟨rfl,rfl⟩,trivial⟩⟩⟩⟩) sz3 ag3 rfl rfl (vI l_1.Long) rfl wz (fw (([l_1.No,l_1.Clock,l_1.Long]:List Int).map eI) oC ut rfl rfl rfl rfl rfl wz ?_)))))))
 obtain ⟨r_9,hr_10,hF⟩:=bind_some hF
 refine aH (wD hr_10) rfl hb121 rfl rfl rfl rfl wz ?_
 obtain ⟨s_11,hz_12,hF⟩:=bind_some hF
 refine wC rfl rfl hz_12 wz (ae (vS s_11) wz rfl (ai ?_))
 obtain rfl:=ah hF
 exact aB (bu (.inr rfl) [(vS s_11)] ⟨rfl,trivial⟩ rfl rfl rfl)
theorem uS {s_1:ByteArray} {r:ByteArray} (hF:mq s_1=some r) :
  FnM Tryz.prog 18 [(vS s_1)] [] (vS r) []:=by
 refine FnM.of_wH ⟨Tryz.prog,34,[],[]⟩ rfl Tryz.func18 rfl rfl (lb_ rfl) (by kernel_rfl) ?_
 unfold mq at hF
 refine af (aa (ae (vS (⟨#[]⟩:ByteArray)) wz rfl (ai (af (aa (ae (.d (.int .u64 14695981039346656037)) wz rfl (ai (af (af (aa (ae (vS s_1) wz rfl (h_convs un9 un92 un5 rfl wz (eY un92 rfl wz (ae (vI 0) wz rfl (ai ?_)))))))))))))))
 obtain ⟨o_10,hj_11,hF⟩:=bind_some hF
 obtain ⟨hn_6,hj_11⟩:=bX hj_11
 refine aG (β:=(Int)) (λ(s_7:Int)=>([(3,(.d (.int .u64 s_7)))]:SL_)) (λ(s_7:Int)=>([]:Hp)) (λp=>o_10 = .go p) ?_ ?_
 ·refine ax (bA (β:=Nat×(List Int)×(Int)) (λp=>(λ(k_2:Nat) (l_3:List Int) (s_7:Int)=>([(3,(.d (.int .u64 s_7))),(8,(vL (eK .u8) (di s_1))),(9,(vI ((di s_1).length:Int))),(10,(vI (k_2:Int)))]:SL_)) p.1 p.2.1 p.2.2) (λp=>(λ(k_2:Nat) (l_3:List Int) (s_7:Int)=>([]:Hp)) p.1 p.2.1 p.2.2) (λp=>dY (λk x s=>mY k x s) p.2.1 p.1 p.2.2=some o_10/\((di s_1)).drop p.1=p.2.1) (λp=>p.2.1.length) (0,(di s_1),14695981039346656037) ⟨hj_11,rfl⟩ rfl (aL rfl) ?_)
  rintro ⟨k_2,l_3,s_7⟩ ⟨hL_9,hD_5⟩
  dsimp only at hL_9 hD_5
  cases l_3 with
  | nil =>
   obtain rfl:=ah hL_9
   refine af (aa (ae (vB (decide ((k_2:Int)<((di s_1).length:Int)))) wz rfl (ai ?_)))
   refine af (aA rfl (drop_nil hD_5) (aY ?_))
   exact bz (s_7) rfl rfl (aL rfl)
  | cons x_4 l_3 =>
   obtain ⟨c_,hc_8,hL_9⟩:=bind_some hL_9
   refine af (aa (ae (vB (decide ((k_2:Int)<((di s_1).length:Int)))) wz rfl (ai ?_)))
   refine af (ay rfl (ek hD_5) (av ?_))
   unfold mY at hc_8
   refine af (ax (af (aa (fH es92 rfl rfl (eU hD_5) rfl wz (cO sz5 ag5 rfl (.d (.int .u8 x_4)) rfl wz (ae (.d (.int .u8 x_4)) wz rfl (ai (aa (ae (.d (.int .u64 s_7)) wz rfl (ae (.d (.int .u8 x_4)) wz rfl (h_conv un5 un91 rfl wz (ae (.d (.int .u64 (EP .u64 s_7 (IntKind.u64.wrap x_4)))) wz rfl (ae (.d (.int .u64 (IntKind.u64.wrap ((EP .u64 s_7 (IntKind.u64.wrap x_4))*1099511628211)))) wz rfl (ae (.d (.int .u64 (IntKind.u64.wrap ((EP .u64 s_7 (IntKind.u64.wrap x_4))*1099511628211)))) wz rfl (ai (aa (gW (dh hD_5 hn_6) wz rfl (ae (vI ((k_2+1:Nat):Int)) wz rfl (ai ?_)))))))))))))))))))
   obtain rfl:=ah hc_8
   exact bf (k_2+1,l_3,(IntKind.u64.wrap ((EP .u64 s_7 (IntKind.u64.wrap x_4))*1099511628211))) ⟨hL_9,aU hD_5⟩ (ls_ _) rfl (aL rfl)
 ·rintro s_7 ho_ sl_ H_ hp_ hq_
  subst ho_
  refine aQ _ hp_ hq_ (af (aa (ae (vS (⟨#[]⟩:ByteArray)) wz rfl (ai (af (af (aa (ae (vI 0) wz rfl (ai ?_)))))))))
  obtain ⟨o_20,hj_21,hF⟩:=bind_some hF
  obtain ⟨hn_16,hj_21⟩:=bX hj_21
  refine aG (β:=(Int×ByteArray)) (λ(s_17:Int×ByteArray)=>([(6,(vS s_17.2))]:SL_)) (λ(s_17:Int×ByteArray)=>([]:Hp)) (λp=>o_20 = .go p) ?_ ?_
  ·refine ax (bA (β:=Nat×(List Nat)×(Int×ByteArray)) (λp=>(λ(k_12:Nat) (l_13:List Nat) (s_17:Int×ByteArray)=>([(3,(.d (.int .u64 s_17.1))),(6,(vS s_17.2)),(20,(vI (k_12:Int)))]:SL_)) p.1 p.2.1 p.2.2) (λp=>(λ(k_12:Nat) (l_13:List Nat) (s_17:Int×ByteArray)=>([]:Hp)) p.1 p.2.1 p.2.2) (λp=>dY (λk x s=>jW k x s) p.2.1 p.1 p.2.2=some o_20/\((List.range (16:Int).toNat)).drop p.1=p.2.1) (λp=>p.2.1.length) (0,(List.range (16:Int).toNat),(s_7,(⟨#[]⟩:ByteArray))) ⟨hj_21,rfl⟩ rfl (aL rfl) ?_)
   rintro ⟨k_12,l_13,s_17⟩ ⟨hL_19,hD_15⟩
   dsimp only at hL_19 hD_15
   cases l_13 with
   | nil =>
    obtain rfl:=ah hL_19
    refine af (aa (ae (vB (decide ((k_12:Int)<16))) wz rfl (ai ?_)))
    refine af (aA rfl (nW hD_15) (aY ?_))
    exact bz (s_17) rfl rfl (aL rfl)
   | cons x_14 l_13 =>
    obtain ⟨c_,hc_18,hL_19⟩:=bind_some hL_19
    refine af (aa (ae (vB (decide ((k_12:Int)<16))) wz rfl (ai ?_)))
    refine af (ay rfl (mE hD_15) (av ?_))
    unfold jW at hc_18
    refine af (ax (af (aa (ae (.d (.int .u64 s_17.1)) wz rfl (ae (.d (.int .u64 (s_17.1.tmod 16))) wz rfl (ae (.d (.int .u64 s_17.1)) wz rfl (ae (.d (.int .u64 (s_17.1.tmod 16))) wz rfl (ae (.d (.int .u64 (IntKind.u64.wrap ((s_17.1.tmod 16)+1)))) wz rfl ?_))))))))
    obtain ⟨y_22,hy_23,hc_18⟩:=bind_some hc_18
    refine ym un9 rfl rfl rfl hy_23 wz (ae (vS s_17.2) wz rfl ?_)
    obtain ⟨s_24,hz_25,hc_18⟩:=bind_some hc_18
    refine wC rfl rfl hz_25 wz (ae (vS s_24) wz rfl (ai (aa (ae (.d (.int .u64 s_17.1)) wz rfl (ae (.d (.int .u64 (IntKind.u64.wrap (s_17.1.tdiv 16)))) wz rfl (ae (.d (.int .u64 (IntKind.u64.wrap (s_17.1.tdiv 16)))) wz rfl (ai (aa (gW (nM hD_15 hn_16) wz rfl (ae (vI ((k_12+1:Nat):Int)) wz rfl (ai ?_)))))))))))
    obtain rfl:=ah hc_18
    exact bf (k_12+1,l_13,((IntKind.u64.wrap (s_17.1.tdiv 16)),s_24)) ⟨hL_19,aU hD_15⟩ (ls_ _) rfl (aL rfl)
  ·rintro s_17 ho_ sl_ H_ hp_ hq_
   subst ho_
   refine aQ _ hp_ hq_ (af (aa (ae (vS s_17.2) wz rfl (ae (vS s_17.2) wz rfl (ai ?_)))))
   obtain rfl:=ah hF
   exact aB (bu (.inr rfl) [(vS s_17.2)] ⟨rfl,trivial⟩ rfl rfl rfl)
theorem Ah {last_1:ByteArray} {l_2:Log_} {r:ByteArray} (hF:nE last_1 l_2=some r) :
  FnM Tryz.prog 42 [(vS last_1),(.d (.agg (Log_.enc l_2)))] [] (vS r) []:=by
 refine FnM.of_wH ⟨Tryz.prog,11,[],[]⟩ rfl Tryz.func42 rfl rfl (lb_ rfl) (by kernel_rfl) ?_
 unfold nE at hF
 refine af (aa (kN 0 (.inl rfl) [(vS l_2.Player),(vS l_2.Item),(vI l_2.No),(vI l_2.Clock),(vI l_2.Long),(vS l_2.Sum)] rfl rfl wz (λn_3=>ae (vS (⟨#[]⟩:ByteArray)) wz rfl (ai (af (aa (ae (vS last_1) wz rfl ?_)))))))
 obtain ⟨s_4,hz_5,hF⟩:=bind_some hF
 refine wC rfl rfl hz_5 wz (aK 0 0 il ft om tO rfl rfl (.d (.agg (Log_.enc l_2))) rfl wz ?_)
 obtain ⟨r_6,hr_7,hF⟩:=bind_some hF
 refine aH (wL hr_7) rfl hb86 rfl rfl rfl rfl wz ?_
 obtain ⟨s_8,hz_9,hF⟩:=bind_some hF
 refine wC rfl rfl hz_9 wz ?_
 obtain ⟨r_10,hr_11,hF⟩:=bind_some hF
 refine aH (uS hr_11) rfl hb18 rfl rfl rfl rfl wz (ae (vS r_10) wz rfl (ai ?_))
 obtain rfl:=ah hF
 exact aB (bu (.inr rfl) [(vS r_10)] ⟨rfl,trivial⟩ rfl rfl rfl)
theorem fF {s_1:Stream} {n_2:Int} {r:Bool×Stream} (hF:bS s_1 n_2=some r) :
  FnM Tryz.prog 19 [(.ref (au 0) 0 0),(vI n_2)] [(.cells 2 [(vL eI s_1.L),(vI s_1.f_at)])] (vB r.1) [some (.cells 2 [(vL eI r.2.L),(vI r.2.f_at)])]:=by
 refine FnM.of_wH ⟨Tryz.prog,9,[],[]⟩ rfl Tryz.func19 rfl rfl (lb_ rfl) (by kernel_rfl) ?_
 unfold bS at hF
 refine af (aa (ae (vB false) wz rfl (ai (af (aa (ae (.ref (au 0) 0 0) wz rfl (ae (vI n_2) wz rfl ?_)))))))
 obtain ⟨r_3,hr_4,hF⟩:=bind_some hF
 refine bn 0 [0] il ft (dQ hr_4) rfl AV rfl (by kernel_rfl) (by kernel_rfl) (by kernel_rfl) (by kernel_rfl) (by kernel_rfl) (by kernel_rfl) (by kernel_rfl) (by decide) (by kernel_rfl) wz (vI r_3.1) (by kernel_rfl) ([((au 0),some (.cells 2 [(vL eI r_3.2.L),(vI r_3.2.f_at)]))]:Hp) (by kernel_rfl) (ae (vB (r_3.1==0)) wz rfl (ae (vB (r_3.1==0)) wz rfl (ai ?_)))
 obtain rfl:=ah hF
 exact aB (tV (.inr rfl) [(vB (r_3.1==0))] _ [0] [au 0] ⟨rfl,trivial⟩ (.cons (iL rfl rfl) (.nil)) (by kernel_rfl) ⟨(by kernel_rfl),trivial⟩ (by decide) (by kernel_rfl))
theorem nD {s_1:Stream} {most_2:Int} {r:(List Log_)×Stream} (hF:fI s_1 most_2=some r) :
  FnM Tryz.prog 57 [(.ref (au 0) 0 0),(vI most_2)] [(.cells 2 [(vL eI s_1.L),(vI s_1.f_at)])] (gV (au 1) 6 r.1) (([(.cells 2 [(vL eI r.2.L),(vI r.2.f_at)])]:List Box).map some++gO 6 Log_.enc r.1):=by
 refine FnM.of_wH ⟨Tryz.prog,59,[],[]⟩ rfl Tryz.func57 rfl rfl (lb_ rfl) (by kernel_rfl) ?_
 unfold fI at hF
 refine af (aa (ae .nil wz rfl (ai (af (aa (ae .nil wz rfl (ai (af (af (aa (fw (([(⟨#[112,97]⟩:ByteArray),(⟨#[112,98]⟩:ByteArray)]:List ByteArray).map eS) uz yo rfl rfl rfl rfl rfl wz (eY un34 rfl wz (ae (vI 0) wz rfl (ai (lJ (λn_9 => ?_))))))))))))))))
 obtain ⟨o_14,hj_15,hF⟩:=bind_some hF
 obtain ⟨hn_7,hj_15⟩:=bX hj_15
 refine aG (β:=((List Log_)×(List Int)×Int)×Nm) (λp=>(λ(s_8:(List Log_)×(List Int)×Int) (n_11:Nm)=>([(5,(gV n_11 6 s_8.1))]:SL_)) p.1 p.2) (λp=>(λ(s_8:(List Log_)×(List Int)×Int) (n_11:Nm)=>([((au 0),some (.cells 2 [(vL eI s_8.2.1),(vI s_8.2.2)])),(n_11,gB 6 Log_.enc s_8.1)]:Hp)) p.1 p.2) (λp=>o_14 = .go p.1) ?_ ?_
 ·refine ax (bA (β:=Nat×(List ByteArray)×((List Log_)×(List Int)×Int)×Nm) (λp=>(λ(k_3:Nat) (l_4:List ByteArray) (s_8:(List Log_)×(List Int)×Int) (n_11:Nm)=>([(0,(.ref (au 0) 0 0)),(1,(vI most_2)),(5,(gV n_11 6 s_8.1)),(12,(vL eS ([(⟨#[112,97]⟩:ByteArray),(⟨#[112,98]⟩:ByteArray)]:List ByteArray))),(13,(vI (([(⟨#[112,97]⟩:ByteArray),(⟨#[112,98]⟩:ByteArray)]:List ByteArray).length:Int))),(14,(vI (k_3:Int)))]:SL_)) p.1 p.2.1 p.2.2.1 p.2.2.2) (λp=>(λ(k_3:Nat) (l_4:List ByteArray) (s_8:(List Log_)×(List Int)×Int) (n_11:Nm)=>([((au 0),some (.cells 2 [(vL eI s_8.2.1),(vI s_8.2.2)])),(n_11,gB 6 Log_.enc s_8.1)]:Hp)) p.1 p.2.1 p.2.2.1 p.2.2.2) (λp=>dY (λk x s=>dH most_2 k x s) p.2.1 p.1 p.2.2.1=some o_14/\(([(⟨#[112,97]⟩:ByteArray),(⟨#[112,98]⟩:ByteArray)]:List ByteArray)).drop p.1=p.2.1) (λp=>p.2.1.length) (0,([(⟨#[112,97]⟩:ByteArray),(⟨#[112,98]⟩:ByteArray)]:List ByteArray),(([]:List Log_),s_1.L,s_1.f_at),n_9) ⟨hj_15,rfl⟩ rfl (aL rfl) ?_)
  rintro ⟨k_3,l_4,s_8,n_11⟩ ⟨hL_13,hD_6⟩
  dsimp only at hL_13 hD_6
  cases l_4 with
  | nil =>
   obtain rfl:=ah hL_13
   refine af (aa (ae (vB (decide ((k_3:Int)<(([(⟨#[112,97]⟩:ByteArray),(⟨#[112,98]⟩:ByteArray)]:List ByteArray).length:Int)))) wz rfl (ai ?_)))
   refine af (aA rfl (drop_nil hD_6) (aY ?_))
   exact bz (s_8,n_11) rfl rfl (aL rfl)
  | cons x_5 l_4 =>
   obtain ⟨c_,hc_12,hL_13⟩:=bind_some hL_13
   refine af (aa (ae (vB (decide ((k_3:Int)<(([(⟨#[112,97]⟩:ByteArray),(⟨#[112,98]⟩:ByteArray)]:List ByteArray).length:Int)))) wz rfl (ai ?_)))
   refine af (ay rfl (ek hD_6) (av ?_))
   unfold dH at hc_12
   refine af (ax (af (aa (fH uz rfl rfl (eU hD_6) rfl wz (cO sz9 ag9 rfl (vS x_5) rfl wz (ae (vS x_5) wz rfl (ai (af (aa (ae (.ref (au 0) 0 0) wz rfl (fw (([0,50,1000]:List Int).map eI) oC ut rfl rfl rfl rfl rfl wz ?_)))))))))))
   obtain ⟨r_16,hr_17,hc_12⟩:=bind_some hc_12
   refine bn 0 [0] il ft (fE hr_17) rfl EU rfl (by kernel_rfl) (by kernel_rfl) (by kernel_rfl) (by kernel_rfl) (by kernel_rfl) (by kernel_rfl) (by kernel_rfl) (by decide) (by kernel_rfl) wz (vI r_16.1) (by kernel_rfl) ([((au 0),some (.cells 2 [(vL eI r_16.2.L),(vI r_16.2.f_at)])),(n_11,gB 6 Log_.enc s_8.1)]:Hp) (by kernel_rfl) (ae (vS (⟨#[]⟩:ByteArray)) wz rfl (ae (vI r_16.1) wz rfl (ai (af (aa (ae (.ref (au 0) 0 0) wz rfl (ae (vI most_2) wz rfl ?_)))))))
   obtain ⟨r_19,hr_20,hc_12⟩:=bind_some hc_12
   refine bn 0 [0] il ft (fQ hr_20) rfl AP rfl (by kernel_rfl) (by kernel_rfl) (by kernel_rfl) (by kernel_rfl) (by kernel_rfl) (by kernel_rfl) (by kernel_rfl) (by decide) (by kernel_rfl) wz (vI r_19.1) (by kernel_rfl) ([((au 0),some (.cells 2 [(vL eI r_19.2.L),(vI r_19.2.f_at)])),(n_11,gB 6 Log_.enc s_8.1)]:Hp) (by kernel_rfl) (ae (vI 0) wz rfl (ai ?_))
   obtain ⟨o_32,hj_33,hc_12⟩:=bind_some hc_12
   obtain ⟨hn_26,hj_33⟩:=bX hj_33
   refine aG (β:=((List Log_)×ByteArray×Int×(List Int)×Int)×Nm) (λp=>(λ(s_27:(List Log_)×ByteArray×Int×(List Int)×Int) (n_29:Nm)=>([(0,(.ref (au 0) 0 0)),(1,(vI most_2)),(5,(gV n_29 6 s_27.1)),(12,(vL eS ([(⟨#[112,97]⟩:ByteArray),(⟨#[112,98]⟩:ByteArray)]:List ByteArray))),(13,(vI (([(⟨#[112,97]⟩:ByteArray),(⟨#[112,98]⟩:ByteArray)]:List ByteArray).length:Int))),(14,(vI (k_3:Int)))]:SL_)) p.1 p.2) (λp=>(λ(s_27:(List Log_)×ByteArray×Int×(List Int)×Int) (n_29:Nm)=>([((au 0),some (.cells 2 [(vL eI s_27.2.2.2.1),(vI s_27.2.2.2.2)])),(n_29,gB 6 Log_.enc s_27.1)]:Hp)) p.1 p.2) (λp=>o_32 = .go p.1) ?_ ?_
   ·refine ax (bA (β:=Nat×(List Nat)×((List Log_)×ByteArray×Int×(List Int)×Int)×Nm) (λp=>(λ(k_22:Nat) (l_23:List Nat) (s_27:(List Log_)×ByteArray×Int×(List Int)×Int) (n_29:Nm)=>([(0,(.ref (au 0) 0 0)),(1,(vI most_2)),(5,(gV n_29 6 s_27.1)),(7,(vS x_5)),(8,(vS s_27.2.1)),(9,(vI s_27.2.2.1)),(12,(vL eS ([(⟨#[112,97]⟩:ByteArray),(⟨#[112,98]⟩:ByteArray)]:List ByteArray))),(13,(vI (([(⟨#[112,97]⟩:ByteArray),(⟨#[112,98]⟩:ByteArray)]:List ByteArray).length:Int))),(14,(vI (k_3:Int))),(23,(vI r_19.1)),(24,(vI (k_22:Int)))]:SL_)) p.1 p.2.1 p.2.2.1 p.2.2.2) (λp=>(λ(k_22:Nat) (l_23:List Nat) (s_27:(List Log_)×ByteArray×Int×(List Int)×Int) (n_29:Nm)=>([((au 0),some (.cells 2 [(vL eI s_27.2.2.2.1),(vI s_27.2.2.2.2)])),(n_29,gB 6 Log_.enc s_27.1)]:Hp)) p.1 p.2.1 p.2.2.1 p.2.2.2) (λp=>dY (λk x s=>eX x_5 k x s) p.2.1 p.1 p.2.2.1=some o_32/\((List.range (r_19.1).toNat)).drop p.1=p.2.1) (λp=>p.2.1.length) (0,(List.range (r_19.1).toNat),(s_8.1,(⟨#[]⟩:ByteArray),r_16.1,r_19.2.L,r_19.2.f_at),n_11) ⟨hj_33,rfl⟩ rfl (aL rfl) ?_)
    rintro ⟨k_22,l_23,s_27,n_29⟩ ⟨hL_31,hD_25⟩
    dsimp only at hL_31 hD_25
    cases l_23 with
    | nil =>
     obtain rfl:=ah hL_31
     refine af (aa (ae (vB (decide ((k_22:Int)<r_19.1))) wz rfl (ai ?_)))
     refine af (aA rfl (nW hD_25) (aY ?_))
     exact bz (s_27,n_29) rfl rfl (aL rfl)
    | cons x_24 l_23 =>
     obtain ⟨c_,hc_30,hL_31⟩:=bind_some hL_31
     refine af (aa (ae (vB (decide ((k_22:Int)<r_19.1))) wz rfl (ai ?_)))
     refine af (ay rfl (mE hD_25) (av ?_))
     unfold eX at hc_30
     refine af (ax (af (aa (ae (vI (k_22:Int)) wz rfl (ae (vI (k_22:Int)) wz rfl (ai (af (aa (ae (vS x_5) wz rfl (ae (.ref (au 0) 0 0) wz rfl (fw (([(⟨#[105,97]⟩:ByteArray),(⟨#[105,98]⟩:ByteArray)]:List ByteArray).map eS) uz yo rfl rfl rfl rfl rfl wz ?_)))))))))))
     obtain ⟨r_34,hr_35,hc_30⟩:=bind_some hc_30
     refine bn 0 [0] il ft (eT hr_35) rfl Cr rfl (by kernel_rfl) (by kernel_rfl) (by kernel_rfl) (by kernel_rfl) (by kernel_rfl) (by kernel_rfl) (by kernel_rfl) (by decide) (by kernel_rfl) wz (vS r_34.1) (by kernel_rfl) ([((au 0),some (.cells 2 [(vL eI r_34.2.L),(vI r_34.2.f_at)])),(n_29,gB 6 Log_.enc s_27.1)]:Hp) (by kernel_rfl) (ae (vI (k_22:Int)) wz rfl (ae (vI (w64 ((k_22:Int)+1))) wz rfl (ae (vI s_27.2.2.1) wz rfl (ae (.ref (au 0) 0 0) wz rfl (fw (([1,10,30,100]:List Int).map eI) oC ut rfl rfl rfl rfl rfl wz ?_)))))
     obtain ⟨r_37,hr_38,hc_30⟩:=bind_some hc_30
     refine bn 0 [0] il ft (fE hr_38) rfl EU rfl (by kernel_rfl) (by kernel_rfl) (by kernel_rfl) (by kernel_rfl) (by kernel_rfl) (by kernel_rfl) (by kernel_rfl) (by decide) (by kernel_rfl) wz (vI r_37.1) (by kernel_rfl) ([((au 0),some (.cells 2 [(vL eI r_37.2.L),(vI r_37.2.f_at)])),(n_29,gB 6 Log_.enc s_27.1)]:Hp) (by kernel_rfl) (ae (.d (.agg (Log_.enc (⟨x_5,r_34.1,(w64 ((k_22:Int)+1)),s_27.2.2.1,r_37.1,(⟨#[]⟩:ByteArray)⟩:Log_)))) wz (by kernel_rfl) (gM 0 (.inl rfl) z43 rfl wz (λn_40=>jE 0 il ft 2 om rfl rfl [(vS x_5),(vS r_34.1),(vI (w64 ((k_22:Int)+1))),(vI s_27.2.2.1),(vI r_37.1),(vS (⟨#[]⟩:ByteArray))] rfl wz (ai (af (aa (ae (vS s_27.2.1) wz rfl (aK 0 2 il ft om tO rfl rfl (.d (.agg (Log_.enc (⟨x_5,r_34.1,(w64 ((k_22:Int)+1)),s_27.2.2.1,r_37.1,(⟨#[]⟩:ByteArray)⟩:Log_)))) rfl wz ?_))))))))
     obtain ⟨r_41,hr_42,hc_30⟩:=bind_some hc_30
     refine aH (Ah hr_42) rfl hb42 rfl rfl rfl rfl wz (aJ rE rfl 5 rfl wz (jE 0 il ft 2 sz9 rfl rfl [(vS x_5),(vS r_34.1),(vI (w64 ((k_22:Int)+1))),(vI s_27.2.2.1),(vI r_37.1),(vS r_41)] rfl wz (ai (af (aa (aJ rE rfl 5 rfl wz (aK 0 2 il ft sz9 ag9 rfl rfl (vS r_41) rfl wz (ae (vS r_41) wz rfl (ai (af (aa (ae (vI s_27.2.2.1) wz rfl (ae (.ref (au 0) 0 0) wz rfl (fw (([0,5,10,50,100]:List Int).map eI) oC ut rfl rfl rfl rfl rfl wz ?_))))))))))))))
     obtain ⟨r_43,hr_44,hc_30⟩:=bind_some hc_30
     refine bn 0 [0] il ft (fE hr_44) rfl EU rfl (by kernel_rfl) (by kernel_rfl) (by kernel_rfl) (by kernel_rfl) (by kernel_rfl) (by kernel_rfl) (by kernel_rfl) (by decide) (by kernel_rfl) wz (vI r_43.1) (by kernel_rfl) ([((au 0),some (.cells 2 [(vL eI r_43.2.L),(vI r_43.2.f_at)])),(n_29,gB 6 Log_.enc s_27.1),(n_40,some (.cells 6 [(vS x_5),(vS r_34.1),(vI (w64 ((k_22:Int)+1))),(vI s_27.2.2.1),(vI r_37.1),(vS r_41)]))]:Hp) (by kernel_rfl) (ae (vI (w64 (s_27.2.2.1+r_43.1))) wz rfl (ae (vI (w64 (s_27.2.2.1+r_43.1))) wz rfl (ai (af (aa (ae (.ref (au 0) 0 0) wz rfl ?_))))))
     obtain ⟨r_46,hr_47,hc_30⟩:=bind_some hc_30
     refine bn 0 [0] il ft (fF hr_47) rfl ET rfl (by kernel_rfl) (by kernel_rfl) (by kernel_rfl) (by kernel_rfl) (by kernel_rfl) (by kernel_rfl) (by kernel_rfl) (by decide) (by kernel_rfl) wz (vB r_46.1) (by kernel_rfl) ([((au 0),some (.cells 2 [(vL eI r_46.2.L),(vI r_46.2.f_at)])),(n_29,gB 6 Log_.enc s_27.1),(n_40,some (.cells 6 [(vS x_5),(vS r_34.1),(vI (w64 ((k_22:Int)+1))),(vI s_27.2.2.1),(vI r_37.1),(vS r_41)]))]:Hp) (by kernel_rfl) (ae (vB (!r_46.1)) wz rfl (ai (aQ (H0:=([((au 0),some (.cells 2 [(vL eI r_46.2.L),(vI r_46.2.f_at)])),(n_29,gB 6 Log_.enc s_27.1),(n_40,some (.cells 6 [(vS x_5),(vS r_34.1),(vI (w64 ((k_22:Int)+1))),(vI s_27.2.2.1),(vI r_37.1),(vS r_41)]))]:Hp)) ([(0,(.ref (au 0) 0 0)),(1,(vI most_2)),(5,(gV n_29 6 s_27.1)),(7,(vS x_5)),(8,(vS r_41)),(9,(vI (w64 (s_27.2.2.1+r_43.1)))),(11,(.ref n_40 0 0)),(12,(vL eS ([(⟨#[112,97]⟩:ByteArray),(⟨#[112,98]⟩:ByteArray)]:List ByteArray))),(13,(vI (([(⟨#[112,97]⟩:ByteArray),(⟨#[112,98]⟩:ByteArray)]:List ByteArray).length:Int))),(14,(vI (k_3:Int))),(23,(vI r_19.1)),(24,(vI (k_22:Int))),(51,(vB (!r_46.1)))]:SL_) (by kernel_rfl) (tL (by kernel_rfl)) ?_)))
     obtain ⟨v_49,h_50,hc_30⟩:=bind_some hc_30
     refine aG (β:=Nm) (λ(n_51:Nm)=>([(0,(.ref (au 0) 0 0)),(1,(vI most_2)),(5,(gV n_51 6 v_49)),(7,(vS x_5)),(8,(vS r_41)),(9,(vI (w64 (s_27.2.2.1+r_43.1)))),(12,(vL eS ([(⟨#[112,97]⟩:ByteArray),(⟨#[112,98]⟩:ByteArray)]:List ByteArray))),(13,(vI (([(⟨#[112,97]⟩:ByteArray),(⟨#[112,98]⟩:ByteArray)]:List ByteArray).length:Int))),(14,(vI (k_3:Int))),(23,(vI r_19.1)),(24,(vI (k_22:Int)))]:SL_)) (λ(n_51:Nm)=>([((au 0),some (.cells 2 [(vL eI r_46.2.L),(vI r_46.2.f_at)])),(n_51,gB 6 Log_.enc v_49),(n_40,some (.cells 6 [(vS x_5),(vS r_34.1),(vI (w64 ((k_22:Int)+1))),(vI s_27.2.2.1),(vI r_37.1),(vS r_41)]))]:Hp)) (λ_=>True) ?_ ?_
     ·rcases ak h_50 with⟨hc_52,h_50⟩|⟨hc_52,h_50⟩
      ·refine ay rfl hc_52 (aa (ae (gV n_29 6 s_27.1) wz rfl (aK 0 2 il ft om tO rfl rfl (.d (.agg (Log_.enc (⟨x_5,r_34.1,(w64 ((k_22:Int)+1)),s_27.2.2.1,r_37.1,r_41⟩:Log_)))) rfl wz (fw (([(⟨x_5,r_34.1,(w64 ((k_22:Int)+1)),s_27.2.2.1,r_37.1,r_41⟩:Log_)]:List Log_).map Log_.enc) nU ez26 rfl rfl rfl rfl rfl wz ?_))))
       obtain ⟨a_53,hz_54,h_50⟩:=bind_some h_50
       refine jC 0 il ft (i:=1) el26 el26 om z43 rfl (by decide) by43 (by decide) (λ_=>rfl) rfl rfl rfl hz_54 wz (λn_55=>ae (gV n_55 6 a_53) wz rfl (ai ?_))
       obtain rfl:=ah h_50
       exact bz n_55 trivial rfl (aL rfl)
      ·refine aA rfl hc_52 (av ?_)
       obtain rfl:=ah h_50
       exact bz n_29 trivial rfl (aL rfl)
     ·rintro n_51 _ sl_ H_ hp_ hq_
      refine aQ _ hp_ hq_ (aa (gW (nM hD_25 hn_26) wz rfl (ae (vI ((k_22+1:Nat):Int)) wz rfl (ai ?_))))
      obtain rfl:=ah hc_30
      exact bf (k_22+1,l_23,(v_49,r_41,(w64 (s_27.2.2.1+r_43.1)),r_46.2.L,r_46.2.f_at),n_51) ⟨hL_31,aU hD_25⟩ (ls_ _) rfl (aL rfl)
   ·rintro ⟨s_27,n_29⟩ ho_ sl_ H_ hp_ hq_
    subst ho_
    refine aQ _ hp_ hq_ (aa (gW (dh hD_6 hn_7) wz rfl (ae (vI ((k_3+1:Nat):Int)) wz rfl (ai ?_))))
    obtain rfl:=ah hc_12
    exact bf (k_3+1,l_4,(s_27.1,s_27.2.2.2.1,s_27.2.2.2.2),n_29) ⟨hL_13,aU hD_6⟩ (ls_ _) rfl (aL rfl)
 ·rintro ⟨s_8,n_11⟩ ho_ sl_ H_ hp_ hq_
  subst ho_
  refine aQ _ hp_ hq_ (af (aa (ae (gV n_11 6 s_8.1) wz rfl (ae (gV n_11 6 s_8.1) wz rfl (ai ?_)))))
  obtain rfl:=ah hF
  exact aB (Fa (outs:=([(.cells 2 [(vL eI s_8.2.1),(vI s_8.2.2)])]:List Box)) (.inr rfl) 1 rfl rfl rfl (by kernel_rfl) (by kernel_rfl))
theorem iq {s_1:Stream} {low_2:Int} {high_3:Int} {r:Int×Stream} (hF:dU s_1 low_2 high_3=some r) :
  FnM Tryz.prog 58 [(.ref (au 0) 0 0),(vI low_2),(vI high_3)] [(.cells 2 [(vL eI s_1.L),(vI s_1.f_at)])] (vI r.1) [some (.cells 2 [(vL eI r.2.L),(vI r.2.f_at)])]:=by
 refine FnM.of_wH ⟨Tryz.prog,22,[],[]⟩ rfl Tryz.func58 rfl rfl (lb_ rfl) (by kernel_rfl) ?_
 unfold dU at hF
 refine af (aa (ae (vI 0) wz rfl (ai (af (af (aa (ae (.ref (au 0) 0 0) wz rfl ?_)))))))
 obtain ⟨r_4,hr_5,hF⟩:=bind_some hF
 refine bn 0 [0] il ft (fF hr_5) rfl ET rfl (by kernel_rfl) (by kernel_rfl) (by kernel_rfl) (by kernel_rfl) (by kernel_rfl) (by kernel_rfl) (by kernel_rfl) (by decide) (by kernel_rfl) wz (vB r_4.1) (by kernel_rfl) ([((au 0),some (.cells 2 [(vL eI r_4.2.L),(vI r_4.2.f_at)]))]:Hp) (by kernel_rfl) (ai ?_)
 rcases ak hF with⟨hc_7,hF⟩|⟨hc_7,hF⟩
 ·refine ay rfl hc_7 (af (aa (ae (.ref (au 0) 0 0) wz rfl (ae (vI low_2) wz rfl (ae (vI (w64 (low_2-1))) wz rfl (ae (vI high_3) wz rfl (ae (vI (w64 (high_3+1))) wz rfl (ae (vI low_2) wz rfl (ae (vI high_3) wz rfl (fw (([(w64 (low_2-1)),(w64 (high_3+1)),low_2,high_3,(-1099511627776),1099511627776]:List Int).map eI) oC ut rfl rfl rfl rfl rfl wz ?_))))))))))
  obtain ⟨r_8,hr_9,hF⟩:=bind_some hF
  refine bn 0 [0] il ft (fE hr_9) rfl EU rfl (by kernel_rfl) (by kernel_rfl) (by kernel_rfl) (by kernel_rfl) (by kernel_rfl) (by kernel_rfl) (by kernel_rfl) (by decide) (by kernel_rfl) wz (vI r_8.1) (by kernel_rfl) ([((au 0),some (.cells 2 [(vL eI r_8.2.L),(vI r_8.2.f_at)]))]:Hp) (by kernel_rfl) (ae (vI r_8.1) wz rfl (ai ?_))
  obtain rfl:=ah hF
  exact aB (tV (.inr rfl) [(vI r_8.1)] _ [0] [au 0] ⟨rfl,trivial⟩ (.cons (iL rfl rfl) (.nil)) (by kernel_rfl) ⟨(by kernel_rfl),trivial⟩ (by decide) (by kernel_rfl))
 ·refine aA rfl hc_7 (av (af (aa (ae (.ref (au 0) 0 0) wz rfl (ae (vI low_2) wz rfl (ae (vI high_3) wz rfl ?_))))))
  obtain ⟨r_11,hr_12,hF⟩:=bind_some hF
  refine bn 0 [0] il ft (fQ hr_12) rfl AP rfl (by kernel_rfl) (by kernel_rfl) (by kernel_rfl) (by kernel_rfl) (by kernel_rfl) (by kernel_rfl) (by kernel_rfl) (by decide) (by kernel_rfl) wz (vI r_11.1) (by kernel_rfl) ([((au 0),some (.cells 2 [(vL eI r_11.2.L),(vI r_11.2.f_at)]))]:Hp) (by kernel_rfl) (ae (vI r_11.1) wz rfl (ai ?_))
  obtain rfl:=ah hF
  exact aB (tV (.inr rfl) [(vI r_11.1)] _ [0] [au 0] ⟨rfl,trivial⟩ (.cons (iL rfl rfl) (.nil)) (by kernel_rfl) ⟨(by kernel_rfl),trivial⟩ (by decide) (by kernel_rfl))
theorem nu {s_1:Stream} {r:(List Beat)×Stream} (hF:fu s_1=some r) :
  FnM Tryz.prog 99 [(.ref (au 0) 0 0)] [(.cells 2 [(vL eI s_1.L),(vI s_1.f_at)])] (gV (au 1) 3 r.1) (([(.cells 2 [(vL eI r.2.L),(vI r.2.f_at)])]:List Box).map some++gO 3 Beat.enc r.1):=by
 refine FnM.of_wH ⟨Tryz.prog,42,[],[]⟩ rfl Tryz.func99 rfl rfl (lb_ rfl) (by kernel_rfl) ?_
 unfold fu at hF
 refine af (aa (ae .nil wz rfl (ai (af (aa (ae .nil wz rfl (ai (af (af (aa (fw (([(⟨#[112,97]⟩:ByteArray),(⟨#[112,98]⟩:ByteArray)]:List ByteArray).map eS) uz yo rfl rfl rfl rfl rfl wz (eY un34 rfl wz (ae (vI 0) wz rfl (ai (lJ (λn_8 => ?_))))))))))))))))
 obtain ⟨o_13,hj_14,hF⟩:=bind_some hF
 obtain ⟨hn_6,hj_14⟩:=bX hj_14
 refine aG (β:=((List Beat)×(List Int)×Int)×Nm) (λp=>(λ(s_7:(List Beat)×(List Int)×Int) (n_10:Nm)=>([(3,(gV n_10 3 s_7.1))]:SL_)) p.1 p.2) (λp=>(λ(s_7:(List Beat)×(List Int)×Int) (n_10:Nm)=>([((au 0),some (.cells 2 [(vL eI s_7.2.1),(vI s_7.2.2)])),(n_10,gB 3 Beat.enc s_7.1)]:Hp)) p.1 p.2) (λp=>o_13 = .go p.1) ?_ ?_
 ·refine ax (bA (β:=Nat×(List ByteArray)×((List Beat)×(List Int)×Int)×Nm) (λp=>(λ(k_2:Nat) (l_3:List ByteArray) (s_7:(List Beat)×(List Int)×Int) (n_10:Nm)=>([(0,(.ref (au 0) 0 0)),(3,(gV n_10 3 s_7.1)),(8,(vL eS ([(⟨#[112,97]⟩:ByteArray),(⟨#[112,98]⟩:ByteArray)]:List ByteArray))),(9,(vI (([(⟨#[112,97]⟩:ByteArray),(⟨#[112,98]⟩:ByteArray)]:List ByteArray).length:Int))),(10,(vI (k_2:Int)))]:SL_)) p.1 p.2.1 p.2.2.1 p.2.2.2) (λp=>(λ(k_2:Nat) (l_3:List ByteArray) (s_7:(List Beat)×(List Int)×Int) (n_10:Nm)=>([((au 0),some (.cells 2 [(vL eI s_7.2.1),(vI s_7.2.2)])),(n_10,gB 3 Beat.enc s_7.1)]:Hp)) p.1 p.2.1 p.2.2.1 p.2.2.2) (λp=>dY (λk x s=>d9 k x s) p.2.1 p.1 p.2.2.1=some o_13/\(([(⟨#[112,97]⟩:ByteArray),(⟨#[112,98]⟩:ByteArray)]:List ByteArray)).drop p.1=p.2.1) (λp=>p.2.1.length) (0,([(⟨#[112,97]⟩:ByteArray),(⟨#[112,98]⟩:ByteArray)]:List ByteArray),(([]:List Beat),s_1.L,s_1.f_at),n_8) ⟨hj_14,rfl⟩ rfl (aL rfl) ?_)
  rintro ⟨k_2,l_3,s_7,n_10⟩ ⟨hL_12,hD_5⟩
  dsimp only at hL_12 hD_5
  cases l_3 with
  | nil =>
   obtain rfl:=ah hL_12
   refine af (aa (ae (vB (decide ((k_2:Int)<(([(⟨#[112,97]⟩:ByteArray),(⟨#[112,98]⟩:ByteArray)]:List ByteArray).length:Int)))) wz rfl (ai ?_)))
   refine af (aA rfl (drop_nil hD_5) (aY ?_))
   exact bz (s_7,n_10) rfl rfl (aL rfl)
  | cons x_4 l_3 =>
   obtain ⟨c_,hc_11,hL_12⟩:=bind_some hL_12
   refine af (aa (ae (vB (decide ((k_2:Int)<(([(⟨#[112,97]⟩:ByteArray),(⟨#[112,98]⟩:ByteArray)]:List ByteArray).length:Int)))) wz rfl (ai ?_)))
   refine af (ay rfl (ek hD_5) (av ?_))
   unfold d9 at hc_11
   refine af (ax (af (aa (fH uz rfl rfl (eU hD_5) rfl wz (cO sz9 ag9 rfl (vS x_4) rfl wz (ae (vS x_4) wz rfl (ai (af (aa (ae (.ref (au 0) 0 0) wz rfl ?_))))))))))
   obtain ⟨r_15,hr_16,hc_11⟩:=bind_some hc_11
   refine bn 0 [0] il ft (fQ hr_16) rfl AP rfl (by kernel_rfl) (by kernel_rfl) (by kernel_rfl) (by kernel_rfl) (by kernel_rfl) (by kernel_rfl) (by kernel_rfl) (by decide) (by kernel_rfl) wz (vI r_15.1) (by kernel_rfl) ([((au 0),some (.cells 2 [(vL eI r_15.2.L),(vI r_15.2.f_at)])),(n_10,gB 3 Beat.enc s_7.1)]:Hp) (by kernel_rfl) (ae (.ref (au 0) 0 0) wz rfl ?_)
   obtain ⟨r_18,hr_19,hc_11⟩:=bind_some hc_11
   refine bn 0 [0] il ft (fQ hr_19) rfl AP rfl (by kernel_rfl) (by kernel_rfl) (by kernel_rfl) (by kernel_rfl) (by kernel_rfl) (by kernel_rfl) (by kernel_rfl) (by decide) (by kernel_rfl) wz (vI r_18.1) (by kernel_rfl) ([((au 0),some (.cells 2 [(vL eI r_18.2.L),(vI r_18.2.f_at)])),(n_10,gB 3 Beat.enc s_7.1)]:Hp) (by kernel_rfl) (ae (vI r_15.1) wz rfl (ae (vI r_18.1) wz rfl (ai (af (aa (ae (.ref (au 0) 0 0) wz rfl ?_))))))
   obtain ⟨r_21,hr_22,hc_11⟩:=bind_some hc_11
   refine bn 0 [0] il ft (fQ hr_22) rfl AP rfl (by kernel_rfl) (by kernel_rfl) (by kernel_rfl) (by kernel_rfl) (by kernel_rfl) (by kernel_rfl) (by kernel_rfl) (by decide) (by kernel_rfl) wz (vI r_21.1) (by kernel_rfl) ([((au 0),some (.cells 2 [(vL eI r_21.2.L),(vI r_21.2.f_at)])),(n_10,gB 3 Beat.enc s_7.1)]:Hp) (by kernel_rfl) (ae (vI 0) wz rfl (ai ?_))
   obtain ⟨o_34,hj_35,hc_11⟩:=bind_some hc_11
   obtain ⟨hn_28,hj_35⟩:=bX hj_35
   refine aG (β:=((List Beat)×Int×Int×(List Int)×Int)×Nm) (λp=>(λ(s_29:(List Beat)×Int×Int×(List Int)×Int) (n_31:Nm)=>([(0,(.ref (au 0) 0 0)),(3,(gV n_31 3 s_29.1)),(8,(vL eS ([(⟨#[112,97]⟩:ByteArray),(⟨#[112,98]⟩:ByteArray)]:List ByteArray))),(9,(vI (([(⟨#[112,97]⟩:ByteArray),(⟨#[112,98]⟩:ByteArray)]:List ByteArray).length:Int))),(10,(vI (k_2:Int)))]:SL_)) p.1 p.2) (λp=>(λ(s_29:(List Beat)×Int×Int×(List Int)×Int) (n_31:Nm)=>([((au 0),some (.cells 2 [(vL eI s_29.2.2.2.1),(vI s_29.2.2.2.2)])),(n_31,gB 3 Beat.enc s_29.1)]:Hp)) p.1 p.2) (λp=>o_34 = .go p.1) ?_ ?_
   ·refine ax (bA (β:=Nat×(List Nat)×((List Beat)×Int×Int×(List Int)×Int)×Nm) (λp=>(λ(k_24:Nat) (l_25:List Nat) (s_29:(List Beat)×Int×Int×(List Int)×Int) (n_31:Nm)=>([(0,(.ref (au 0) 0 0)),(3,(gV n_31 3 s_29.1)),(5,(vS x_4)),(6,(vI s_29.2.1)),(7,(vI s_29.2.2.1)),(8,(vL eS ([(⟨#[112,97]⟩:ByteArray),(⟨#[112,98]⟩:ByteArray)]:List ByteArray))),(9,(vI (([(⟨#[112,97]⟩:ByteArray),(⟨#[112,98]⟩:ByteArray)]:List ByteArray).length:Int))),(10,(vI (k_2:Int))),(19,(vI r_21.1)),(20,(vI (k_24:Int)))]:SL_)) p.1 p.2.1 p.2.2.1 p.2.2.2) (λp=>(λ(k_24:Nat) (l_25:List Nat) (s_29:(List Beat)×Int×Int×(List Int)×Int) (n_31:Nm)=>([((au 0),some (.cells 2 [(vL eI s_29.2.2.2.1),(vI s_29.2.2.2.2)])),(n_31,gB 3 Beat.enc s_29.1)]:Hp)) p.1 p.2.1 p.2.2.1 p.2.2.2) (λp=>dY (λk x s=>eG x_4 k x s) p.2.1 p.1 p.2.2.1=some o_34/\((List.range (r_21.1).toNat)).drop p.1=p.2.1) (λp=>p.2.1.length) (0,(List.range (r_21.1).toNat),(s_7.1,r_15.1,r_18.1,r_21.2.L,r_21.2.f_at),n_10) ⟨hj_35,rfl⟩ rfl (aL rfl) ?_)
    rintro ⟨k_24,l_25,s_29,n_31⟩ ⟨hL_33,hD_27⟩
    dsimp only at hL_33 hD_27
    cases l_25 with
    | nil =>
     obtain rfl:=ah hL_33
     refine af (aa (ae (vB (decide ((k_24:Int)<r_21.1))) wz rfl (ai ?_)))
     refine af (aA rfl (nW hD_27) (aY ?_))
     exact bz (s_29,n_31) rfl rfl (aL rfl)
    | cons x_26 l_25 =>
     obtain ⟨c_,hc_32,hL_33⟩:=bind_some hL_33
     refine af (aa (ae (vB (decide ((k_24:Int)<r_21.1))) wz rfl (ai ?_)))
     refine af (ay rfl (mE hD_27) (av ?_))
     unfold eG at hc_32
     refine af (ax (af (aa (ae (gV n_31 3 s_29.1) wz rfl (ae (vS x_4) wz rfl (ae (vI s_29.2.1) wz rfl (ae (vI s_29.2.2.1) wz rfl (ae (.d (.agg (Beat.enc (⟨x_4,s_29.2.1,s_29.2.2.1⟩:Beat)))) wz (by kernel_rfl) (fw (([(⟨x_4,s_29.2.1,s_29.2.2.1⟩:Beat)]:List Beat).map Beat.enc) oN ez74 rfl rfl rfl rfl rfl wz ?_)))))))))
     obtain ⟨a_36,hz_37,hc_32⟩:=bind_some hc_32
     refine jC 0 il ft (i:=1) Gi Gi iP yc rfl (by decide) by101 (by decide) (λ_=>rfl) rfl rfl rfl hz_37 wz (λn_38=>ae (gV n_38 3 a_36) wz rfl (ai (af (aa (ae (vI s_29.2.1) wz rfl (ae (.ref (au 0) 0 0) wz rfl (fw (([1,50,100,1000,2678400000]:List Int).map eI) oC ut rfl rfl rfl rfl rfl wz ?_)))))))
     obtain ⟨r_39,hr_40,hc_32⟩:=bind_some hc_32
     refine bn 0 [0] il ft (fE hr_40) rfl EU rfl (by kernel_rfl) (by kernel_rfl) (by kernel_rfl) (by kernel_rfl) (by kernel_rfl) (by kernel_rfl) (by kernel_rfl) (by decide) (by kernel_rfl) wz (vI r_39.1) (by kernel_rfl) ([((au 0),some (.cells 2 [(vL eI r_39.2.L),(vI r_39.2.f_at)])),(n_38,gB 3 Beat.enc a_36)]:Hp) (by kernel_rfl) (ae (vI (w64 (s_29.2.1+r_39.1))) wz rfl (ae (vI (w64 (s_29.2.1+r_39.1))) wz rfl (ai (aa (ae (vI s_29.2.2.1) wz rfl (ae (.ref (au 0) 0 0) wz rfl (fw (([1,40,100,1300,2592000000]:List Int).map eI) oC ut rfl rfl rfl rfl rfl wz ?_)))))))
     obtain ⟨r_42,hr_43,hc_32⟩:=bind_some hc_32
     refine bn 0 [0] il ft (fE hr_43) rfl EU rfl (by kernel_rfl) (by kernel_rfl) (by kernel_rfl) (by kernel_rfl) (by kernel_rfl) (by kernel_rfl) (by kernel_rfl) (by decide) (by kernel_rfl) wz (vI r_42.1) (by kernel_rfl) ([((au 0),some (.cells 2 [(vL eI r_42.2.L),(vI r_42.2.f_at)])),(n_38,gB 3 Beat.enc a_36)]:Hp) (by kernel_rfl) (ae (vI (w64 (s_29.2.2.1+r_42.1))) wz rfl (ae (vI (w64 (s_29.2.2.1+r_42.1))) wz rfl (ai (aa (gW (nM hD_27 hn_28) wz rfl (ae (vI ((k_24+1:Nat):Int)) wz rfl (ai ?_)))))))
     obtain rfl:=ah hc_32
     exact bf (k_24+1,l_25,(a_36,(w64 (s_29.2.1+r_39.1)),(w64 (s_29.2.2.1+r_42.1)),r_42.2.L,r_42.2.f_at),n_38) ⟨hL_33,aU hD_27⟩ (ls_ _) rfl (aL rfl)
   ·rintro ⟨s_29,n_31⟩ ho_ sl_ H_ hp_ hq_
    subst ho_
    refine aQ _ hp_ hq_ (aa (gW (dh hD_5 hn_6) wz rfl (ae (vI ((k_2+1:Nat):Int)) wz rfl (ai ?_))))
    obtain rfl:=ah hc_11
    exact bf (k_2+1,l_3,(s_29.1,s_29.2.2.2.1,s_29.2.2.2.2),n_31) ⟨hL_12,aU hD_5⟩ (ls_ _) rfl (aL rfl)
 ·rintro ⟨s_7,n_10⟩ ho_ sl_ H_ hp_ hq_
  subst ho_
  refine aQ _ hp_ hq_ (af (aa (ae (gV n_10 3 s_7.1) wz rfl (ae (gV n_10 3 s_7.1) wz rfl (ai ?_)))))
  obtain rfl:=ah hF
  exact aB (Fa (outs:=([(.cells 2 [(vL eI s_7.2.1),(vI s_7.2.2)])]:List Box)) (.inr rfl) 1 rfl rfl rfl (by kernel_rfl) (by kernel_rfl))
theorem qX {s_1:Stream} {r:(List Beat)×Stream} (hF:iT s_1=some r) :
  FnM Tryz.prog 52 [(.ref (au 0) 0 0)] [(.cells 2 [(vL eI s_1.L),(vI s_1.f_at)])] (vL Beat.enc r.1) [some (.cells 2 [(vL eI r.2.L),(vI r.2.f_at)])]:=by
 refine FnM.of_wH ⟨Tryz.prog,41,[],[]⟩ rfl Tryz.func52 rfl rfl (lb_ rfl) (by kernel_rfl) ?_
 unfold iT at hF
 refine af (aa (ae .nil wz rfl (ai (af (aa (ae (.ref (au 0) 0 0) wz rfl ?_))))))
 obtain ⟨r_2,hr_3,hF⟩:=bind_some hF
 refine vP [0] (nu hr_3) rfl hb99 rfl (by kernel_rfl) (by kernel_rfl) (by kernel_rfl) (by kernel_rfl) (by kernel_rfl) rfl (by decide) (by kernel_rfl) wz ([((au 0),some (.cells 2 [(vL eI r_2.2.L),(vI r_2.2.f_at)]))]:Hp) (λ_=>by kernel_rfl) (λn_5=>ae (gV n_5 3 r_2.1) wz rfl (ai (af (af ?_))))
 obtain ⟨v_6,h_7,hF⟩:=bind_some hF
 refine aG (β:=Unit) (λ_=>([(0,(.ref (au 0) 0 0)),(3,(gV n_5 3 r_2.1)),(13,(vB v_6.1))]:SL_)) (λ_=>([((au 0),some (.cells 2 [(vL eI v_6.2.1),(vI v_6.2.2)])),(n_5,gB 3 Beat.enc r_2.1)]:Hp)) (λ_=>True) ?_ ?_
 ·refine aa (ae (gV n_5 3 r_2.1) wz rfl (ni rG rfl wz (ae (vB (decide ((r_2.1.length:Int)>0))) wz rfl ?_)))
  rcases ak h_7 with⟨hc_8,h_7⟩|⟨hc_8,h_7⟩
  ·refine aC rfl hc_8 wz (ae (.ref (au 0) 0 0) wa rfl ?_)
   obtain ⟨r_9,hr_10,h_7⟩:=bind_some h_7
   refine bn 0 [0] il ft (fF hr_10) rfl ET rfl (by kernel_rfl) (by kernel_rfl) (by kernel_rfl) (by kernel_rfl) (by kernel_rfl) (by kernel_rfl) (by kernel_rfl) (by decide) (by kernel_rfl) wa (vB r_9.1) (by kernel_rfl) ([((au 0),some (.cells 2 [(vL eI r_9.2.L),(vI r_9.2.f_at)])),(n_5,gB 3 Beat.enc r_2.1)]:Hp) (by kernel_rfl) (ae (vB r_9.1) wz rfl (ai ?_))
   obtain rfl:=ah h_7
   exact cu
  ·refine aC rfl hc_8 wz (aj wa (aj wa (ae (vB false) wz rfl (ai ?_))))
   obtain rfl:=ah h_7
   exact cu
 ·rintro ⟨⟩ _ sl_ H_ hp_ hq_
  refine aQ _ hp_ hq_ ?_
  obtain ⟨v_12,h_13,hF⟩:=bind_some hF
  refine aG (β:=Unit) (λ_=>([(3,(gV n_5 3 v_12.1))]:SL_)) (λ_=>([((au 0),some (.cells 2 [(vL eI v_12.2.1),(vI v_12.2.2)])),(n_5,gB 3 Beat.enc v_12.1)]:Hp)) (λ_=>True) ?_ ?_
  ·rcases ak h_13 with⟨hc_14,h_13⟩|⟨hc_14,h_13⟩
   ·refine ay rfl hc_14 (af (aa (ae (gV n_5 3 r_2.1) wz rfl (ae (.ref (au 0) 0 0) wz rfl (ae (gV n_5 3 r_2.1) wz rfl (ni rG rfl wz ?_))))))
    obtain ⟨r_15,hr_16,h_13⟩:=bind_some h_13
    refine bn 0 [0] il ft (dQ hr_16) rfl AV rfl (by kernel_rfl) (by kernel_rfl) (by kernel_rfl) (by kernel_rfl) (by kernel_rfl) (by kernel_rfl) (by kernel_rfl) (by decide) (by kernel_rfl) wz (vI r_15.1) (by kernel_rfl) ([((au 0),some (.cells 2 [(vL eI r_15.2.L),(vI r_15.2.f_at)])),(n_5,gB 3 Beat.enc r_2.1)]:Hp) (by kernel_rfl) ?_
    obtain ⟨_,hi_18,h_13⟩:=bind_some h_13
    refine qV oN rfl rfl (jA hi_18) (gu hi_18) wz (ae (.ref n_5 (0+(r_15.1).toNat) 0) wz rfl (ai (aa (ae (.ref n_5 (0+(r_15.1).toNat) 0) wz rfl (ae (.ref n_5 (0+(r_15.1).toNat) 0) wz rfl (ae (.ref n_5 (0+(r_15.1).toNat) 0) wz rfl (ae (.ref (au 0) 0 0) wz rfl (ae (.ref n_5 (0+(r_15.1).toNat) 0) wz rfl (ae (.ref n_5 (0+(r_15.1).toNat) 0) wz rfl (aJ gZ rfl 0 rfl wz ?_))))))))))
    obtain ⟨e_19,hy_20,h_13⟩:=bind_some h_13
    refine jD 0 1 il ft sz9 ag9 rfl rfl hy_20 (vS e_19.Player) rfl wz (fw (([e_19.Player,(⟨#[]⟩:ByteArray),(⟨#[112,97]⟩:ByteArray)]:List ByteArray).map eS) uz yo rfl rfl rfl rfl rfl wz ?_)
    obtain ⟨r_21,hr_22,h_13⟩:=bind_some h_13
    refine bn 0 [0] il ft (eT hr_22) rfl Cr rfl (by kernel_rfl) (by kernel_rfl) (by kernel_rfl) (by kernel_rfl) (by kernel_rfl) (by kernel_rfl) (by kernel_rfl) (by decide) (by kernel_rfl) wz (vS r_21.1) (by kernel_rfl) ([((au 0),some (.cells 2 [(vL eI r_21.2.L),(vI r_21.2.f_at)])),(n_5,gB 3 Beat.enc r_2.1)]:Hp) (by kernel_rfl) (ae (.ref (au 0) 0 0) wz rfl ?_)
    obtain ⟨r_24,hr_25,h_13⟩:=bind_some h_13
    refine bn 0 [0] il ft (iq hr_25) rfl GG rfl (by kernel_rfl) (by kernel_rfl) (by kernel_rfl) (by kernel_rfl) (by kernel_rfl) (by kernel_rfl) (by kernel_rfl) (by decide) (by kernel_rfl) wz (vI r_24.1) (by kernel_rfl) ([((au 0),some (.cells 2 [(vL eI r_24.2.L),(vI r_24.2.f_at)])),(n_5,gB 3 Beat.enc r_2.1)]:Hp) (by kernel_rfl) (ae (.ref (au 0) 0 0) wz rfl ?_)
    obtain ⟨r_27,hr_28,h_13⟩:=bind_some h_13
    refine bn 0 [0] il ft (iq hr_28) rfl GG rfl (by kernel_rfl) (by kernel_rfl) (by kernel_rfl) (by kernel_rfl) (by kernel_rfl) (by kernel_rfl) (by kernel_rfl) (by decide) (by kernel_rfl) wz (vI r_27.1) (by kernel_rfl) ([((au 0),some (.cells 2 [(vL eI r_27.2.L),(vI r_27.2.f_at)])),(n_5,gB 3 Beat.enc r_2.1)]:Hp) (by kernel_rfl) (ae (.ref n_5 (0+(r_15.1).toNat) 0) wz rfl (aJ gZ rfl 0 rfl wz ?_))
    obtain ⟨e_30,hy_31,h_13⟩:=bind_some h_13
    refine je 0 il ft 1 sz9 rfl rfl hy_31 (⟨r_21.1,e_30.At,e_30.Clock⟩:Beat) rfl wz (bM (v':=(gV n_5 3 (r_2.1.set (0+(r_15.1).toNat) (⟨r_21.1,e_30.At,e_30.Clock⟩:Beat)))) 3 rfl (bH (by simp)) (bM (v':=(gV n_5 3 (r_2.1.set (0+(r_15.1).toNat) (⟨r_21.1,e_30.At,e_30.Clock⟩:Beat)))) 14 rfl (bH (by simp)) (bM (v':=(gV n_5 3 (r_2.1.set (0+(r_15.1).toNat) (⟨r_21.1,e_30.At,e_30.Clock⟩:Beat)))) 16 rfl (bH (by simp)) (ae (.ref n_5 (0+(r_15.1).toNat) 0) wz rfl (aJ gY rfl 1 rfl wz ?_)))))
    obtain ⟨e_32,hy_33,h_13⟩:=bind_some h_13
    refine je 0 il ft 1 sz3 rfl rfl hy_33 (⟨e_32.Player,r_24.1,e_32.Clock⟩:Beat) rfl wz (bM (v':=(gV n_5 3 ((r_2.1.set (0+(r_15.1).toNat) (⟨r_21.1,e_30.At,e_30.Clock⟩:Beat)).set (0+(r_15.1).toNat) (⟨e_32.Player,r_24.1,e_32.Clock⟩:Beat)))) 3 rfl (bH (by simp)) (bM (v':=(gV n_5 3 ((r_2.1.set (0+(r_15.1).toNat) (⟨r_21.1,e_30.At,e_30.Clock⟩:Beat)).set (0+(r_15.1).toNat) (⟨e_32.Player,r_24.1,e_32.Clock⟩:Beat)))) 14 rfl (bH (by simp)) (bM (v':=(gV n_5 3 ((r_2.1.set (0+(r_15.1).toNat) (⟨r_21.1,e_30.At,e_30.Clock⟩:Beat)).set (0+(r_15.1).toNat) (⟨e_32.Player,r_24.1,e_32.Clock⟩:Beat)))) 16 rfl (bH (by simp)) (ae (.ref n_5 (0+(r_15.1).toNat) 0) wz rfl (aJ gm rfl 2 rfl wz ?_)))))
    obtain ⟨e_34,hy_35,h_13⟩:=bind_some h_13
    refine je 0 il ft 1 sz3 rfl rfl hy_35 (⟨e_34.Player,e_34.At,r_27.1⟩:Beat) rfl wz (bM (v':=(gV n_5 3 (((r_2.1.set (0+(r_15.1).toNat) (⟨r_21.1,e_30.At,e_30.Clock⟩:Beat)).set (0+(r_15.1).toNat) (⟨e_32.Player,r_24.1,e_32.Clock⟩:Beat)).set (0+(r_15.1).toNat) (⟨e_34.Player,e_34.At,r_27.1⟩:Beat)))) 3 rfl (bH (by simp)) (bM (v':=(gV n_5 3 (((r_2.1.set (0+(r_15.1).toNat) (⟨r_21.1,e_30.At,e_30.Clock⟩:Beat)).set (0+(r_15.1).toNat) (⟨e_32.Player,r_24.1,e_32.Clock⟩:Beat)).set (0+(r_15.1).toNat) (⟨e_34.Player,e_34.At,r_27.1⟩:Beat)))) 14 rfl (bH (by simp)) (bM (v':=(gV n_5 3 (((r_2.1.set (0+(r_15.1).toNat) (⟨r_21.1,e_30.At,e_30.Clock⟩:Beat)).set (0+(r_15.1).toNat) (⟨e_32.Player,r_24.1,e_32.Clock⟩:Beat)).set (0+(r_15.1).toNat) (⟨e_34.Player,e_34.At,r_27.1⟩:Beat)))) 16 rfl (bH (by simp)) (ai ?_))))
    obtain rfl:=ah h_13
    exact cu
   ·refine aA rfl hc_14 (av ?_)
    obtain rfl:=ah h_13
    exact cu
  ·rintro ⟨⟩ _ sl_ H_ hp_ hq_
   refine aQ _ hp_ hq_ (af (aa (ae (gV n_5 3 v_12.1) wz rfl (ae (gV n_5 3 v_12.1) wz rfl (ai (iR 1 rfl (dS 2 1 rfl rfl (dS 3 1 rfl rfl (dS 40 1 rfl rfl ?_)))))))))
   obtain rfl:=ah hF
   exact aB (tV (.inr rfl) [(vL Beat.enc v_12.1)] _ [0] [au 0] ⟨rfl,trivial⟩ (.cons (iL rfl rfl) (.nil)) (by kernel_rfl) ⟨(by kernel_rfl),trivial⟩ (by decide) (by kernel_rfl))
end Go.Proofs.YtdenjndllgahgaaGreatDoor.Law

