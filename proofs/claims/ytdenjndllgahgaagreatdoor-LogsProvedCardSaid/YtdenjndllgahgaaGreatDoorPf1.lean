/-
 The machine computes these plain functions (written by a program of ours).
-/
import Derived.Test.YtdenjndllgahgaaGreatDoorFacts
import Derived.Test.YtdenjndllgahgaaGreatDoorDefs
import Derived.Test.YtdenjndllgahgaaGreatDoorShelf
open Go Go.Eng Go.Proofs
namespace Go.Proofs.YtdenjndllgahgaaGreatDoor.Law
set_option maxRecDepth 100000
set_option linter.unusedVariables false
set_option maxHeartbeats 1000000
theorem oW {x_1:Int} {n_2:Int} {r:Int} (hF:lL x_1 n_2=some r) :
  FnM Tryz.prog 77 [(vI x_1),(vI n_2)] [] (vI r) []:=by
 refine FnM.of_wH ⟨Tryz.prog,16,[],[]⟩ rfl Tryz.func77 rfl rfl (lb_ rfl) (by kernel_rfl) ?_
 unfold lL at hF
 refine af (aa (ae (vI 0) wz rfl (ai (af (af (aa (ae (vI n_2) wz rfl (ae (vB (decide (n_2<1))) wz rfl (ai ?_)))))))))
 rcases aj hF with⟨hc_3,hF⟩|⟨hc_3,hF⟩
 ·refine ay rfl hc_3 (af (aa (ae (vI 0) wz rfl (ai ?_))))
  obtain rfl:=ah hF
  exact av (aQ (.inr rfl) [(vI 0)] ⟨rfl,trivial⟩ rfl rfl rfl)
 ·refine aA rfl hc_3 (ax (af (aa (ae (vI x_1) wz rfl (ae (vI n_2) wz rfl ?_)))))
  obtain ⟨q_4,hz_5,hF⟩:=bind_some hF
  refine h_rem rfl rfl hz_5 wz (ae (vI q_4) wz rfl (ai (af (af (aa (ae (vI q_4) wz rfl (ae (vB (decide (q_4<0))) wz rfl (ai ?_))))))))
  obtain ⟨v_6,h_7,hF⟩:=bind_some hF
  refine aD (β:=Unit) (λ_=>([(0,(vI v_6))]:SL_)) (λ_=>([]:Hp)) (λ_=>True) ?_ ?_
  ·rcases aj h_7 with⟨hc_8,h_7⟩|⟨hc_8,h_7⟩
   ·refine ay rfl hc_8 (aa (ae (vI q_4) wz rfl (ae (vI n_2) wz rfl (ae (vI (w64 (q_4+n_2))) wz rfl (ae (vI (w64 (q_4+n_2))) wz rfl (ai ?_))))))
    obtain rfl:=ah h_7
    exact cu
   ·refine aA rfl hc_8 (ax ?_)
    obtain rfl:=ah h_7
    exact cu
  ·rintro ⟨⟩ _ sl_ H_ hp_ hq_
   refine aL _ hp_ hq_ (af (aa (ae (vI v_6) wz rfl (ae (vI v_6) wz rfl (ai ?_)))))
   obtain rfl:=ah hF
   exact av (aQ (.inr rfl) [(vI v_6)] ⟨rfl,trivial⟩ rfl rfl rfl)
theorem dB {s_1:Stream} {n_2:Int} {r:Int×Stream} (hF:bD s_1 n_2=some r) :
  FnM Tryz.prog 30 [(.ref (aG 0) 0 0),(vI n_2)] [(.cells 2 [(vL eI s_1.L),(vI s_1.f_at)])] (vI r.1) [some (.cells 2 [(vL eI r.2.L),(vI r.2.f_at)])]:=by
 refine FnM.of_wH ⟨Tryz.prog,64,[],[]⟩ rfl Tryz.func30 rfl rfl (lb_ rfl) (by kernel_rfl) ?_
 unfold bD at hF
 refine af (aa (ae (vI 0) wz rfl (ai (af (aa (ae (.ref (aG 0) 0 0) wz rfl (ae (.ref (aG 0) 0 0) wz rfl (aN vK rfl 1 rfl wz (aK 0 0 il ft sz3 ag3 rfl rfl (vI s_1.f_at) rfl wz (ae (vI (w64 (s_1.f_at+1))) wz rfl (ae (.ref (aG 0) 0 0) wz rfl (aN vK rfl 1 rfl wz (ni 0 il ft 0 sz3 rfl rfl [(vL eI s_1.L),(vI (w64 (s_1.f_at+1)))] rfl wz (ai (af (af (aa (ae (.ref (aG 0) 0 0) wz rfl (ae (.ref (aG 0) 0 0) wz rfl (aN yR rfl 0 rfl wz (aK 0 0 il ft sz22 ag22 rfl rfl (vL eI s_1.L) rfl wz (bS CK rfl wz (ae (vB ((s_1.L.length:Int)==0)) wz rfl ?_)))))))))))))))))))))))
 refine ai ?_
 rcases aj hF with⟨hc_3,hF⟩|⟨hc_3,hF⟩
 ·refine ay rfl hc_3 (af (aa (ae (.ref (aG 0) 0 0) wz rfl (ae (.ref (aG 0) 0 0) wz rfl (aN vK rfl 1 rfl wz (aK 0 0 il ft sz3 ag3 rfl rfl (vI (w64 (s_1.f_at+1))) rfl wz (ae (vI (w64 ((w64 (s_1.f_at+1))*7919))) wz rfl (ae (vI n_2) wz rfl ?_))))))))
  obtain ⟨r_4,hr_5,hF⟩:=bind_some hF
  refine au (oW hr_5) rfl hb77 rfl rfl rfl rfl wz (ae (vI r_4) wz rfl (ai ?_))
  obtain rfl:=ah hF
  exact av (wZ (.inr rfl) [(vI r_4)] _ [0] [aG 0] ⟨rfl,trivial⟩ (.cons (iG rfl rfl) (.nil)) (by kernel_rfl) ⟨(by kernel_rfl),trivial⟩ (by decide) (by kernel_rfl))
 ·refine aA rfl hc_3 (ax (af (dw (ae (.ref (aG 0) 0 0) wz rfl (ae (.ref (aG 0) 0 0) wz rfl (aN vK rfl 1 rfl wz (aK 3 0 (.inr (by kernel_rfl)) (λ_ _ ag=>trivial) sz3 ag3 rfl rfl (vI (w64 (s_1.f_at+1))) rfl wz (ae (vI (w64 ((w64 (s_1.f_at+1))-1))) wz rfl (ae (.ref (aG 0) 0 0) wz rfl (ae (.ref (aG 0) 0 0) wz rfl (aN yR rfl 0 rfl wz (aK 8 0 (.inr (by kernel_rfl)) (λ_ _ ag=>⟨.inl ⟨rfl,rfl⟩,trivial⟩) sz22 ag22 rfl rfl (vL eI s_1.L) rfl wz (bS CK rfl wz ?_)))))))))))))
  obtain ⟨q_6,hz_7,hF⟩:=bind_some hF
  refine h_rem rfl rfl hz_7 wz (ae (vI q_6) wz rfl (ai (af (dw (ae (.ref (aG 0) 0 0) wz rfl (ae (.ref (aG 0) 0 0) wz rfl (aN vK rfl 1 rfl wz (aK 3 0 (.inr (by kernel_rfl)) (λ_ _ ag=>trivial) sz3 ag3 rfl rfl (vI (w64 (s_1.f_at+1))) rfl wz (ae (vI (w64 ((w64 (s_1.f_at+1))-1))) wz rfl (ae (.ref (aG 0) 0 0) wz rfl (ae (.ref (aG 0) 0 0) wz rfl (aN yR rfl 0 rfl wz (aK 8 0 (.inr (by kernel_rfl)) (λ_ _ ag=>⟨.inl ⟨rfl,rfl⟩,trivial⟩) sz22 ag22 rfl rfl (vL eI s_1.L) rfl wz (bS CK rfl wz ?_))))))))))))))
  obtain ⟨q_8,hz_9,hF⟩:=bind_some hF
  refine DJ rfl rfl hz_9 wz (ae (vI q_8) wz rfl (ai (aL (H0:=([((aG 0),some (.cells 2 [(vL eI s_1.L),(vI (w64 (s_1.f_at+1)))]))]:Hp)) ([(0,(.ref (aG 0) 0 0)),(1,(vI n_2)),(5,(vI q_6)),(6,(vI q_8))]:SL_) (by kernel_rfl) (yf (by kernel_rfl)) (af (aa (ae (.ref (aG 0) 0 0) wz rfl (ae (.ref (aG 0) 0 0) wz rfl (aN yR rfl 0 rfl wz (aK 0 0 il ft sz22 ag22 rfl rfl (vL eI s_1.L) rfl wz (ae (vI q_6) wz rfl ?_))))))))))
  obtain ⟨y_10,hy_11,hF⟩:=bind_some hF
  refine fB sZ rfl rfl hy_11 rfl wz (di sz3 ag3 rfl (vI y_10) rfl wz ?_)
  obtain ⟨r_12,hr_13,hF⟩:=bind_some hF
  refine au (oW hr_13) rfl hb77 rfl rfl rfl rfl wz (ae (vI q_8) wz rfl (ae (vI q_6) wz rfl (ae (vI (w64 (7919+q_6))) wz rfl (ae (vI (w64 (q_8*(w64 (7919+q_6))))) wz rfl (ae (vI (w64 (r_12+(w64 (q_8*(w64 (7919+q_6))))))) wz rfl (ae (vI n_2) wz rfl ?_))))))
  obtain ⟨r_14,hr_15,hF⟩:=bind_some hF
  refine au (oW hr_15) rfl hb77 rfl rfl rfl rfl wz (ae (vI r_14) wz rfl (ai ?_))
  obtain rfl:=ah hF
  exact av (wZ (.inr rfl) [(vI r_14)] _ [0] [aG 0] ⟨rfl,trivial⟩ (.cons (iG rfl rfl) (.nil)) (by kernel_rfl) ⟨(by kernel_rfl),trivial⟩ (by decide) (by kernel_rfl))
theorem dR {s_1:Stream} {l_2:(List Int)} {r:Int×Stream} (hF:bR s_1 l_2=some r) :
  FnM Tryz.prog 12 [(.ref (aG 0) 0 0),(vL eI l_2)] [(.cells 2 [(vL eI s_1.L),(vI s_1.f_at)])] (vI r.1) [some (.cells 2 [(vL eI r.2.L),(vI r.2.f_at)])]:=by
 refine FnM.of_wH ⟨Tryz.prog,12,[],[]⟩ rfl Tryz.func12 rfl rfl (lb_ rfl) (by kernel_rfl) ?_
 unfold bR at hF
 refine af (aa (ae (vI 0) wz rfl (ai (af (aa (ae (vL eI l_2) wz rfl (ae (.ref (aG 0) 0 0) wz rfl (ae (vL eI l_2) wz rfl (bS CK rfl wz ?_)))))))))
 obtain ⟨r_3,hr_4,hF⟩:=bind_some hF
 refine bf 0 [0] il ft (dB hr_4) rfl AY rfl (by kernel_rfl) (by kernel_rfl) (by kernel_rfl) (by kernel_rfl) (by kernel_rfl) (by kernel_rfl) (by kernel_rfl) (by decide) (by kernel_rfl) wz (vI r_3.1) (by kernel_rfl) ([((aG 0),some (.cells 2 [(vL eI r_3.2.L),(vI r_3.2.f_at)]))]:Hp) (by kernel_rfl) ?_
 obtain ⟨y_6,hy_7,hF⟩:=bind_some hF
 refine fB sZ rfl rfl hy_7 rfl wz (di sz3 ag3 rfl (vI y_6) rfl wz (ae (vI y_6) wz rfl (ai ?_)))
 obtain rfl:=ah hF
 exact av (wZ (.inr rfl) [(vI y_6)] _ [0] [aG 0] ⟨rfl,trivial⟩ (.cons (iG rfl rfl) (.nil)) (by kernel_rfl) ⟨(by kernel_rfl),trivial⟩ (by decide) (by kernel_rfl))
theorem lW {s_1:Stream} {low_2:Int} {high_3:Int} {r:Int×Stream} (hF:dU s_1 low_2 high_3=some r) :
  FnM Tryz.prog 109 [(.ref (aG 0) 0 0),(vI low_2),(vI high_3)] [(.cells 2 [(vL eI s_1.L),(vI s_1.f_at)])] (vI r.1) [some (.cells 2 [(vL eI r.2.L),(vI r.2.f_at)])]:=by
 refine FnM.of_wH ⟨Tryz.prog,19,[],[]⟩ rfl Tryz.func109 rfl rfl (lb_ rfl) (by kernel_rfl) ?_
 unfold dU at hF
 refine af (aa (ae (vI 0) wz rfl (ai (af (af (aa (ae (vI high_3) wz rfl (ae (vI low_2) wz rfl (ae (vB (decide (high_3<low_2))) wz rfl (ai ?_))))))))))
 rcases aj hF with⟨hc_4,hF⟩|⟨hc_4,hF⟩
 ·refine ay rfl hc_4 (af (aa (ae (vI low_2) wz rfl (ae (vI low_2) wz rfl (ai ?_)))))
  obtain rfl:=ah hF
  exact av (wZ (.inr rfl) [(vI low_2)] _ [0] [aG 0] ⟨rfl,trivial⟩ (.cons (iG rfl rfl) (.nil)) (by kernel_rfl) ⟨(by kernel_rfl),trivial⟩ (by decide) (by kernel_rfl))
 ·refine aA rfl hc_4 (ax (af (aa (ae (vI low_2) wz rfl (ae (.ref (aG 0) 0 0) wz rfl (ae (vI high_3) wz rfl (ae (vI low_2) wz rfl (ae (vI (w64 (high_3-low_2))) wz rfl (ae (vI (w64 ((w64 (high_3-low_2))+1))) wz rfl ?_)))))))))
  obtain ⟨r_5,hr_6,hF⟩:=bind_some hF
  refine bf 0 [0] il ft (dB hr_6) rfl AY rfl (by kernel_rfl) (by kernel_rfl) (by kernel_rfl) (by kernel_rfl) (by kernel_rfl) (by kernel_rfl) (by kernel_rfl) (by decide) (by kernel_rfl) wz (vI r_5.1) (by kernel_rfl) ([((aG 0),some (.cells 2 [(vL eI r_5.2.L),(vI r_5.2.f_at)]))]:Hp) (by kernel_rfl) (ae (vI (w64 (low_2+r_5.1))) wz rfl (ae (vI (w64 (low_2+r_5.1))) wz rfl (ai ?_)))
  obtain rfl:=ah hF
  exact av (wZ (.inr rfl) [(vI (w64 (low_2+r_5.1)))] _ [0] [aG 0] ⟨rfl,trivial⟩ (.cons (iG rfl rfl) (.nil)) (by kernel_rfl) ⟨(by kernel_rfl),trivial⟩ (by decide) (by kernel_rfl))
theorem dn {s_1:Stream} {l_2:(List ByteArray)} {r:ByteArray×Stream} (hF:bv s_1 l_2=some r) :
  FnM Tryz.prog 21 [(.ref (aG 0) 0 0),(vL eS l_2)] [(.cells 2 [(vL eI s_1.L),(vI s_1.f_at)])] (vS r.1) [some (.cells 2 [(vL eI r.2.L),(vI r.2.f_at)])]:=by
 refine FnM.of_wH ⟨Tryz.prog,12,[],[]⟩ rfl Tryz.func21 rfl rfl (lb_ rfl) (by kernel_rfl) ?_
 unfold bv at hF
 refine af (aa (ae (vS (⟨#[]⟩:ByteArray)) wz rfl (ai (af (aa (ae (vL eS l_2) wz rfl (ae (.ref (aG 0) 0 0) wz rfl (ae (vL eS l_2) wz rfl (bS kM rfl wz ?_)))))))))
 obtain ⟨r_3,hr_4,hF⟩:=bind_some hF
 refine bf 0 [0] il ft (dB hr_4) rfl AY rfl (by kernel_rfl) (by kernel_rfl) (by kernel_rfl) (by kernel_rfl) (by kernel_rfl) (by kernel_rfl) (by kernel_rfl) (by decide) (by kernel_rfl) wz (vI r_3.1) (by kernel_rfl) ([((aG 0),some (.cells 2 [(vL eI r_3.2.L),(vI r_3.2.f_at)]))]:Hp) (by kernel_rfl) ?_
 obtain ⟨y_6,hy_7,hF⟩:=bind_some hF
 refine fB gu rfl rfl hy_7 rfl wz (di sz9 ag9 rfl (vS y_6) rfl wz (ae (vS y_6) wz rfl (ai ?_)))
 obtain rfl:=ah hF
 exact av (wZ (.inr rfl) [(vS y_6)] _ [0] [aG 0] ⟨rfl,trivial⟩ (.cons (iG rfl rfl) (.nil)) (by kernel_rfl) ⟨(by kernel_rfl),trivial⟩ (by decide) (by kernel_rfl))
theorem iZ {x0:Int} {r:ByteArray} (hF:strconv_Itoa x0=some r) :
  FnM Tryz.prog 123 [(vI x0)] [] (vS r) [] :=
 itoa_ok Tryz.strconv_Itoa AX hF
theorem uo {x0:(List ByteArray)} {x1:ByteArray} {r:ByteArray} (hF:strings_Join x0 x1=some r) :
  FnM Tryz.prog 155 [(vL eS x0),(vS x1)] [] (vS r) [] :=
 join_ok rfl Tryz.strings_Join_none Tryz.strings_Join hF
theorem uP {l_1:(List Int)} {r:ByteArray} (hF:kG l_1=some r) :
  FnM Tryz.prog 121 [(vL eI l_1)] [] (vS r) []:=by
 refine FnM.of_wH ⟨Tryz.prog,20,[],[]⟩ rfl Tryz.func121 rfl rfl (lb_ rfl) (by kernel_rfl) ?_
 unfold kG at hF
 refine af (aa (ae (vS (⟨#[]⟩:ByteArray)) wz rfl (ai (af (aa (ae .nil wz rfl (ai (af (af (aa (ae (vL eI l_1) wz rfl (bS CK rfl wz (ae (vI 0) wz rfl (ai (mO (λn_8 => ?_))))))))))))))))
 obtain ⟨o_13,hj_14,hF⟩:=bind_some hF
 obtain ⟨hn_6,hj_14⟩:=dx hj_14
 refine aD (β:=((List ByteArray))×Nm) (λp=>(λ(s_7:List ByteArray) (n_10:Nm)=>([(3,(gV n_10 1 s_7))]:SL_)) p.1 p.2) (λp=>(λ(s_7:List ByteArray) (n_10:Nm)=>([(n_10,gB 1 eS s_7)]:Hp)) p.1 p.2) (λp=>o_13 = .go p.1) ?_ ?_
 ·refine aF (bI (β:=Nat×(List Int)×((List ByteArray))×Nm) (λp=>(λ(k_2:Nat) (l_3:List Int) (s_7:List ByteArray) (n_10:Nm)=>([(3,(gV n_10 1 s_7)),(6,(vL eI l_1)),(7,(vI (l_1.length:Int))),(8,(vI (k_2:Int)))]:SL_)) p.1 p.2.1 p.2.2.1 p.2.2.2) (λp=>(λ(k_2:Nat) (l_3:List Int) (s_7:List ByteArray) (n_10:Nm)=>([(n_10,gB 1 eS s_7)]:Hp)) p.1 p.2.1 p.2.2.1 p.2.2.2) (λp=>dW (λk x s=>fV k x s) p.2.1 p.1 p.2.2.1=some o_13/\(l_1).drop p.1=p.2.1) (λp=>p.2.1.length) (0,l_1,([]:List ByteArray),n_8) ⟨hj_14,rfl⟩ rfl (aI rfl) ?_)
  rintro ⟨k_2,l_3,s_7,n_10⟩ ⟨hL_12,hD_5⟩
  dsimp only at hL_12 hD_5
  cases l_3 with
  | nil =>
   obtain rfl:=ah hL_12
   refine af (aa (ae (vB (decide ((k_2:Int)<(l_1.length:Int)))) wz rfl (ai ?_)))
   refine af (aA rfl (drop_nil hD_5) (bA ?_))
   exact bg (s_7,n_10) rfl rfl (aI rfl)
  | cons x_4 l_3 =>
   obtain ⟨c_,hc_11,hL_12⟩:=bind_some hL_12
   refine af (aa (ae (vB (decide ((k_2:Int)<(l_1.length:Int)))) wz rfl (ai ?_)))
   refine af (ay rfl (eG hD_5) (ax ?_))
   unfold fV at hc_11
   refine af (aF (af (aa (fB sZ rfl rfl (fe hD_5) rfl wz (di sz3 ag3 rfl (vI x_4) rfl wz (ae (vI x_4) wz rfl (ai (aa (ae (gV n_10 1 s_7) wz rfl (ae (vI x_4) wz rfl ?_))))))))))
   obtain ⟨r_15,hr_16,hc_11⟩:=bind_some hc_11
   refine au (iZ hr_16) rfl Cj rfl rfl rfl rfl wz (dC (([r_15]:List ByteArray).map eS) gu mY rfl rfl rfl rfl rfl wz ?_)
   obtain ⟨a_17,hz_18,hc_11⟩:=bind_some hc_11
   refine ko 0 il ft (i:=0) l9 l9 sz9 z9 rfl (by decide) by9 (by decide) (λ_=>rfl) rfl rfl rfl hz_18 wz (λn_19=>ae (gV n_19 1 a_17) wz rfl (ai (aa (kF (fu hD_5 hn_6) wz rfl (ae (vI ((k_2+1:Nat):Int)) wz rfl (ai ?_))))))
   obtain rfl:=ah hc_11
   exact bB (k_2+1,l_3,a_17,n_19) ⟨hL_12,bT hD_5⟩ (ls_ _) rfl (aI rfl)
 ·rintro ⟨s_7,n_10⟩ ho_ sl_ H_ hp_ hq_
  subst ho_
  refine aL _ hp_ hq_ (af (iO 0 rfl (dQ 3 0 rfl rfl (aa (ae (vL eS s_7) wz rfl ?_)))))
  obtain ⟨r_20,hr_21,hF⟩:=bind_some hF
  refine au (uo hr_21) rfl hb155 rfl rfl rfl rfl wz (ae (vS r_20) wz rfl (ai ?_))
  obtain rfl:=ah hF
  exact av (aQ (.inr rfl) [(vS r_20)] ⟨rfl,trivial⟩ rfl rfl rfl)
theorem pq {l_1:Log_} {r:ByteArray} (hF:ji l_1=some r) :
  FnM Tryz.prog 86 [(.d (.agg (Log_.enc l_1)))] [] (vS r) []:=by
 refine FnM.of_wH ⟨Tryz.prog,19,[],[]⟩ rfl Tryz.func86 rfl rfl (lb_ rfl) (by kernel_rfl) ?_
 unfold ji at hF
 refine af (aa (kN 0 (.inl rfl) [(vS l_1.Player),(vS l_1.Item),(vI l_1.No),(vI l_1.Clock),(vI l_1.Long),(vS l_1.Sum)] rfl rfl wz (λn_2=>ae (vS (⟨#[]⟩:ByteArray)) wz rfl (ai (af (dw (aN kU rfl 0 rfl wz (aK 1 0 (.inr (by kernel_rfl)) (λ_ _ ag=>trivial) sz9 ag9 rfl rfl (vS l_1.Player) rfl wz ?_))))))))
 obtain ⟨s_3,hz_4,hF⟩:=bind_some hF
 refine fI rfl rfl hz_4 wz (aN sj rfl 1 rfl wz (aK 4 0 (.inr (by kernel_rfl)) (λ_ _ ag=>⟨.inl ⟨rfl,rfl⟩,trivial⟩) sz9 ag9 rfl rfl (vS l_1.Item) rfl wz ?_))
 obtain ⟨s_5,hz_6,hF⟩:=bind_some hF
 refine fI rfl rfl hz_6 wz ?_
 obtain ⟨s_7,hz_8,hF⟩:=bind_some hF
 refine fI rfl rfl hz_8 wz (aN nP rfl 2 rfl wz (aK 8 0 (.inr (by kernel_rfl)) (λ_ _ ag=>⟨.inl ⟨rfl,rfl⟩,⟨.inl ⟨rfl,rfl⟩,trivial⟩⟩) sz3 ag3 rfl rfl (vI l_1.No) rfl wz (aN wP rfl 3 rfl wz (aK 10 0 (.inr (by kernel_rfl)) (λ_ _ ag=>⟨.inl ⟨rfl,rfl⟩,⟨.inl ⟨rfl,rfl⟩,⟨.inl ⟨rfl,rfl⟩,trivial⟩⟩⟩) sz3 ag3 rfl rfl (vI l_1.Clock) rfl wz (aN ww rfl 4 rfl wz (aK 12 0 (.inr (by kernel_rfl)) (λ_ _ ag=>⟨.inl ⟨rfl,rfl⟩,⟨.inl ⟨rfl,rfl⟩,⟨.inl ⟨rfl,rfl⟩,⟨.inl ⟨rfl,rfl⟩,trivial⟩⟩⟩⟩) sz3 ag3 rfl rfl (vI l_1.Long) rfl wz (dC (([l_1.No,l_1.Clock,l_1.Long]:List Int).map eI) sZ y5 rfl rfl rfl rfl rfl wz ?_)))))))
 obtain ⟨r_9,hr_10,hF⟩:=bind_some hF
 refine au (uP hr_10) rfl hb121 rfl rfl rfl rfl wz ?_
 obtain ⟨s_11,hz_12,hF⟩:=bind_some hF
 refine fI rfl rfl hz_12 wz (ae (vS s_11) wz rfl (ai ?_))
 obtain rfl:=ah hF
 exact av (aQ (.inr rfl) [(vS s_11)] ⟨rfl,trivial⟩ rfl rfl rfl)
theorem gm {s_1:ByteArray} {r:ByteArray} (hF:fU s_1=some r) :
  FnM Tryz.prog 18 [(vS s_1)] [] (vS r) []:=by
 refine FnM.of_wH ⟨Tryz.prog,34,[],[]⟩ rfl Tryz.func18 rfl rfl (lb_ rfl) (by kernel_rfl) ?_
 unfold fU at hF
 refine af (aa (ae (vS (⟨#[]⟩:ByteArray)) wz rfl (ai (af (aa (ae (.d (.int .u64 14695981039346656037)) wz rfl (ai (af (af (aa (ae (vS s_1) wz rfl (h_convs un9 un92 un5 rfl wz (bS un92 rfl wz (ae (vI 0) wz rfl (ai ?_)))))))))))))))
 obtain ⟨o_10,hj_11,hF⟩:=bind_some hF
 obtain ⟨hn_6,hj_11⟩:=dx hj_11
 refine aD (β:=(Int)) (λ(s_7:Int)=>([(3,(.d (.int .u64 s_7)))]:SL_)) (λ(s_7:Int)=>([]:Hp)) (λp=>o_10 = .go p) ?_ ?_
 ·refine aF (bI (β:=Nat×(List Int)×(Int)) (λp=>(λ(k_2:Nat) (l_3:List Int) (s_7:Int)=>([(3,(.d (.int .u64 s_7))),(8,(vL (eK .u8) (bH s_1))),(9,(vI ((bH s_1).length:Int))),(10,(vI (k_2:Int)))]:SL_)) p.1 p.2.1 p.2.2) (λp=>(λ(k_2:Nat) (l_3:List Int) (s_7:Int)=>([]:Hp)) p.1 p.2.1 p.2.2) (λp=>dW (λk x s=>mE k x s) p.2.1 p.1 p.2.2=some o_10/\((bH s_1)).drop p.1=p.2.1) (λp=>p.2.1.length) (0,(bH s_1),14695981039346656037) ⟨hj_11,rfl⟩ rfl (aI rfl) ?_)
  rintro ⟨k_2,l_3,s_7⟩ ⟨hL_9,hD_5⟩
  dsimp only at hL_9 hD_5
  cases l_3 with
  | nil =>
   obtain rfl:=ah hL_9
   refine af (aa (ae (vB (decide ((k_2:Int)<((bH s_1).length:Int)))) wz rfl (ai ?_)))
   refine af (aA rfl (drop_nil hD_5) (bA ?_))
   exact bg (s_7) rfl rfl (aI rfl)
  | cons x_4 l_3 =>
   obtain ⟨c_,hc_8,hL_9⟩:=bind_some hL_9
   refine af (aa (ae (vB (decide ((k_2:Int)<((bH s_1).length:Int)))) wz rfl (ai ?_)))
   refine af (ay rfl (eG hD_5) (ax ?_))
   unfold mE at hc_8
   refine af (aF (af (aa (fB es92 rfl rfl (fe hD_5) rfl wz (di sz5 ag5 rfl (.d (.int .u8 x_4)) rfl wz (ae (.d (.int .u8 x_4)) wz rfl (ai (aa (ae (.d (.int .u64 s_7)) wz rfl (ae (.d (.int .u8 x_4)) wz rfl (oG un5 EH rfl wz (ae (.d (.int .u64 (iH .u64 s_7 (IntKind.u64.wrap x_4)))) wz rfl (ae (.d (.int .u64 (IntKind.u64.wrap ((iH .u64 s_7 (IntKind.u64.wrap x_4))*1099511628211)))) wz rfl (ae (.d (.int .u64 (IntKind.u64.wrap ((iH .u64 s_7 (IntKind.u64.wrap x_4))*1099511628211)))) wz rfl (ai (aa (kF (fu hD_5 hn_6) wz rfl (ae (vI ((k_2+1:Nat):Int)) wz rfl (ai ?_)))))))))))))))))))
   obtain rfl:=ah hc_8
   exact bB (k_2+1,l_3,(IntKind.u64.wrap ((iH .u64 s_7 (IntKind.u64.wrap x_4))*1099511628211))) ⟨hL_9,bT hD_5⟩ (ls_ _) rfl (aI rfl)
 ·rintro s_7 ho_ sl_ H_ hp_ hq_
  subst ho_
  refine aL _ hp_ hq_ (af (aa (ae (vS (⟨#[]⟩:ByteArray)) wz rfl (ai (af (af (aa (ae (vI 0) wz rfl (ai ?_)))))))))
  obtain ⟨o_20,hj_21,hF⟩:=bind_some hF
  obtain ⟨hn_16,hj_21⟩:=dx hj_21
  refine aD (β:=(Int×ByteArray)) (λ(s_17:Int×ByteArray)=>([(6,(vS s_17.2))]:SL_)) (λ(s_17:Int×ByteArray)=>([]:Hp)) (λp=>o_20 = .go p) ?_ ?_
  ·refine aF (bI (β:=Nat×(List Nat)×(Int×ByteArray)) (λp=>(λ(k_12:Nat) (l_13:List Nat) (s_17:Int×ByteArray)=>([(3,(.d (.int .u64 s_17.1))),(6,(vS s_17.2)),(20,(vI (k_12:Int)))]:SL_)) p.1 p.2.1 p.2.2) (λp=>(λ(k_12:Nat) (l_13:List Nat) (s_17:Int×ByteArray)=>([]:Hp)) p.1 p.2.1 p.2.2) (λp=>dW (λk x s=>jg k x s) p.2.1 p.1 p.2.2=some o_20/\((List.range (16:Int).toNat)).drop p.1=p.2.1) (λp=>p.2.1.length) (0,(List.range (16:Int).toNat),(s_7,(⟨#[]⟩:ByteArray))) ⟨hj_21,rfl⟩ rfl (aI rfl) ?_)
   rintro ⟨k_12,l_13,s_17⟩ ⟨hL_19,hD_15⟩
   dsimp only at hL_19 hD_15
   cases l_13 with
   | nil =>
    obtain rfl:=ah hL_19
    refine af (aa (ae (vB (decide ((k_12:Int)<16))) wz rfl (ai ?_)))
    refine af (aA rfl (pO hD_15) (bA ?_))
    exact bg (s_17) rfl rfl (aI rfl)
   | cons x_14 l_13 =>
    obtain ⟨c_,hc_18,hL_19⟩:=bind_some hL_19
    refine af (aa (ae (vB (decide ((k_12:Int)<16))) wz rfl (ai ?_)))
    refine af (ay rfl (nJ hD_15) (ax ?_))
    unfold jg at hc_18
    refine af (aF (af (aa (ae (.d (.int .u64 s_17.1)) wz rfl (ae (.d (.int .u64 (s_17.1.tmod 16))) wz rfl (ae (.d (.int .u64 s_17.1)) wz rfl (ae (.d (.int .u64 (s_17.1.tmod 16))) wz rfl (ae (.d (.int .u64 (IntKind.u64.wrap ((s_17.1.tmod 16)+1)))) wz rfl ?_))))))))
    obtain ⟨y_22,hy_23,hc_18⟩:=bind_some hc_18
    refine xg un9 rfl rfl rfl hy_23 wz (ae (vS s_17.2) wz rfl ?_)
    obtain ⟨s_24,hz_25,hc_18⟩:=bind_some hc_18
    refine fI rfl rfl hz_25 wz (ae (vS s_24) wz rfl (ai (aa (ae (.d (.int .u64 s_17.1)) wz rfl (ae (.d (.int .u64 (IntKind.u64.wrap (s_17.1.tdiv 16)))) wz rfl (ae (.d (.int .u64 (IntKind.u64.wrap (s_17.1.tdiv 16)))) wz rfl (ai (aa (kF (pI hD_15 hn_16) wz rfl (ae (vI ((k_12+1:Nat):Int)) wz rfl (ai ?_)))))))))))
    obtain rfl:=ah hc_18
    exact bB (k_12+1,l_13,((IntKind.u64.wrap (s_17.1.tdiv 16)),s_24)) ⟨hL_19,bT hD_15⟩ (ls_ _) rfl (aI rfl)
  ·rintro s_17 ho_ sl_ H_ hp_ hq_
   subst ho_
   refine aL _ hp_ hq_ (af (aa (ae (vS s_17.2) wz rfl (ae (vS s_17.2) wz rfl (ai ?_)))))
   obtain rfl:=ah hF
   exact av (aQ (.inr rfl) [(vS s_17.2)] ⟨rfl,trivial⟩ rfl rfl rfl)
theorem yJ {last_1:ByteArray} {l_2:Log_} {r:ByteArray} (hF:nz last_1 l_2=some r) :
  FnM Tryz.prog 42 [(vS last_1),(.d (.agg (Log_.enc l_2)))] [] (vS r) []:=by
 refine FnM.of_wH ⟨Tryz.prog,11,[],[]⟩ rfl Tryz.func42 rfl rfl (lb_ rfl) (by kernel_rfl) ?_
 unfold nz at hF
 refine af (aa (kN 0 (.inl rfl) [(vS l_2.Player),(vS l_2.Item),(vI l_2.No),(vI l_2.Clock),(vI l_2.Long),(vS l_2.Sum)] rfl rfl wz (λn_3=>ae (vS (⟨#[]⟩:ByteArray)) wz rfl (ai (af (aa (ae (vS last_1) wz rfl ?_)))))))
 obtain ⟨s_4,hz_5,hF⟩:=bind_some hF
 refine fI rfl rfl hz_5 wz (aK 0 0 il ft gP jK rfl rfl (.d (.agg (Log_.enc l_2))) rfl wz ?_)
 obtain ⟨r_6,hr_7,hF⟩:=bind_some hF
 refine au (pq hr_7) rfl hb86 rfl rfl rfl rfl wz ?_
 obtain ⟨s_8,hz_9,hF⟩:=bind_some hF
 refine fI rfl rfl hz_9 wz ?_
 obtain ⟨r_10,hr_11,hF⟩:=bind_some hF
 refine au (gm hr_11) rfl Au rfl rfl rfl rfl wz (ae (vS r_10) wz rfl (ai ?_))
 obtain rfl:=ah hF
 exact av (aQ (.inr rfl) [(vS r_10)] ⟨rfl,trivial⟩ rfl rfl rfl)
theorem dh {s_1:Stream} {n_2:Int} {r:Bool×Stream} (hF:bu s_1 n_2=some r) :
  FnM Tryz.prog 19 [(.ref (aG 0) 0 0),(vI n_2)] [(.cells 2 [(vL eI s_1.L),(vI s_1.f_at)])] (vB r.1) [some (.cells 2 [(vL eI r.2.L),(vI r.2.f_at)])]:=by
 refine FnM.of_wH ⟨Tryz.prog,9,[],[]⟩ rfl Tryz.func19 rfl rfl (lb_ rfl) (by kernel_rfl) ?_
 unfold bu at hF
 refine af (aa (ae (vB false) wz rfl (ai (af (aa (ae (.ref (aG 0) 0 0) wz rfl (ae (vI n_2) wz rfl ?_)))))))
 obtain ⟨r_3,hr_4,hF⟩:=bind_some hF
 refine bf 0 [0] il ft (dB hr_4) rfl AY rfl (by kernel_rfl) (by kernel_rfl) (by kernel_rfl) (by kernel_rfl) (by kernel_rfl) (by kernel_rfl) (by kernel_rfl) (by decide) (by kernel_rfl) wz (vI r_3.1) (by kernel_rfl) ([((aG 0),some (.cells 2 [(vL eI r_3.2.L),(vI r_3.2.f_at)]))]:Hp) (by kernel_rfl) (ae (vB (r_3.1==0)) wz rfl (ae (vB (r_3.1==0)) wz rfl (ai ?_)))
 obtain rfl:=ah hF
 exact av (wZ (.inr rfl) [(vB (r_3.1==0))] _ [0] [aG 0] ⟨rfl,trivial⟩ (.cons (iG rfl rfl) (.nil)) (by kernel_rfl) ⟨(by kernel_rfl),trivial⟩ (by decide) (by kernel_rfl))
theorem nG {s_1:Stream} {most_2:Int} {r:(List Log_)×Stream} (hF:dZ s_1 most_2=some r) :
  FnM Tryz.prog 57 [(.ref (aG 0) 0 0),(vI most_2)] [(.cells 2 [(vL eI s_1.L),(vI s_1.f_at)])] (gV (aG 1) 6 r.1) (([(.cells 2 [(vL eI r.2.L),(vI r.2.f_at)])]:List Box).map some++gO 6 Log_.enc r.1):=by
 refine FnM.of_wH ⟨Tryz.prog,59,[],[]⟩ rfl Tryz.func57 rfl rfl (lb_ rfl) (by kernel_rfl) ?_
 unfold dZ at hF
 refine af (aa (ae .nil wz rfl (ai (af (aa (ae .nil wz rfl (ai (af (af (aa (dC (([(⟨#[112,97]⟩:ByteArray),(⟨#[112,98]⟩:ByteArray)]:List ByteArray).map eS) gu mY rfl rfl rfl rfl rfl wz (bS kM rfl wz (ae (vI 0) wz rfl (ai (mO (λn_9 => ?_))))))))))))))))
 obtain ⟨o_14,hj_15,hF⟩:=bind_some hF
 obtain ⟨hn_7,hj_15⟩:=dx hj_15
 refine aD (β:=((List Log_)×(List Int)×Int)×Nm) (λp=>(λ(s_8:(List Log_)×(List Int)×Int) (n_11:Nm)=>([(5,(gV n_11 6 s_8.1))]:SL_)) p.1 p.2) (λp=>(λ(s_8:(List Log_)×(List Int)×Int) (n_11:Nm)=>([((aG 0),some (.cells 2 [(vL eI s_8.2.1),(vI s_8.2.2)])),(n_11,gB 6 Log_.enc s_8.1)]:Hp)) p.1 p.2) (λp=>o_14 = .go p.1) ?_ ?_
 ·refine aF (bI (β:=Nat×(List ByteArray)×((List Log_)×(List Int)×Int)×Nm) (λp=>(λ(k_3:Nat) (l_4:List ByteArray) (s_8:(List Log_)×(List Int)×Int) (n_11:Nm)=>([(0,(.ref (aG 0) 0 0)),(1,(vI most_2)),(5,(gV n_11 6 s_8.1)),(12,(vL eS ([(⟨#[112,97]⟩:ByteArray),(⟨#[112,98]⟩:ByteArray)]:List ByteArray))),(13,(vI (([(⟨#[112,97]⟩:ByteArray),(⟨#[112,98]⟩:ByteArray)]:List ByteArray).length:Int))),(14,(vI (k_3:Int)))]:SL_)) p.1 p.2.1 p.2.2.1 p.2.2.2) (λp=>(λ(k_3:Nat) (l_4:List ByteArray) (s_8:(List Log_)×(List Int)×Int) (n_11:Nm)=>([((aG 0),some (.cells 2 [(vL eI s_8.2.1),(vI s_8.2.2)])),(n_11,gB 6 Log_.enc s_8.1)]:Hp)) p.1 p.2.1 p.2.2.1 p.2.2.2) (λp=>dW (λk x s=>bU most_2 k x s) p.2.1 p.1 p.2.2.1=some o_14/\(([(⟨#[112,97]⟩:ByteArray),(⟨#[112,98]⟩:ByteArray)]:List ByteArray)).drop p.1=p.2.1) (λp=>p.2.1.length) (0,([(⟨#[112,97]⟩:ByteArray),(⟨#[112,98]⟩:ByteArray)]:List ByteArray),(([]:List Log_),s_1.L,s_1.f_at),n_9) ⟨hj_15,rfl⟩ rfl (aI rfl) ?_)
  rintro ⟨k_3,l_4,s_8,n_11⟩ ⟨hL_13,hD_6⟩
  dsimp only at hL_13 hD_6
  cases l_4 with
  | nil =>
   obtain rfl:=ah hL_13
   refine af (aa (ae (vB (decide ((k_3:Int)<(([(⟨#[112,97]⟩:ByteArray),(⟨#[112,98]⟩:ByteArray)]:List ByteArray).length:Int)))) wz rfl (ai ?_)))
   refine af (aA rfl (drop_nil hD_6) (bA ?_))
   exact bg (s_8,n_11) rfl rfl (aI rfl)
  | cons x_5 l_4 =>
   obtain ⟨c_,hc_12,hL_13⟩:=bind_some hL_13
   refine af (aa (ae (vB (decide ((k_3:Int)<(([(⟨#[112,97]⟩:ByteArray),(⟨#[112,98]⟩:ByteArray)]:List ByteArray).length:Int)))) wz rfl (ai ?_)))
   refine af (ay rfl (eG hD_6) (ax ?_))
   unfold bU at hc_12
   refine af (aF (af (aa (fB gu rfl rfl (fe hD_6) rfl wz (di sz9 ag9 rfl (vS x_5) rfl wz (ae (vS x_5) wz rfl (ai (af (aa (ae (.ref (aG 0) 0 0) wz rfl (dC (([0,50,1000]:List Int).map eI) sZ y5 rfl rfl rfl rfl rfl wz ?_)))))))))))
   obtain ⟨r_16,hr_17,hc_12⟩:=bind_some hc_12
   refine bf 0 [0] il ft (dR hr_17) rfl C9 rfl (by kernel_rfl) (by kernel_rfl) (by kernel_rfl) (by kernel_rfl) (by kernel_rfl) (by kernel_rfl) (by kernel_rfl) (by decide) (by kernel_rfl) wz (vI r_16.1) (by kernel_rfl) ([((aG 0),some (.cells 2 [(vL eI r_16.2.L),(vI r_16.2.f_at)])),(n_11,gB 6 Log_.enc s_8.1)]:Hp) (by kernel_rfl) (ae (vS (⟨#[]⟩:ByteArray)) wz rfl (ae (vI r_16.1) wz rfl (ai (af (aa (ae (.ref (aG 0) 0 0) wz rfl (ae (vI most_2) wz rfl ?_)))))))
   obtain ⟨r_19,hr_20,hc_12⟩:=bind_some hc_12
   refine bf 0 [0] il ft (lW hr_20) rfl hb109 rfl (by kernel_rfl) (by kernel_rfl) (by kernel_rfl) (by kernel_rfl) (by kernel_rfl) (by kernel_rfl) (by kernel_rfl) (by decide) (by kernel_rfl) wz (vI r_19.1) (by kernel_rfl) ([((aG 0),some (.cells 2 [(vL eI r_19.2.L),(vI r_19.2.f_at)])),(n_11,gB 6 Log_.enc s_8.1)]:Hp) (by kernel_rfl) (ae (vI 0) wz rfl (ai ?_))
   obtain ⟨o_32,hj_33,hc_12⟩:=bind_some hc_12
   obtain ⟨hn_26,hj_33⟩:=dx hj_33
   refine aD (β:=((List Log_)×ByteArray×Int×(List Int)×Int)×Nm) (λp=>(λ(s_27:(List Log_)×ByteArray×Int×(List Int)×Int) (n_29:Nm)=>([(0,(.ref (aG 0) 0 0)),(1,(vI most_2)),(5,(gV n_29 6 s_27.1)),(12,(vL eS ([(⟨#[112,97]⟩:ByteArray),(⟨#[112,98]⟩:ByteArray)]:List ByteArray))),(13,(vI (([(⟨#[112,97]⟩:ByteArray),(⟨#[112,98]⟩:ByteArray)]:List ByteArray).length:Int))),(14,(vI (k_3:Int)))]:SL_)) p.1 p.2) (λp=>(λ(s_27:(List Log_)×ByteArray×Int×(List Int)×Int) (n_29:Nm)=>([((aG 0),some (.cells 2 [(vL eI s_27.2.2.2.1),(vI s_27.2.2.2.2)])),(n_29,gB 6 Log_.enc s_27.1)]:Hp)) p.1 p.2) (λp=>o_32 = .go p.1) ?_ ?_
   ·refine aF (bI (β:=Nat×(List Nat)×((List Log_)×ByteArray×Int×(List Int)×Int)×Nm) (λp=>(λ(k_22:Nat) (l_23:List Nat) (s_27:(List Log_)×ByteArray×Int×(List Int)×Int) (n_29:Nm)=>([(0,(.ref (aG 0) 0 0)),(1,(vI most_2)),(5,(gV n_29 6 s_27.1)),(7,(vS x_5)),(8,(vS s_27.2.1)),(9,(vI s_27.2.2.1)),(12,(vL eS ([(⟨#[112,97]⟩:ByteArray),(⟨#[112,98]⟩:ByteArray)]:List ByteArray))),(13,(vI (([(⟨#[112,97]⟩:ByteArray),(⟨#[112,98]⟩:ByteArray)]:List ByteArray).length:Int))),(14,(vI (k_3:Int))),(23,(vI r_19.1)),(24,(vI (k_22:Int)))]:SL_)) p.1 p.2.1 p.2.2.1 p.2.2.2) (λp=>(λ(k_22:Nat) (l_23:List Nat) (s_27:(List Log_)×ByteArray×Int×(List Int)×Int) (n_29:Nm)=>([((aG 0),some (.cells 2 [(vL eI s_27.2.2.2.1),(vI s_27.2.2.2.2)])),(n_29,gB 6 Log_.enc s_27.1)]:Hp)) p.1 p.2.1 p.2.2.1 p.2.2.2) (λp=>dW (λk x s=>dE x_5 k x s) p.2.1 p.1 p.2.2.1=some o_32/\((List.range (r_19.1).toNat)).drop p.1=p.2.1) (λp=>p.2.1.length) (0,(List.range (r_19.1).toNat),(s_8.1,(⟨#[]⟩:ByteArray),r_16.1,r_19.2.L,r_19.2.f_at),n_11) ⟨hj_33,rfl⟩ rfl (aI rfl) ?_)
    rintro ⟨k_22,l_23,s_27,n_29⟩ ⟨hL_31,hD_25⟩
    dsimp only at hL_31 hD_25
    cases l_23 with
    | nil =>
     obtain rfl:=ah hL_31
     refine af (aa (ae (vB (decide ((k_22:Int)<r_19.1))) wz rfl (ai ?_)))
     refine af (aA rfl (pO hD_25) (bA ?_))
     exact bg (s_27,n_29) rfl rfl (aI rfl)
    | cons x_24 l_23 =>
     obtain ⟨c_,hc_30,hL_31⟩:=bind_some hL_31
     refine af (aa (ae (vB (decide ((k_22:Int)<r_19.1))) wz rfl (ai ?_)))
     refine af (ay rfl (nJ hD_25) (ax ?_))
     unfold dE at hc_30
     refine af (aF (af (aa (ae (vI (k_22:Int)) wz rfl (ae (vI (k_22:Int)) wz rfl (ai (af (aa (ae (vS x_5) wz rfl (ae (.ref (aG 0) 0 0) wz rfl (dC (([(⟨#[105,97]⟩:ByteArray),(⟨#[105,98]⟩:ByteArray)]:List ByteArray).map eS) gu mY rfl rfl rfl rfl rfl wz ?_)))))))))))
     obtain ⟨r_34,hr_35,hc_30⟩:=bind_some hc_30
     refine bf 0 [0] il ft (dn hr_35) rfl Ak rfl (by kernel_rfl) (by kernel_rfl) (by kernel_rfl) (by kernel_rfl) (by kernel_rfl) (by kernel_rfl) (by kernel_rfl) (by decide) (by kernel_rfl) wz (vS r_34.1) (by kernel_rfl) ([((aG 0),some (.cells 2 [(vL eI r_34.2.L),(vI r_34.2.f_at)])),(n_29,gB 6 Log_.enc s_27.1)]:Hp) (by kernel_rfl) (ae (vI (k_22:Int)) wz rfl (ae (vI (w64 ((k_22:Int)+1))) wz rfl (ae (vI s_27.2.2.1) wz rfl (ae (.ref (aG 0) 0 0) wz rfl (dC (([1,10,30,100]:List Int).map eI) sZ y5 rfl rfl rfl rfl rfl wz ?_)))))
     obtain ⟨r_37,hr_38,hc_30⟩:=bind_some hc_30
     refine bf 0 [0] il ft (dR hr_38) rfl C9 rfl (by kernel_rfl) (by kernel_rfl) (by kernel_rfl) (by kernel_rfl) (by kernel_rfl) (by kernel_rfl) (by kernel_rfl) (by decide) (by kernel_rfl) wz (vI r_37.1) (by kernel_rfl) ([((aG 0),some (.cells 2 [(vL eI r_37.2.L),(vI r_37.2.f_at)])),(n_29,gB 6 Log_.enc s_27.1)]:Hp) (by kernel_rfl) (ae (.d (.agg (Log_.enc (⟨x_5,r_34.1,(w64 ((k_22:Int)+1)),s_27.2.2.1,r_37.1,(⟨#[]⟩:ByteArray)⟩:Log_)))) wz (by kernel_rfl) (kC 0 (.inl rfl) z43 rfl wz (λn_40=>ni 0 il ft 2 gP rfl rfl [(vS x_5),(vS r_34.1),(vI (w64 ((k_22:Int)+1))),(vI s_27.2.2.1),(vI r_37.1),(vS (⟨#[]⟩:ByteArray))] rfl wz (ai (af (aa (ae (vS s_27.2.1) wz rfl (aK 0 2 il ft gP jK rfl rfl (.d (.agg (Log_.enc (⟨x_5,r_34.1,(w64 ((k_22:Int)+1)),s_27.2.2.1,r_37.1,(⟨#[]⟩:ByteArray)⟩:Log_)))) rfl wz ?_))))))))
     obtain ⟨r_41,hr_42,hc_30⟩:=bind_some hc_30
     refine au (yJ hr_42) rfl hb42 rfl rfl rfl rfl wz (aN jH rfl 5 rfl wz (ni 0 il ft 2 sz9 rfl rfl [(vS x_5),(vS r_34.1),(vI (w64 ((k_22:Int)+1))),(vI s_27.2.2.1),(vI r_37.1),(vS r_41)] rfl wz (ai (af (aa (aN jH rfl 5 rfl wz (aK 0 2 il ft sz9 ag9 rfl rfl (vS r_41) rfl wz (ae (vS r_41) wz rfl (ai (af (aa (ae (vI s_27.2.2.1) wz rfl (ae (.ref (aG 0) 0 0) wz rfl (dC (([0,5,10,50,100]:List Int).map eI) sZ y5 rfl rfl rfl rfl rfl wz ?_))))))))))))))
     obtain ⟨r_43,hr_44,hc_30⟩:=bind_some hc_30
     refine bf 0 [0] il ft (dR hr_44) rfl C9 rfl (by kernel_rfl) (by kernel_rfl) (by kernel_rfl) (by kernel_rfl) (by kernel_rfl) (by kernel_rfl) (by kernel_rfl) (by decide) (by kernel_rfl) wz (vI r_43.1) (by kernel_rfl) ([((aG 0),some (.cells 2 [(vL eI r_43.2.L),(vI r_43.2.f_at)])),(n_29,gB 6 Log_.enc s_27.1),(n_40,some (.cells 6 [(vS x_5),(vS r_34.1),(vI (w64 ((k_22:Int)+1))),(vI s_27.2.2.1),(vI r_37.1),(vS r_41)]))]:Hp) (by kernel_rfl) (ae (vI (w64 (s_27.2.2.1+r_43.1))) wz rfl (ae (vI (w64 (s_27.2.2.1+r_43.1))) wz rfl (ai (af (aa (ae (.ref (aG 0) 0 0) wz rfl ?_))))))
     obtain ⟨r_46,hr_47,hc_30⟩:=bind_some hc_30
     refine bf 0 [0] il ft (dh hr_47) rfl zZ rfl (by kernel_rfl) (by kernel_rfl) (by kernel_rfl) (by kernel_rfl) (by kernel_rfl) (by kernel_rfl) (by kernel_rfl) (by decide) (by kernel_rfl) wz (vB r_46.1) (by kernel_rfl) ([((aG 0),some (.cells 2 [(vL eI r_46.2.L),(vI r_46.2.f_at)])),(n_29,gB 6 Log_.enc s_27.1),(n_40,some (.cells 6 [(vS x_5),(vS r_34.1),(vI (w64 ((k_22:Int)+1))),(vI s_27.2.2.1),(vI r_37.1),(vS r_41)]))]:Hp) (by kernel_rfl) (ae (vB (!r_46.1)) wz rfl (ai (aL (H0:=([((aG 0),some (.cells 2 [(vL eI r_46.2.L),(vI r_46.2.f_at)])),(n_29,gB 6 Log_.enc s_27.1),(n_40,some (.cells 6 [(vS x_5),(vS r_34.1),(vI (w64 ((k_22:Int)+1))),(vI s_27.2.2.1),(vI r_37.1),(vS r_41)]))]:Hp)) ([(0,(.ref (aG 0) 0 0)),(1,(vI most_2)),(5,(gV n_29 6 s_27.1)),(7,(vS x_5)),(8,(vS r_41)),(9,(vI (w64 (s_27.2.2.1+r_43.1)))),(11,(.ref n_40 0 0)),(12,(vL eS ([(⟨#[112,97]⟩:ByteArray),(⟨#[112,98]⟩:ByteArray)]:List ByteArray))),(13,(vI (([(⟨#[112,97]⟩:ByteArray),(⟨#[112,98]⟩:ByteArray)]:List ByteArray).length:Int))),(14,(vI (k_3:Int))),(23,(vI r_19.1)),(24,(vI (k_22:Int))),(51,(vB (!r_46.1)))]:SL_) (by kernel_rfl) (yf (by kernel_rfl)) ?_)))
     obtain ⟨v_49,h_50,hc_30⟩:=bind_some hc_30
     refine aD (β:=Nm) (λ(n_51:Nm)=>([(0,(.ref (aG 0) 0 0)),(1,(vI most_2)),(5,(gV n_51 6 v_49)),(7,(vS x_5)),(8,(vS r_41)),(9,(vI (w64 (s_27.2.2.1+r_43.1)))),(12,(vL eS ([(⟨#[112,97]⟩:ByteArray),(⟨#[112,98]⟩:ByteArray)]:List ByteArray))),(13,(vI (([(⟨#[112,97]⟩:ByteArray),(⟨#[112,98]⟩:ByteArray)]:List ByteArray).length:Int))),(14,(vI (k_3:Int))),(23,(vI r_19.1)),(24,(vI (k_22:Int)))]:SL_)) (λ(n_51:Nm)=>([((aG 0),some (.cells 2 [(vL eI r_46.2.L),(vI r_46.2.f_at)])),(n_51,gB 6 Log_.enc v_49),(n_40,some (.cells 6 [(vS x_5),(vS r_34.1),(vI (w64 ((k_22:Int)+1))),(vI s_27.2.2.1),(vI r_37.1),(vS r_41)]))]:Hp)) (λ_=>True) ?_ ?_
     ·rcases aj h_50 with⟨hc_52,h_50⟩|⟨hc_52,h_50⟩
      ·refine ay rfl hc_52 (aa (ae (gV n_29 6 s_27.1) wz rfl (aK 0 2 il ft gP jK rfl rfl (.d (.agg (Log_.enc (⟨x_5,r_34.1,(w64 ((k_22:Int)+1)),s_27.2.2.1,r_37.1,r_41⟩:Log_)))) rfl wz (dC (([(⟨x_5,r_34.1,(w64 ((k_22:Int)+1)),s_27.2.2.1,r_37.1,r_41⟩:Log_)]:List Log_).map Log_.enc) xe ez26 rfl rfl rfl rfl rfl wz ?_))))
       obtain ⟨a_53,hz_54,h_50⟩:=bind_some h_50
       refine ko 0 il ft (i:=1) el26 el26 gP z43 rfl (by decide) by43 (by decide) (λ_=>rfl) rfl rfl rfl hz_54 wz (λn_55=>ae (gV n_55 6 a_53) wz rfl (ai ?_))
       obtain rfl:=ah h_50
       exact bg n_55 trivial rfl (aI rfl)
      ·refine aA rfl hc_52 (ax ?_)
       obtain rfl:=ah h_50
       exact bg n_29 trivial rfl (aI rfl)
     ·rintro n_51 _ sl_ H_ hp_ hq_
      refine aL _ hp_ hq_ (aa (kF (pI hD_25 hn_26) wz rfl (ae (vI ((k_22+1:Nat):Int)) wz rfl (ai ?_))))
      obtain rfl:=ah hc_30
      exact bB (k_22+1,l_23,(v_49,r_41,(w64 (s_27.2.2.1+r_43.1)),r_46.2.L,r_46.2.f_at),n_51) ⟨hL_31,bT hD_25⟩ (ls_ _) rfl (aI rfl)
   ·rintro ⟨s_27,n_29⟩ ho_ sl_ H_ hp_ hq_
    subst ho_
    refine aL _ hp_ hq_ (aa (kF (fu hD_6 hn_7) wz rfl (ae (vI ((k_3+1:Nat):Int)) wz rfl (ai ?_))))
    obtain rfl:=ah hc_12
    exact bB (k_3+1,l_4,(s_27.1,s_27.2.2.2.1,s_27.2.2.2.2),n_29) ⟨hL_13,bT hD_6⟩ (ls_ _) rfl (aI rfl)
 ·rintro ⟨s_8,n_11⟩ ho_ sl_ H_ hp_ hq_
  subst ho_
  refine aL _ hp_ hq_ (af (aa (ae (gV n_11 6 s_8.1) wz rfl (ae (gV n_11 6 s_8.1) wz rfl (ai ?_)))))
  obtain rfl:=ah hF
  exact av (finG (outs:=([(.cells 2 [(vL eI s_8.2.1),(vI s_8.2.2)])]:List Box)) (.inr rfl) 1 rfl rfl rfl (by kernel_rfl) (by kernel_rfl))
theorem jY {s_1:Stream} {low_2:Int} {high_3:Int} {r:Int×Stream} (hF:fD s_1 low_2 high_3=some r) :
  FnM Tryz.prog 58 [(.ref (aG 0) 0 0),(vI low_2),(vI high_3)] [(.cells 2 [(vL eI s_1.L),(vI s_1.f_at)])] (vI r.1) [some (.cells 2 [(vL eI r.2.L),(vI r.2.f_at)])]:=by
 refine FnM.of_wH ⟨Tryz.prog,22,[],[]⟩ rfl Tryz.func58 rfl rfl (lb_ rfl) (by kernel_rfl) ?_
 unfold fD at hF
 refine af (aa (ae (vI 0) wz rfl (ai (af (af (aa (ae (.ref (aG 0) 0 0) wz rfl ?_)))))))
 obtain ⟨r_4,hr_5,hF⟩:=bind_some hF
 refine bf 0 [0] il ft (dh hr_5) rfl zZ rfl (by kernel_rfl) (by kernel_rfl) (by kernel_rfl) (by kernel_rfl) (by kernel_rfl) (by kernel_rfl) (by kernel_rfl) (by decide) (by kernel_rfl) wz (vB r_4.1) (by kernel_rfl) ([((aG 0),some (.cells 2 [(vL eI r_4.2.L),(vI r_4.2.f_at)]))]:Hp) (by kernel_rfl) (ai ?_)
 rcases aj hF with⟨hc_7,hF⟩|⟨hc_7,hF⟩
 ·refine ay rfl hc_7 (af (aa (ae (.ref (aG 0) 0 0) wz rfl (ae (vI low_2) wz rfl (ae (vI (w64 (low_2-1))) wz rfl (ae (vI high_3) wz rfl (ae (vI (w64 (high_3+1))) wz rfl (ae (vI low_2) wz rfl (ae (vI high_3) wz rfl (dC (([(w64 (low_2-1)),(w64 (high_3+1)),low_2,high_3,(-1099511627776),1099511627776]:List Int).map eI) sZ y5 rfl rfl rfl rfl rfl wz ?_))))))))))
  obtain ⟨r_8,hr_9,hF⟩:=bind_some hF
  refine bf 0 [0] il ft (dR hr_9) rfl C9 rfl (by kernel_rfl) (by kernel_rfl) (by kernel_rfl) (by kernel_rfl) (by kernel_rfl) (by kernel_rfl) (by kernel_rfl) (by decide) (by kernel_rfl) wz (vI r_8.1) (by kernel_rfl) ([((aG 0),some (.cells 2 [(vL eI r_8.2.L),(vI r_8.2.f_at)]))]:Hp) (by kernel_rfl) (ae (vI r_8.1) wz rfl (ai ?_))
  obtain rfl:=ah hF
  exact av (wZ (.inr rfl) [(vI r_8.1)] _ [0] [aG 0] ⟨rfl,trivial⟩ (.cons (iG rfl rfl) (.nil)) (by kernel_rfl) ⟨(by kernel_rfl),trivial⟩ (by decide) (by kernel_rfl))
 ·refine aA rfl hc_7 (ax (af (aa (ae (.ref (aG 0) 0 0) wz rfl (ae (vI low_2) wz rfl (ae (vI high_3) wz rfl ?_))))))
  obtain ⟨r_11,hr_12,hF⟩:=bind_some hF
  refine bf 0 [0] il ft (lW hr_12) rfl hb109 rfl (by kernel_rfl) (by kernel_rfl) (by kernel_rfl) (by kernel_rfl) (by kernel_rfl) (by kernel_rfl) (by kernel_rfl) (by decide) (by kernel_rfl) wz (vI r_11.1) (by kernel_rfl) ([((aG 0),some (.cells 2 [(vL eI r_11.2.L),(vI r_11.2.f_at)]))]:Hp) (by kernel_rfl) (ae (vI r_11.1) wz rfl (ai ?_))
  obtain rfl:=ah hF
  exact av (wZ (.inr rfl) [(vI r_11.1)] _ [0] [aG 0] ⟨rfl,trivial⟩ (.cons (iG rfl rfl) (.nil)) (by kernel_rfl) ⟨(by kernel_rfl),trivial⟩ (by decide) (by kernel_rfl))
theorem rD {s_1:Stream} {most_2:Int} {r:(List Log_)×Stream} (hF:gX s_1 most_2=some r) :
  FnM Tryz.prog 8 [(.ref (aG 0) 0 0),(vI most_2)] [(.cells 2 [(vL eI s_1.L),(vI s_1.f_at)])] (vL Log_.enc r.1) [some (.cells 2 [(vL eI r.2.L),(vI r.2.f_at)])]:=by
 refine FnM.of_wH ⟨Tryz.prog,100,[],[]⟩ rfl Tryz.func8 rfl rfl (lb_ rfl) (by kernel_rfl) ?_
 unfold gX at hF
 refine af (aa (ae .nil wz rfl (ai (af (aa (ae (.ref (aG 0) 0 0) wz rfl (ae (vI most_2) wz rfl ?_)))))))
 obtain ⟨r_3,hr_4,hF⟩:=bind_some hF
 refine Ci [0] (nG hr_4) rfl hb57 rfl (by kernel_rfl) (by kernel_rfl) (by kernel_rfl) (by kernel_rfl) (by kernel_rfl) rfl (by decide) (by kernel_rfl) wz ([((aG 0),some (.cells 2 [(vL eI r_3.2.L),(vI r_3.2.f_at)]))]:Hp) (λ_=>by kernel_rfl) (λn_6=>ae (gV n_6 6 r_3.1) wz rfl (ai (af (af ?_))))
 obtain ⟨v_7,h_8,hF⟩:=bind_some hF
 refine aD (β:=Unit) (λ_=>([(0,(.ref (aG 0) 0 0)),(5,(gV n_6 6 r_3.1)),(17,(vB v_7.1))]:SL_)) (λ_=>([((aG 0),some (.cells 2 [(vL eI v_7.2.1),(vI v_7.2.2)])),(n_6,gB 6 Log_.enc r_3.1)]:Hp)) (λ_=>True) ?_ ?_
 ·refine aa (ae (gV n_6 6 r_3.1) wz rfl (yB rR rfl wz (ae (vB (decide ((r_3.1.length:Int)>0))) wz rfl ?_)))
  rcases aj h_8 with⟨hc_9,h_8⟩|⟨hc_9,h_8⟩
  ·refine aC rfl hc_9 wz (ae (.ref (aG 0) 0 0) wa rfl ?_)
   obtain ⟨r_10,hr_11,h_8⟩:=bind_some h_8
   refine bf 0 [0] il ft (dh hr_11) rfl zZ rfl (by kernel_rfl) (by kernel_rfl) (by kernel_rfl) (by kernel_rfl) (by kernel_rfl) (by kernel_rfl) (by kernel_rfl) (by decide) (by kernel_rfl) wa (vB r_10.1) (by kernel_rfl) ([((aG 0),some (.cells 2 [(vL eI r_10.2.L),(vI r_10.2.f_at)])),(n_6,gB 6 Log_.enc r_3.1)]:Hp) (by kernel_rfl) (ae (vB r_10.1) wz rfl (ai ?_))
   obtain rfl:=ah h_8
   exact cu
  ·refine aC rfl hc_9 wz (ak wa (ak wa (ae (vB false) wz rfl (ai ?_))))
   obtain rfl:=ah h_8
   exact cu
 ·rintro ⟨⟩ _ sl_ H_ hp_ hq_
  refine aL _ hp_ hq_ ?_
  obtain ⟨v_13,h_14,hF⟩:=bind_some hF
  refine aD (β:=Unit) (λ_=>([(0,(.ref (aG 0) 0 0)),(5,(gV n_6 6 v_13.1))]:SL_)) (λ_=>([((aG 0),some (.cells 2 [(vL eI v_13.2.1),(vI v_13.2.2)])),(n_6,gB 6 Log_.enc v_13.1)]:Hp)) (λ_=>True) ?_ ?_
  ·rcases aj h_14 with⟨hc_15,h_14⟩|⟨hc_15,h_14⟩
   ·refine ay rfl hc_15 (af (aa (ae (gV n_6 6 r_3.1) wz rfl (ae (.ref (aG 0) 0 0) wz rfl (ae (gV n_6 6 r_3.1) wz rfl (yB rR rfl wz ?_))))))
    obtain ⟨r_16,hr_17,h_14⟩:=bind_some h_14
    refine bf 0 [0] il ft (dB hr_17) rfl AY rfl (by kernel_rfl) (by kernel_rfl) (by kernel_rfl) (by kernel_rfl) (by kernel_rfl) (by kernel_rfl) (by kernel_rfl) (by decide) (by kernel_rfl) wz (vI r_16.1) (by kernel_rfl) ([((aG 0),some (.cells 2 [(vL eI r_16.2.L),(vI r_16.2.f_at)])),(n_6,gB 6 Log_.enc r_3.1)]:Hp) (by kernel_rfl) ?_
    obtain ⟨_,hi_19,h_14⟩:=bind_some h_14
    refine EU xe rfl rfl (inR_0 hi_19) (EJ hi_19) wz (ae (.ref n_6 (0+(r_16.1).toNat) 0) wz rfl (ai (dw (ae (.ref n_6 (0+(r_16.1).toNat) 0) wz rfl (ae (.ref n_6 (0+(r_16.1).toNat) 0) wz rfl (ae (.ref (aG 0) 0 0) wz rfl (dC (([(⟨#[105,97]⟩:ByteArray),(⟨#[105,99]⟩:ByteArray)]:List ByteArray).map eS) gu mY rfl rfl rfl rfl rfl wz ?_)))))))
    obtain ⟨r_20,hr_21,h_14⟩:=bind_some h_14
    refine bf 4 [0] (.inr (by kernel_rfl)) (λ_ _ ag=>by exact trivial) (dn hr_21) rfl Ak rfl (by kernel_rfl) (by kernel_rfl) (by kernel_rfl) (by kernel_rfl) (by kernel_rfl) (by kernel_rfl) (by kernel_rfl) (by decide) (by kernel_rfl) wz (vS r_20.1) (by kernel_rfl) ([((aG 0),some (.cells 2 [(vL eI r_20.2.L),(vI r_20.2.f_at)])),(n_6,gB 6 Log_.enc r_3.1)]:Hp) (by kernel_rfl) (ae (.ref (aG 0) 0 0) wz rfl (ae (.ref n_6 (0+(r_16.1).toNat) 0) wz rfl (ae (.ref n_6 (0+(r_16.1).toNat) 0) wz rfl (aN jH rfl 5 rfl wz ?_))))
    obtain ⟨e_23,hy_24,h_14⟩:=bind_some h_14
    refine Eh 9 1 (.inr (by kernel_rfl)) (λ_ _ ag=>⟨.inr (.inl (dis1 (ag_ne ag (i:=1) (j:=0) rfl rfl (by decide)))),trivial⟩) sz9 ag9 rfl rfl hy_24 (vS e_23.Sum) rfl wz ?_
    obtain ⟨r_25,hr_26,h_14⟩:=bind_some h_14
    refine au (gm hr_26) rfl Au rfl rfl rfl rfl wz (dC (([e_23.Sum,r_25]:List ByteArray).map eS) gu mY rfl rfl rfl rfl rfl wz ?_)
    obtain ⟨r_27,hr_28,h_14⟩:=bind_some h_14
    refine bf 12 [0] (.inr (by kernel_rfl)) (λ_ _ ag=>by exact⟨.inr (.inr (by kernel_rfl)),⟨.inr (.inr (by kernel_rfl)),trivial⟩⟩) (dn hr_28) rfl Ak rfl (by kernel_rfl) (by kernel_rfl) (by kernel_rfl) (by kernel_rfl) (by kernel_rfl) (by kernel_rfl) (by kernel_rfl) (by decide) (by kernel_rfl) wz (vS r_27.1) (by kernel_rfl) ([((aG 0),some (.cells 2 [(vL eI r_27.2.L),(vI r_27.2.f_at)])),(n_6,gB 6 Log_.enc r_3.1)]:Hp) (by kernel_rfl) (ae (.ref n_6 (0+(r_16.1).toNat) 0) wz rfl (aN sj rfl 1 rfl wz ?_))
    obtain ⟨e_30,hy_31,h_14⟩:=bind_some h_14
    refine oM 15 (.inr (by kernel_rfl)) (λ_ _ ag=>⟨.inr (.inr (by kernel_rfl)),⟨.inr (.inr (by kernel_rfl)),⟨.inr (.inr (by kernel_rfl)),trivial⟩⟩⟩) 1 sz9 rfl rfl hy_31 (⟨e_30.Player,r_20.1,e_30.No,e_30.Clock,e_30.Long,e_30.Sum⟩:Log_) rfl wz (ll (v':=(gV n_6 6 (r_3.1.set (0+(r_16.1).toNat) (⟨e_30.Player,r_20.1,e_30.No,e_30.Clock,e_30.Long,e_30.Sum⟩:Log_)))) 5 rfl (ed (by simp)) (ll (v':=(gV n_6 6 (r_3.1.set (0+(r_16.1).toNat) (⟨e_30.Player,r_20.1,e_30.No,e_30.Clock,e_30.Long,e_30.Sum⟩:Log_)))) 18 rfl (ed (by simp)) (ll (v':=(gV n_6 6 (r_3.1.set (0+(r_16.1).toNat) (⟨e_30.Player,r_20.1,e_30.No,e_30.Clock,e_30.Long,e_30.Sum⟩:Log_)))) 20 rfl (ed (by simp)) (ae (.ref n_6 (0+(r_16.1).toNat) 0) wz rfl (aN jH rfl 5 rfl wz ?_)))))
    obtain ⟨e_32,hy_33,h_14⟩:=bind_some h_14
    refine oM 18 (.inr (by kernel_rfl)) (λ_ _ ag=>⟨.inr (.inr (by kernel_rfl)),⟨.inr (.inr (by kernel_rfl)),⟨.inr (.inr (by kernel_rfl)),⟨.inr (.inr (by kernel_rfl)),trivial⟩⟩⟩⟩) 1 sz9 rfl rfl hy_33 (⟨e_32.Player,e_32.Item,e_32.No,e_32.Clock,e_32.Long,r_27.1⟩:Log_) rfl wz (ll (v':=(gV n_6 6 ((r_3.1.set (0+(r_16.1).toNat) (⟨e_30.Player,r_20.1,e_30.No,e_30.Clock,e_30.Long,e_30.Sum⟩:Log_)).set (0+(r_16.1).toNat) (⟨e_32.Player,e_32.Item,e_32.No,e_32.Clock,e_32.Long,r_27.1⟩:Log_)))) 5 rfl (ed (by simp)) (ll (v':=(gV n_6 6 ((r_3.1.set (0+(r_16.1).toNat) (⟨e_30.Player,r_20.1,e_30.No,e_30.Clock,e_30.Long,e_30.Sum⟩:Log_)).set (0+(r_16.1).toNat) (⟨e_32.Player,e_32.Item,e_32.No,e_32.Clock,e_32.Long,r_27.1⟩:Log_)))) 18 rfl (ed (by simp)) (ll (v':=(gV n_6 6 ((r_3.1.set (0+(r_16.1).toNat) (⟨e_30.Player,r_20.1,e_30.No,e_30.Clock,e_30.Long,e_30.Sum⟩:Log_)).set (0+(r_16.1).toNat) (⟨e_32.Player,e_32.Item,e_32.No,e_32.Clock,e_32.Long,r_27.1⟩:Log_)))) 20 rfl (ed (by simp)) (ai ?_))))
    obtain rfl:=ah h_14
    exact cu
   ·refine aA rfl hc_15 (ax ?_)
    obtain rfl:=ah h_14
    exact cu
  ·rintro ⟨⟩ _ sl_ H_ hp_ hq_
   refine aL _ hp_ hq_ (af (af ?_))
   obtain ⟨v_34,h_35,hF⟩:=bind_some hF
   refine aD (β:=Unit) (λ_=>([(0,(.ref (aG 0) 0 0)),(5,(gV n_6 6 v_13.1)),(47,(vB v_34.1))]:SL_)) (λ_=>([((aG 0),some (.cells 2 [(vL eI v_34.2.1),(vI v_34.2.2)])),(n_6,gB 6 Log_.enc v_13.1)]:Hp)) (λ_=>True) ?_ ?_
   ·refine aa (ae (gV n_6 6 v_13.1) wz rfl (yB rR rfl wz (ae (vB (decide ((v_13.1.length:Int)>0))) wz rfl ?_)))
    rcases aj h_35 with⟨hc_36,h_35⟩|⟨hc_36,h_35⟩
    ·refine aC rfl hc_36 wz (ae (.ref (aG 0) 0 0) wa rfl ?_)
     obtain ⟨r_37,hr_38,h_35⟩:=bind_some h_35
     refine bf 0 [0] il ft (dh hr_38) rfl zZ rfl (by kernel_rfl) (by kernel_rfl) (by kernel_rfl) (by kernel_rfl) (by kernel_rfl) (by kernel_rfl) (by kernel_rfl) (by decide) (by kernel_rfl) wa (vB r_37.1) (by kernel_rfl) ([((aG 0),some (.cells 2 [(vL eI r_37.2.L),(vI r_37.2.f_at)])),(n_6,gB 6 Log_.enc v_13.1)]:Hp) (by kernel_rfl) (ae (vB r_37.1) wz rfl (ai ?_))
     obtain rfl:=ah h_35
     exact cu
    ·refine aC rfl hc_36 wz (ak wa (ak wa (ae (vB false) wz rfl (ai ?_))))
     obtain rfl:=ah h_35
     exact cu
   ·rintro ⟨⟩ _ sl_ H_ hp_ hq_
    refine aL _ hp_ hq_ ?_
    obtain ⟨v_40,h_41,hF⟩:=bind_some hF
    refine aD (β:=Unit) (λ_=>([(5,(gV n_6 6 v_40.1))]:SL_)) (λ_=>([((aG 0),some (.cells 2 [(vL eI v_40.2.1),(vI v_40.2.2)])),(n_6,gB 6 Log_.enc v_40.1)]:Hp)) (λ_=>True) ?_ ?_
    ·rcases aj h_41 with⟨hc_42,h_41⟩|⟨hc_42,h_41⟩
     ·refine ay rfl hc_42 (af (aa (ae (gV n_6 6 v_13.1) wz rfl (ae (.ref (aG 0) 0 0) wz rfl (ae (gV n_6 6 v_13.1) wz rfl (yB rR rfl wz ?_))))))
      obtain ⟨r_43,hr_44,h_41⟩:=bind_some h_41
      refine bf 0 [0] il ft (dB hr_44) rfl AY rfl (by kernel_rfl) (by kernel_rfl) (by kernel_rfl) (by kernel_rfl) (by kernel_rfl) (by kernel_rfl) (by kernel_rfl) (by decide) (by kernel_rfl) wz (vI r_43.1) (by kernel_rfl) ([((aG 0),some (.cells 2 [(vL eI r_43.2.L),(vI r_43.2.f_at)])),(n_6,gB 6 Log_.enc v_13.1)]:Hp) (by kernel_rfl) ?_
      obtain ⟨_,hi_46,h_41⟩:=bind_some h_41
      refine EU xe rfl rfl (inR_0 hi_46) (EJ hi_46) wz (ae (.ref n_6 (0+(r_43.1).toNat) 0) wz rfl (ai (af (aa (ae (.ref (aG 0) 0 0) wz rfl ?_)))))
      obtain ⟨r_47,hr_48,h_41⟩:=bind_some h_41
      refine bf 0 [0] il ft (dB hr_48) rfl AY rfl (by kernel_rfl) (by kernel_rfl) (by kernel_rfl) (by kernel_rfl) (by kernel_rfl) (by kernel_rfl) (by kernel_rfl) (by decide) (by kernel_rfl) wz (vI r_47.1) (by kernel_rfl) ([((aG 0),some (.cells 2 [(vL eI r_47.2.L),(vI r_47.2.f_at)])),(n_6,gB 6 Log_.enc v_13.1)]:Hp) (by kernel_rfl) (ai (aF (af (aa (ae (vB (r_47.1==0)) wz rfl (ae (vB (r_47.1==0)) wz rfl (ai ?_)))))))
      rcases aj h_41 with⟨hc_50,h_41⟩|⟨hc_50,h_41⟩
      ·refine ay rfl hc_50 (aa (ae (.ref n_6 (0+(r_43.1).toNat) 0) wz rfl (ae (.ref n_6 (0+(r_43.1).toNat) 0) wz rfl (ae (.ref (aG 0) 0 0) wz rfl (ae (.ref n_6 (0+(r_43.1).toNat) 0) wz rfl (ae (.ref n_6 (0+(r_43.1).toNat) 0) wz rfl (aN kU rfl 0 rfl wz ?_)))))))
       obtain ⟨e_51,hy_52,h_41⟩:=bind_some h_41
       refine Eh 0 1 il ft sz9 ag9 rfl rfl hy_52 (vS e_51.Player) rfl wz (dC (([e_51.Player,(⟨#[]⟩:ByteArray),(⟨#[65]⟩:ByteArray)]:List ByteArray).map eS) gu mY rfl rfl rfl rfl rfl wz ?_)
       obtain ⟨r_53,hr_54,h_41⟩:=bind_some h_41
       refine bf 0 [0] il ft (dn hr_54) rfl Ak rfl (by kernel_rfl) (by kernel_rfl) (by kernel_rfl) (by kernel_rfl) (by kernel_rfl) (by kernel_rfl) (by kernel_rfl) (by decide) (by kernel_rfl) wz (vS r_53.1) (by kernel_rfl) ([((aG 0),some (.cells 2 [(vL eI r_53.2.L),(vI r_53.2.f_at)])),(n_6,gB 6 Log_.enc v_13.1)]:Hp) (by kernel_rfl) (ae (.ref (aG 0) 0 0) wz rfl (dC (([(⟨#[105,97]⟩:ByteArray),(⟨#[]⟩:ByteArray)]:List ByteArray).map eS) gu mY rfl rfl rfl rfl rfl wz ?_))
       obtain ⟨r_56,hr_57,h_41⟩:=bind_some h_41
       refine bf 0 [0] il ft (dn hr_57) rfl Ak rfl (by kernel_rfl) (by kernel_rfl) (by kernel_rfl) (by kernel_rfl) (by kernel_rfl) (by kernel_rfl) (by kernel_rfl) (by decide) (by kernel_rfl) wz (vS r_56.1) (by kernel_rfl) ([((aG 0),some (.cells 2 [(vL eI r_56.2.L),(vI r_56.2.f_at)])),(n_6,gB 6 Log_.enc v_13.1)]:Hp) (by kernel_rfl) (ae (.ref n_6 (0+(r_43.1).toNat) 0) wz rfl (aN kU rfl 0 rfl wz ?_))
       obtain ⟨e_59,hy_60,h_41⟩:=bind_some h_41
       refine oM 0 il ft 1 sz9 rfl rfl hy_60 (⟨r_53.1,e_59.Item,e_59.No,e_59.Clock,e_59.Long,e_59.Sum⟩:Log_) rfl wz (ll (v':=(gV n_6 6 (v_13.1.set (0+(r_43.1).toNat) (⟨r_53.1,e_59.Item,e_59.No,e_59.Clock,e_59.Long,e_59.Sum⟩:Log_)))) 5 rfl (ed (by simp)) (ll (v':=(gV n_6 6 (v_13.1.set (0+(r_43.1).toNat) (⟨r_53.1,e_59.Item,e_59.No,e_59.Clock,e_59.Long,e_59.Sum⟩:Log_)))) 48 rfl (ed (by simp)) (ll (v':=(gV n_6 6 (v_13.1.set (0+(r_43.1).toNat) (⟨r_53.1,e_59.Item,e_59.No,e_59.Clock,e_59.Long,e_59.Sum⟩:Log_)))) 50 rfl (ed (by simp)) (ae (.ref n_6 (0+(r_43.1).toNat) 0) wz rfl (aN sj rfl 1 rfl wz ?_)))))
       obtain ⟨e_61,hy_62,h_41⟩:=bind_some h_41
       refine oM 0 il ft 1 sz9 rfl rfl hy_62 (⟨e_61.Player,r_56.1,e_61.No,e_61.Clock,e_61.Long,e_61.Sum⟩:Log_) rfl wz (ll (v':=(gV n_6 6 ((v_13.1.set (0+(r_43.1).toNat) (⟨r_53.1,e_59.Item,e_59.No,e_59.Clock,e_59.Long,e_59.Sum⟩:Log_)).set (0+(r_43.1).toNat) (⟨e_61.Player,r_56.1,e_61.No,e_61.Clock,e_61.Long,e_61.Sum⟩:Log_)))) 5 rfl (ed (by simp)) (ll (v':=(gV n_6 6 ((v_13.1.set (0+(r_43.1).toNat) (⟨r_53.1,e_59.Item,e_59.No,e_59.Clock,e_59.Long,e_59.Sum⟩:Log_)).set (0+(r_43.1).toNat) (⟨e_61.Player,r_56.1,e_61.No,e_61.Clock,e_61.Long,e_61.Sum⟩:Log_)))) 48 rfl (ed (by simp)) (ll (v':=(gV n_6 6 ((v_13.1.set (0+(r_43.1).toNat) (⟨r_53.1,e_59.Item,e_59.No,e_59.Clock,e_59.Long,e_59.Sum⟩:Log_)).set (0+(r_43.1).toNat) (⟨e_61.Player,r_56.1,e_61.No,e_61.Clock,e_61.Long,e_61.Sum⟩:Log_)))) 50 rfl (ed (by simp)) (ai ?_))))
       obtain rfl:=ah h_41
       exact cu
      ·refine aA rfl hc_50 (af (aa (ae (vB (r_47.1==1)) wz rfl (ae (vB (r_47.1==1)) wz rfl (ai ?_)))))
       rcases aj h_41 with⟨hc_63,h_41⟩|⟨hc_63,h_41⟩
       ·refine ay rfl hc_63 (aa (ae (.ref n_6 (0+(r_43.1).toNat) 0) wz rfl (ae (.ref (aG 0) 0 0) wz rfl ?_)))
        obtain ⟨r_64,hr_65,h_41⟩:=bind_some h_41
        refine bf 0 [0] il ft (jY hr_65) rfl hb58 rfl (by kernel_rfl) (by kernel_rfl) (by kernel_rfl) (by kernel_rfl) (by kernel_rfl) (by kernel_rfl) (by kernel_rfl) (by decide) (by kernel_rfl) wz (vI r_64.1) (by kernel_rfl) ([((aG 0),some (.cells 2 [(vL eI r_64.2.L),(vI r_64.2.f_at)])),(n_6,gB 6 Log_.enc v_13.1)]:Hp) (by kernel_rfl) (ae (.ref n_6 (0+(r_43.1).toNat) 0) wz rfl (aN nP rfl 2 rfl wz ?_))
        obtain ⟨e_67,hy_68,h_41⟩:=bind_some h_41
        refine oM 0 il ft 1 sz3 rfl rfl hy_68 (⟨e_67.Player,e_67.Item,r_64.1,e_67.Clock,e_67.Long,e_67.Sum⟩:Log_) rfl wz (ll (v':=(gV n_6 6 (v_13.1.set (0+(r_43.1).toNat) (⟨e_67.Player,e_67.Item,r_64.1,e_67.Clock,e_67.Long,e_67.Sum⟩:Log_)))) 5 rfl (ed (by simp)) (ll (v':=(gV n_6 6 (v_13.1.set (0+(r_43.1).toNat) (⟨e_67.Player,e_67.Item,r_64.1,e_67.Clock,e_67.Long,e_67.Sum⟩:Log_)))) 48 rfl (ed (by simp)) (ll (v':=(gV n_6 6 (v_13.1.set (0+(r_43.1).toNat) (⟨e_67.Player,e_67.Item,r_64.1,e_67.Clock,e_67.Long,e_67.Sum⟩:Log_)))) 50 rfl (ed (by simp)) (ai ?_))))
        obtain rfl:=ah h_41
        exact cu
       ·refine aA rfl hc_63 (af (aa (ae (vB (r_47.1==2)) wz rfl (ae (vB (r_47.1==2)) wz rfl (ai ?_)))))
        rcases aj h_41 with⟨hc_69,h_41⟩|⟨hc_69,h_41⟩
        ·refine ay rfl hc_69 (aa (ae (.ref n_6 (0+(r_43.1).toNat) 0) wz rfl (ae (.ref n_6 (0+(r_43.1).toNat) 0) wz rfl (ae (.ref (aG 0) 0 0) wz rfl ?_))))
         obtain ⟨r_70,hr_71,h_41⟩:=bind_some h_41
         refine bf 0 [0] il ft (jY hr_71) rfl hb58 rfl (by kernel_rfl) (by kernel_rfl) (by kernel_rfl) (by kernel_rfl) (by kernel_rfl) (by kernel_rfl) (by kernel_rfl) (by decide) (by kernel_rfl) wz (vI r_70.1) (by kernel_rfl) ([((aG 0),some (.cells 2 [(vL eI r_70.2.L),(vI r_70.2.f_at)])),(n_6,gB 6 Log_.enc v_13.1)]:Hp) (by kernel_rfl) (ae (.ref (aG 0) 0 0) wz rfl ?_)
         obtain ⟨r_73,hr_74,h_41⟩:=bind_some h_41
         refine bf 0 [0] il ft (jY hr_74) rfl hb58 rfl (by kernel_rfl) (by kernel_rfl) (by kernel_rfl) (by kernel_rfl) (by kernel_rfl) (by kernel_rfl) (by kernel_rfl) (by decide) (by kernel_rfl) wz (vI r_73.1) (by kernel_rfl) ([((aG 0),some (.cells 2 [(vL eI r_73.2.L),(vI r_73.2.f_at)])),(n_6,gB 6 Log_.enc v_13.1)]:Hp) (by kernel_rfl) (ae (.ref n_6 (0+(r_43.1).toNat) 0) wz rfl (aN wP rfl 3 rfl wz ?_))
         obtain ⟨e_76,hy_77,h_41⟩:=bind_some h_41
         refine oM 0 il ft 1 sz3 rfl rfl hy_77 (⟨e_76.Player,e_76.Item,e_76.No,r_70.1,e_76.Long,e_76.Sum⟩:Log_) rfl wz (ll (v':=(gV n_6 6 (v_13.1.set (0+(r_43.1).toNat) (⟨e_76.Player,e_76.Item,e_76.No,r_70.1,e_76.Long,e_76.Sum⟩:Log_)))) 5 rfl (ed (by simp)) (ll (v':=(gV n_6 6 (v_13.1.set (0+(r_43.1).toNat) (⟨e_76.Player,e_76.Item,e_76.No,r_70.1,e_76.Long,e_76.Sum⟩:Log_)))) 48 rfl (ed (by simp)) (ll (v':=(gV n_6 6 (v_13.1.set (0+(r_43.1).toNat) (⟨e_76.Player,e_76.Item,e_76.No,r_70.1,e_76.Long,e_76.Sum⟩:Log_)))) 50 rfl (ed (by simp)) (ae (.ref n_6 (0+(r_43.1).toNat) 0) wz rfl (aN ww rfl 4 rfl wz ?_)))))
         obtain ⟨e_78,hy_79,h_41⟩:=bind_some h_41
         refine oM 0 il ft 1 sz3 rfl rfl hy_79 (⟨e_78.Player,e_78.Item,e_78.No,e_78.Clock,r_73.1,e_78.Sum⟩:Log_) rfl wz (ll (v':=(gV n_6 6 ((v_13.1.set (0+(r_43.1).toNat) (⟨e_76.Player,e_76.Item,e_76.No,r_70.1,e_76.Long,e_76.Sum⟩:Log_)).set (0+(r_43.1).toNat) (⟨e_78.Player,e_78.Item,e_78.No,e_78.Clock,r_73.1,e_78.Sum⟩:Log_)))) 5 rfl (ed (by simp)) (ll (v':=(gV n_6 6 ((v_13.1.set (0+(r_43.1).toNat) (⟨e_76.Player,e_76.Item,e_76.No,r_70.1,e_76.Long,e_76.Sum⟩:Log_)).set (0+(r_43.1).toNat) (⟨e_78.Player,e_78.Item,e_78.No,e_78.Clock,r_73.1,e_78.Sum⟩:Log_)))) 48 rfl (ed (by simp)) (ll (v':=(gV n_6 6 ((v_13.1.set (0+(r_43.1).toNat) (⟨e_76.Player,e_76.Item,e_76.No,r_70.1,e_76.Long,e_76.Sum⟩:Log_)).set (0+(r_43.1).toNat) (⟨e_78.Player,e_78.Item,e_78.No,e_78.Clock,r_73.1,e_78.Sum⟩:Log_)))) 50 rfl (ed (by simp)) (ai ?_))))
         obtain rfl:=ah h_41
         exact cu
        ·refine aA rfl hc_69 (aa (ae (.ref n_6 (0+(r_43.1).toNat) 0) wz rfl (ae (.ref (aG 0) 0 0) wz rfl (dC (([(⟨#[]⟩:ByteArray),(⟨#[120]⟩:ByteArray),(⟨#[48,49,50,51,52,53,54,55,56,57,65,66,67,68,69,70]⟩:ByteArray),(⟨#[48,49,50,51,52,53,54,55,56,57,97,98,99,100,101]⟩:ByteArray)]:List ByteArray).map eS) gu mY rfl rfl rfl rfl rfl wz ?_))))
         obtain ⟨r_80,hr_81,h_41⟩:=bind_some h_41
         refine bf 0 [0] il ft (dn hr_81) rfl Ak rfl (by kernel_rfl) (by kernel_rfl) (by kernel_rfl) (by kernel_rfl) (by kernel_rfl) (by kernel_rfl) (by kernel_rfl) (by decide) (by kernel_rfl) wz (vS r_80.1) (by kernel_rfl) ([((aG 0),some (.cells 2 [(vL eI r_80.2.L),(vI r_80.2.f_at)])),(n_6,gB 6 Log_.enc v_13.1)]:Hp) (by kernel_rfl) (ae (.ref n_6 (0+(r_43.1).toNat) 0) wz rfl (aN jH rfl 5 rfl wz ?_))
         obtain ⟨e_83,hy_84,h_41⟩:=bind_some h_41
         refine oM 0 il ft 1 sz9 rfl rfl hy_84 (⟨e_83.Player,e_83.Item,e_83.No,e_83.Clock,e_83.Long,r_80.1⟩:Log_) rfl wz (ll (v':=(gV n_6 6 (v_13.1.set (0+(r_43.1).toNat) (⟨e_83.Player,e_83.Item,e_83.No,e_83.Clock,e_83.Long,r_80.1⟩:Log_)))) 5 rfl (ed (by simp)) (ll (v':=(gV n_6 6 (v_13.1.set (0+(r_43.1).toNat) (⟨e_83.Player,e_83.Item,e_83.No,e_83.Clock,e_83.Long,r_80.1⟩:Log_)))) 48 rfl (ed (by simp)) (ll (v':=(gV n_6 6 (v_13.1.set (0+(r_43.1).toNat) (⟨e_83.Player,e_83.Item,e_83.No,e_83.Clock,e_83.Long,r_80.1⟩:Log_)))) 50 rfl (ed (by simp)) (ai ?_))))
         obtain rfl:=ah h_41
         exact cu
     ·refine aA rfl hc_42 (ax ?_)
      obtain rfl:=ah h_41
      exact cu
    ·rintro ⟨⟩ _ sl_ H_ hp_ hq_
     refine aL _ hp_ hq_ (af (aa (ae (gV n_6 6 v_40.1) wz rfl (ae (gV n_6 6 v_40.1) wz rfl (ai (iO 1 rfl (dQ 4 1 rfl rfl (dQ 5 1 rfl rfl (dQ 99 1 rfl rfl ?_)))))))))
     obtain rfl:=ah hF
     exact av (wZ (.inr rfl) [(vL Log_.enc v_40.1)] _ [0] [aG 0] ⟨rfl,trivial⟩ (.cons (iG rfl rfl) (.nil)) (by kernel_rfl) ⟨(by kernel_rfl),trivial⟩ (by decide) (by kernel_rfl))
theorem lw {s_1:ByteArray} {r:Bool} (hF:jh s_1=some r) :
  FnM Tryz.prog 119 [(vS s_1)] [] (vB r) []:=by
 refine FnM.of_wH ⟨Tryz.prog,48,[],[]⟩ rfl Tryz.func119 rfl rfl (lb_ rfl) (by kernel_rfl) ?_
 unfold jh at hF
 refine af (aa (ae (vB false) wz rfl (ai (af (af (aa (ae (vI 0) wz rfl (ai ?_))))))))
 obtain ⟨o_10,hj_11,hF⟩:=bind_some hF
 obtain ⟨nq_33,hj_11⟩:=dV hj_11
 refine aD (β:=(Int)) (λ(s_7:Int)=>([(0,(vS s_1))]:SL_)) (λ(s_7:Int)=>([]:Hp)) (λp=>o_10 = .go p) ?_ ?_
 ·refine aF (bI (β:=Nat×(Int)) (λp=>(λ(k_2:Nat) (s_7:Int)=>([(0,(vS s_1)),(3,(vI s_7))]:SL_)) p.1 p.2) (λp=>(λ(k_2:Nat) (s_7:Int)=>([]:Hp)) p.1 p.2) (λp=>aZ (λs=>gq s_1 s) p.1 p.2=some o_10) (λp=>p.1) (nq_33,0) hj_11 rfl (aI rfl) ?_)
  rintro ⟨k_2,s_7⟩ hL_9
  dsimp only at hL_9
  cases k_2 with
  | zero=>cases hL_9
  | succ k_2 =>
   obtain ⟨c_,hc_8,hL_9⟩:=bind_some hL_9
   unfold gq at hc_8
   refine af (af (aa (ae (vI s_7) wz rfl (ae (vS s_1) wz rfl (o8 un9 rfl wz (ae (vB (decide (s_7<(s_1.size:Int)))) wz rfl (ai ?_)))))))
   rcases aj hc_8 with⟨hc_12,hc_8⟩|⟨hc_12,hc_8⟩
   ·refine ay rfl hc_12 (ax (af (aF (af (aa (ae (vS s_1) wz rfl (ae (vI s_7) wz rfl ?_)))))))
    obtain ⟨b_13,hy_14,hc_8⟩:=bind_some hc_8
    refine qR un9 rfl rfl hy_14 wz (ae (.d (.int .u8 (b_13.toNat:Int))) wz rfl (ai (af ?_)))
    obtain ⟨v_15,h_16,hc_8⟩:=bind_some hc_8
    refine aD (β:=Unit) (λ_=>([(0,(vS s_1)),(3,(vI s_7)),(40,(vB v_15))]:SL_)) (λ_=>([]:Hp)) (λ_=>True) ?_ ?_
    ·refine aa (ae (.d (.int .u8 (b_13.toNat:Int))) wz rfl (ae (vB (decide ((b_13.toNat:Int)>=97))) wz rfl ?_))
     rcases aj h_16 with⟨hc_17,h_16⟩|⟨hc_17,h_16⟩
     ·refine aC rfl hc_17 wz (ae (.d (.int .u8 (b_13.toNat:Int))) wa rfl (ae (vB (decide ((b_13.toNat:Int)<=122))) wa rfl (ae (vB (decide ((b_13.toNat:Int)<=122))) wz rfl ?_)))
      rcases aj h_16 with⟨hc_18,h_16⟩|⟨hc_18,h_16⟩
      ·refine aC rfl hc_18 wz (ak wa (ak wa (ak wa (ak (wn rfl rfl) (ak (wn rfl rfl) (ak (wn rfl rfl) (ak (wn rfl rfl) (ak (wn rfl rfl) (ak (wn rfl rfl) (ak (wn rfl rfl) (ak (wn rfl rfl) (ak (wn rfl rfl) (ak (wn rfl rfl) (ak (wn rfl rfl) (ak (wn rfl rfl) (ak (wn rfl rfl) (ak (wn rfl rfl) (ak wa (ae (vB true) wz rfl (ae (vB false) wz rfl (ai ?_)))))))))))))))))))))
       obtain rfl:=ah h_16
       exact cu
      ·refine aC rfl hc_18 wz (ae (vI s_7) wa rfl (ae (vB (decide (s_7>0))) wa rfl ?_))
       rcases aj h_16 with⟨hc_19,h_16⟩|⟨hc_19,h_16⟩
       ·refine aC rfl hc_19 wa (ae (.d (.int .u8 (b_13.toNat:Int))) wa rfl (ae (vB (decide ((b_13.toNat:Int)>=48))) wa rfl ?_))
        rcases aj h_16 with⟨hc_20,h_16⟩|⟨hc_20,h_16⟩
        ·refine aC rfl hc_20 wa (ae (.d (.int .u8 (b_13.toNat:Int))) wa rfl (ae (vB (decide ((b_13.toNat:Int)<=57))) wa rfl (ae (vB (decide ((b_13.toNat:Int)<=57))) wa rfl ?_)))
         rcases aj h_16 with⟨hc_21,h_16⟩|⟨hc_21,h_16⟩
         ·refine aC rfl hc_21 wa (ak wa (ak wa (ae (vB true) wa rfl (ae (vB true) wa rfl (ak wa (ak wa (ae (vB true) wa rfl (ae (vB true) wa rfl (ae (vB true) wz rfl (ae (vB false) wz rfl (ai ?_)))))))))))
          obtain rfl:=ah h_16
          exact cu
         ·refine aC rfl hc_21 wa (ae (.d (.int .u8 (b_13.toNat:Int))) wa rfl (ae (vB ((b_13.toNat:Int)==45)) wa rfl (ae (vB ((b_13.toNat:Int)==45)) wa rfl ?_)))
          rcases aj h_16 with⟨hc_22,h_16⟩|⟨hc_22,h_16⟩
          ·refine aC rfl hc_22 wa (ak wa (ak wa (ae (vB true) wa rfl (ae (vB true) wa rfl (ae (vB true) wz rfl (ae (vB false) wz rfl (ai ?_)))))))
           obtain rfl:=ah h_16
           exact cu
          ·refine aC rfl hc_22 wa (ae (.d (.int .u8 (b_13.toNat:Int))) wa rfl (ae (vB ((b_13.toNat:Int)==95)) wa rfl (ae (vB ((b_13.toNat:Int)==95)) wa rfl (ae (vB ((b_13.toNat:Int)==95)) wa rfl (ae (vB ((b_13.toNat:Int)==95)) wz rfl (ae (vB (!((b_13.toNat:Int)==95))) wz rfl (ai ?_)))))))
           obtain rfl:=ah h_16
           exact cu
        ·refine aC rfl hc_20 wa (ak wa (ak wa (ae (vB false) wa rfl (ae (vB false) wa rfl (ae (.d (.int .u8 (b_13.toNat:Int))) wa rfl (ae (vB ((b_13.toNat:Int)==45)) wa rfl (ae (vB ((b_13.toNat:Int)==45)) wa rfl ?_)))))))
         rcases aj h_16 with⟨hc_23,h_16⟩|⟨hc_23,h_16⟩
         ·refine aC rfl hc_23 wa (ak wa (ak wa (ae (vB true) wa rfl (ae (vB true) wa rfl (ae (vB true) wz rfl (ae (vB false) wz rfl (ai ?_)))))))
          obtain rfl:=ah h_16
          exact cu
         ·refine aC rfl hc_23 wa (ae (.d (.int .u8 (b_13.toNat:Int))) wa rfl (ae (vB ((b_13.toNat:Int)==95)) wa rfl (ae (vB ((b_13.toNat:Int)==95)) wa rfl (ae (vB ((b_13.toNat:Int)==95)) wa rfl (ae (vB ((b_13.toNat:Int)==95)) wz rfl (ae (vB (!((b_13.toNat:Int)==95))) wz rfl (ai ?_)))))))
          obtain rfl:=ah h_16
          exact cu
       ·refine aC rfl hc_19 wa (ak wa (ak wa (ak wa (ak (wn rfl rfl) (ak (wn rfl rfl) (ak wa (ak wa (ak (wn rfl rfl) (ak (wn rfl rfl) (ak wa (ak wa (ak (wn rfl rfl) (ak (wn rfl rfl) (ak wa (ae (vB false) wa rfl (ae (vB false) wz rfl (ae (vB true) wz rfl (ai ?_))))))))))))))))))
        obtain rfl:=ah h_16
        exact cu
     ·refine aC rfl hc_17 wz (ak wa (ak wa (ae (vB false) wz rfl (ae (vB false) wz rfl (ae (vI s_7) wa rfl (ae (vB (decide (s_7>0))) wa rfl ?_))))))
      rcases aj h_16 with⟨hc_24,h_16⟩|⟨hc_24,h_16⟩
      ·refine aC rfl hc_24 wa (ae (.d (.int .u8 (b_13.toNat:Int))) wa rfl (ae (vB (decide ((b_13.toNat:Int)>=48))) wa rfl ?_))
       rcases aj h_16 with⟨hc_25,h_16⟩|⟨hc_25,h_16⟩
       ·refine aC rfl hc_25 wa (ae (.d (.int .u8 (b_13.toNat:Int))) wa rfl (ae (vB (decide ((b_13.toNat:Int)<=57))) wa rfl (ae (vB (decide ((b_13.toNat:Int)<=57))) wa rfl ?_)))
        rcases aj h_16 with⟨hc_26,h_16⟩|⟨hc_26,h_16⟩
        ·refine aC rfl hc_26 wa (ak wa (ak wa (ae (vB true) wa rfl (ae (vB true) wa rfl (ak wa (ak wa (ae (vB true) wa rfl (ae (vB true) wa rfl (ae (vB true) wz rfl (ae (vB false) wz rfl (ai ?_)))))))))))
         obtain rfl:=ah h_16
         exact cu
        ·refine aC rfl hc_26 wa (ae (.d (.int .u8 (b_13.toNat:Int))) wa rfl (ae (vB ((b_13.toNat:Int)==45)) wa rfl (ae (vB ((b_13.toNat:Int)==45)) wa rfl ?_)))
         rcases aj h_16 with⟨hc_27,h_16⟩|⟨hc_27,h_16⟩
         ·refine aC rfl hc_27 wa (ak wa (ak wa (ae (vB true) wa rfl (ae (vB true) wa rfl (ae (vB true) wz rfl (ae (vB false) wz rfl (ai ?_)))))))
          obtain rfl:=ah h_16
          exact cu
         ·refine aC rfl hc_27 wa (ae (.d (.int .u8 (b_13.toNat:Int))) wa rfl (ae (vB ((b_13.toNat:Int)==95)) wa rfl (ae (vB ((b_13.toNat:Int)==95)) wa rfl (ae (vB ((b_13.toNat:Int)==95)) wa rfl (ae (vB ((b_13.toNat:Int)==95)) wz rfl (ae (vB (!((b_13.toNat:Int)==95))) wz rfl (ai ?_)))))))
          obtain rfl:=ah h_16
          exact cu
       ·refine aC rfl hc_25 wa (ak wa (ak wa (ae (vB false) wa rfl (ae (vB false) wa rfl (ae (.d (.int .u8 (b_13.toNat:Int))) wa rfl (ae (vB ((b_13.toNat:Int)==45)) wa rfl (ae (vB ((b_13.toNat:Int)==45)) wa rfl ?_)))))))
        rcases aj h_16 with⟨hc_28,h_16⟩|⟨hc_28,h_16⟩
        ·refine aC rfl hc_28 wa (ak wa (ak wa (ae (vB true) wa rfl (ae (vB true) wa rfl (ae (vB true) wz rfl (ae (vB false) wz rfl (ai ?_)))))))
         obtain rfl:=ah h_16
         exact cu
        ·refine aC rfl hc_28 wa (ae (.d (.int .u8 (b_13.toNat:Int))) wa rfl (ae (vB ((b_13.toNat:Int)==95)) wa rfl (ae (vB ((b_13.toNat:Int)==95)) wa rfl (ae (vB ((b_13.toNat:Int)==95)) wa rfl (ae (vB ((b_13.toNat:Int)==95)) wz rfl (ae (vB (!((b_13.toNat:Int)==95))) wz rfl (ai ?_)))))))
         obtain rfl:=ah h_16
         exact cu
      ·refine aC rfl hc_24 wa (ak wa (ak wa (ak wa (ak (wn rfl rfl) (ak (wn rfl rfl) (ak wa (ak wa (ak (wn rfl rfl) (ak (wn rfl rfl) (ak wa (ak wa (ak (wn rfl rfl) (ak (wn rfl rfl) (ak wa (ae (vB false) wa rfl (ae (vB false) wz rfl (ae (vB true) wz rfl (ai ?_))))))))))))))))))
       obtain rfl:=ah h_16
       exact cu
    ·rintro ⟨⟩ _ sl_ H_ hp_ hq_
     refine aL _ hp_ hq_ ?_
     rcases aj hc_8 with⟨hc_29,hc_8⟩|⟨hc_29,hc_8⟩
     ·refine ay rfl hc_29 (af (aa (ae (vB false) wz rfl (ai ?_))))
      obtain rfl:=ah hc_8
      obtain rfl:=ah hL_9
      obtain rfl:=ah hF
      exact av (aQ (.inr rfl) [(vB false)] ⟨rfl,trivial⟩ rfl rfl rfl)
     ·refine aA rfl hc_29 (ax (aa (ae (vI s_7) wz rfl (ae (vI (w64 (s_7+1))) wz rfl (ae (vI (w64 (s_7+1))) wz rfl (ai ?_))))))
      obtain rfl:=ah hc_8
      exact bB (k_2,(w64 (s_7+1))) hL_9 (ls_ _) rfl (aI rfl)
   ·refine aA rfl hc_12 (bA ?_)
    obtain rfl:=ah hc_8
    obtain rfl:=ah hL_9
    exact bg (s_7) rfl rfl (aI rfl)
 ·rintro s_7 ho_ sl_ H_ hp_ hq_
  subst ho_
  refine aL _ hp_ hq_ (af ?_)
  obtain ⟨v_30,h_31,hF⟩:=bind_some hF
  refine aD (β:=Unit) (λ_=>([(2,(vB v_30))]:SL_)) (λ_=>([]:Hp)) (λ_=>True) ?_ ?_
  ·refine aa (ae (vS s_1) wz rfl (ae (vB (sNe s_1 (⟨#[]⟩:ByteArray))) wz rfl ?_))
   rcases aj h_31 with⟨hc_32,h_31⟩|⟨hc_32,h_31⟩
   ·refine aC rfl hc_32 wz (ae (vS s_1) wa rfl (o8 un9 rfl wa (ae (vB (decide ((s_1.size:Int)<=40))) wa rfl (ae (vB (decide ((s_1.size:Int)<=40))) wz rfl (ae (vB (decide ((s_1.size:Int)<=40))) wz rfl (ai ?_))))))
    obtain rfl:=ah h_31
    exact cu
   ·refine aC rfl hc_32 wz (ak wa (ak wa (ak wa (ae (vB false) wz rfl (ae (vB false) wz rfl (ai ?_))))))
    obtain rfl:=ah h_31
    exact cu
  ·rintro ⟨⟩ _ sl_ H_ hp_ hq_
   refine aL _ hp_ hq_ ?_
   obtain rfl:=ah hF
   exact av (aQ (.inr rfl) [(vB v_30)] ⟨rfl,trivial⟩ rfl rfl rfl)
theorem eT {n_1:Int} {low_2:Int} {high_3:Int} {r:Bool} (hF:dK n_1 low_2 high_3=some r) :
  FnM Tryz.prog 65 [(vI n_1),(vI low_2),(vI high_3)] [] (vB r) []:=by
 refine FnM.of_wH ⟨Tryz.prog,15,[],[]⟩ rfl Tryz.func65 rfl rfl (lb_ rfl) (by kernel_rfl) ?_
 unfold dK at hF
 refine af (aa (ae (vB false) wz rfl (ai (af ?_))))
 obtain ⟨v_4,h_5,hF⟩:=bind_some hF
 refine aD (β:=Unit) (λ_=>([(6,(vB v_4))]:SL_)) (λ_=>([]:Hp)) (λ_=>True) ?_ ?_
 ·refine aa (ae (vI n_1) wz rfl (ae (vI low_2) wz rfl (ae (vB (decide (n_1<low_2))) wz rfl ?_)))
  rcases aj h_5 with⟨hc_6,h_5⟩|⟨hc_6,h_5⟩
  ·refine aC rfl hc_6 wz (ak wa (ak wa (ak wa (ae (vB true) wz rfl (ae (vB true) wz rfl (ai ?_))))))
   obtain rfl:=ah h_5
   exact cu
  ·refine aC rfl hc_6 wz (ae (vI n_1) wa rfl (ae (vI high_3) wa rfl (ae (vB (decide (n_1>high_3))) wa rfl (ae (vB (decide (n_1>high_3))) wz rfl (ae (vB (decide (n_1>high_3))) wz rfl (ai ?_))))))
   obtain rfl:=ah h_5
   exact cu
 ·rintro ⟨⟩ _ sl_ H_ hp_ hq_
  refine aL _ hp_ hq_ ?_
  obtain rfl:=ah hF
  exact av (aQ (.inr rfl) [(vB v_4)] ⟨rfl,trivial⟩ rfl rfl rfl)
theorem mf {l_1:Log_} {r:Int} (hF:fQ l_1=some r) :
  FnM Tryz.prog 83 [(.d (.agg (Log_.enc l_1)))] [] (vI r) []:=by
 refine FnM.of_wH ⟨Tryz.prog,26,[],[]⟩ rfl Tryz.func83 rfl rfl (lb_ rfl) (by kernel_rfl) ?_
 unfold fQ at hF
 refine af (aa (kN 0 (.inl rfl) [(vS l_1.Player),(vS l_1.Item),(vI l_1.No),(vI l_1.Clock),(vI l_1.Long),(vS l_1.Sum)] rfl rfl wz (λn_2=>ae (vI 0) wz rfl (ai (af (af ?_))))))
 obtain ⟨v_3,h_4,hF⟩:=bind_some hF
 refine aD (β:=Unit) (λ_=>([(1,(.ref n_2 0 0)),(12,(vB v_3))]:SL_)) (λ_=>([(n_2,some (.cells 6 [(vS l_1.Player),(vS l_1.Item),(vI l_1.No),(vI l_1.Clock),(vI l_1.Long),(vS l_1.Sum)]))]:Hp)) (λ_=>True) ?_ ?_
 ·refine aa (aN kU rfl 0 rfl wz (aK 0 0 il ft sz9 ag9 rfl rfl (vS l_1.Player) rfl wz ?_))
  obtain ⟨r_5,hr_6,h_4⟩:=bind_some h_4
  refine au (lw hr_6) rfl BX rfl rfl rfl rfl wz (ae (vB (!r_5)) wz rfl ?_)
  rcases aj h_4 with⟨hc_7,h_4⟩|⟨hc_7,h_4⟩
  ·refine aC rfl hc_7 wz (ak wa (ak wa (ak wa (ak wa (ae (vB true) wz rfl (ai ?_))))))
   obtain rfl:=ah h_4
   exact cu
  ·refine aC rfl hc_7 wz (aN sj rfl 1 rfl wa (aK 0 0 il ft sz9 ag9 rfl rfl (vS l_1.Item) rfl wa ?_))
   obtain ⟨r_8,hr_9,h_4⟩:=bind_some h_4
   refine au (lw hr_9) rfl BX rfl rfl rfl rfl wa (ae (vB (!r_8)) wa rfl (ae (vB (!r_8)) wz rfl (ai ?_)))
   obtain rfl:=ah h_4
   exact cu
 ·rintro ⟨⟩ _ sl_ H_ hp_ hq_
  refine aL _ hp_ hq_ ?_
  rcases aj hF with⟨hc_10,hF⟩|⟨hc_10,hF⟩
  ·refine ay rfl hc_10 (af (aa (ae (vI 5) wz rfl (ai ?_))))
   obtain rfl:=ah hF
   exact av (aQ (.inr rfl) [(vI 5)] ⟨rfl,trivial⟩ rfl rfl rfl)
  ·refine aA rfl hc_10 (ax (af (af ?_)))
   obtain ⟨v_11,h_12,hF⟩:=bind_some hF
   refine aD (β:=Unit) (λ_=>([(25,(vB v_11))]:SL_)) (λ_=>([(n_2,some (.cells 6 [(vS l_1.Player),(vS l_1.Item),(vI l_1.No),(vI l_1.Clock),(vI l_1.Long),(vS l_1.Sum)]))]:Hp)) (λ_=>True) ?_ ?_
   ·refine aa (aN nP rfl 2 rfl wz (aK 0 0 il ft sz3 ag3 rfl rfl (vI l_1.No) rfl wz ?_))
    obtain ⟨r_13,hr_14,h_12⟩:=bind_some h_12
    refine au (eT hr_14) rfl Bl rfl rfl rfl rfl wz ?_
    rcases aj h_12 with⟨hc_15,h_12⟩|⟨hc_15,h_12⟩
    ·refine aC rfl hc_15 wz (ak wa (ak wa (ak wa (ae (vB true) wz rfl (ae (vB true) wz rfl (ak wa (ak wa (ak wa (ae (vB true) wz rfl (ai ?_))))))))))
     obtain rfl:=ah h_12
     exact cu
    ·refine aC rfl hc_15 wz (aN wP rfl 3 rfl wa (aK 0 0 il ft sz3 ag3 rfl rfl (vI l_1.Clock) rfl wa ?_))
     obtain ⟨r_16,hr_17,h_12⟩:=bind_some h_12
     refine au (eT hr_17) rfl Bl rfl rfl rfl rfl wa (ae (vB r_16) wz rfl ?_)
     rcases aj h_12 with⟨hc_18,h_12⟩|⟨hc_18,h_12⟩
     ·refine aC rfl hc_18 wz (ak wa (ak wa (ak wa (ae (vB true) wz rfl (ai ?_)))))
      obtain rfl:=ah h_12
      exact cu
     ·refine aC rfl hc_18 wz (aN ww rfl 4 rfl wa (aK 0 0 il ft sz3 ag3 rfl rfl (vI l_1.Long) rfl wa ?_))
      obtain ⟨r_19,hr_20,h_12⟩:=bind_some h_12
      refine au (eT hr_20) rfl Bl rfl rfl rfl rfl wa (ae (vB r_19) wz rfl (ai ?_))
      obtain rfl:=ah h_12
      exact cu
   ·rintro ⟨⟩ _ sl_ H_ hp_ hq_
    refine aL _ hp_ hq_ ?_
    rcases aj hF with⟨hc_21,hF⟩|⟨hc_21,hF⟩
    ·refine ay rfl hc_21 (af (aa (ae (vI 1) wz rfl (ai ?_))))
     obtain rfl:=ah hF
     exact av (aQ (.inr rfl) [(vI 1)] ⟨rfl,trivial⟩ rfl rfl rfl)
    ·refine aA rfl hc_21 (ax (af (aa (ae (vI 0) wz rfl (ai ?_)))))
     obtain rfl:=ah hF
     exact av (aQ (.inr rfl) [(vI 0)] ⟨rfl,trivial⟩ rfl rfl rfl)
theorem uy {x0:ByteArray} {x1:ByteArray} {r:ByteArray} (hF:lq x0 x1=some r) :
  FnM Tryz.prog 120 [(vS x0),(vS x1)] [] (vS r) [] :=
 EN rfl Tryz.strings_Trim_ascii  hF
theorem iX {s_1:ByteArray} {r:Bool} (hF:fq s_1=some r) :
  FnM Tryz.prog 84 [(vS s_1)] [] (vB r) []:=by
 refine FnM.of_wH ⟨Tryz.prog,11,[],[]⟩ rfl Tryz.func84 rfl rfl (lb_ rfl) (by kernel_rfl) ?_
 unfold fq at hF
 refine af (aa (ae (vB false) wz rfl (ai (af ?_))))
 obtain ⟨v_2,h_3,hF⟩:=bind_some hF
 refine aD (β:=Unit) (λ_=>([(2,(vB v_2))]:SL_)) (λ_=>([]:Hp)) (λ_=>True) ?_ ?_
 ·refine aa (ae (vS s_1) wz rfl (o8 un9 rfl wz (ae (vB ((s_1.size:Int)==16)) wz rfl ?_)))
  rcases aj h_3 with⟨hc_4,h_3⟩|⟨hc_4,h_3⟩
  ·refine aC rfl hc_4 wz (ae (vS s_1) wa rfl ?_)
   obtain ⟨r_5,hr_6,h_3⟩:=bind_some h_3
   refine au (uy hr_6) rfl hb120 rfl rfl rfl rfl wa (ae (vB (sEq r_5 (⟨#[]⟩:ByteArray))) wa rfl (ae (vB (sEq r_5 (⟨#[]⟩:ByteArray))) wz rfl (ae (vB (sEq r_5 (⟨#[]⟩:ByteArray))) wz rfl (ai ?_))))
   obtain rfl:=ah h_3
   exact cu
  ·refine aC rfl hc_4 wz (ak wa (ak wa (ak wa (ae (vB false) wz rfl (ae (vB false) wz rfl (ai ?_))))))
   obtain rfl:=ah h_3
   exact cu
 ·rintro ⟨⟩ _ sl_ H_ hp_ hq_
  refine aL _ hp_ hq_ ?_
  obtain rfl:=ah hF
  exact av (aQ (.inr rfl) [(vB v_2)] ⟨rfl,trivial⟩ rfl rfl rfl)
theorem jr {a_1:ByteArray} {b_2:ByteArray} {r:Int} (hF:dM a_1 b_2=some r) :
  FnM Tryz.prog 139 [(vS a_1),(vS b_2)] [] (vI r) []:=by
 refine FnM.of_wH ⟨Tryz.prog,8,[],[]⟩ rfl Tryz.func139 rfl rfl (lb_ rfl) (by kernel_rfl) ?_
 unfold dM at hF
 refine af (aa (ae (vI 0) wz rfl (ai (af (aa (ae (vS a_1) wz rfl (ae (vS b_2) wz rfl (h_ext (Eu (f:=180) Tryz.func180 rfl rfl (by kernel_rfl) (by kernel_rfl) _ _) rfl nb180 rfl wz (ae (vI (qP a_1 b_2)) wz rfl (ai ?_))))))))))
 obtain rfl:=ah hF
 exact av (aQ (.inr rfl) [(vI (qP a_1 b_2))] ⟨rfl,trivial⟩ rfl rfl rfl)
theorem jb {a_1:ByteArray} {b_2:ByteArray} {r:Int} (hF:strings_Compare a_1 b_2=some r) :
  FnM Tryz.prog 107 [(vS a_1),(vS b_2)] [] (vI r) []:=by
 refine FnM.of_wH ⟨Tryz.prog,8,[],[]⟩ rfl Tryz.func107 rfl rfl (lb_ rfl) (by kernel_rfl) ?_
 unfold strings_Compare at hF
 refine af (aa (ae (vI 0) wz rfl (ai (af (aa (ae (vS a_1) wz rfl (ae (vS b_2) wz rfl ?_)))))))
 obtain ⟨r_3,hr_4,hF⟩:=bind_some hF
 refine au (jr hr_4) rfl hb139 rfl rfl rfl rfl wz (ae (vI r_3) wz rfl (ai ?_))
 obtain rfl:=ah hF
 exact av (aQ (.inr rfl) [(vI r_3)] ⟨rfl,trivial⟩ rfl rfl rfl)
theorem mW {x_1:Int} {r:Bool} (hF:cmp_isNaN_int x_1=some r) :
  FnM Tryz.prog 147 [(vI x_1)] [] (vB r) []:=by
 refine FnM.of_wH ⟨Tryz.prog,6,[],[]⟩ rfl Tryz.func147 rfl rfl (lb_ rfl) (by kernel_rfl) ?_
 unfold cmp_isNaN_int at hF
 refine af (aa (ae (vB false) wz rfl (ai (af (aa (ae (vI x_1) wz rfl (ae (vI x_1) wz rfl (ae (vB (x_1 != x_1)) wz rfl (ae (vB (x_1 != x_1)) wz rfl (ai ?_))))))))))
 obtain rfl:=ah hF
 exact av (aQ (.inr rfl) [(vB (x_1 != x_1))] ⟨rfl,trivial⟩ rfl rfl rfl)
end Go.Proofs.YtdenjndllgahgaaGreatDoor.Law

