/-
 The machine computes these plain functions (written by a program of ours).
-/
import Derived.Test.YtmkljmjhcegapaaGreatDoorFacts
import Derived.Test.YtmkljmjhcegapaaGreatDoorDefs
open Go Go.Eng Go.Proofs
namespace Go.Proofs.YtmkljmjhcegapaaGreatDoor.Law
set_option maxRecDepth 100000
set_option linter.unusedVariables false
set_option maxHeartbeats 1000000
theorem xR {x_1:Int} {n_2:Int} {r:Int} (hF:tJ x_1 n_2=some r) :
  FnM Tryz.prog 39 [(vI x_1),(vI n_2)] [] (vI r) []:=by
 refine FnM.of_wH ⟨Tryz.prog,16,[],[]⟩ rfl Tryz.func39 rfl rfl (lb_ rfl) (by kernel_rfl) ?_
 unfold tJ at hF
 refine aj (aa (vI 0) (af (au (aj (aa (vI n_2) (aa (vB (decide (n_2<1))) (af ?_)))))))
 rcases ak hF with⟨hc_3,hF⟩|⟨hc_3,hF⟩
 ·refine aA rfl hc_3 (aj (aa (vI 0) (af ?_)))
  obtain rfl:=ae hF
  exact aH (aN [(vI 0)] ⟨rfl,trivial⟩)
 ·refine ay rfl hc_3 (ax (aj (aa (vI x_1) (aa (vI n_2) ?_))))
  obtain ⟨q_4,hz_5,hF⟩:=bind_some hF
  refine Q7 rfl rfl hz_5 wz (aa (vI q_4) (af (au (aj (aa (vI q_4) (aa (vB (decide (q_4<0))) (af ?_)))))))
  obtain ⟨v_6,h_7,hF⟩:=bind_some hF
  refine aS [(0,(vI v_6))] [] ?_ ?_
  ·rcases ak h_7 with⟨hc_8,h_7⟩|⟨hc_8,h_7⟩
   ·refine aA rfl hc_8 (av (aa (vI q_4) (aa (vI n_2) (aa (vI (w64 (q_4+n_2))) (aa (vI (w64 (q_4+n_2))) (af ?_))))))
    obtain rfl:=ae h_7
    exact cu
   ·refine ay rfl hc_8 (ax ?_)
    obtain rfl:=ae h_7
    exact cu
  ·rintro ⟨⟩ _ sl_ H_ hp_ hq_
   refine aO _ hp_ hq_ (aj (aa (vI v_6) (aa (vI v_6) (af ?_))))
   obtain rfl:=ae hF
   exact aH (aN [(vI v_6)] ⟨rfl,trivial⟩)
theorem kw {s_1:Stream} {n_2:Int} {r:Int×Stream} (hF:iO s_1 n_2=some r) :
  FnM Tryz.prog 18 [(.ref (aG 0) 0 0),(vI n_2)] [(.cells 2 [(vL eI s_1.L),(vI s_1.f_at)])] (vI r.1) [some (.cells 2 [(vL eI r.2.L),(vI r.2.f_at)])]:=by
 refine FnM.of_wH ⟨Tryz.prog,64,[],[]⟩ rfl Tryz.func18 rfl rfl (lb_ rfl) (by kernel_rfl) ?_
 unfold iO at hF
 refine aj (aa (vI 0) (af (aj (aa (.ref (aG 0) 0 0) (aa (.ref (aG 0) 0 0) (aJ EZ rfl 1 rfl wz (aB 0 0 il ft sz3 ag3 rfl rfl (vI s_1.f_at) rfl wz (aa (vI (w64 (s_1.f_at+1))) (aa (.ref (aG 0) 0 0) (aJ EZ rfl 1 rfl wz (fA 0 il ft 0 sz3 rfl rfl [(vL eI s_1.L),(vI (w64 (s_1.f_at+1)))] rfl wz (af (au (aj (aa (.ref (aG 0) 0 0) (aa (.ref (aG 0) 0 0) (aJ Jt rfl 0 rfl wz (aB 0 0 il ft Aa CK rfl rfl (vL eI s_1.L) rfl wz (dx w9 rfl wz (aa (vB ((s_1.L.length:Int)==0)) (af ?_)))))))))))))))))))))
 rcases ak hF with⟨hc_3,hF⟩|⟨hc_3,hF⟩
 ·refine aA rfl hc_3 (aj (aa (.ref (aG 0) 0 0) (aa (.ref (aG 0) 0 0) (aJ EZ rfl 1 rfl wz (aB 0 0 il ft sz3 ag3 rfl rfl (vI (w64 (s_1.f_at+1))) rfl wz (aa (vI (w64 ((w64 (s_1.f_at+1))*7919))) (aa (vI n_2) ?_)))))))
  obtain ⟨r_4,hr_5,hF⟩:=bind_some hF
  refine aC (xR hr_5) rfl hb39 rfl rfl rfl rfl wz (aa (vI r_4) (af ?_))
  obtain rfl:=ae hF
  exact aH (zS (.inr rfl) [(vI r_4)] _ [0] [aG 0] ⟨rfl,trivial⟩ (.cons (lH rfl rfl) (.nil)) (by kernel_rfl) ⟨(by kernel_rfl),trivial⟩ (by decide) (by kernel_rfl))
 ·refine ay rfl hc_3 (ax (au (bE (aa (.ref (aG 0) 0 0) (aa (.ref (aG 0) 0 0) (aJ EZ rfl 1 rfl wz (aB 3 0 (.inr (by kernel_rfl)) (λ_ _ ag=>trivial) sz3 ag3 rfl rfl (vI (w64 (s_1.f_at+1))) rfl wz (aa (vI (w64 ((w64 (s_1.f_at+1))-1))) (aa (.ref (aG 0) 0 0) (aa (.ref (aG 0) 0 0) (aJ Jt rfl 0 rfl wz (aB 8 0 (.inr (by kernel_rfl)) (λ_ _ ag=>⟨.inl ⟨rfl,rfl⟩,trivial⟩) Aa CK rfl rfl (vL eI s_1.L) rfl wz (dx w9 rfl wz ?_)))))))))))))
  obtain ⟨q_6,hz_7,hF⟩:=bind_some hF
  refine Q7 rfl rfl hz_7 wz (aa (vI q_6) (af (au (bE (aa (.ref (aG 0) 0 0) (aa (.ref (aG 0) 0 0) (aJ EZ rfl 1 rfl wz (aB 3 0 (.inr (by kernel_rfl)) (λ_ _ ag=>trivial) sz3 ag3 rfl rfl (vI (w64 (s_1.f_at+1))) rfl wz (aa (vI (w64 ((w64 (s_1.f_at+1))-1))) (aa (.ref (aG 0) 0 0) (aa (.ref (aG 0) 0 0) (aJ Jt rfl 0 rfl wz (aB 8 0 (.inr (by kernel_rfl)) (λ_ _ ag=>⟨.inl ⟨rfl,rfl⟩,trivial⟩) Aa CK rfl rfl (vL eI s_1.L) rfl wz (dx w9 rfl wz ?_))))))))))))))
  obtain ⟨q_8,hz_9,hF⟩:=bind_some hF
  refine Nw rfl rfl hz_9 wz (aa (vI q_8) (af (aO (H0:=([((aG 0),some (.cells 2 [(vL eI s_1.L),(vI (w64 (s_1.f_at+1)))]))]:Hp)) ([(0,(.ref (aG 0) 0 0)),(1,(vI n_2)),(5,(vI q_6)),(6,(vI q_8))]:SL_) (by kernel_rfl) (xm (by kernel_rfl)) (aj (aa (.ref (aG 0) 0 0) (aa (.ref (aG 0) 0 0) (aJ Jt rfl 0 rfl wz (aB 0 0 il ft Aa CK rfl rfl (vL eI s_1.L) rfl wz (aa (vI q_6) ?_)))))))))
  obtain ⟨y_10,hy_11,hF⟩:=bind_some hF
  refine dW lC rfl rfl hy_11 rfl wz (bK sz3 ag3 rfl (vI y_10) rfl wz ?_)
  obtain ⟨r_12,hr_13,hF⟩:=bind_some hF
  refine aC (xR hr_13) rfl hb39 rfl rfl rfl rfl wz (aa (vI q_8) (aa (vI q_6) (aa (vI (w64 (7919+q_6))) (aa (vI (w64 (q_8*(w64 (7919+q_6))))) (aa (vI (w64 (r_12+(w64 (q_8*(w64 (7919+q_6))))))) (aa (vI n_2) ?_))))))
  obtain ⟨r_14,hr_15,hF⟩:=bind_some hF
  refine aC (xR hr_15) rfl hb39 rfl rfl rfl rfl wz (aa (vI r_14) (af ?_))
  obtain rfl:=ae hF
  exact aH (zS (.inr rfl) [(vI r_14)] _ [0] [aG 0] ⟨rfl,trivial⟩ (.cons (lH rfl rfl) (.nil)) (by kernel_rfl) ⟨(by kernel_rfl),trivial⟩ (by decide) (by kernel_rfl))
theorem mo {s_1:Stream} {n_2:Int} {r:Bool×Stream} (hF:iL s_1 n_2=some r) :
  FnM Tryz.prog 15 [(.ref (aG 0) 0 0),(vI n_2)] [(.cells 2 [(vL eI s_1.L),(vI s_1.f_at)])] (vB r.1) [some (.cells 2 [(vL eI r.2.L),(vI r.2.f_at)])]:=by
 refine FnM.of_wH ⟨Tryz.prog,9,[],[]⟩ rfl Tryz.func15 rfl rfl (lb_ rfl) (by kernel_rfl) ?_
 unfold iL at hF
 refine aj (aa (vB false) (af (aj (aa (.ref (aG 0) 0 0) (aa (vI n_2) ?_)))))
 obtain ⟨r_3,hr_4,hF⟩:=bind_some hF
 refine gY 0 [0] il ft (kw hr_4) rfl Qw rfl (by kernel_rfl) (by kernel_rfl) (by kernel_rfl) (by kernel_rfl) (by kernel_rfl) (by kernel_rfl) (by kernel_rfl) (by decide) (by kernel_rfl) wz (vI r_3.1) (by kernel_rfl) ([((aG 0),some (.cells 2 [(vL eI r_3.2.L),(vI r_3.2.f_at)]))]:Hp) (by kernel_rfl) (aa (vB (r_3.1==0)) (aa (vB (r_3.1==0)) (af ?_)))
 obtain rfl:=ae hF
 exact aH (zS (.inr rfl) [(vB (r_3.1==0))] _ [0] [aG 0] ⟨rfl,trivial⟩ (.cons (lH rfl rfl) (.nil)) (by kernel_rfl) ⟨(by kernel_rfl),trivial⟩ (by decide) (by kernel_rfl))
theorem AA {s_1:Stream} {l_2:(List ByteArray)} {r:ByteArray×Stream} (hF:mM s_1 l_2=some r) :
  FnM Tryz.prog 16 [(.ref (aG 0) 0 0),(vL eS l_2)] [(.cells 2 [(vL eI s_1.L),(vI s_1.f_at)])] (vS r.1) [some (.cells 2 [(vL eI r.2.L),(vI r.2.f_at)])]:=by
 refine FnM.of_wH ⟨Tryz.prog,12,[],[]⟩ rfl Tryz.func16 rfl rfl (lb_ rfl) (by kernel_rfl) ?_
 unfold mM at hF
 refine aj (aa (vS (⟨#[]⟩:ByteArray)) (af (aj (aa (vL eS l_2) (aa (.ref (aG 0) 0 0) (aa (vL eS l_2) (dx Ka rfl wz ?_)))))))
 obtain ⟨r_3,hr_4,hF⟩:=bind_some hF
 refine gY 0 [0] il ft (kw hr_4) rfl Qw rfl (by kernel_rfl) (by kernel_rfl) (by kernel_rfl) (by kernel_rfl) (by kernel_rfl) (by kernel_rfl) (by kernel_rfl) (by decide) (by kernel_rfl) wz (vI r_3.1) (by kernel_rfl) ([((aG 0),some (.cells 2 [(vL eI r_3.2.L),(vI r_3.2.f_at)]))]:Hp) (by kernel_rfl) ?_
 obtain ⟨y_6,hy_7,hF⟩:=bind_some hF
 refine dW Ao rfl rfl hy_7 rfl wz (bK sz9 ag9 rfl (vS y_6) rfl wz (aa (vS y_6) (af ?_)))
 obtain rfl:=ae hF
 exact aH (zS (.inr rfl) [(vS y_6)] _ [0] [aG 0] ⟨rfl,trivial⟩ (.cons (lH rfl rfl) (.nil)) (by kernel_rfl) ⟨(by kernel_rfl),trivial⟩ (by decide) (by kernel_rfl))
theorem sH {s_1:Stream} {low_2:Int} {high_3:Int} {r:Int×Stream} (hF:ku s_1 low_2 high_3=some r) :
  FnM Tryz.prog 7 [(.ref (aG 0) 0 0),(vI low_2),(vI high_3)] [(.cells 2 [(vL eI s_1.L),(vI s_1.f_at)])] (vI r.1) [some (.cells 2 [(vL eI r.2.L),(vI r.2.f_at)])]:=by
 refine FnM.of_wH ⟨Tryz.prog,19,[],[]⟩ rfl Tryz.func7 rfl rfl (lb_ rfl) (by kernel_rfl) ?_
 unfold ku at hF
 refine aj (aa (vI 0) (af (au (aj (aa (vI high_3) (aa (vI low_2) (aa (vB (decide (high_3<low_2))) (af ?_))))))))
 rcases ak hF with⟨hc_4,hF⟩|⟨hc_4,hF⟩
 ·refine aA rfl hc_4 (aj (aa (vI low_2) (aa (vI low_2) (af ?_))))
  obtain rfl:=ae hF
  exact aH (zS (.inr rfl) [(vI low_2)] _ [0] [aG 0] ⟨rfl,trivial⟩ (.cons (lH rfl rfl) (.nil)) (by kernel_rfl) ⟨(by kernel_rfl),trivial⟩ (by decide) (by kernel_rfl))
 ·refine ay rfl hc_4 (ax (aj (aa (vI low_2) (aa (.ref (aG 0) 0 0) (aa (vI high_3) (aa (vI low_2) (aa (vI (w64 (high_3-low_2))) (aa (vI (w64 ((w64 (high_3-low_2))+1))) ?_))))))))
  obtain ⟨r_5,hr_6,hF⟩:=bind_some hF
  refine gY 0 [0] il ft (kw hr_6) rfl Qw rfl (by kernel_rfl) (by kernel_rfl) (by kernel_rfl) (by kernel_rfl) (by kernel_rfl) (by kernel_rfl) (by kernel_rfl) (by decide) (by kernel_rfl) wz (vI r_5.1) (by kernel_rfl) ([((aG 0),some (.cells 2 [(vL eI r_5.2.L),(vI r_5.2.f_at)]))]:Hp) (by kernel_rfl) (aa (vI (w64 (low_2+r_5.1))) (aa (vI (w64 (low_2+r_5.1))) (af ?_)))
  obtain rfl:=ae hF
  exact aH (zS (.inr rfl) [(vI (w64 (low_2+r_5.1)))] _ [0] [aG 0] ⟨rfl,trivial⟩ (.cons (lH rfl rfl) (.nil)) (by kernel_rfl) ⟨(by kernel_rfl),trivial⟩ (by decide) (by kernel_rfl))
theorem gG {s_1:Stream} {l_2:(List Int)} {r:Int×Stream} (hF:eT s_1 l_2=some r) :
  FnM Tryz.prog 17 [(.ref (aG 0) 0 0),(vL eI l_2)] [(.cells 2 [(vL eI s_1.L),(vI s_1.f_at)])] (vI r.1) [some (.cells 2 [(vL eI r.2.L),(vI r.2.f_at)])]:=by
 refine FnM.of_wH ⟨Tryz.prog,12,[],[]⟩ rfl Tryz.func17 rfl rfl (lb_ rfl) (by kernel_rfl) ?_
 unfold eT at hF
 refine aj (aa (vI 0) (af (aj (aa (vL eI l_2) (aa (.ref (aG 0) 0 0) (aa (vL eI l_2) (dx w9 rfl wz ?_)))))))
 obtain ⟨r_3,hr_4,hF⟩:=bind_some hF
 refine gY 0 [0] il ft (kw hr_4) rfl Qw rfl (by kernel_rfl) (by kernel_rfl) (by kernel_rfl) (by kernel_rfl) (by kernel_rfl) (by kernel_rfl) (by kernel_rfl) (by decide) (by kernel_rfl) wz (vI r_3.1) (by kernel_rfl) ([((aG 0),some (.cells 2 [(vL eI r_3.2.L),(vI r_3.2.f_at)]))]:Hp) (by kernel_rfl) ?_
 obtain ⟨y_6,hy_7,hF⟩:=bind_some hF
 refine dW lC rfl rfl hy_7 rfl wz (bK sz3 ag3 rfl (vI y_6) rfl wz (aa (vI y_6) (af ?_)))
 obtain rfl:=ae hF
 exact aH (zS (.inr rfl) [(vI y_6)] _ [0] [aG 0] ⟨rfl,trivial⟩ (.cons (lH rfl rfl) (.nil)) (by kernel_rfl) ⟨(by kernel_rfl),trivial⟩ (by decide) (by kernel_rfl))
theorem tT {s_1:Stream} {r:(List Entry)×Stream} (hF:iM s_1=some r) :
  FnM Tryz.prog 4 [(.ref (aG 0) 0 0)] [(.cells 2 [(vL eI s_1.L),(vI s_1.f_at)])] (vL Entry.enc r.1) [some (.cells 2 [(vL eI r.2.L),(vI r.2.f_at)])]:=by
 refine FnM.of_wH ⟨Tryz.prog,89,[],[]⟩ rfl Tryz.func4 rfl rfl (lb_ rfl) (by kernel_rfl) ?_
 unfold iM at hF
 refine aj (aa .nil (af (aj (aa .nil (af (au (aj (eQ (([(⟨#[101,97]⟩:ByteArray),(⟨#[101,98]⟩:ByteArray),(⟨#[101,99]⟩:ByteArray),(⟨#[101,100]⟩:ByteArray)]:List ByteArray).map eS) Ao Ov rfl rfl rfl rfl rfl wz (dx Ka rfl wz (aa (vI 0) (af (jH (λn_8 => ?_)))))))))))))
 obtain ⟨o_13,hj_14,hF⟩:=bind_some hF
 obtain ⟨hn_6,hj_14⟩:=bI hj_14
 refine iw (σ:=(List Entry)×(List Int)×Int) (N:=Nm) (λp=>(λ(s_7:(List Entry)×(List Int)×Int) (n_10:Nm)=>([(3,(gV n_10 13 s_7.1))]:SL_)) p.1 p.2) (λp=>(λ(s_7:(List Entry)×(List Int)×Int) (n_10:Nm)=>([((aG 0),some (.cells 2 [(vL eI s_7.2.1),(vI s_7.2.2)])),(n_10,gB 13 Entry.enc s_7.1)]:Hp)) p.1 p.2) (λ(k_2:Nat)=>(λp=>(λ(s_7:(List Entry)×(List Int)×Int) (n_10:Nm)=>([(0,(.ref (aG 0) 0 0)),(3,(gV n_10 13 s_7.1)),(11,(vL eS ([(⟨#[101,97]⟩:ByteArray),(⟨#[101,98]⟩:ByteArray),(⟨#[101,99]⟩:ByteArray),(⟨#[101,100]⟩:ByteArray)]:List ByteArray))),(12,(vI (([(⟨#[101,97]⟩:ByteArray),(⟨#[101,98]⟩:ByteArray),(⟨#[101,99]⟩:ByteArray),(⟨#[101,100]⟩:ByteArray)]:List ByteArray).length:Int))),(13,(vI (k_2:Int)))]:SL_)) p.1 p.2)) (λk x s=>eH k x s) o_13 ([(⟨#[101,97]⟩:ByteArray),(⟨#[101,98]⟩:ByteArray),(⟨#[101,99]⟩:ByteArray),(⟨#[101,100]⟩:ByteArray)]:List ByteArray) ((([]:List Entry),s_1.L,s_1.f_at),n_8) hj_14 rfl (aK rfl) ?_ ?_
 ·rintro ⟨k_2,l_3,s_7,n_10⟩ ⟨hL_12,hD_5⟩
  dsimp only at hL_12 hD_5
  cases l_3 with
  | nil =>
   obtain rfl:=ae hL_12
   refine aj (aa (vB (decide ((k_2:Int)<(([(⟨#[101,97]⟩:ByteArray),(⟨#[101,98]⟩:ByteArray),(⟨#[101,99]⟩:ByteArray),(⟨#[101,100]⟩:ByteArray)]:List ByteArray).length:Int)))) (af ?_))
   refine au (ay rfl (drop_nil hD_5) (aX ?_))
   exact aV (s_7,n_10) rfl rfl (aK rfl)
  | cons x_4 l_3 =>
   obtain ⟨c_,hc_11,hL_12⟩:=bind_some hL_12
   refine aj (aa (vB (decide ((k_2:Int)<(([(⟨#[101,97]⟩:ByteArray),(⟨#[101,98]⟩:ByteArray),(⟨#[101,99]⟩:ByteArray),(⟨#[101,100]⟩:ByteArray)]:List ByteArray).length:Int)))) (af ?_))
   refine au (aA rfl (bO hD_5) (ax ?_))
   unfold eH at hc_11
   refine au (aQ (aj (dW Ao rfl rfl (bU hD_5) rfl wz (bK sz9 ag9 rfl (vS x_4) rfl wz (aa (vS x_4) (af (au (aj (aa (.ref (aG 0) 0 0) ?_)))))))))
   obtain ⟨r_15,hr_16,hc_11⟩:=bind_some hc_11
   refine gY 0 [0] il ft (mo hr_16) rfl hb15 rfl (by kernel_rfl) (by kernel_rfl) (by kernel_rfl) (by kernel_rfl) (by kernel_rfl) (by kernel_rfl) (by kernel_rfl) (by decide) (by kernel_rfl) wz (vB r_15.1) (by kernel_rfl) ([((aG 0),some (.cells 2 [(vL eI r_15.2.L),(vI r_15.2.f_at)])),(n_10,gB 13 Entry.enc s_7.1)]:Hp) (by kernel_rfl) (af ?_)
   rcases ak hc_11 with⟨hc_18,hc_11⟩|⟨hc_18,hc_11⟩
   ·refine aA rfl hc_18 (aX (av (fQ (bN hD_5 hn_6) wz rfl (aa (vI ((k_2+1:Nat):Int)) (af ?_)))))
    obtain rfl:=ae hc_11
    exact aY (k_2+1,l_3,(s_7.1,r_15.2.L,r_15.2.f_at),n_10) ⟨hL_12,aW hD_5⟩ (ls_ _) rfl (aK rfl)
   ·refine ay rfl hc_18 (ax (aj (aa (vS x_4) (aa (.ref (aG 0) 0 0) (eQ (([(⟨#[105,97]⟩:ByteArray),(⟨#[105,98]⟩:ByteArray),(⟨#[105,99]⟩:ByteArray)]:List ByteArray).map eS) Ao Ov rfl rfl rfl rfl rfl wz ?_)))))
    obtain ⟨r_19,hr_20,hc_11⟩:=bind_some hc_11
    refine gY 0 [0] il ft (AA hr_20) rfl hb16 rfl (by kernel_rfl) (by kernel_rfl) (by kernel_rfl) (by kernel_rfl) (by kernel_rfl) (by kernel_rfl) (by kernel_rfl) (by decide) (by kernel_rfl) wz (vS r_19.1) (by kernel_rfl) ([((aG 0),some (.cells 2 [(vL eI r_19.2.L),(vI r_19.2.f_at)])),(n_10,gB 13 Entry.enc s_7.1)]:Hp) (by kernel_rfl) (aa (.ref (aG 0) 0 0) ?_)
    obtain ⟨r_22,hr_23,hc_11⟩:=bind_some hc_11
    refine gY 0 [0] il ft (sH hr_23) rfl hb7 rfl (by kernel_rfl) (by kernel_rfl) (by kernel_rfl) (by kernel_rfl) (by kernel_rfl) (by kernel_rfl) (by kernel_rfl) (by decide) (by kernel_rfl) wz (vI r_22.1) (by kernel_rfl) ([((aG 0),some (.cells 2 [(vL eI r_22.2.L),(vI r_22.2.f_at)])),(n_10,gB 13 Entry.enc s_7.1)]:Hp) (by kernel_rfl) (aa (.ref (aG 0) 0 0) (eQ (([0,0,1,3]:List Int).map eI) lC wJ rfl rfl rfl rfl rfl wz ?_))
    obtain ⟨r_25,hr_26,hc_11⟩:=bind_some hc_11
    refine gY 0 [0] il ft (gG hr_26) rfl Ku rfl (by kernel_rfl) (by kernel_rfl) (by kernel_rfl) (by kernel_rfl) (by kernel_rfl) (by kernel_rfl) (by kernel_rfl) (by decide) (by kernel_rfl) wz (vI r_25.1) (by kernel_rfl) ([((aG 0),some (.cells 2 [(vL eI r_25.2.L),(vI r_25.2.f_at)])),(n_10,gB 13 Entry.enc s_7.1)]:Hp) (by kernel_rfl) (aa (.ref (aG 0) 0 0) (eQ (([1,1,2,3,7]:List Int).map eI) lC wJ rfl rfl rfl rfl rfl wz ?_))
    obtain ⟨r_28,hr_29,hc_11⟩:=bind_some hc_11
    refine gY 0 [0] il ft (gG hr_29) rfl Ku rfl (by kernel_rfl) (by kernel_rfl) (by kernel_rfl) (by kernel_rfl) (by kernel_rfl) (by kernel_rfl) (by kernel_rfl) (by decide) (by kernel_rfl) wz (vI r_28.1) (by kernel_rfl) ([((aG 0),some (.cells 2 [(vL eI r_28.2.L),(vI r_28.2.f_at)])),(n_10,gB 13 Entry.enc s_7.1)]:Hp) (by kernel_rfl) (aa (.ref (aG 0) 0 0) (eQ (([127,127,31,96,1,2]:List Int).map eI) lC wJ rfl rfl rfl rfl rfl wz ?_))
    obtain ⟨r_31,hr_32,hc_11⟩:=bind_some hc_11
    refine gY 0 [0] il ft (gG hr_32) rfl Ku rfl (by kernel_rfl) (by kernel_rfl) (by kernel_rfl) (by kernel_rfl) (by kernel_rfl) (by kernel_rfl) (by kernel_rfl) (by decide) (by kernel_rfl) wz (vI r_31.1) (by kernel_rfl) ([((aG 0),some (.cells 2 [(vL eI r_31.2.L),(vI r_31.2.f_at)])),(n_10,gB 13 Entry.enc s_7.1)]:Hp) (by kernel_rfl) (aa (.ref (aG 0) 0 0) (eQ (([0,0,60,600,1380]:List Int).map eI) lC wJ rfl rfl rfl rfl rfl wz ?_))
    obtain ⟨r_34,hr_35,hc_11⟩:=bind_some hc_11
    refine gY 0 [0] il ft (gG hr_35) rfl Ku rfl (by kernel_rfl) (by kernel_rfl) (by kernel_rfl) (by kernel_rfl) (by kernel_rfl) (by kernel_rfl) (by kernel_rfl) (by decide) (by kernel_rfl) wz (vI r_34.1) (by kernel_rfl) ([((aG 0),some (.cells 2 [(vL eI r_34.2.L),(vI r_34.2.f_at)])),(n_10,gB 13 Entry.enc s_7.1)]:Hp) (by kernel_rfl) (aa (.ref (aG 0) 0 0) (eQ (([0,60,120,600,720,1439]:List Int).map eI) lC wJ rfl rfl rfl rfl rfl wz ?_))
    obtain ⟨r_37,hr_38,hc_11⟩:=bind_some hc_11
    refine gY 0 [0] il ft (gG hr_38) rfl Ku rfl (by kernel_rfl) (by kernel_rfl) (by kernel_rfl) (by kernel_rfl) (by kernel_rfl) (by kernel_rfl) (by kernel_rfl) (by decide) (by kernel_rfl) wz (vI r_37.1) (by kernel_rfl) ([((aG 0),some (.cells 2 [(vL eI r_37.2.L),(vI r_37.2.f_at)])),(n_10,gB 13 Entry.enc s_7.1)]:Hp) (by kernel_rfl) (aa (.ref (aG 0) 0 0) (eQ (([0,0,1,5]:List Int).map eI) lC wJ rfl rfl rfl rfl rfl wz ?_))
    obtain ⟨r_40,hr_41,hc_11⟩:=bind_some hc_11
    refine gY 0 [0] il ft (gG hr_41) rfl Ku rfl (by kernel_rfl) (by kernel_rfl) (by kernel_rfl) (by kernel_rfl) (by kernel_rfl) (by kernel_rfl) (by kernel_rfl) (by decide) (by kernel_rfl) wz (vI r_40.1) (by kernel_rfl) ([((aG 0),some (.cells 2 [(vL eI r_40.2.L),(vI r_40.2.f_at)])),(n_10,gB 13 Entry.enc s_7.1)]:Hp) (by kernel_rfl) (aa (.ref (aG 0) 0 0) ?_)
    obtain ⟨r_43,hr_44,hc_11⟩:=bind_some hc_11
    refine gY 0 [0] il ft (mo hr_44) rfl hb15 rfl (by kernel_rfl) (by kernel_rfl) (by kernel_rfl) (by kernel_rfl) (by kernel_rfl) (by kernel_rfl) (by kernel_rfl) (by decide) (by kernel_rfl) wz (vB r_43.1) (by kernel_rfl) ([((aG 0),some (.cells 2 [(vL eI r_43.2.L),(vI r_43.2.f_at)])),(n_10,gB 13 Entry.enc s_7.1)]:Hp) (by kernel_rfl) (aM (.agg [(vS x_4),(vS r_19.1),(vI r_22.1),(vI r_25.1),(vI 0),(vI r_28.1),(vI r_31.1),.nil,(vI r_34.1),(vI r_37.1),(vI r_40.1),.nil,(vB r_43.1)]) wz (by kernel_rfl) (dC 0 (.inl rfl) z67 rfl wz (λn_46=>fA 0 il ft 2 zh rfl rfl [(vS x_4),(vS r_19.1),(vI r_22.1),(vI r_25.1),(vI 0),(vI r_28.1),(vI r_31.1),.nil,(vI r_34.1),(vI r_37.1),(vI r_40.1),.nil,(vB r_43.1)] rfl wz (af (aO (H0:=([((aG 0),some (.cells 2 [(vL eI r_43.2.L),(vI r_43.2.f_at)])),(n_10,gB 13 Entry.enc s_7.1),(n_46,some (.cells 13 [(vS x_4),(vS r_19.1),(vI r_22.1),(vI r_25.1),(vI 0),(vI r_28.1),(vI r_31.1),.nil,(vI r_34.1),(vI r_37.1),(vI r_40.1),.nil,(vB r_43.1)]))]:Hp)) ([(0,(.ref (aG 0) 0 0)),(3,(gV n_10 13 s_7.1)),(6,(.ref n_46 0 0)),(11,(vL eS ([(⟨#[101,97]⟩:ByteArray),(⟨#[101,98]⟩:ByteArray),(⟨#[101,99]⟩:ByteArray),(⟨#[101,100]⟩:ByteArray)]:List ByteArray))),(12,(vI (([(⟨#[101,97]⟩:ByteArray),(⟨#[101,98]⟩:ByteArray),(⟨#[101,99]⟩:ByteArray),(⟨#[101,100]⟩:ByteArray)]:List ByteArray).length:Int))),(13,(vI (k_2:Int)))]:SL_) (by kernel_rfl) (xm (by kernel_rfl)) (au (bE (aJ Cw rfl 3 rfl wz (aB 1 2 (.inr (by kernel_rfl)) (λ_ _ ag=>trivial) sz3 ag3 rfl rfl (vI r_25.1) rfl wz (aa (.ref (aG 0) 0 0) (eQ (([0,1,5,10,30]:List Int).map eI) lC wJ rfl rfl rfl rfl rfl wz ?_)))))))))))
    obtain ⟨r_47,hr_48,hc_11⟩:=bind_some hc_11
    refine gY 4 [0] (.inr (by kernel_rfl)) (λ_ _ ag=>by exact⟨.inr (.inl (Q5 (KJ ag (i:=0) (j:=2) rfl rfl (by decide)))),trivial⟩) (gG hr_48) rfl Ku rfl (by kernel_rfl) (by kernel_rfl) (by kernel_rfl) (by kernel_rfl) (by kernel_rfl) (by kernel_rfl) (by kernel_rfl) (by decide) (by kernel_rfl) wz (vI r_47.1) (by kernel_rfl) ([((aG 0),some (.cells 2 [(vL eI r_47.2.L),(vI r_47.2.f_at)])),(n_10,gB 13 Entry.enc s_7.1),(n_46,some (.cells 13 [(vS x_4),(vS r_19.1),(vI r_22.1),(vI r_25.1),(vI 0),(vI r_28.1),(vI r_31.1),.nil,(vI r_34.1),(vI r_37.1),(vI r_40.1),.nil,(vB r_43.1)]))]:Hp) (by kernel_rfl) (aa (vI (w64 (r_25.1+r_47.1))) (aJ Ce rfl 4 rfl wz (fA 7 (.inr (by kernel_rfl)) (λ_ _ ag=>⟨.inr (.inr (by kernel_rfl)),⟨.inr (.inr (by kernel_rfl)),trivial⟩⟩) 2 sz3 rfl rfl [(vS x_4),(vS r_19.1),(vI r_22.1),(vI r_25.1),(vI (w64 (r_25.1+r_47.1))),(vI r_28.1),(vI r_31.1),.nil,(vI r_34.1),(vI r_37.1),(vI r_40.1),.nil,(vB r_43.1)] rfl wz (af (au (aj (eQ (([1,2,8]:List Int).map eI) lC wJ rfl rfl rfl rfl rfl wz (dx w9 rfl wz (aa (vI 0) (af (jH (λn_56 => ?_))))))))))))
    obtain ⟨o_61,hj_62,hc_11⟩:=bind_some hc_11
    obtain ⟨hn_54,hj_62⟩:=bI hj_62
    refine iw (σ:=(List Int)×(List Int)×Int) (N:=Nm) (λp=>(λ(s_55:(List Int)×(List Int)×Int) (n_58:Nm)=>([(0,(.ref (aG 0) 0 0)),(3,(gV n_10 13 s_7.1)),(6,(.ref n_46 0 0)),(11,(vL eS ([(⟨#[101,97]⟩:ByteArray),(⟨#[101,98]⟩:ByteArray),(⟨#[101,99]⟩:ByteArray),(⟨#[101,100]⟩:ByteArray)]:List ByteArray))),(12,(vI (([(⟨#[101,97]⟩:ByteArray),(⟨#[101,98]⟩:ByteArray),(⟨#[101,99]⟩:ByteArray),(⟨#[101,100]⟩:ByteArray)]:List ByteArray).length:Int))),(13,(vI (k_2:Int)))]:SL_)) p.1 p.2) (λp=>(λ(s_55:(List Int)×(List Int)×Int) (n_58:Nm)=>([((aG 0),some (.cells 2 [(vL eI s_55.2.1),(vI s_55.2.2)])),(n_10,gB 13 Entry.enc s_7.1),(n_46,some (.cells 13 [(vS x_4),(vS r_19.1),(vI r_22.1),(vI r_25.1),(vI (w64 (r_25.1+r_47.1))),(vI r_28.1),(vI r_31.1),(gV n_58 1 s_55.1),(vI r_34.1),(vI r_37.1),(vI r_40.1),.nil,(vB r_43.1)])),(n_58,gB 1 eI s_55.1)]:Hp)) p.1 p.2) (λ(k_50:Nat)=>(λp=>(λ(s_55:(List Int)×(List Int)×Int) (n_58:Nm)=>([(0,(.ref (aG 0) 0 0)),(3,(gV n_10 13 s_7.1)),(6,(.ref n_46 0 0)),(11,(vL eS ([(⟨#[101,97]⟩:ByteArray),(⟨#[101,98]⟩:ByteArray),(⟨#[101,99]⟩:ByteArray),(⟨#[101,100]⟩:ByteArray)]:List ByteArray))),(12,(vI (([(⟨#[101,97]⟩:ByteArray),(⟨#[101,98]⟩:ByteArray),(⟨#[101,99]⟩:ByteArray),(⟨#[101,100]⟩:ByteArray)]:List ByteArray).length:Int))),(13,(vI (k_2:Int))),(53,(vL eI ([1,2,8]:List Int))),(54,(vI (([1,2,8]:List Int).length:Int))),(55,(vI (k_50:Int)))]:SL_)) p.1 p.2)) (λk x s=>iX k x s) o_61 ([1,2,8]:List Int) ((([]:List Int),r_47.2.L,r_47.2.f_at),n_56) hj_62 rfl (aK rfl) ?_ ?_
    ·rintro ⟨k_50,l_51,s_55,n_58⟩ ⟨hL_60,hD_53⟩
     dsimp only at hL_60 hD_53
     cases l_51 with
     | nil =>
      obtain rfl:=ae hL_60
      refine aj (aa (vB (decide ((k_50:Int)<(([1,2,8]:List Int).length:Int)))) (af ?_))
      refine au (ay rfl (drop_nil hD_53) (aX ?_))
      exact aV (s_55,n_58) rfl rfl (aK rfl)
     | cons x_52 l_51 =>
      obtain ⟨c_,hc_59,hL_60⟩:=bind_some hL_60
      refine aj (aa (vB (decide ((k_50:Int)<(([1,2,8]:List Int).length:Int)))) (af ?_))
      refine au (aA rfl (bO hD_53) (ax ?_))
      unfold iX at hc_59
      refine au (aQ (aj (dW lC rfl rfl (bU hD_53) rfl wz (bK sz3 ag3 rfl (vI x_52) rfl wz (aa (vI x_52) (af (aj (aa (.ref (aG 0) 0 0) ?_))))))))
      obtain ⟨r_63,hr_64,hc_59⟩:=bind_some hc_59
      refine gY 0 [0] il ft (mo hr_64) rfl hb15 rfl (by kernel_rfl) (by kernel_rfl) (by kernel_rfl) (by kernel_rfl) (by kernel_rfl) (by kernel_rfl) (by kernel_rfl) (by decide) (by kernel_rfl) wz (vB r_63.1) (by kernel_rfl) ([((aG 0),some (.cells 2 [(vL eI r_63.2.L),(vI r_63.2.f_at)])),(n_10,gB 13 Entry.enc s_7.1),(n_46,some (.cells 13 [(vS x_4),(vS r_19.1),(vI r_22.1),(vI r_25.1),(vI (w64 (r_25.1+r_47.1))),(vI r_28.1),(vI r_31.1),(gV n_58 1 s_55.1),(vI r_34.1),(vI r_37.1),(vI r_40.1),.nil,(vB r_43.1)])),(n_58,gB 1 eI s_55.1)]:Hp) (by kernel_rfl) (af ?_)
      obtain ⟨v_66,h_67,hc_59⟩:=bind_some hc_59
      refine jA (β:=Nm) (λ(n_68:Nm)=>([(0,(.ref (aG 0) 0 0)),(3,(gV n_10 13 s_7.1)),(6,(.ref n_46 0 0)),(11,(vL eS ([(⟨#[101,97]⟩:ByteArray),(⟨#[101,98]⟩:ByteArray),(⟨#[101,99]⟩:ByteArray),(⟨#[101,100]⟩:ByteArray)]:List ByteArray))),(12,(vI (([(⟨#[101,97]⟩:ByteArray),(⟨#[101,98]⟩:ByteArray),(⟨#[101,99]⟩:ByteArray),(⟨#[101,100]⟩:ByteArray)]:List ByteArray).length:Int))),(13,(vI (k_2:Int))),(53,(vL eI ([1,2,8]:List Int))),(54,(vI (([1,2,8]:List Int).length:Int))),(55,(vI (k_50:Int)))]:SL_)) (λ(n_68:Nm)=>([((aG 0),some (.cells 2 [(vL eI r_63.2.L),(vI r_63.2.f_at)])),(n_10,gB 13 Entry.enc s_7.1),(n_46,some (.cells 13 [(vS x_4),(vS r_19.1),(vI r_22.1),(vI r_25.1),(vI (w64 (r_25.1+r_47.1))),(vI r_28.1),(vI r_31.1),(gV n_68 1 v_66),(vI r_34.1),(vI r_37.1),(vI r_40.1),.nil,(vB r_43.1)])),(n_68,gB 1 eI v_66)]:Hp)) (λ_=>True) ?_ ?_
      ·rcases ak h_67 with⟨hc_69,h_67⟩|⟨hc_69,h_67⟩
       ·refine aA rfl hc_69 (av (aJ Jn rfl 7 rfl wz (aB 0 2 il ft Aa CK rfl rfl (gV n_58 1 s_55.1) rfl wz (aa (vI x_52) (eQ (([x_52]:List Int).map eI) lC wJ rfl rfl rfl rfl rfl wz ?_)))))
        obtain ⟨a_70,hz_71,h_67⟩:=bind_some h_67
        refine jh 0 il ft (i:=3) Cc Cc sz3 z3 rfl (by decide) by3 (by decide) (λ_=>rfl) rfl rfl rfl hz_71 wz (λn_72=>aJ Jn rfl 7 rfl wz (fA 0 il ft 2 Aa rfl rfl [(vS x_4),(vS r_19.1),(vI r_22.1),(vI r_25.1),(vI (w64 (r_25.1+r_47.1))),(vI r_28.1),(vI r_31.1),(gV n_72 1 a_70),(vI r_34.1),(vI r_37.1),(vI r_40.1),.nil,(vB r_43.1)] (stC_g rfl) wz (af ?_)))
        obtain rfl:=ae h_67
        exact aV n_72 trivial rfl (aK rfl)
       ·refine ay rfl hc_69 (ax ?_)
        obtain rfl:=ae h_67
        exact aV n_58 trivial rfl (aK rfl)
      ·rintro n_68 _ sl_ H_ hp_ hq_
       refine aO _ hp_ hq_ (av (fQ (bN hD_53 hn_54) wz rfl (aa (vI ((k_50+1:Nat):Int)) (af ?_))))
       obtain rfl:=ae hc_59
       exact aY (k_50+1,l_51,(v_66,r_63.2.L,r_63.2.f_at),n_68) ⟨hL_60,aW hD_53⟩ (ls_ _) rfl (aK rfl)
    ·rintro ⟨s_55,n_58⟩ ho_ sl_ H_ hp_ hq_
     subst ho_
     refine aO _ hp_ hq_ (au (aj (eQ (([(⟨#[99,105,116,121]⟩:ByteArray),(⟨#[109,97,108,108]⟩:ByteArray)]:List ByteArray).map eS) Ao Ov rfl rfl rfl rfl rfl wz (dx Ka rfl wz (aa (vI 0) (af (jH (λn_79 => ?_))))))))
     obtain ⟨o_84,hj_85,hc_11⟩:=bind_some hc_11
     obtain ⟨hn_77,hj_85⟩:=bI hj_85
     refine iw (σ:=(List ByteArray)×(List Int)×Int) (N:=Nm) (λp=>(λ(s_78:(List ByteArray)×(List Int)×Int) (n_81:Nm)=>([(0,(.ref (aG 0) 0 0)),(3,(gV n_10 13 s_7.1)),(6,(.ref n_46 0 0)),(11,(vL eS ([(⟨#[101,97]⟩:ByteArray),(⟨#[101,98]⟩:ByteArray),(⟨#[101,99]⟩:ByteArray),(⟨#[101,100]⟩:ByteArray)]:List ByteArray))),(12,(vI (([(⟨#[101,97]⟩:ByteArray),(⟨#[101,98]⟩:ByteArray),(⟨#[101,99]⟩:ByteArray),(⟨#[101,100]⟩:ByteArray)]:List ByteArray).length:Int))),(13,(vI (k_2:Int)))]:SL_)) p.1 p.2) (λp=>(λ(s_78:(List ByteArray)×(List Int)×Int) (n_81:Nm)=>([((aG 0),some (.cells 2 [(vL eI s_78.2.1),(vI s_78.2.2)])),(n_10,gB 13 Entry.enc s_7.1),(n_46,some (.cells 13 [(vS x_4),(vS r_19.1),(vI r_22.1),(vI r_25.1),(vI (w64 (r_25.1+r_47.1))),(vI r_28.1),(vI r_31.1),(gV n_58 1 s_55.1),(vI r_34.1),(vI r_37.1),(vI r_40.1),(gV n_81 1 s_78.1),(vB r_43.1)])),(n_58,gB 1 eI s_55.1),(n_81,gB 1 eS s_78.1)]:Hp)) p.1 p.2) (λ(k_73:Nat)=>(λp=>(λ(s_78:(List ByteArray)×(List Int)×Int) (n_81:Nm)=>([(0,(.ref (aG 0) 0 0)),(3,(gV n_10 13 s_7.1)),(6,(.ref n_46 0 0)),(11,(vL eS ([(⟨#[101,97]⟩:ByteArray),(⟨#[101,98]⟩:ByteArray),(⟨#[101,99]⟩:ByteArray),(⟨#[101,100]⟩:ByteArray)]:List ByteArray))),(12,(vI (([(⟨#[101,97]⟩:ByteArray),(⟨#[101,98]⟩:ByteArray),(⟨#[101,99]⟩:ByteArray),(⟨#[101,100]⟩:ByteArray)]:List ByteArray).length:Int))),(13,(vI (k_2:Int))),(68,(vL eS ([(⟨#[99,105,116,121]⟩:ByteArray),(⟨#[109,97,108,108]⟩:ByteArray)]:List ByteArray))),(69,(vI (([(⟨#[99,105,116,121]⟩:ByteArray),(⟨#[109,97,108,108]⟩:ByteArray)]:List ByteArray).length:Int))),(70,(vI (k_73:Int)))]:SL_)) p.1 p.2)) (λk x s=>iY k x s) o_84 ([(⟨#[99,105,116,121]⟩:ByteArray),(⟨#[109,97,108,108]⟩:ByteArray)]:List ByteArray) ((([]:List ByteArray),s_55.2.1,s_55.2.2),n_79) hj_85 rfl (aK rfl) ?_ ?_
     ·rintro ⟨k_73,l_74,s_78,n_81⟩ ⟨hL_83,hD_76⟩
      dsimp only at hL_83 hD_76
      cases l_74 with
      | nil =>
       obtain rfl:=ae hL_83
       refine aj (aa (vB (decide ((k_73:Int)<(([(⟨#[99,105,116,121]⟩:ByteArray),(⟨#[109,97,108,108]⟩:ByteArray)]:List ByteArray).length:Int)))) (af ?_))
       refine au (ay rfl (drop_nil hD_76) (aX ?_))
       exact aV (s_78,n_81) rfl rfl (aK rfl)
      | cons x_75 l_74 =>
       obtain ⟨c_,hc_82,hL_83⟩:=bind_some hL_83
       refine aj (aa (vB (decide ((k_73:Int)<(([(⟨#[99,105,116,121]⟩:ByteArray),(⟨#[109,97,108,108]⟩:ByteArray)]:List ByteArray).length:Int)))) (af ?_))
       refine au (aA rfl (bO hD_76) (ax ?_))
       unfold iY at hc_82
       refine au (aQ (aj (dW Ao rfl rfl (bU hD_76) rfl wz (bK sz9 ag9 rfl (vS x_75) rfl wz (aa (vS x_75) (af (aj (aa (.ref (aG 0) 0 0) ?_))))))))
       obtain ⟨r_86,hr_87,hc_82⟩:=bind_some hc_82
       refine gY 0 [0] il ft (mo hr_87) rfl hb15 rfl (by kernel_rfl) (by kernel_rfl) (by kernel_rfl) (by kernel_rfl) (by kernel_rfl) (by kernel_rfl) (by kernel_rfl) (by decide) (by kernel_rfl) wz (vB r_86.1) (by kernel_rfl) ([((aG 0),some (.cells 2 [(vL eI r_86.2.L),(vI r_86.2.f_at)])),(n_10,gB 13 Entry.enc s_7.1),(n_46,some (.cells 13 [(vS x_4),(vS r_19.1),(vI r_22.1),(vI r_25.1),(vI (w64 (r_25.1+r_47.1))),(vI r_28.1),(vI r_31.1),(gV n_58 1 s_55.1),(vI r_34.1),(vI r_37.1),(vI r_40.1),(gV n_81 1 s_78.1),(vB r_43.1)])),(n_58,gB 1 eI s_55.1),(n_81,gB 1 eS s_78.1)]:Hp) (by kernel_rfl) (af ?_)
       obtain ⟨v_89,h_90,hc_82⟩:=bind_some hc_82
       refine jA (β:=Nm) (λ(n_91:Nm)=>([(0,(.ref (aG 0) 0 0)),(3,(gV n_10 13 s_7.1)),(6,(.ref n_46 0 0)),(11,(vL eS ([(⟨#[101,97]⟩:ByteArray),(⟨#[101,98]⟩:ByteArray),(⟨#[101,99]⟩:ByteArray),(⟨#[101,100]⟩:ByteArray)]:List ByteArray))),(12,(vI (([(⟨#[101,97]⟩:ByteArray),(⟨#[101,98]⟩:ByteArray),(⟨#[101,99]⟩:ByteArray),(⟨#[101,100]⟩:ByteArray)]:List ByteArray).length:Int))),(13,(vI (k_2:Int))),(68,(vL eS ([(⟨#[99,105,116,121]⟩:ByteArray),(⟨#[109,97,108,108]⟩:ByteArray)]:List ByteArray))),(69,(vI (([(⟨#[99,105,116,121]⟩:ByteArray),(⟨#[109,97,108,108]⟩:ByteArray)]:List ByteArray).length:Int))),(70,(vI (k_73:Int)))]:SL_)) (λ(n_91:Nm)=>([((aG 0),some (.cells 2 [(vL eI r_86.2.L),(vI r_86.2.f_at)])),(n_10,gB 13 Entry.enc s_7.1),(n_46,some (.cells 13 [(vS x_4),(vS r_19.1),(vI r_22.1),(vI r_25.1),(vI (w64 (r_25.1+r_47.1))),(vI r_28.1),(vI r_31.1),(gV n_58 1 s_55.1),(vI r_34.1),(vI r_37.1),(vI r_40.1),(gV n_91 1 v_89),(vB r_43.1)])),(n_58,gB 1 eI s_55.1),(n_91,gB 1 eS v_89)]:Hp)) (λ_=>True) ?_ ?_
       ·rcases ak h_90 with⟨hc_92,h_90⟩|⟨hc_92,h_90⟩
        ·refine aA rfl hc_92 (av (aJ Ed rfl 11 rfl wz (aB 0 2 il ft K5 L9 rfl rfl (gV n_81 1 s_78.1) rfl wz (aa (vS x_75) (eQ (([x_75]:List ByteArray).map eS) Ao Ov rfl rfl rfl rfl rfl wz ?_)))))
         obtain ⟨a_93,hz_94,h_90⟩:=bind_some h_90
         refine jh 0 il ft (i:=4) el28 el28 sz9 z9 rfl (by decide) by9 (by decide) (λ_=>rfl) rfl rfl rfl hz_94 wz (λn_95=>aJ Ed rfl 11 rfl wz (fA 0 il ft 2 K5 rfl rfl [(vS x_4),(vS r_19.1),(vI r_22.1),(vI r_25.1),(vI (w64 (r_25.1+r_47.1))),(vI r_28.1),(vI r_31.1),(gV n_58 1 s_55.1),(vI r_34.1),(vI r_37.1),(vI r_40.1),(gV n_95 1 a_93),(vB r_43.1)] (stC_g rfl) wz (af ?_)))
         obtain rfl:=ae h_90
         exact aV n_95 trivial rfl (aK rfl)
        ·refine ay rfl hc_92 (ax ?_)
         obtain rfl:=ae h_90
         exact aV n_81 trivial rfl (aK rfl)
       ·rintro n_91 _ sl_ H_ hp_ hq_
        refine aO _ hp_ hq_ (av (fQ (bN hD_76 hn_77) wz rfl (aa (vI ((k_73+1:Nat):Int)) (af ?_))))
        obtain rfl:=ae hc_82
        exact aY (k_73+1,l_74,(v_89,r_86.2.L,r_86.2.f_at),n_91) ⟨hL_83,aW hD_76⟩ (ls_ _) rfl (aK rfl)
     ·rintro ⟨s_78,n_81⟩ ho_ sl_ H_ hp_ hq_
      subst ho_
      refine aO _ hp_ hq_ (fB 3 rfl (fB 4 rfl (wH_coc2 3 4 2 [(vS x_4),(vS r_19.1),(vI r_22.1),(vI r_25.1),(vI (w64 (r_25.1+r_47.1))),(vI r_28.1),(vI r_31.1),(vL eI s_55.1),(vI r_34.1),(vI r_37.1),(vI r_40.1),(vL eS s_78.1),(vB r_43.1)] rfl rfl rfl (λS hS hS2=>nJ (rfl) (nJ (rfl) (nJ (rfl) (nJ (rfl) (nJ (rfl) (nJ (rfl) (nJ (rfl) (nJ (hS) (nJ (rfl) (nJ (rfl) (nJ (rfl) (nJ (hS2) (nJ (rfl) (rfl)))))))))))))) (av (aa (gV n_10 13 s_7.1) (aB 0 2 il ft zh CR rfl rfl (.d (.agg (Entry.enc (⟨x_4,r_19.1,r_22.1,r_25.1,(w64 (r_25.1+r_47.1)),r_28.1,r_31.1,s_55.1,r_34.1,r_37.1,r_40.1,s_78.1,r_43.1⟩:Entry)))) rfl wz (eQ (([(⟨x_4,r_19.1,r_22.1,r_25.1,(w64 (r_25.1+r_47.1)),r_28.1,r_31.1,s_55.1,r_34.1,r_37.1,r_40.1,s_78.1,r_43.1⟩:Entry)]:List Entry).map Entry.enc) GK ez26 rfl rfl rfl rfl rfl wz ?_)))))))
      obtain ⟨a_96,hz_97,hc_11⟩:=bind_some hc_11
      refine jh 0 il ft (i:=1) el26 el26 zh z67 rfl (by decide) by67 (by decide) (λ_=>rfl) rfl rfl rfl hz_97 wz (λn_98=>aa (gV n_98 13 a_96) (af (av (fQ (bN hD_5 hn_6) wz rfl (aa (vI ((k_2+1:Nat):Int)) (af ?_))))))
      obtain rfl:=ae hc_11
      exact aY (k_2+1,l_3,(a_96,s_78.2.1,s_78.2.2),n_98) ⟨hL_12,aW hD_5⟩ (ls_ _) rfl (aK rfl)
 ·rintro ⟨s_7,n_10⟩ ho_ sl_ H_ hp_ hq_
  subst ho_
  refine aO _ hp_ hq_ (aj (aa (gV n_10 13 s_7.1) (aa (gV n_10 13 s_7.1) (af (fB 1 rfl (bX 2 1 rfl rfl (bX 3 1 rfl rfl (bX 88 1 rfl rfl ?_))))))))
  obtain rfl:=ae hF
  exact aH (zS (.inr rfl) [(vL Entry.enc s_7.1)] _ [0] [aG 0] ⟨rfl,trivial⟩ (.cons (lH rfl rfl) (.nil)) (by kernel_rfl) ⟨(by kernel_rfl),trivial⟩ (by decide) (by kernel_rfl))
theorem uN {s_1:Stream} {r:Player×Stream} (hF:ja s_1=some r) :
  FnM Tryz.prog 5 [(.ref (aG 0) 0 0)] [(.cells 2 [(vL eI s_1.L),(vI s_1.f_at)])] (.d (.agg (Player.enc r.1))) [some (.cells 2 [(vL eI r.2.L),(vI r.2.f_at)])]:=by
 refine FnM.of_wH ⟨Tryz.prog,14,[],[]⟩ rfl Tryz.func5 rfl rfl (lb_ rfl) (by kernel_rfl) ?_
 unfold ja at hF
 refine aj (dC 0 (.inl rfl) z30 rfl wz (λn_2=>af (aj (aa (.ref (aG 0) 0 0) (eQ (([0,0,60,(-90),1440]:List Int).map eI) lC wJ rfl rfl rfl rfl rfl wz ?_)))))
 obtain ⟨r_3,hr_4,hF⟩:=bind_some hF
 refine gY 0 [0] il ft (gG hr_4) rfl Ku rfl (by kernel_rfl) (by kernel_rfl) (by kernel_rfl) (by kernel_rfl) (by kernel_rfl) (by kernel_rfl) (by kernel_rfl) (by decide) (by kernel_rfl) wz (vI r_3.1) (by kernel_rfl) ([((aG 0),some (.cells 2 [(vL eI r_3.2.L),(vI r_3.2.f_at)])),(n_2,some (.cells 4 [(vS (⟨#[]⟩:ByteArray)),(vS (⟨#[]⟩:ByteArray)),(vI 0),.nil]))]:Hp) (by kernel_rfl) (eQ (([(⟨#[99,105,116,121]⟩:ByteArray)]:List ByteArray).map eS) Ao Ov rfl rfl rfl rfl rfl wz (eQ (([(⟨#[99,105,116,121]⟩:ByteArray),(⟨#[109,97,108,108]⟩:ByteArray)]:List ByteArray).map eS) Ao Ov rfl rfl rfl rfl rfl wz (eQ (([([]:List ByteArray),([(⟨#[99,105,116,121]⟩:ByteArray)]:List ByteArray),([(⟨#[99,105,116,121]⟩:ByteArray),(⟨#[109,97,108,108]⟩:ByteArray)]:List ByteArray)]:List (List ByteArray)).map (eL eS)) es68 ez68 rfl rfl rfl rfl rfl wz (aa (.ref (aG 0) 0 0) ?_))))
 obtain ⟨r_6,hr_7,hF⟩:=bind_some hF
 refine gY 0 [0] il ft (kw hr_7) rfl Qw rfl (by kernel_rfl) (by kernel_rfl) (by kernel_rfl) (by kernel_rfl) (by kernel_rfl) (by kernel_rfl) (by kernel_rfl) (by decide) (by kernel_rfl) wz (vI r_6.1) (by kernel_rfl) ([((aG 0),some (.cells 2 [(vL eI r_6.2.L),(vI r_6.2.f_at)])),(n_2,some (.cells 4 [(vS (⟨#[]⟩:ByteArray)),(vS (⟨#[]⟩:ByteArray)),(vI 0),.nil]))]:Hp) (by kernel_rfl) ?_
 obtain ⟨y_9,hy_10,hF⟩:=bind_some hF
 refine dW es68 rfl rfl hy_10 rfl wz (bK K5 L9 rfl (vL eS y_9) rfl wz (aM (.d (.agg (Player.enc (⟨(⟨#[112]⟩:ByteArray),(⟨#[115,97]⟩:ByteArray),r_3.1,y_9⟩:Player)))) wz (by kernel_rfl) (fA 0 il ft 1 uR rfl rfl [(vS (⟨#[112]⟩:ByteArray)),(vS (⟨#[115,97]⟩:ByteArray)),(vI r_3.1),(vL eS y_9)] rfl wz (af ?_))))
 obtain rfl:=ae hF
 exact aH (zS (.inr rfl) [(.d (.agg (Player.enc (⟨(⟨#[112]⟩:ByteArray),(⟨#[115,97]⟩:ByteArray),r_3.1,y_9⟩:Player))))] _ [0] [aG 0] ⟨⟨1,_,_,_,_,_,_,_,rfl,rfl,uR,xL,rfl⟩,trivial⟩ (.cons (lH rfl rfl) (.nil)) (by kernel_rfl) ⟨(by kernel_rfl),trivial⟩ (by decide) (by kernel_rfl))
theorem fw {s_1:ByteArray} {r:Bool} (hF:dQ s_1=some r) :
  FnM Tryz.prog 31 [(vS s_1)] [] (vB r) []:=by
 refine FnM.of_wH ⟨Tryz.prog,48,[],[]⟩ rfl Tryz.func31 rfl rfl (lb_ rfl) (by kernel_rfl) ?_
 unfold dQ at hF
 refine aj (aa (vB false) (af (au (aj (aa (vI 0) (af ?_))))))
 obtain ⟨o_10,hj_11,hF⟩:=bind_some hF
 obtain ⟨nq_33,hj_11⟩:=cK hj_11
 refine fo (λ(s_7:Int)=>[(0,(vS s_1))]) (λ(s_7:Int)=>[]) (λ(k_2:Nat)=>(λ(s_7:Int)=>[(0,(vS s_1)),(3,(vI s_7))])) (λs=>kz s_1 s) o_10 nq_33 0 hj_11 rfl (aK rfl) ?_ ?_
 ·rintro ⟨k_2,s_7⟩ hL_9
  dsimp only at hL_9
  cases k_2 with
  | zero=>cases hL_9
  | succ k_2 =>
   obtain ⟨c_,hc_8,hL_9⟩:=bind_some hL_9
   unfold kz at hc_8
   refine au (aj (aa (vI s_7) (aa (vS s_1) (Ey un9 rfl wz (aa (vB (decide (s_7<(s_1.size:Int)))) (af ?_))))))
   rcases ak hc_8 with⟨hc_12,hc_8⟩|⟨hc_12,hc_8⟩
   ·refine aA rfl hc_12 (ax (au (aQ (aj (aa (vS s_1) (aa (vI s_7) ?_))))))
    obtain ⟨b_13,hy_14,hc_8⟩:=bind_some hc_8
    refine zP un9 rfl rfl hy_14 wz (aa (.d (.int .u8 (b_13.toNat:Int))) (af (au ?_)))
    obtain ⟨v_15,h_16,hc_8⟩:=bind_some hc_8
    refine aS [(0,(vS s_1)),(3,(vI s_7)),(40,(vB v_15))] [] ?_ ?_
    ·refine av (aa (.d (.int .u8 (b_13.toNat:Int))) (aa (vB (decide ((b_13.toNat:Int)>=97))) ?_))
     rcases ak h_16 with⟨hc_17,h_16⟩|⟨hc_17,h_16⟩
     ·refine aI rfl hc_17 wz (aM (.d (.int .u8 (b_13.toNat:Int))) wa rfl (aM (vB (decide ((b_13.toNat:Int)<=122))) wa rfl (aa (vB (decide ((b_13.toNat:Int)<=122))) ?_)))
      rcases ak h_16 with⟨hc_18,h_16⟩|⟨hc_18,h_16⟩
      ·refine aI rfl hc_18 wz (ah (ah (ah (dA (wn rfl rfl) (dA (wn rfl rfl) (dA (wn rfl rfl) (dA (wn rfl rfl) (dA (wn rfl rfl) (dA (wn rfl rfl) (dA (wn rfl rfl) (dA (wn rfl rfl) (dA (wn rfl rfl) (dA (wn rfl rfl) (dA (wn rfl rfl) (dA (wn rfl rfl) (dA (wn rfl rfl) (dA (wn rfl rfl) (ah (aa (vB true) (aa (vB false) (af ?_)))))))))))))))))))))
       obtain rfl:=ae h_16
       exact cu
      ·refine aI rfl hc_18 wz (aM (vI s_7) wa rfl (aM (vB (decide (s_7>0))) wa rfl ?_))
       rcases ak h_16 with⟨hc_19,h_16⟩|⟨hc_19,h_16⟩
       ·refine aI rfl hc_19 wa (aM (.d (.int .u8 (b_13.toNat:Int))) wa rfl (aM (vB (decide ((b_13.toNat:Int)>=48))) wa rfl ?_))
        rcases ak h_16 with⟨hc_20,h_16⟩|⟨hc_20,h_16⟩
        ·refine aI rfl hc_20 wa (aM (.d (.int .u8 (b_13.toNat:Int))) wa rfl (aM (vB (decide ((b_13.toNat:Int)<=57))) wa rfl (aM (vB (decide ((b_13.toNat:Int)<=57))) wa rfl ?_)))
         rcases ak h_16 with⟨hc_21,h_16⟩|⟨hc_21,h_16⟩
         ·refine aI rfl hc_21 wa (ah (ah (aM (vB true) wa rfl (aM (vB true) wa rfl (ah (ah (aM (vB true) wa rfl (aM (vB true) wa rfl (aa (vB true) (aa (vB false) (af ?_)))))))))))
          obtain rfl:=ae h_16
          exact cu
         ·refine aI rfl hc_21 wa (aM (.d (.int .u8 (b_13.toNat:Int))) wa rfl (aM (vB ((b_13.toNat:Int)==45)) wa rfl (aM (vB ((b_13.toNat:Int)==45)) wa rfl ?_)))
          rcases ak h_16 with⟨hc_22,h_16⟩|⟨hc_22,h_16⟩
          ·refine aI rfl hc_22 wa (ah (ah (aM (vB true) wa rfl (aM (vB true) wa rfl (aa (vB true) (aa (vB false) (af ?_)))))))
           obtain rfl:=ae h_16
           exact cu
          ·refine aI rfl hc_22 wa (aM (.d (.int .u8 (b_13.toNat:Int))) wa rfl (aM (vB ((b_13.toNat:Int)==95)) wa rfl (aM (vB ((b_13.toNat:Int)==95)) wa rfl (aM (vB ((b_13.toNat:Int)==95)) wa rfl (aa (vB ((b_13.toNat:Int)==95)) (aa (vB (!((b_13.toNat:Int)==95))) (af ?_)))))))
           obtain rfl:=ae h_16
           exact cu
        ·refine aI rfl hc_20 wa (ah (ah (aM (vB false) wa rfl (aM (vB false) wa rfl (aM (.d (.int .u8 (b_13.toNat:Int))) wa rfl (aM (vB ((b_13.toNat:Int)==45)) wa rfl (aM (vB ((b_13.toNat:Int)==45)) wa rfl ?_)))))))
         rcases ak h_16 with⟨hc_23,h_16⟩|⟨hc_23,h_16⟩
         ·refine aI rfl hc_23 wa (ah (ah (aM (vB true) wa rfl (aM (vB true) wa rfl (aa (vB true) (aa (vB false) (af ?_)))))))
          obtain rfl:=ae h_16
          exact cu
         ·refine aI rfl hc_23 wa (aM (.d (.int .u8 (b_13.toNat:Int))) wa rfl (aM (vB ((b_13.toNat:Int)==95)) wa rfl (aM (vB ((b_13.toNat:Int)==95)) wa rfl (aM (vB ((b_13.toNat:Int)==95)) wa rfl (aa (vB ((b_13.toNat:Int)==95)) (aa (vB (!((b_13.toNat:Int)==95))) (af ?_)))))))
          obtain rfl:=ae h_16
          exact cu
       ·refine aI rfl hc_19 wa (ah (ah (ah (dA (wn rfl rfl) (dA (wn rfl rfl) (ah (ah (dA (wn rfl rfl) (dA (wn rfl rfl) (ah (ah (dA (wn rfl rfl) (dA (wn rfl rfl) (ah (aM (vB false) wa rfl (aa (vB false) (aa (vB true) (af ?_))))))))))))))))))
        obtain rfl:=ae h_16
        exact cu
     ·refine aI rfl hc_17 wz (ah (ah (aa (vB false) (aa (vB false) (aM (vI s_7) wa rfl (aM (vB (decide (s_7>0))) wa rfl ?_))))))
      rcases ak h_16 with⟨hc_24,h_16⟩|⟨hc_24,h_16⟩
      ·refine aI rfl hc_24 wa (aM (.d (.int .u8 (b_13.toNat:Int))) wa rfl (aM (vB (decide ((b_13.toNat:Int)>=48))) wa rfl ?_))
       rcases ak h_16 with⟨hc_25,h_16⟩|⟨hc_25,h_16⟩
       ·refine aI rfl hc_25 wa (aM (.d (.int .u8 (b_13.toNat:Int))) wa rfl (aM (vB (decide ((b_13.toNat:Int)<=57))) wa rfl (aM (vB (decide ((b_13.toNat:Int)<=57))) wa rfl ?_)))
        rcases ak h_16 with⟨hc_26,h_16⟩|⟨hc_26,h_16⟩
        ·refine aI rfl hc_26 wa (ah (ah (aM (vB true) wa rfl (aM (vB true) wa rfl (ah (ah (aM (vB true) wa rfl (aM (vB true) wa rfl (aa (vB true) (aa (vB false) (af ?_)))))))))))
         obtain rfl:=ae h_16
         exact cu
        ·refine aI rfl hc_26 wa (aM (.d (.int .u8 (b_13.toNat:Int))) wa rfl (aM (vB ((b_13.toNat:Int)==45)) wa rfl (aM (vB ((b_13.toNat:Int)==45)) wa rfl ?_)))
         rcases ak h_16 with⟨hc_27,h_16⟩|⟨hc_27,h_16⟩
         ·refine aI rfl hc_27 wa (ah (ah (aM (vB true) wa rfl (aM (vB true) wa rfl (aa (vB true) (aa (vB false) (af ?_)))))))
          obtain rfl:=ae h_16
          exact cu
         ·refine aI rfl hc_27 wa (aM (.d (.int .u8 (b_13.toNat:Int))) wa rfl (aM (vB ((b_13.toNat:Int)==95)) wa rfl (aM (vB ((b_13.toNat:Int)==95)) wa rfl (aM (vB ((b_13.toNat:Int)==95)) wa rfl (aa (vB ((b_13.toNat:Int)==95)) (aa (vB (!((b_13.toNat:Int)==95))) (af ?_)))))))
          obtain rfl:=ae h_16
          exact cu
       ·refine aI rfl hc_25 wa (ah (ah (aM (vB false) wa rfl (aM (vB false) wa rfl (aM (.d (.int .u8 (b_13.toNat:Int))) wa rfl (aM (vB ((b_13.toNat:Int)==45)) wa rfl (aM (vB ((b_13.toNat:Int)==45)) wa rfl ?_)))))))
        rcases ak h_16 with⟨hc_28,h_16⟩|⟨hc_28,h_16⟩
        ·refine aI rfl hc_28 wa (ah (ah (aM (vB true) wa rfl (aM (vB true) wa rfl (aa (vB true) (aa (vB false) (af ?_)))))))
         obtain rfl:=ae h_16
         exact cu
        ·refine aI rfl hc_28 wa (aM (.d (.int .u8 (b_13.toNat:Int))) wa rfl (aM (vB ((b_13.toNat:Int)==95)) wa rfl (aM (vB ((b_13.toNat:Int)==95)) wa rfl (aM (vB ((b_13.toNat:Int)==95)) wa rfl (aa (vB ((b_13.toNat:Int)==95)) (aa (vB (!((b_13.toNat:Int)==95))) (af ?_)))))))
         obtain rfl:=ae h_16
         exact cu
      ·refine aI rfl hc_24 wa (ah (ah (ah (dA (wn rfl rfl) (dA (wn rfl rfl) (ah (ah (dA (wn rfl rfl) (dA (wn rfl rfl) (ah (ah (dA (wn rfl rfl) (dA (wn rfl rfl) (ah (aM (vB false) wa rfl (aa (vB false) (aa (vB true) (af ?_))))))))))))))))))
       obtain rfl:=ae h_16
       exact cu
    ·rintro ⟨⟩ _ sl_ H_ hp_ hq_
     refine aO _ hp_ hq_ ?_
     rcases ak hc_8 with⟨hc_29,hc_8⟩|⟨hc_29,hc_8⟩
     ·refine aA rfl hc_29 (aj (aa (vB false) (af ?_)))
      obtain rfl:=ae hc_8
      obtain rfl:=ae hL_9
      obtain rfl:=ae hF
      exact aH (aN [(vB false)] ⟨rfl,trivial⟩)
     ·refine ay rfl hc_29 (ax (av (aa (vI s_7) (aa (vI (w64 (s_7+1))) (aa (vI (w64 (s_7+1))) (af ?_))))))
      obtain rfl:=ae hc_8
      exact aY (k_2,(w64 (s_7+1))) hL_9 (ls_ _) rfl (aK rfl)
   ·refine ay rfl hc_12 (aX ?_)
    obtain rfl:=ae hc_8
    obtain rfl:=ae hL_9
    exact aV (s_7) rfl rfl (aK rfl)
 ·rintro s_7 ho_ sl_ H_ hp_ hq_
  subst ho_
  refine aO _ hp_ hq_ (au ?_)
  obtain ⟨v_30,h_31,hF⟩:=bind_some hF
  refine aS [(2,(vB v_30))] [] ?_ ?_
  ·refine av (aa (vS s_1) (aa (vB (sNe s_1 (⟨#[]⟩:ByteArray))) ?_))
   rcases ak h_31 with⟨hc_32,h_31⟩|⟨hc_32,h_31⟩
   ·refine aI rfl hc_32 wz (aM (vS s_1) wa rfl (Ey un9 rfl wa (aM (vB (decide ((s_1.size:Int)<=40))) wa rfl (aa (vB (decide ((s_1.size:Int)<=40))) (aa (vB (decide ((s_1.size:Int)<=40))) (af ?_))))))
    obtain rfl:=ae h_31
    exact cu
   ·refine aI rfl hc_32 wz (ah (ah (ah (aa (vB false) (aa (vB false) (af ?_))))))
    obtain rfl:=ae h_31
    exact cu
  ·rintro ⟨⟩ _ sl_ H_ hp_ hq_
   refine aO _ hp_ hq_ ?_
   obtain rfl:=ae hF
   exact aH (aN [(vB v_30)] ⟨rfl,trivial⟩)
theorem bD {n_1:Int} {low_2:Int} {high_3:Int} {r:Bool} (hF:aU n_1 low_2 high_3=some r) :
  FnM Tryz.prog 32 [(vI n_1),(vI low_2),(vI high_3)] [] (vB r) []:=by
 refine FnM.of_wH ⟨Tryz.prog,15,[],[]⟩ rfl Tryz.func32 rfl rfl (lb_ rfl) (by kernel_rfl) ?_
 unfold aU at hF
 refine aj (aa (vB false) (af (au ?_)))
 obtain ⟨v_4,h_5,hF⟩:=bind_some hF
 refine aS [(6,(vB v_4))] [] ?_ ?_
 ·refine av (aa (vI n_1) (aa (vI low_2) (aa (vB (decide (n_1<low_2))) ?_)))
  rcases ak h_5 with⟨hc_6,h_5⟩|⟨hc_6,h_5⟩
  ·refine aI rfl hc_6 wz (ah (ah (ah (aa (vB true) (aa (vB true) (af ?_))))))
   obtain rfl:=ae h_5
   exact cu
  ·refine aI rfl hc_6 wz (aM (vI n_1) wa rfl (aM (vI high_3) wa rfl (aM (vB (decide (n_1>high_3))) wa rfl (aa (vB (decide (n_1>high_3))) (aa (vB (decide (n_1>high_3))) (af ?_))))))
   obtain rfl:=ae h_5
   exact cu
 ·rintro ⟨⟩ _ sl_ H_ hp_ hq_
  refine aO _ hp_ hq_ ?_
  obtain rfl:=ae hF
  exact aH (aN [(vB v_4)] ⟨rfl,trivial⟩)
theorem IE {n_1:Int} {r:Bool} (hF:uW n_1=some r) :
  FnM Tryz.prog 144 [(vI n_1)] [] (vB r) []:=by
 refine FnM.of_wH ⟨Tryz.prog,9,[],[]⟩ rfl Tryz.func144 rfl rfl (lb_ rfl) (by kernel_rfl) ?_
 unfold uW at hF
 refine aj (aa (vB false) (af (au ?_)))
 obtain ⟨v_2,h_3,hF⟩:=bind_some hF
 refine aS [(2,(vB v_2))] [] ?_ ?_
 ·refine av (aa (vI n_1) (aa (vB (decide (n_1>=0))) ?_))
  rcases ak h_3 with⟨hc_4,h_3⟩|⟨hc_4,h_3⟩
  ·refine aI rfl hc_4 wz (aM (vI n_1) wa rfl (aM (vB (decide (n_1<=4000))) wa rfl (aa (vB (decide (n_1<=4000))) (aa (vB (decide (n_1<=4000))) (af ?_)))))
   obtain rfl:=ae h_3
   exact cu
  ·refine aI rfl hc_4 wz (ah (ah (aa (vB false) (aa (vB false) (af ?_)))))
   obtain rfl:=ae h_3
   exact cu
 ·rintro ⟨⟩ _ sl_ H_ hp_ hq_
  refine aO _ hp_ hq_ ?_
  obtain rfl:=ae hF
  exact aH (aN [(vB v_2)] ⟨rfl,trivial⟩)
theorem vC {l_1:(List Int)} {r:Int} (hF:iE l_1=some r) :
  FnM Tryz.prog 106 [(vL eI l_1)] [] (vI r) []:=by
 refine FnM.of_wH ⟨Tryz.prog,30,[],[]⟩ rfl Tryz.func106 rfl rfl (lb_ rfl) (by kernel_rfl) ?_
 unfold iE at hF
 refine aj (aa (vI 0) (af (au (aj (aa (vL eI l_1) (dx w9 rfl wz (aa (vB (decide ((l_1.length:Int)>100))) (af ?_))))))))
 rcases ak hF with⟨hc_2,hF⟩|⟨hc_2,hF⟩
 ·refine aA rfl hc_2 (aj (aa (vI 2) (af ?_)))
  obtain rfl:=ae hF
  exact aH (aN [(vI 2)] ⟨rfl,trivial⟩)
 ·refine ay rfl hc_2 (ax (au (aj (aa (vL eI l_1) (dx w9 rfl wz (aa (vI 0) (af ?_)))))))
  obtain ⟨o_11,hj_12,hF⟩:=bind_some hF
  obtain ⟨hn_7,hj_12⟩:=bI hj_12
  refine fH (λ(s_8:Unit)=>[]) (λ(s_8:Unit)=>[]) (λ(k_3:Nat)=>(λ(s_8:Unit)=>[(0,(vL eI l_1)),(8,(vL eI l_1)),(9,(vI (l_1.length:Int))),(10,(vI (k_3:Int)))])) (λk x s=>jy l_1 k x s) o_11 l_1 () hj_12 rfl (aK rfl) ?_ ?_
  ·rintro ⟨k_3,l_4,s_8⟩ ⟨hL_10,hD_6⟩
   dsimp only at hL_10 hD_6
   cases l_4 with
   | nil =>
    obtain rfl:=ae hL_10
    refine aj (aa (vB (decide ((k_3:Int)<(l_1.length:Int)))) (af ?_))
    refine au (ay rfl (drop_nil hD_6) (aX ?_))
    exact aV (s_8) rfl rfl (aK rfl)
   | cons x_5 l_4 =>
    obtain ⟨c_,hc_9,hL_10⟩:=bind_some hL_10
    refine aj (aa (vB (decide ((k_3:Int)<(l_1.length:Int)))) (af ?_))
    refine au (aA rfl (bO hD_6) (ax ?_))
    unfold jy at hc_9
    refine au (aQ (aj (aa (vI (k_3:Int)) (dW lC rfl rfl (bU hD_6) rfl wz (bK sz3 ag3 rfl (vI x_5) rfl wz (aa (vI (k_3:Int)) (aa (vI x_5) (af (au (aj (aa (vI x_5) ?_)))))))))))
    obtain ⟨r_13,hr_14,hc_9⟩:=bind_some hc_9
    refine aC (IE hr_14) rfl hb144 rfl rfl rfl rfl wz (aa (vB (!r_13)) (af ?_))
    rcases ak hc_9 with⟨hc_15,hc_9⟩|⟨hc_15,hc_9⟩
    ·refine aA rfl hc_15 (aj (aa (vI 1) (af ?_)))
     obtain rfl:=ae hc_9
     obtain rfl:=ae hL_10
     obtain rfl:=ae hF
     exact aH (aN [(vI 1)] ⟨rfl,trivial⟩)
    ·refine ay rfl hc_15 (ax (au ?_))
     obtain ⟨v_16,h_17,hc_9⟩:=bind_some hc_9
     refine aS [(0,(vL eI l_1)),(8,(vL eI l_1)),(9,(vI (l_1.length:Int))),(10,(vI (k_3:Int))),(28,(vB v_16))] [] ?_ ?_
     ·refine av (aa (vI (k_3:Int)) (aa (vB (decide ((k_3:Int)>0))) ?_))
      rcases ak h_17 with⟨hc_18,h_17⟩|⟨hc_18,h_17⟩
      ·refine aI rfl hc_18 wz (aM (vI x_5) wa rfl (aM (vL eI l_1) wa rfl (aM (vI (k_3:Int)) wa rfl (aM (vI (w64 ((k_3:Int)-1))) wa rfl ?_))))
       obtain ⟨y_19,hy_20,h_17⟩:=bind_some h_17
       refine dW lC rfl rfl hy_20 rfl wa (bK sz3 ag3 rfl (vI y_19) rfl wa (aM (vB (decide (x_5<=y_19))) wa rfl (aa (vB (decide (x_5<=y_19))) (af ?_))))
       obtain rfl:=ae h_17
       exact cu
      ·refine aI rfl hc_18 wz (ah (ah (ah (ah (ah (ah (ah (aa (vB false) (af ?_)))))))))
       obtain rfl:=ae h_17
       exact cu
     ·rintro ⟨⟩ _ sl_ H_ hp_ hq_
      refine aO _ hp_ hq_ ?_
      rcases ak hc_9 with⟨hc_21,hc_9⟩|⟨hc_21,hc_9⟩
      ·refine aA rfl hc_21 (aj (aa (vI 7) (af ?_)))
       obtain rfl:=ae hc_9
       obtain rfl:=ae hL_10
       obtain rfl:=ae hF
       exact aH (aN [(vI 7)] ⟨rfl,trivial⟩)
      ·refine ay rfl hc_21 (ax (av (fQ (bN hD_6 hn_7) wz rfl (aa (vI ((k_3+1:Nat):Int)) (af ?_)))))
       obtain rfl:=ae hc_9
       exact aY (k_3+1,l_4,()) ⟨hL_10,aW hD_6⟩ (ls_ _) rfl (aK rfl)
  ·rintro s_8 ho_ sl_ H_ hp_ hq_
   subst ho_
   refine aO _ hp_ hq_ (aj (aa (vI 0) (af ?_)))
   obtain rfl:=ae hF
   exact aH (aN [(vI 0)] ⟨rfl,trivial⟩)
theorem su {l_1:(List ByteArray)} {r:Int} (hF:jD l_1=some r) :
  FnM Tryz.prog 107 [(vL eS l_1)] [] (vI r) []:=by
 refine FnM.of_wH ⟨Tryz.prog,27,[],[]⟩ rfl Tryz.func107 rfl rfl (lb_ rfl) (by kernel_rfl) ?_
 unfold jD at hF
 refine aj (aa (vI 0) (af (au (aj (aa (vL eS l_1) (dx Ka rfl wz (aa (vI 0) (af ?_))))))))
 obtain ⟨o_10,hj_11,hF⟩:=bind_some hF
 obtain ⟨hn_6,hj_11⟩:=bI hj_11
 refine fH (λ(s_7:Unit)=>[]) (λ(s_7:Unit)=>[]) (λ(k_2:Nat)=>(λ(s_7:Unit)=>[(0,(vL eS l_1)),(5,(vL eS l_1)),(6,(vI (l_1.length:Int))),(7,(vI (k_2:Int)))])) (λk x s=>jg l_1 k x s) o_10 l_1 () hj_11 rfl (aK rfl) ?_ ?_
 ·rintro ⟨k_2,l_3,s_7⟩ ⟨hL_9,hD_5⟩
  dsimp only at hL_9 hD_5
  cases l_3 with
  | nil =>
   obtain rfl:=ae hL_9
   refine aj (aa (vB (decide ((k_2:Int)<(l_1.length:Int)))) (af ?_))
   refine au (ay rfl (drop_nil hD_5) (aX ?_))
   exact aV (s_7) rfl rfl (aK rfl)
  | cons x_4 l_3 =>
   obtain ⟨c_,hc_8,hL_9⟩:=bind_some hL_9
   refine aj (aa (vB (decide ((k_2:Int)<(l_1.length:Int)))) (af ?_))
   refine au (aA rfl (bO hD_5) (ax ?_))
   unfold jg at hc_8
   refine au (aQ (aj (aa (vI (k_2:Int)) (dW Ao rfl rfl (bU hD_5) rfl wz (bK sz9 ag9 rfl (vS x_4) rfl wz (aa (vI (k_2:Int)) (aa (vS x_4) (af (au (aj (aa (vS x_4) ?_)))))))))))
   obtain ⟨r_12,hr_13,hc_8⟩:=bind_some hc_8
   refine aC (fw hr_13) rfl AZ rfl rfl rfl rfl wz (aa (vB (!r_12)) (af ?_))
   rcases ak hc_8 with⟨hc_14,hc_8⟩|⟨hc_14,hc_8⟩
   ·refine aA rfl hc_14 (aj (aa (vI 5) (af ?_)))
    obtain rfl:=ae hc_8
    obtain rfl:=ae hL_9
    obtain rfl:=ae hF
    exact aH (aN [(vI 5)] ⟨rfl,trivial⟩)
   ·refine ay rfl hc_14 (ax (au ?_))
    obtain ⟨v_15,h_16,hc_8⟩:=bind_some hc_8
    refine aS [(0,(vL eS l_1)),(5,(vL eS l_1)),(6,(vI (l_1.length:Int))),(7,(vI (k_2:Int))),(25,(vB v_15))] [] ?_ ?_
    ·refine av (aa (vI (k_2:Int)) (aa (vB (decide ((k_2:Int)>0))) ?_))
     rcases ak h_16 with⟨hc_17,h_16⟩|⟨hc_17,h_16⟩
     ·refine aI rfl hc_17 wz (aM (vS x_4) wa rfl (aM (vL eS l_1) wa rfl (aM (vI (k_2:Int)) wa rfl (aM (vI (w64 ((k_2:Int)-1))) wa rfl ?_))))
      obtain ⟨y_18,hy_19,h_16⟩:=bind_some h_16
      refine dW Ao rfl rfl hy_19 rfl wa (bK sz9 ag9 rfl (vS y_18) rfl wa (aM (vB (sLe x_4 y_18)) wa rfl (aa (vB (sLe x_4 y_18)) (af ?_))))
      obtain rfl:=ae h_16
      exact cu
     ·refine aI rfl hc_17 wz (ah (ah (ah (ah (ah (ah (ah (aa (vB false) (af ?_)))))))))
      obtain rfl:=ae h_16
      exact cu
    ·rintro ⟨⟩ _ sl_ H_ hp_ hq_
     refine aO _ hp_ hq_ ?_
     rcases ak hc_8 with⟨hc_20,hc_8⟩|⟨hc_20,hc_8⟩
     ·refine aA rfl hc_20 (aj (aa (vI 7) (af ?_)))
      obtain rfl:=ae hc_8
      obtain rfl:=ae hL_9
      obtain rfl:=ae hF
      exact aH (aN [(vI 7)] ⟨rfl,trivial⟩)
     ·refine ay rfl hc_20 (ax (av (fQ (bN hD_5 hn_6) wz rfl (aa (vI ((k_2+1:Nat):Int)) (af ?_)))))
      obtain rfl:=ae hc_8
      exact aY (k_2+1,l_3,()) ⟨hL_9,aW hD_5⟩ (ls_ _) rfl (aK rfl)
 ·rintro s_7 ho_ sl_ H_ hp_ hq_
  subst ho_
  refine aO _ hp_ hq_ (aj (aa (vI 0) (af ?_)))
  obtain rfl:=ae hF
  exact aH (aN [(vI 0)] ⟨rfl,trivial⟩)
theorem pJ {l_1:(List ByteArray)} {r:Int} (hF:fK l_1=some r) :
  FnM Tryz.prog 73 [(vL eS l_1)] [] (vI r) []:=by
 refine FnM.of_wH ⟨Tryz.prog,8,[],[]⟩ rfl Tryz.func73 rfl rfl (lb_ rfl) (by kernel_rfl) ?_
 unfold fK at hF
 refine aj (aa (vI 0) (af (au (aj (aa (vL eS l_1) (dx Ka rfl wz (aa (vB (decide ((l_1.length:Int)>20))) (af ?_))))))))
 rcases ak hF with⟨hc_2,hF⟩|⟨hc_2,hF⟩
 ·refine aA rfl hc_2 (aj (aa (vI 2) (af ?_)))
  obtain rfl:=ae hF
  exact aH (aN [(vI 2)] ⟨rfl,trivial⟩)
 ·refine ay rfl hc_2 (ax (aj (aa (vL eS l_1) ?_)))
  obtain ⟨r_3,hr_4,hF⟩:=bind_some hF
  refine aC (su hr_4) rfl hb107 rfl rfl rfl rfl wz (aa (vI r_3) (af ?_))
  obtain rfl:=ae hF
  exact aH (aN [(vI r_3)] ⟨rfl,trivial⟩)
theorem wI {e_1:Entry} {r:Int} (hF:gu e_1=some r) :
  FnM Tryz.prog 72 [(.d (.agg (Entry.enc e_1)))] [] (vI r) []:=by
 refine FnM.of_wH ⟨Tryz.prog,61,[],[]⟩ rfl Tryz.func72 rfl rfl (lb_ rfl) (by kernel_rfl) ?_
 unfold gu at hF
 refine aj (d9 0 (.inl rfl) (Entry.v e_1) rfl rfl wz (λn_2=>aa (vI 0) (af (au (au ?_)))))
 obtain ⟨v_3,h_4,hF⟩:=bind_some hF
 refine aS [(1,(.ref n_2 0 0)),(13,(vB v_3))] [(n_2,some (.cells 13 (Entry.v e_1)))] ?_ ?_
 ·refine av (aJ Ai rfl 0 rfl wz (aB 0 0 il ft sz9 ag9 rfl rfl (vS e_1.Key) rfl wz ?_))
  obtain ⟨r_5,hr_6,h_4⟩:=bind_some h_4
  refine aC (fw hr_6) rfl AZ rfl rfl rfl rfl wz (aa (vB (!r_5)) ?_)
  rcases ak h_4 with⟨hc_7,h_4⟩|⟨hc_7,h_4⟩
  ·refine aI rfl hc_7 wz (ah (ah (ah (ah (aa (vB true) (af ?_))))))
   obtain rfl:=ae h_4
   exact cu
  ·refine aI rfl hc_7 wz (aJ pl67_1 rfl 1 rfl wa (aB 0 0 il ft sz9 ag9 rfl rfl (vS e_1.Item) rfl wa ?_))
   obtain ⟨r_8,hr_9,h_4⟩:=bind_some h_4
   refine aC (fw hr_9) rfl AZ rfl rfl rfl rfl wa (aM (vB (!r_8)) wa rfl (aa (vB (!r_8)) (af ?_)))
   obtain rfl:=ae h_4
   exact cu
 ·rintro ⟨⟩ _ sl_ H_ hp_ hq_
  refine aO _ hp_ hq_ ?_
  rcases ak hF with⟨hc_10,hF⟩|⟨hc_10,hF⟩
  ·refine aA rfl hc_10 (aj (aa (vI 5) (af ?_)))
   obtain rfl:=ae hF
   exact aH (aN [(vI 5)] ⟨rfl,trivial⟩)
  ·refine ay rfl hc_10 (ax (au (au ?_)))
   obtain ⟨v_11,h_12,hF⟩:=bind_some hF
   refine aS [(1,(.ref n_2 0 0)),(38,(vB v_11))] [(n_2,some (.cells 13 (Entry.v e_1)))] ?_ ?_
   ·refine av (aJ pl67_2 rfl 2 rfl wz (aB 0 0 il ft sz3 ag3 rfl rfl (vI e_1.Version) rfl wz ?_))
    obtain ⟨r_13,hr_14,h_12⟩:=bind_some h_12
    refine aC (bD hr_14) rfl rT rfl rfl rfl rfl wz ?_
    rcases ak h_12 with⟨hc_15,h_12⟩|⟨hc_15,h_12⟩
    ·refine aI rfl hc_15 wz (ah (ah (ah (ah (ah (aa (vB true) (aa (vB true) (ah (ah (ah (aa (vB true) (aa (vB true) (ah (ah (ah (aa (vB true) (aa (vB true) (ah (ah (ah (aa (vB true) (af ?_))))))))))))))))))))))
     obtain rfl:=ae h_12
     exact cu
    ·refine aI rfl hc_15 wz (aJ Cw rfl 3 rfl wa (aB 0 0 il ft sz3 ag3 rfl rfl (vI e_1.First) rfl wa (aJ Ce rfl 4 rfl wa (aB 0 0 il ft sz3 ag3 rfl rfl (vI e_1.Last) rfl wa ?_))))
     obtain ⟨r_16,hr_17,h_12⟩:=bind_some h_12
     refine aC (bD hr_17) rfl rT rfl rfl rfl rfl wa (aa (vB r_16) ?_)
     rcases ak h_12 with⟨hc_18,h_12⟩|⟨hc_18,h_12⟩
     ·refine aI rfl hc_18 wz (ah (ah (ah (aa (vB true) (aa (vB true) (ah (ah (ah (aa (vB true) (aa (vB true) (ah (ah (ah (aa (vB true) (af ?_)))))))))))))))
      obtain rfl:=ae h_12
      exact cu
     ·refine aI rfl hc_18 wz (aJ Ce rfl 4 rfl wa (aB 0 0 il ft sz3 ag3 rfl rfl (vI e_1.Last) rfl wa (aM (vB (decide (e_1.Last>4000))) wa rfl (aa (vB (decide (e_1.Last>4000))) ?_))))
      rcases ak h_12 with⟨hc_19,h_12⟩|⟨hc_19,h_12⟩
      ·refine aI rfl hc_19 wz (ah (ah (ah (aa (vB true) (aa (vB true) (ah (ah (ah (aa (vB true) (af ?_))))))))))
       obtain rfl:=ae h_12
       exact cu
      ·refine aI rfl hc_19 wz (aJ Qb rfl 5 rfl wa (aB 0 0 il ft sz3 ag3 rfl rfl (vI e_1.Every) rfl wa ?_))
       obtain ⟨r_20,hr_21,h_12⟩:=bind_some h_12
       refine aC (bD hr_21) rfl rT rfl rfl rfl rfl wa (aa (vB r_20) ?_)
       rcases ak h_12 with⟨hc_22,h_12⟩|⟨hc_22,h_12⟩
       ·refine aI rfl hc_22 wz (ah (ah (ah (aa (vB true) (af ?_)))))
        obtain rfl:=ae h_12
        exact cu
       ·refine aI rfl hc_22 wz (aJ QG rfl 6 rfl wa (aB 0 0 il ft sz3 ag3 rfl rfl (vI e_1.Days) rfl wa ?_))
        obtain ⟨r_23,hr_24,h_12⟩:=bind_some h_12
        refine aC (bD hr_24) rfl rT rfl rfl rfl rfl wa (aa (vB r_23) (af ?_))
        obtain rfl:=ae h_12
        exact cu
   ·rintro ⟨⟩ _ sl_ H_ hp_ hq_
    refine aO _ hp_ hq_ ?_
    rcases ak hF with⟨hc_25,hF⟩|⟨hc_25,hF⟩
    ·refine aA rfl hc_25 (aj (aa (vI 1) (af ?_)))
     obtain rfl:=ae hF
     exact aH (aN [(vI 1)] ⟨rfl,trivial⟩)
    ·refine ay rfl hc_25 (ax (au (aj (aJ Jn rfl 7 rfl wz (aB 0 0 il ft Aa CK rfl rfl (vL eI e_1.Except) rfl wz ?_)))))
     obtain ⟨r_26,hr_27,hF⟩:=bind_some hF
     refine aC (vC hr_27) rfl hb106 rfl rfl rfl rfl wz (aa (vI r_26) (af (aj (aa (vI r_26) (aa (vB (r_26 != 0)) (af ?_))))))
     rcases ak hF with⟨hc_28,hF⟩|⟨hc_28,hF⟩
     ·refine aA rfl hc_28 (aj (aa (vI r_26) (aa (vI r_26) (af ?_))))
      obtain rfl:=ae hF
      exact aH (aN [(vI r_26)] ⟨rfl,trivial⟩)
     ·refine ay rfl hc_28 (ax (au (au ?_)))
      obtain ⟨v_29,h_30,hF⟩:=bind_some hF
      refine aS [(1,(.ref n_2 0 0)),(57,(vB v_29))] [(n_2,some (.cells 13 (Entry.v e_1)))] ?_ ?_
      ·refine av (aJ Mk rfl 8 rfl wz (aB 0 0 il ft sz3 ag3 rfl rfl (vI e_1.From) rfl wz ?_))
       obtain ⟨r_31,hr_32,h_30⟩:=bind_some h_30
       refine aC (bD hr_32) rfl rT rfl rfl rfl rfl wz ?_
       rcases ak h_30 with⟨hc_33,h_30⟩|⟨hc_33,h_30⟩
       ·refine aI rfl hc_33 wz (ah (ah (ah (aa (vB true) (aa (vB true) (ah (ah (ah (aa (vB true) (af ?_))))))))))
        obtain rfl:=ae h_30
        exact cu
       ·refine aI rfl hc_33 wz (aJ Qi rfl 9 rfl wa (aB 0 0 il ft sz3 ag3 rfl rfl (vI e_1.To) rfl wa ?_))
        obtain ⟨r_34,hr_35,h_30⟩:=bind_some h_30
        refine aC (bD hr_35) rfl rT rfl rfl rfl rfl wa (aa (vB r_34) ?_)
        rcases ak h_30 with⟨hc_36,h_30⟩|⟨hc_36,h_30⟩
        ·refine aI rfl hc_36 wz (ah (ah (ah (aa (vB true) (af ?_)))))
         obtain rfl:=ae h_30
         exact cu
        ·refine aI rfl hc_36 wz (aJ Jy rfl 10 rfl wa (aB 0 0 il ft sz3 ag3 rfl rfl (vI e_1.Prio) rfl wa ?_))
         obtain ⟨r_37,hr_38,h_30⟩:=bind_some h_30
         refine aC (bD hr_38) rfl rT rfl rfl rfl rfl wa (aa (vB r_37) (af ?_))
         obtain rfl:=ae h_30
         exact cu
      ·rintro ⟨⟩ _ sl_ H_ hp_ hq_
       refine aO _ hp_ hq_ ?_
       rcases ak hF with⟨hc_39,hF⟩|⟨hc_39,hF⟩
       ·refine aA rfl hc_39 (aj (aa (vI 1) (af ?_)))
        obtain rfl:=ae hF
        exact aH (aN [(vI 1)] ⟨rfl,trivial⟩)
       ·refine ay rfl hc_39 (ax (aj (aJ Ed rfl 11 rfl wz (aB 0 0 il ft K5 L9 rfl rfl (vL eS e_1.Tags) rfl wz ?_))))
        obtain ⟨r_40,hr_41,hF⟩:=bind_some hF
        refine aC (pJ hr_41) rfl hb73 rfl rfl rfl rfl wz (aa (vI r_40) (af ?_))
        obtain rfl:=ae hF
        exact aH (aN [(vI r_40)] ⟨rfl,trivial⟩)
theorem kK {l_1:(List Entry)} {r:Int} (hF:dL l_1=some r) :
  FnM Tryz.prog 40 [(vL Entry.enc l_1)] [] (vI r) []:=by
 refine FnM.of_wH ⟨Tryz.prog,35,[],[]⟩ rfl Tryz.func40 rfl rfl (lb_ rfl) (by kernel_rfl) ?_
 unfold dL at hF
 refine aj (aa (vI 0) (af (au (aj (aa (vL Entry.enc l_1) (dx un26 rfl wz (aa (vB (decide ((l_1.length:Int)>200))) (af ?_))))))))
 rcases ak hF with⟨hc_2,hF⟩|⟨hc_2,hF⟩
 ·refine aA rfl hc_2 (aj (aa (vI 2) (af ?_)))
  obtain rfl:=ae hF
  exact aH (aN [(vI 2)] ⟨rfl,trivial⟩)
 ·refine ay rfl hc_2 (ax (au (aj (aa (vL Entry.enc l_1) (dx un26 rfl wz (aa (vI 0) (af ?_)))))))
  obtain ⟨o_11,hj_12,hF⟩:=bind_some hF
  obtain ⟨hn_7,hj_12⟩:=bI hj_12
  refine fH (λ(s_8:Unit)=>[]) (λ(s_8:Unit)=>[]) (λ(k_3:Nat)=>(λ(s_8:Unit)=>[(0,(vL Entry.enc l_1)),(9,(vL Entry.enc l_1)),(10,(vI (l_1.length:Int))),(11,(vI (k_3:Int)))])) (λk x s=>fe l_1 k x s) o_11 l_1 () hj_12 rfl (aK rfl) ?_ ?_
  ·rintro ⟨k_3,l_4,s_8⟩ ⟨hL_10,hD_6⟩
   dsimp only at hL_10 hD_6
   cases l_4 with
   | nil =>
    obtain rfl:=ae hL_10
    refine aj (aa (vB (decide ((k_3:Int)<(l_1.length:Int)))) (af ?_))
    refine au (ay rfl (drop_nil hD_6) (aX ?_))
    exact aV (s_8) rfl rfl (aK rfl)
   | cons x_5 l_4 =>
    obtain ⟨c_,hc_9,hL_10⟩:=bind_some hL_10
    refine aj (aa (vB (decide ((k_3:Int)<(l_1.length:Int)))) (af ?_))
    refine au (aA rfl (bO hD_6) (ax ?_))
    unfold fe at hc_9
    refine au (aQ (aj (aa (vI (k_3:Int)) (dW GK rfl rfl (bU hD_6) rfl wz (bK zh CR rfl (.d (.agg (Entry.enc x_5))) rfl wz (dC 0 (.inl rfl) z67 rfl wz (λn_13=>aa (vI (k_3:Int)) (fA 0 il ft 0 zh rfl rfl (Entry.v x_5) rfl wz (af (au (aj (aB 0 0 il ft zh CR rfl rfl (.d (.agg (Entry.enc x_5))) rfl wz ?_))))))))))))
    obtain ⟨r_14,hr_15,hc_9⟩:=bind_some hc_9
    refine aC (wI hr_15) rfl hb72 rfl rfl rfl rfl wz (aa (vI r_14) (af (aj (aa (vI r_14) (aa (vB (r_14 != 0)) (af ?_))))))
    rcases ak hc_9 with⟨hc_16,hc_9⟩|⟨hc_16,hc_9⟩
    ·refine aA rfl hc_16 (aj (aa (vI r_14) (aa (vI r_14) (af ?_))))
     obtain rfl:=ae hc_9
     obtain rfl:=ae hL_10
     obtain rfl:=ae hF
     exact aH (aN [(vI r_14)] ⟨rfl,trivial⟩)
    ·refine ay rfl hc_16 (ax (au ?_))
     obtain ⟨v_17,h_18,hc_9⟩:=bind_some hc_9
     refine aS [(0,(vL Entry.enc l_1)),(9,(vL Entry.enc l_1)),(10,(vI (l_1.length:Int))),(11,(vI (k_3:Int))),(33,(vB v_17))] [(n_13,some (.cells 13 (Entry.v x_5)))] ?_ ?_
     ·refine bE (aa (vI (k_3:Int)) (aa (vB (decide ((k_3:Int)>0))) ?_))
      rcases ak h_18 with⟨hc_19,h_18⟩|⟨hc_19,h_18⟩
      ·refine aI rfl hc_19 wz (aJ Ai rfl 0 rfl wa (aB 4 0 (.inr (by kernel_rfl)) (λ_ _ ag=>trivial) sz9 ag9 rfl rfl (vS x_5.Key) rfl wa (aM (vL Entry.enc l_1) wa rfl (aM (vI (k_3:Int)) wa rfl (aM (vI (w64 ((k_3:Int)-1))) wa rfl ?_)))))
       obtain ⟨y_20,hy_21,h_18⟩:=bind_some h_18
       refine dW GK rfl rfl hy_21 rfl wa (kP Ai rfl (Entry.enc y_20) rfl rfl wa (bK sz9 ag9 rfl (vS y_20.Key) rfl wa (aM (vB (sLe x_5.Key y_20.Key)) wa rfl (aa (vB (sLe x_5.Key y_20.Key)) (af ?_)))))
       obtain rfl:=ae h_18
       exact cu
      ·refine aI rfl hc_19 wz (ah (ah (ah (ah (ah (ah (ah (ah (ah (aa (vB false) (af ?_)))))))))))
       obtain rfl:=ae h_18
       exact cu
     ·rintro ⟨⟩ _ sl_ H_ hp_ hq_
      refine aO _ hp_ hq_ ?_
      rcases ak hc_9 with⟨hc_22,hc_9⟩|⟨hc_22,hc_9⟩
      ·refine aA rfl hc_22 (aj (aa (vI 7) (af ?_)))
       obtain rfl:=ae hc_9
       obtain rfl:=ae hL_10
       obtain rfl:=ae hF
       exact aH (aN [(vI 7)] ⟨rfl,trivial⟩)
      ·refine ay rfl hc_22 (ax (av (fQ (bN hD_6 hn_7) wz rfl (aa (vI ((k_3+1:Nat):Int)) (af ?_)))))
       obtain rfl:=ae hc_9
       exact aY (k_3+1,l_4,()) ⟨hL_10,aW hD_6⟩ (ls_ _) rfl (aK rfl)
  ·rintro s_8 ho_ sl_ H_ hp_ hq_
   subst ho_
   refine aO _ hp_ hq_ (aj (aa (vI 0) (af ?_)))
   obtain rfl:=ae hF
   exact aH (aN [(vI 0)] ⟨rfl,trivial⟩)
theorem oF {p_1:Player} {r:Int} (hF:iC p_1=some r) :
  FnM Tryz.prog 41 [(.d (.agg (Player.enc p_1)))] [] (vI r) []:=by
 refine FnM.of_wH ⟨Tryz.prog,19,[],[]⟩ rfl Tryz.func41 rfl rfl (lb_ rfl) (by kernel_rfl) ?_
 unfold iC at hF
 refine aj (d9 0 (.inl rfl) (Player.v p_1) rfl rfl wz (λn_2=>aa (vI 0) (af (au (au ?_)))))
 obtain ⟨v_3,h_4,hF⟩:=bind_some hF
 refine aS [(1,(.ref n_2 0 0)),(12,(vB v_3))] [(n_2,some (.cells 4 (Player.v p_1)))] ?_ ?_
 ·refine av (aJ P8 rfl 0 rfl wz (aB 0 0 il ft sz9 ag9 rfl rfl (vS p_1.Key) rfl wz ?_))
  obtain ⟨r_5,hr_6,h_4⟩:=bind_some h_4
  refine aC (fw hr_6) rfl AZ rfl rfl rfl rfl wz (aa (vB (!r_5)) ?_)
  rcases ak h_4 with⟨hc_7,h_4⟩|⟨hc_7,h_4⟩
  ·refine aI rfl hc_7 wz (ah (ah (ah (ah (aa (vB true) (af ?_))))))
   obtain rfl:=ae h_4
   exact cu
  ·refine aI rfl hc_7 wz (aJ pl30_1 rfl 1 rfl wa (aB 0 0 il ft sz9 ag9 rfl rfl (vS p_1.Screen) rfl wa ?_))
   obtain ⟨r_8,hr_9,h_4⟩:=bind_some h_4
   refine aC (fw hr_9) rfl AZ rfl rfl rfl rfl wa (aM (vB (!r_8)) wa rfl (aa (vB (!r_8)) (af ?_)))
   obtain rfl:=ae h_4
   exact cu
 ·rintro ⟨⟩ _ sl_ H_ hp_ hq_
  refine aO _ hp_ hq_ ?_
  rcases ak hF with⟨hc_10,hF⟩|⟨hc_10,hF⟩
  ·refine aA rfl hc_10 (aj (aa (vI 5) (af ?_)))
   obtain rfl:=ae hF
   exact aH (aN [(vI 5)] ⟨rfl,trivial⟩)
  ·refine ay rfl hc_10 (ax (au (aj (aJ MG rfl 2 rfl wz (aB 0 0 il ft sz3 ag3 rfl rfl (vI p_1.Zone) rfl wz ?_)))))
   obtain ⟨r_11,hr_12,hF⟩:=bind_some hF
   refine aC (bD hr_12) rfl rT rfl rfl rfl rfl wz (af ?_)
   rcases ak hF with⟨hc_13,hF⟩|⟨hc_13,hF⟩
   ·refine aA rfl hc_13 (aj (aa (vI 1) (af ?_)))
    obtain rfl:=ae hF
    exact aH (aN [(vI 1)] ⟨rfl,trivial⟩)
   ·refine ay rfl hc_13 (ax (aj (aJ Rt rfl 3 rfl wz (aB 0 0 il ft K5 L9 rfl rfl (vL eS p_1.Tags) rfl wz ?_))))
    obtain ⟨r_14,hr_15,hF⟩:=bind_some hF
    refine aC (pJ hr_15) rfl hb73 rfl rfl rfl rfl wz (aa (vI r_14) (af ?_))
    obtain rfl:=ae hF
    exact aH (aN [(vI r_14)] ⟨rfl,trivial⟩)
theorem oG {wv_1:Window} {r:Int} (hF:fP wv_1=some r) :
  FnM Tryz.prog 42 [(.d (.agg (Window.enc wv_1)))] [] (vI r) []:=by
 refine FnM.of_wH ⟨Tryz.prog,19,[],[]⟩ rfl Tryz.func42 rfl rfl (lb_ rfl) (by kernel_rfl) ?_
 unfold fP at hF
 refine aj (d9 0 (.inl rfl) [(vI wv_1.From),(vI wv_1.To)] rfl rfl wz (λn_2=>aa (vI 0) (af (au (au ?_)))))
 obtain ⟨v_3,h_4,hF⟩:=bind_some hF
 refine aS [(1,(.ref n_2 0 0)),(12,(vB v_3))] [(n_2,some (.cells 2 [(vI wv_1.From),(vI wv_1.To)]))] ?_ ?_
 ·refine av (aJ iI rfl 0 rfl wz (aB 0 0 il ft sz3 ag3 rfl rfl (vI wv_1.From) rfl wz (aJ iK rfl 1 rfl wz (aB 0 0 il ft sz3 ag3 rfl rfl (vI wv_1.To) rfl wz ?_))))
  obtain ⟨r_5,hr_6,h_4⟩:=bind_some h_4
  refine aC (bD hr_6) rfl rT rfl rfl rfl rfl wz ?_
  rcases ak h_4 with⟨hc_7,h_4⟩|⟨hc_7,h_4⟩
  ·refine aI rfl hc_7 wz (ah (ah (ah (aa (vB true) (af ?_)))))
   obtain rfl:=ae h_4
   exact cu
  ·refine aI rfl hc_7 wz (aJ iK rfl 1 rfl wa (aB 0 0 il ft sz3 ag3 rfl rfl (vI wv_1.To) rfl wa (aM (vB (decide (wv_1.To>345686400000))) wa rfl (aa (vB (decide (wv_1.To>345686400000))) (af ?_)))))
   obtain rfl:=ae h_4
   exact cu
 ·rintro ⟨⟩ _ sl_ H_ hp_ hq_
  refine aO _ hp_ hq_ ?_
  rcases ak hF with⟨hc_8,hF⟩|⟨hc_8,hF⟩
  ·refine aA rfl hc_8 (aj (aa (vI 1) (af ?_)))
   obtain rfl:=ae hF
   exact aH (aN [(vI 1)] ⟨rfl,trivial⟩)
  ·refine ay rfl hc_8 (ax (au (aj (aJ iK rfl 1 rfl wz (aB 0 0 il ft sz3 ag3 rfl rfl (vI wv_1.To) rfl wz (aJ iI rfl 0 rfl wz (aB 0 0 il ft sz3 ag3 rfl rfl (vI wv_1.From) rfl wz (aa (vI (w64 (wv_1.To-wv_1.From))) (aa (vB (decide ((w64 (wv_1.To-wv_1.From))>34560000000))) (af ?_))))))))))
   rcases ak hF with⟨hc_9,hF⟩|⟨hc_9,hF⟩
   ·refine aA rfl hc_9 (aj (aa (vI 2) (af ?_)))
    obtain rfl:=ae hF
    exact aH (aN [(vI 2)] ⟨rfl,trivial⟩)
   ·refine ay rfl hc_9 (ax (aj (aa (vI 0) (af ?_))))
    obtain rfl:=ae hF
    exact aH (aN [(vI 0)] ⟨rfl,trivial⟩)
theorem pM {l_1:(List Entry)} {p_2:Player} {wv_3:Window} {r:Int} (hF:jb l_1 p_2 wv_3=some r) :
  FnM Tryz.prog 19 [(vL Entry.enc l_1),(.d (.agg (Player.enc p_2))),(.d (.agg (Window.enc wv_3)))] [] (vI r) []:=by
 refine FnM.of_wH ⟨Tryz.prog,21,[],[]⟩ rfl Tryz.func19 rfl rfl (lb_ rfl) (by kernel_rfl) ?_
 unfold jb at hF
 refine aj (d9 0 (.inl rfl) (Player.v p_2) rfl rfl wz (λn_4=>d9 0 (.inl rfl) [(vI wv_3.From),(vI wv_3.To)] rfl rfl wz (λn_5=>aa (vI 0) (af (au (aj (aa (vL Entry.enc l_1) ?_)))))))
 obtain ⟨r_6,hr_7,hF⟩:=bind_some hF
 refine aC (kK hr_7) rfl hb40 rfl rfl rfl rfl wz (aa (vI r_6) (af (aj (aa (vI r_6) (aa (vB (r_6 != 0)) (af ?_))))))
 rcases ak hF with⟨hc_8,hF⟩|⟨hc_8,hF⟩
 ·refine aA rfl hc_8 (aj (aa (vI r_6) (aa (vI r_6) (af ?_))))
  obtain rfl:=ae hF
  exact aH (aN [(vI r_6)] ⟨rfl,trivial⟩)
 ·refine ay rfl hc_8 (ax (au (aj (aB 0 0 il ft uR xL rfl rfl (.d (.agg (Player.enc p_2))) rfl wz ?_))))
  obtain ⟨r_9,hr_10,hF⟩:=bind_some hF
  refine aC (oF hr_10) rfl hb41 rfl rfl rfl rfl wz (aa (vI r_9) (af (aj (aa (vI r_9) (aa (vB (r_9 != 0)) (af ?_))))))
  rcases ak hF with⟨hc_11,hF⟩|⟨hc_11,hF⟩
  ·refine aA rfl hc_11 (aj (aa (vI r_9) (aa (vI r_9) (af ?_))))
   obtain rfl:=ae hF
   exact aH (aN [(vI r_9)] ⟨rfl,trivial⟩)
  ·refine ay rfl hc_11 (ax (aj (aB 0 1 il ft jZ nX rfl rfl (.d (.agg (Window.enc wv_3))) rfl wz ?_)))
   obtain ⟨r_12,hr_13,hF⟩:=bind_some hF
   refine aC (oG hr_13) rfl hb42 rfl rfl rfl rfl wz (aa (vI r_12) (af ?_))
   obtain rfl:=ae hF
   exact aH (aN [(vI r_12)] ⟨rfl,trivial⟩)
theorem rC {x_1:ByteArray} {r:Bool} (hF:cmp_isNaN_string x_1=some r) :
  FnM Tryz.prog 169 [(vS x_1)] [] (vB r) []:=by
 refine FnM.of_wH ⟨Tryz.prog,6,[],[]⟩ rfl Tryz.func169 rfl rfl (lb_ rfl) (by kernel_rfl) ?_
 unfold cmp_isNaN_string at hF
 refine aj (aa (vB false) (af (aj (aa (vS x_1) (aa (vS x_1) (aa (vB (sNe x_1 x_1)) (aa (vB (sNe x_1 x_1)) (af ?_))))))))
 obtain rfl:=ae hF
 exact aH (aN [(vB (sNe x_1 x_1))] ⟨rfl,trivial⟩)
theorem Ah {x_1:ByteArray} {y_2:ByteArray} {r:Bool} (hF:cmp_Less_string x_1 y_2=some r) :
  FnM Tryz.prog 145 [(vS x_1),(vS y_2)] [] (vB r) []:=by
 refine FnM.of_wH ⟨Tryz.prog,17,[],[]⟩ rfl Tryz.func145 rfl rfl (lb_ rfl) (by kernel_rfl) ?_
 unfold cmp_Less_string at hF
 refine aj (aa (vB false) (af (au ?_)))
 obtain ⟨v_3,h_4,hF⟩:=bind_some hF
 refine aS [(4,(vB v_3))] [] ?_ ?_
 ·refine av (aa (vS x_1) ?_)
  obtain ⟨r_5,hr_6,h_4⟩:=bind_some h_4
  refine aC (rC hr_6) rfl hb169 rfl rfl rfl rfl wz ?_
  rcases ak h_4 with⟨hc_7,h_4⟩|⟨hc_7,h_4⟩
  ·refine aI rfl hc_7 wz (aM (vS y_2) wa rfl ?_)
   obtain ⟨r_8,hr_9,h_4⟩:=bind_some h_4
   refine aC (rC hr_9) rfl hb169 rfl rfl rfl rfl wa (aM (vB (!r_8)) wa rfl (aa (vB (!r_8)) ?_))
   rcases ak h_4 with⟨hc_10,h_4⟩|⟨hc_10,h_4⟩
   ·refine aI rfl hc_10 wz (ah (ah (ah (aa (vB true) (aa (vB true) (af ?_))))))
    obtain rfl:=ae h_4
    exact cu
   ·refine aI rfl hc_10 wz (aM (vS x_1) wa rfl (aM (vS y_2) wa rfl (aM (vB (sLt x_1 y_2)) wa rfl (aa (vB (sLt x_1 y_2)) (aa (vB (sLt x_1 y_2)) (af ?_))))))
    obtain rfl:=ae h_4
    exact cu
  ·refine aI rfl hc_7 wz (ah (ah (ah (aa (vB false) (aa (vB false) (aM (vS x_1) wa rfl (aM (vS y_2) wa rfl (aM (vB (sLt x_1 y_2)) wa rfl (aa (vB (sLt x_1 y_2)) (aa (vB (sLt x_1 y_2)) (af ?_)))))))))))
   obtain rfl:=ae h_4
   exact cu
 ·rintro ⟨⟩ _ sl_ H_ hp_ hq_
  refine aO _ hp_ hq_ ?_
  obtain rfl:=ae hF
  exact aH (aN [(vB v_3)] ⟨rfl,trivial⟩)
theorem pu {x_1:ByteArray} {r:Bool} (hF:slices_isNaN_string x_1=some r) :
  FnM Tryz.prog 146 [(vS x_1)] [] (vB r) []:=by
 refine FnM.of_wH ⟨Tryz.prog,6,[],[]⟩ rfl Tryz.func146 rfl rfl (lb_ rfl) (by kernel_rfl) ?_
 unfold slices_isNaN_string at hF
 refine aj (aa (vB false) (af (aj (aa (vS x_1) (aa (vS x_1) (aa (vB (sNe x_1 x_1)) (aa (vB (sNe x_1 x_1)) (af ?_))))))))
 obtain rfl:=ae hF
 exact aH (aN [(vB (sNe x_1 x_1))] ⟨rfl,trivial⟩)
theorem nN {x_1:(List ByteArray)} {target_2:ByteArray} {r:Int×Bool} (hF:dN x_1 target_2=some r) :
  FnM Tryz.prog 108 [(vL eS x_1),(vS target_2)] [] (.tup [(vI r.1),(vB r.2)]) []:=by
 refine FnM.of_wH ⟨Tryz.prog,54,[],[]⟩ rfl Tryz.func108 rfl rfl (lb_ rfl) (by kernel_rfl) ?_
 unfold dN at hF
 refine aj (aa (vI 0) (aa (vB false) (af (aj (aa (vL eS x_1) (dx Ka rfl wz (aa (vI (x_1.length:Int)) (af (aj (aa (vI (x_1.length:Int)) (aa (vI 0) (aa (vI (x_1.length:Int)) (af (au ?_))))))))))))))
 obtain ⟨o_11,hj_12,hF⟩:=bind_some hF
 obtain ⟨nq_34,hj_12⟩:=cK hj_12
 refine fo (λ(s_8:Int×Int)=>[(0,(vL eS x_1)),(1,(vS target_2)),(6,(vI (x_1.length:Int))),(7,(vI s_8.1))]) (λ(s_8:Int×Int)=>[]) (λ(k_3:Nat)=>(λ(s_8:Int×Int)=>[(0,(vL eS x_1)),(1,(vS target_2)),(6,(vI (x_1.length:Int))),(7,(vI s_8.1)),(8,(vI s_8.2))])) (λs=>bf x_1 target_2 s) o_11 nq_34 (0,(x_1.length:Int)) hj_12 rfl (aK rfl) ?_ ?_
 ·rintro ⟨k_3,s_8⟩ hL_10
  dsimp only at hL_10
  cases k_3 with
  | zero=>cases hL_10
  | succ k_3 =>
   obtain ⟨c_,hc_9,hL_10⟩:=bind_some hL_10
   unfold bf at hc_9
   refine au (aj (aa (vI s_8.1) (aa (vI s_8.2) (aa (vB (decide (s_8.1<s_8.2))) (af ?_)))))
   rcases ak hc_9 with⟨hc_13,hc_9⟩|⟨hc_13,hc_9⟩
   ·refine aA rfl hc_13 (ax (aQ (aj (aa (vI s_8.1) (aa (vI s_8.2) (aa (vI (w64 (s_8.1+s_8.2))) (oZ un3 CW rfl wz ?_)))))))
    obtain ⟨q_14,hz_15,hc_9⟩:=bind_some hc_9
    refine Im rfl rfl hz_15 wz (oZ CW un3 rfl wz (aa (vI (w64 q_14)) (af (aj (aa (vL eS x_1) (aa (vI (w64 q_14)) ?_))))))
    obtain ⟨y_16,hy_17,hc_9⟩:=bind_some hc_9
    refine dW Ao rfl rfl hy_17 rfl wz (bK sz9 ag9 rfl (vS y_16) rfl wz (aa (vS target_2) ?_))
    obtain ⟨r_18,hr_19,hc_9⟩:=bind_some hc_9
    refine aC (Ah hr_19) rfl hb145 rfl rfl rfl rfl wz (af ?_)
    rcases ak hc_9 with⟨hc_20,hc_9⟩|⟨hc_20,hc_9⟩
    ·refine aA rfl hc_20 (av (aa (vI (w64 q_14)) (aa (vI (w64 ((w64 q_14)+1))) (aa (vI (w64 ((w64 q_14)+1))) (af ?_)))))
     obtain rfl:=ae hc_9
     exact aY (k_3,((w64 ((w64 q_14)+1)),s_8.2)) hL_10 (ls_ _) rfl (aK rfl)
    ·refine ay rfl hc_20 (av (aa (vI (w64 q_14)) (aa (vI (w64 q_14)) (af ?_))))
     obtain rfl:=ae hc_9
     exact aY (k_3,(s_8.1,(w64 q_14))) hL_10 (ls_ _) rfl (aK rfl)
   ·refine ay rfl hc_13 (aX ?_)
    obtain rfl:=ae hc_9
    obtain rfl:=ae hL_10
    exact aV ((s_8.1,s_8.2)) rfl rfl (aK rfl)
 ·rintro s_8 ho_ sl_ H_ hp_ hq_
  subst ho_
  refine aO _ hp_ hq_ (au ?_)
  obtain ⟨v_21,h_22,hF⟩:=bind_some hF
  refine aS [(4,(vI s_8.1)),(5,(vB v_21))] [] ?_ ?_
  ·refine av (aa (vI s_8.1) (aa (vI s_8.1) (aa (vI (x_1.length:Int)) (aa (vB (decide (s_8.1<(x_1.length:Int)))) ?_))))
   rcases ak h_22 with⟨hc_23,h_22⟩|⟨hc_23,h_22⟩
   ·refine aI rfl hc_23 wz (aM (vL eS x_1) wa rfl (aM (vI s_8.1) wa rfl ?_))
    obtain ⟨y_24,hy_25,h_22⟩:=bind_some h_22
    refine dW Ao rfl rfl hy_25 rfl wa (bK sz9 ag9 rfl (vS y_24) rfl wa (aM (vS target_2) wa rfl (aM (vB (sEq y_24 target_2)) wa rfl ?_)))
    rcases ak h_22 with⟨hc_26,h_22⟩|⟨hc_26,h_22⟩
    ·refine aI rfl hc_26 wa (ah (ah (ah (ah (ah (ah (dA (wn rfl rfl) (dA (wn rfl rfl) (ah (aM (vB true) wa rfl (aa (vB true) (aa (vI s_8.1) (aa (vB true) (af ?_))))))))))))))
     obtain rfl:=ae h_22
     exact cu
    ·refine aI rfl hc_26 wa (aM (vL eS x_1) wa rfl (aM (vI s_8.1) wa rfl ?_))
     obtain ⟨y_27,hy_28,h_22⟩:=bind_some h_22
     refine dW Ao rfl rfl hy_28 rfl wa (bK sz9 ag9 rfl (vS y_27) rfl wa ?_)
     obtain ⟨r_29,hr_30,h_22⟩:=bind_some h_22
     refine aC (pu hr_30) rfl hb146 rfl rfl rfl rfl wa ?_
     rcases ak h_22 with⟨hc_31,h_22⟩|⟨hc_31,h_22⟩
     ·refine aI rfl hc_31 wa (aM (vS target_2) wa rfl ?_)
      obtain ⟨r_32,hr_33,h_22⟩:=bind_some h_22
      refine aC (pu hr_33) rfl hb146 rfl rfl rfl rfl wa (aM (vB r_32) wa rfl (aM (vB r_32) wa rfl (aa (vB r_32) (aa (vI s_8.1) (aa (vB r_32) (af ?_))))))
      obtain rfl:=ae h_22
      exact cu
     ·refine aI rfl hc_31 wa (ah (ah (aM (vB false) wa rfl (aM (vB false) wa rfl (aa (vB false) (aa (vI s_8.1) (aa (vB false) (af ?_))))))))
      obtain rfl:=ae h_22
      exact cu
   ·refine aI rfl hc_23 wz (ah (ah (ah (ah (ah (ah (ah (dA (wn rfl rfl) (dA (wn rfl rfl) (dA (wn rfl rfl) (dA (wn rfl rfl) (dA (wn rfl rfl) (dA (wn rfl rfl) (dA (wn rfl rfl) (dA (wn rfl rfl) (dA (wn rfl rfl) (ah (aa (vB false) (aa (vI s_8.1) (aa (vB false) (af ?_)))))))))))))))))))))
    obtain rfl:=ae h_22
    exact cu
  ·rintro ⟨⟩ _ sl_ H_ hp_ hq_
   refine aO _ hp_ hq_ ?_
   obtain rfl:=ae hF
   exact aH (aN [(vI s_8.1),(vB v_21)] ⟨rfl,⟨rfl,trivial⟩⟩)
theorem vE {e_1:Entry} {p_2:Player} {r:Bool} (hF:ol e_1 p_2=some r) :
  FnM Tryz.prog 74 [(.d (.agg (Entry.enc e_1))),(.d (.agg (Player.enc p_2)))] [] (vB r) []:=by
 refine FnM.of_wH ⟨Tryz.prog,26,[],[]⟩ rfl Tryz.func74 rfl rfl (lb_ rfl) (by kernel_rfl) ?_
 unfold ol at hF
 refine aj (d9 0 (.inl rfl) (Entry.v e_1) rfl rfl wz (λn_3=>d9 0 (.inl rfl) (Player.v p_2) rfl rfl wz (λn_4=>aa (vB false) (af (au (aj (aJ Ed rfl 11 rfl wz (aB 0 0 il ft K5 L9 rfl rfl (vL eS e_1.Tags) rfl wz (dx Ka rfl wz (aa (vI 0) (af ?_)))))))))))
 obtain ⟨o_13,hj_14,hF⟩:=bind_some hF
 obtain ⟨hn_9,hj_14⟩:=bI hj_14
 refine fH (λ(s_10:Unit)=>[]) (λ(s_10:Unit)=>[(n_3,some (.cells 13 (Entry.v e_1))),(n_4,some (.cells 4 (Player.v p_2)))]) (λ(k_5:Nat)=>(λ(s_10:Unit)=>[(3,(.ref n_4 0 0)),(10,(vL eS e_1.Tags)),(11,(vI (e_1.Tags.length:Int))),(12,(vI (k_5:Int)))])) (λk x s=>jP p_2 k x s) o_13 e_1.Tags () hj_14 rfl (aK rfl) ?_ ?_
 ·rintro ⟨k_5,l_6,s_10⟩ ⟨hL_12,hD_8⟩
  dsimp only at hL_12 hD_8
  cases l_6 with
  | nil =>
   obtain rfl:=ae hL_12
   refine aj (aa (vB (decide ((k_5:Int)<(e_1.Tags.length:Int)))) (af ?_))
   refine au (ay rfl (drop_nil hD_8) (aX ?_))
   exact aV (s_10) rfl rfl (aK rfl)
  | cons x_7 l_6 =>
   obtain ⟨c_,hc_11,hL_12⟩:=bind_some hL_12
   refine aj (aa (vB (decide ((k_5:Int)<(e_1.Tags.length:Int)))) (af ?_))
   refine au (aA rfl (bO hD_8) (ax ?_))
   unfold jP at hc_11
   refine au (aQ (aj (dW Ao rfl rfl (bU hD_8) rfl wz (bK sz9 ag9 rfl (vS x_7) rfl wz (aa (vS x_7) (af (aj (aJ Rt rfl 3 rfl wz (aB 0 1 il ft K5 L9 rfl rfl (vL eS p_2.Tags) rfl wz (aa (vS x_7) ?_))))))))))
   obtain ⟨r_15,hr_16,hc_11⟩:=bind_some hc_11
   refine aC (nN hr_16) rfl hb108 rfl rfl rfl rfl wz (aa (.tup [(vI r_15.1),(vB r_15.2)]) (aa (vI r_15.1) (aa (vB r_15.2) (aa (vI r_15.1) (aa (vB r_15.2) (af (aj (aa (vB r_15.2) (aa (vB (!r_15.2)) (af ?_))))))))))
   rcases ak hc_11 with⟨hc_17,hc_11⟩|⟨hc_17,hc_11⟩
   ·refine aA rfl hc_17 (aj (aa (vB false) (af ?_)))
    obtain rfl:=ae hc_11
    obtain rfl:=ae hL_12
    obtain rfl:=ae hF
    exact aH (aN [(vB false)] ⟨rfl,trivial⟩)
   ·refine ay rfl hc_17 (ax (av (fQ (bN hD_8 hn_9) wz rfl (aa (vI ((k_5+1:Nat):Int)) (af ?_)))))
    obtain rfl:=ae hc_11
    exact aY (k_5+1,l_6,()) ⟨hL_12,aW hD_8⟩ (ls_ _) rfl (aK rfl)
 ·rintro s_10 ho_ sl_ H_ hp_ hq_
  subst ho_
  refine aO _ hp_ hq_ (aj (aa (vB true) (af ?_)))
  obtain rfl:=ae hF
  exact aH (aN [(vB true)] ⟨rfl,trivial⟩)
section
variable [dM:DM]
theorem nD {x_1:Int} {r:Bool} (hF:cmp_isNaN_int x_1=some r) :
  FnM Tryz.prog 76 [(vI x_1)] [] (vB r) []:=by
 refine FnM.of_wH ⟨Tryz.prog,6,[],[]⟩ rfl Tryz.func76 rfl rfl (lb_ rfl) (by kernel_rfl) ?_
 unfold cmp_isNaN_int at hF
 refine aj (aa (vB false) (af (aj (aa (vI x_1) (aa (vI x_1) (aa (vB (x_1 != x_1)) (aa (vB (x_1 != x_1)) (af ?_))))))))
 obtain rfl:=ae hF
 exact aH (aN [(vB (x_1 != x_1))] ⟨rfl,trivial⟩)
end
theorem DJ {x_1:Int} {y_2:Int} {r:Bool} (hF:cmp_Less_int x_1 y_2=some r) :
  FnM Tryz.prog 92 [(vI x_1),(vI y_2)] [] (vB r) []:=by
 refine FnM.of_wH ⟨Tryz.prog,17,[],[]⟩ rfl Tryz.func92 rfl rfl (lb_ rfl) (by kernel_rfl) ?_
 unfold cmp_Less_int at hF
 refine aj (aa (vB false) (af (au ?_)))
 obtain ⟨v_3,h_4,hF⟩:=bind_some hF
 refine aS [(4,(vB v_3))] [] ?_ ?_
 ·refine av (aa (vI x_1) ?_)
  obtain ⟨r_5,hr_6,h_4⟩:=bind_some h_4
  refine aC (nD hr_6) rfl hb76 rfl rfl rfl rfl wz ?_
  rcases ak h_4 with⟨hc_7,h_4⟩|⟨hc_7,h_4⟩
  ·refine aI rfl hc_7 wz (aM (vI y_2) wa rfl ?_)
   obtain ⟨r_8,hr_9,h_4⟩:=bind_some h_4
   refine aC (nD hr_9) rfl hb76 rfl rfl rfl rfl wa (aM (vB (!r_8)) wa rfl (aa (vB (!r_8)) ?_))
   rcases ak h_4 with⟨hc_10,h_4⟩|⟨hc_10,h_4⟩
   ·refine aI rfl hc_10 wz (ah (ah (ah (aa (vB true) (aa (vB true) (af ?_))))))
    obtain rfl:=ae h_4
    exact cu
   ·refine aI rfl hc_10 wz (aM (vI x_1) wa rfl (aM (vI y_2) wa rfl (aM (vB (decide (x_1<y_2))) wa rfl (aa (vB (decide (x_1<y_2))) (aa (vB (decide (x_1<y_2))) (af ?_))))))
    obtain rfl:=ae h_4
    exact cu
  ·refine aI rfl hc_7 wz (ah (ah (ah (aa (vB false) (aa (vB false) (aM (vI x_1) wa rfl (aM (vI y_2) wa rfl (aM (vB (decide (x_1<y_2))) wa rfl (aa (vB (decide (x_1<y_2))) (aa (vB (decide (x_1<y_2))) (af ?_)))))))))))
   obtain rfl:=ae h_4
   exact cu
 ·rintro ⟨⟩ _ sl_ H_ hp_ hq_
  refine aO _ hp_ hq_ ?_
  obtain rfl:=ae hF
  exact aH (aN [(vB v_3)] ⟨rfl,trivial⟩)
theorem rG {x_1:Int} {r:Bool} (hF:iB x_1=some r) :
  FnM Tryz.prog 168 [(vI x_1)] [] (vB r) []:=by
 refine FnM.of_wH ⟨Tryz.prog,6,[],[]⟩ rfl Tryz.func168 rfl rfl (lb_ rfl) (by kernel_rfl) ?_
 unfold iB at hF
 refine aj (aa (vB false) (af (aj (aa (vI x_1) (aa (vI x_1) (aa (vB (x_1 != x_1)) (aa (vB (x_1 != x_1)) (af ?_))))))))
 obtain rfl:=ae hF
 exact aH (aN [(vB (x_1 != x_1))] ⟨rfl,trivial⟩)
end Go.Proofs.YtmkljmjhcegapaaGreatDoor.Law

