/-
 The machine computes these plain functions (written by a program of ours).
-/
import Derived.Test.YtigdobmllbakiacGreatDoorFacts
import Derived.Test.YtigdobmllbakiacGreatDoorDefs
import Derived.Test.YtigdobmllbakiacGreatDoorShelf
open Go Go.Eng Go.Proofs
namespace Go.Proofs.YtigdobmllbakiacGreatDoor.Law
set_option maxRecDepth 100000
set_option linter.unusedVariables false
set_option maxHeartbeats 1000000
theorem oq {x_1:Int} {n_2:Int} {r:Int} (hF:lM x_1 n_2=some r) :
  FnM Tryz.prog 39 [(vI x_1),(vI n_2)] [] (vI r) []:=by
 refine FnM.of_wH ⟨Tryz.prog,16,[],[]⟩ rfl Tryz.func39 rfl rfl (lb_ rfl) (by kernel_rfl) ?_
 unfold lM at hF
 refine ai (aa (vI 0) (af (au (ai (aa (vI n_2) (aa (vB (decide (n_2<1))) (af ?_)))))))
 rcases aj hF with⟨hc_3,hF⟩|⟨hc_3,hF⟩
 ·refine aJ rfl hc_3 (ai (aa (vI 0) (af ?_)))
  obtain rfl:=ae hF
  exact aA (aO [(vI 0)] ⟨rfl,trivial⟩)
 ·refine aI rfl hc_3 (aF (ai (aa (vI x_1) (aa (vI n_2) ?_))))
  obtain ⟨q_4,hz_5,hF⟩:=bind_some hF
  refine h_rem rfl rfl hz_5 wz (aa (vI q_4) (af (au (ai (aa (vI q_4) (aa (vB (decide (q_4<0))) (af ?_)))))))
  obtain ⟨v_6,h_7,hF⟩:=bind_some hF
  refine bg [(0,(vI v_6))] [] ?_ ?_
  ·rcases aj h_7 with⟨hc_8,h_7⟩|⟨hc_8,h_7⟩
   ·refine aJ rfl hc_8 (av (aa (vI q_4) (aa (vI n_2) (aa (vI (w64 (q_4+n_2))) (aa (vI (w64 (q_4+n_2))) (af ?_))))))
    obtain rfl:=ae h_7
    exact cu
   ·refine aI rfl hc_8 (aF ?_)
    obtain rfl:=ae h_7
    exact cu
  ·rintro ⟨⟩ _ sl_ H_ hp_ hq_
   refine bu _ hp_ hq_ (ai (aa (vI v_6) (aa (vI v_6) (af ?_))))
   obtain rfl:=ae hF
   exact aA (aO [(vI v_6)] ⟨rfl,trivial⟩)
theorem bL {s_1:Stream} {n_2:Int} {r:Int×Stream} (hF:bG s_1 n_2=some r) :
  FnM Tryz.prog 16 [(.ref (ak 0) 0 0),(vI n_2)] [(.cells 2 [(vL eI s_1.L),(vI s_1.f_at)])] (vI r.1) [some (.cells 2 [(vL eI r.2.L),(vI r.2.f_at)])]:=by
 refine FnM.of_wH ⟨Tryz.prog,64,[],[]⟩ rfl Tryz.func16 rfl rfl (lb_ rfl) (by kernel_rfl) ?_
 unfold bG at hF
 refine ai (aa (vI 0) (af (ai (aa (.ref (ak 0) 0 0) (aa (.ref (ak 0) 0 0) (aR ww rfl 1 rfl wz (aY 0 0 il ft sz3 ag3 rfl rfl (vI s_1.f_at) rfl wz (aa (vI (w64 (s_1.f_at+1))) (aa (.ref (ak 0) 0 0) (aR ww rfl 1 rfl wz (ji 0 il ft 0 sz3 rfl rfl [(vL eI s_1.L),(vI (w64 (s_1.f_at+1)))] rfl wz (af (au (ai (aa (.ref (ak 0) 0 0) (aa (.ref (ak 0) 0 0) (aR zu rfl 0 rfl wz (aY 0 0 il ft sz22 ag22 rfl rfl (vL eI s_1.L) rfl wz (eH CY rfl wz (aa (vB ((s_1.L.length:Int)==0)) (af ?_)))))))))))))))))))))
 rcases aj hF with⟨hc_3,hF⟩|⟨hc_3,hF⟩
 ·refine aJ rfl hc_3 (ai (aa (.ref (ak 0) 0 0) (aa (.ref (ak 0) 0 0) (aR ww rfl 1 rfl wz (aY 0 0 il ft sz3 ag3 rfl rfl (vI (w64 (s_1.f_at+1))) rfl wz (aa (vI (w64 ((w64 (s_1.f_at+1))*7919))) (aa (vI n_2) ?_)))))))
  obtain ⟨r_4,hr_5,hF⟩:=bind_some hF
  refine aD (oq hr_5) rfl hb39 rfl rfl rfl rfl wz (aa (vI r_4) (af ?_))
  obtain rfl:=ae hF
  exact aA (pO (.inr rfl) [(vI r_4)] _ [0] [ak 0] ⟨rfl,trivial⟩ (.cons (fE rfl rfl) (.nil)) (by kernel_rfl) ⟨(by kernel_rfl),trivial⟩ (by decide) (by kernel_rfl))
 ·refine aI rfl hc_3 (aF (au (fD (aa (.ref (ak 0) 0 0) (aa (.ref (ak 0) 0 0) (aR ww rfl 1 rfl wz (aY 3 0 (.inr (by kernel_rfl)) (λ_ _ ag=>trivial) sz3 ag3 rfl rfl (vI (w64 (s_1.f_at+1))) rfl wz (aa (vI (w64 ((w64 (s_1.f_at+1))-1))) (aa (.ref (ak 0) 0 0) (aa (.ref (ak 0) 0 0) (aR zu rfl 0 rfl wz (aY 8 0 (.inr (by kernel_rfl)) (λ_ _ ag=>⟨.inl ⟨rfl,rfl⟩,trivial⟩) sz22 ag22 rfl rfl (vL eI s_1.L) rfl wz (eH CY rfl wz ?_)))))))))))))
  obtain ⟨q_6,hz_7,hF⟩:=bind_some hF
  refine h_rem rfl rfl hz_7 wz (aa (vI q_6) (af (au (fD (aa (.ref (ak 0) 0 0) (aa (.ref (ak 0) 0 0) (aR ww rfl 1 rfl wz (aY 3 0 (.inr (by kernel_rfl)) (λ_ _ ag=>trivial) sz3 ag3 rfl rfl (vI (w64 (s_1.f_at+1))) rfl wz (aa (vI (w64 ((w64 (s_1.f_at+1))-1))) (aa (.ref (ak 0) 0 0) (aa (.ref (ak 0) 0 0) (aR zu rfl 0 rfl wz (aY 8 0 (.inr (by kernel_rfl)) (λ_ _ ag=>⟨.inl ⟨rfl,rfl⟩,trivial⟩) sz22 ag22 rfl rfl (vL eI s_1.L) rfl wz (eH CY rfl wz ?_))))))))))))))
  obtain ⟨q_8,hz_9,hF⟩:=bind_some hF
  refine h_quo rfl rfl hz_9 wz (aa (vI q_8) (af (bu (H0:=([((ak 0),some (.cells 2 [(vL eI s_1.L),(vI (w64 (s_1.f_at+1)))]))]:Hp)) ([(0,(.ref (ak 0) 0 0)),(1,(vI n_2)),(5,(vI q_6)),(6,(vI q_8))]:SL_) (by kernel_rfl) (vE (by kernel_rfl)) (ai (aa (.ref (ak 0) 0 0) (aa (.ref (ak 0) 0 0) (aR zu rfl 0 rfl wz (aY 0 0 il ft sz22 ag22 rfl rfl (vL eI s_1.L) rfl wz (aa (vI q_6) ?_)))))))))
  obtain ⟨y_10,hy_11,hF⟩:=bind_some hF
  refine gL je rfl rfl hy_11 rfl wz (dY sz3 ag3 rfl (vI y_10) rfl wz ?_)
  obtain ⟨r_12,hr_13,hF⟩:=bind_some hF
  refine aD (oq hr_13) rfl hb39 rfl rfl rfl rfl wz (aa (vI q_8) (aa (vI q_6) (aa (vI (w64 (7919+q_6))) (aa (vI (w64 (q_8*(w64 (7919+q_6))))) (aa (vI (w64 (r_12+(w64 (q_8*(w64 (7919+q_6))))))) (aa (vI n_2) ?_))))))
  obtain ⟨r_14,hr_15,hF⟩:=bind_some hF
  refine aD (oq hr_15) rfl hb39 rfl rfl rfl rfl wz (aa (vI r_14) (af ?_))
  obtain rfl:=ae hF
  exact aA (pO (.inr rfl) [(vI r_14)] _ [0] [ak 0] ⟨rfl,trivial⟩ (.cons (fE rfl rfl) (.nil)) (by kernel_rfl) ⟨(by kernel_rfl),trivial⟩ (by decide) (by kernel_rfl))
theorem ed {s_1:Stream} {n_2:Int} {r:Bool×Stream} (hF:bU s_1 n_2=some r) :
  FnM Tryz.prog 15 [(.ref (ak 0) 0 0),(vI n_2)] [(.cells 2 [(vL eI s_1.L),(vI s_1.f_at)])] (vB r.1) [some (.cells 2 [(vL eI r.2.L),(vI r.2.f_at)])]:=by
 refine FnM.of_wH ⟨Tryz.prog,9,[],[]⟩ rfl Tryz.func15 rfl rfl (lb_ rfl) (by kernel_rfl) ?_
 unfold bU at hF
 refine ai (aa (vB false) (af (ai (aa (.ref (ak 0) 0 0) (aa (vI n_2) ?_)))))
 obtain ⟨r_3,hr_4,hF⟩:=bind_some hF
 refine bf 0 [0] il ft (bL hr_4) rfl xC rfl (by kernel_rfl) (by kernel_rfl) (by kernel_rfl) (by kernel_rfl) (by kernel_rfl) (by kernel_rfl) (by kernel_rfl) (by decide) (by kernel_rfl) wz (vI r_3.1) (by kernel_rfl) ([((ak 0),some (.cells 2 [(vL eI r_3.2.L),(vI r_3.2.f_at)]))]:Hp) (by kernel_rfl) (aa (vB (r_3.1==0)) (aa (vB (r_3.1==0)) (af ?_)))
 obtain rfl:=ae hF
 exact aA (pO (.inr rfl) [(vB (r_3.1==0))] _ [0] [ak 0] ⟨rfl,trivial⟩ (.cons (fE rfl rfl) (.nil)) (by kernel_rfl) ⟨(by kernel_rfl),trivial⟩ (by decide) (by kernel_rfl))
theorem gH {s_1:Stream} {l_2:(List ByteArray)} {r:ByteArray×Stream} (hF:eT s_1 l_2=some r) :
  FnM Tryz.prog 17 [(.ref (ak 0) 0 0),(vL eS l_2)] [(.cells 2 [(vL eI s_1.L),(vI s_1.f_at)])] (vS r.1) [some (.cells 2 [(vL eI r.2.L),(vI r.2.f_at)])]:=by
 refine FnM.of_wH ⟨Tryz.prog,12,[],[]⟩ rfl Tryz.func17 rfl rfl (lb_ rfl) (by kernel_rfl) ?_
 unfold eT at hF
 refine ai (aa (vS (⟨#[]⟩:ByteArray)) (af (ai (aa (vL eS l_2) (aa (.ref (ak 0) 0 0) (aa (vL eS l_2) (eH lw rfl wz ?_)))))))
 obtain ⟨r_3,hr_4,hF⟩:=bind_some hF
 refine bf 0 [0] il ft (bL hr_4) rfl xC rfl (by kernel_rfl) (by kernel_rfl) (by kernel_rfl) (by kernel_rfl) (by kernel_rfl) (by kernel_rfl) (by kernel_rfl) (by decide) (by kernel_rfl) wz (vI r_3.1) (by kernel_rfl) ([((ak 0),some (.cells 2 [(vL eI r_3.2.L),(vI r_3.2.f_at)]))]:Hp) (by kernel_rfl) ?_
 obtain ⟨y_6,hy_7,hF⟩:=bind_some hF
 refine gL fV rfl rfl hy_7 rfl wz (dY sz9 ag9 rfl (vS y_6) rfl wz (aa (vS y_6) (af ?_)))
 obtain rfl:=ae hF
 exact aA (pO (.inr rfl) [(vS y_6)] _ [0] [ak 0] ⟨rfl,trivial⟩ (.cons (fE rfl rfl) (.nil)) (by kernel_rfl) ⟨(by kernel_rfl),trivial⟩ (by decide) (by kernel_rfl))
theorem bC {s_1:Stream} {l_2:(List Int)} {r:Int×Stream} (hF:bW s_1 l_2=some r) :
  FnM Tryz.prog 19 [(.ref (ak 0) 0 0),(vL eI l_2)] [(.cells 2 [(vL eI s_1.L),(vI s_1.f_at)])] (vI r.1) [some (.cells 2 [(vL eI r.2.L),(vI r.2.f_at)])]:=by
 refine FnM.of_wH ⟨Tryz.prog,12,[],[]⟩ rfl Tryz.func19 rfl rfl (lb_ rfl) (by kernel_rfl) ?_
 unfold bW at hF
 refine ai (aa (vI 0) (af (ai (aa (vL eI l_2) (aa (.ref (ak 0) 0 0) (aa (vL eI l_2) (eH CY rfl wz ?_)))))))
 obtain ⟨r_3,hr_4,hF⟩:=bind_some hF
 refine bf 0 [0] il ft (bL hr_4) rfl xC rfl (by kernel_rfl) (by kernel_rfl) (by kernel_rfl) (by kernel_rfl) (by kernel_rfl) (by kernel_rfl) (by kernel_rfl) (by decide) (by kernel_rfl) wz (vI r_3.1) (by kernel_rfl) ([((ak 0),some (.cells 2 [(vL eI r_3.2.L),(vI r_3.2.f_at)]))]:Hp) (by kernel_rfl) ?_
 obtain ⟨y_6,hy_7,hF⟩:=bind_some hF
 refine gL je rfl rfl hy_7 rfl wz (dY sz3 ag3 rfl (vI y_6) rfl wz (aa (vI y_6) (af ?_)))
 obtain rfl:=ae hF
 exact aA (pO (.inr rfl) [(vI y_6)] _ [0] [ak 0] ⟨rfl,trivial⟩ (.cons (fE rfl rfl) (.nil)) (by kernel_rfl) ⟨(by kernel_rfl),trivial⟩ (by decide) (by kernel_rfl))
theorem kT {s_1:Stream} {most_2:Int} {r:(List Campaign)×Stream} (hF:aW s_1 most_2=some r) :
  FnM Tryz.prog 14 [(.ref (ak 0) 0 0),(vI most_2)] [(.cells 2 [(vL eI s_1.L),(vI s_1.f_at)])] (vL Campaign.enc r.1) [some (.cells 2 [(vL eI r.2.L),(vI r.2.f_at)])]:=by
 refine FnM.of_wH ⟨Tryz.prog,63,[],[]⟩ rfl Tryz.func14 rfl rfl (lb_ rfl) (by kernel_rfl) ?_
 unfold aW at hF
 refine ai (aa .nil (af (ai (aa .nil (af (au (ai (dU (([(⟨#[99,97]⟩:ByteArray),(⟨#[99,98]⟩:ByteArray),(⟨#[99,99]⟩:ByteArray),(⟨#[99,100]⟩:ByteArray)]:List ByteArray).map eS) fV qm rfl rfl rfl rfl rfl wz (aa (vI most_2) ?_)))))))))
 obtain ⟨y_3,hy_4,hF⟩:=bind_some hF
 refine kE lw sz9 (λ_=>rfl) rfl rfl hy_4 wz (eH lw rfl wz (aa (vI 0) (af (oI (λn_11 => ?_)))))
 obtain ⟨o_16,hj_17,hF⟩:=bind_some hF
 obtain ⟨hn_9,hj_17⟩:=dh hj_17
 refine iM (σ:=(List Campaign)×(List Int)×Int) (N:=Nm) (λp=>(λ(s_10:(List Campaign)×(List Int)×Int) (n_13:Nm)=>([(5,(gV n_13 8 s_10.1))]:SL_)) p.1 p.2) (λp=>(λ(s_10:(List Campaign)×(List Int)×Int) (n_13:Nm)=>([((ak 0),some (.cells 2 [(vL eI s_10.2.1),(vI s_10.2.2)])),(n_13,gB 8 Campaign.enc s_10.1)]:Hp)) p.1 p.2) (λ(k_5:Nat)=>(λp=>(λ(s_10:(List Campaign)×(List Int)×Int) (n_13:Nm)=>([(0,(.ref (ak 0) 0 0)),(5,(gV n_13 8 s_10.1)),(13,(vL eS y_3)),(14,(vI (y_3.length:Int))),(15,(vI (k_5:Int)))]:SL_)) p.1 p.2)) (λk x s=>aV k x s) o_16 y_3 ((([]:List Campaign),s_1.L,s_1.f_at),n_11) hj_17 rfl (aX rfl) ?_ ?_
 ·rintro ⟨k_5,l_6,s_10,n_13⟩ ⟨hL_15,hD_8⟩
  dsimp only at hL_15 hD_8
  cases l_6 with
  | nil =>
   obtain rfl:=ae hL_15
   refine ai (aa (vB (decide ((k_5:Int)<(y_3.length:Int)))) (af ?_))
   refine au (aI rfl (drop_nil hD_8) (dK ?_))
   exact dx (s_10,n_13) rfl rfl (aX rfl)
  | cons x_7 l_6 =>
   obtain ⟨c_,hc_14,hL_15⟩:=bind_some hL_15
   refine ai (aa (vB (decide ((k_5:Int)<(y_3.length:Int)))) (af ?_))
   refine au (aJ rfl (dH hD_8) (aF ?_))
   unfold aV at hc_14
   refine au (bz (ai (gL fV rfl rfl (d9 hD_8) rfl wz (dY sz9 ag9 rfl (vS x_7) rfl wz (aa (vS x_7) (af (au (ai (aa (.ref (ak 0) 0 0) ?_)))))))))
   obtain ⟨r_18,hr_19,hc_14⟩:=bind_some hc_14
   refine bf 0 [0] il ft (ed hr_19) rfl Dw rfl (by kernel_rfl) (by kernel_rfl) (by kernel_rfl) (by kernel_rfl) (by kernel_rfl) (by kernel_rfl) (by kernel_rfl) (by decide) (by kernel_rfl) wz (vB r_18.1) (by kernel_rfl) ([((ak 0),some (.cells 2 [(vL eI r_18.2.L),(vI r_18.2.f_at)])),(n_13,gB 8 Campaign.enc s_10.1)]:Hp) (by kernel_rfl) (af ?_)
   rcases aj hc_14 with⟨hc_21,hc_14⟩|⟨hc_21,hc_14⟩
   ·refine aJ rfl hc_21 (dK (av (iL (dI hD_8 hn_9) wz rfl (aa (vI ((k_5+1:Nat):Int)) (af ?_)))))
    obtain rfl:=ae hc_14
    exact dJ (k_5+1,l_6,(s_10.1,r_18.2.L,r_18.2.f_at),n_13) ⟨hL_15,bP hD_8⟩ (ls_ _) rfl (aX rfl)
   ·refine aI rfl hc_21 (aF (ai (aa (vS x_7) (aa (.ref (ak 0) 0 0) (dU (([(⟨#[]⟩:ByteArray),(⟨#[]⟩:ByteArray),(⟨#[99,97,114,115]⟩:ByteArray),(⟨#[102,111,111,100]⟩:ByteArray)]:List ByteArray).map eS) fV qm rfl rfl rfl rfl rfl wz ?_)))))
    obtain ⟨r_22,hr_23,hc_14⟩:=bind_some hc_14
    refine bf 0 [0] il ft (gH hr_23) rfl hb17 rfl (by kernel_rfl) (by kernel_rfl) (by kernel_rfl) (by kernel_rfl) (by kernel_rfl) (by kernel_rfl) (by kernel_rfl) (by decide) (by kernel_rfl) wz (vS r_22.1) (by kernel_rfl) ([((ak 0),some (.cells 2 [(vL eI r_22.2.L),(vI r_22.2.f_at)])),(n_13,gB 8 Campaign.enc s_10.1)]:Hp) (by kernel_rfl) (aa (.ref (ak 0) 0 0) (dU (([0,0,10,20]:List Int).map eI) je pJ rfl rfl rfl rfl rfl wz ?_))
    obtain ⟨r_25,hr_26,hc_14⟩:=bind_some hc_14
    refine bf 0 [0] il ft (bC hr_26) rfl uD rfl (by kernel_rfl) (by kernel_rfl) (by kernel_rfl) (by kernel_rfl) (by kernel_rfl) (by kernel_rfl) (by kernel_rfl) (by decide) (by kernel_rfl) wz (vI r_25.1) (by kernel_rfl) ([((ak 0),some (.cells 2 [(vL eI r_25.2.L),(vI r_25.2.f_at)])),(n_13,gB 8 Campaign.enc s_10.1)]:Hp) (by kernel_rfl) (aa (.ref (ak 0) 0 0) (dU (([30,50,60,100]:List Int).map eI) je pJ rfl rfl rfl rfl rfl wz ?_))
    obtain ⟨r_28,hr_29,hc_14⟩:=bind_some hc_14
    refine bf 0 [0] il ft (bC hr_29) rfl uD rfl (by kernel_rfl) (by kernel_rfl) (by kernel_rfl) (by kernel_rfl) (by kernel_rfl) (by kernel_rfl) (by kernel_rfl) (by decide) (by kernel_rfl) wz (vI r_28.1) (by kernel_rfl) ([((ak 0),some (.cells 2 [(vL eI r_28.2.L),(vI r_28.2.f_at)])),(n_13,gB 8 Campaign.enc s_10.1)]:Hp) (by kernel_rfl) (aG (.d (.agg (Window.enc (⟨r_25.1,r_28.1⟩:Window)))) wz (by kernel_rfl) (aa (.ref (ak 0) 0 0) (dU (([0,1,2,3,4,6]:List Int).map eI) je pJ rfl rfl rfl rfl rfl wz ?_)))
    obtain ⟨r_31,hr_32,hc_14⟩:=bind_some hc_14
    refine bf 0 [0] il ft (bC hr_32) rfl uD rfl (by kernel_rfl) (by kernel_rfl) (by kernel_rfl) (by kernel_rfl) (by kernel_rfl) (by kernel_rfl) (by kernel_rfl) (by decide) (by kernel_rfl) wz (vI r_31.1) (by kernel_rfl) ([((ak 0),some (.cells 2 [(vL eI r_31.2.L),(vI r_31.2.f_at)])),(n_13,gB 8 Campaign.enc s_10.1)]:Hp) (by kernel_rfl) (aa (.ref (ak 0) 0 0) (dU (([0,1,2,3,9]:List Int).map eI) je pJ rfl rfl rfl rfl rfl wz ?_))
    obtain ⟨r_34,hr_35,hc_14⟩:=bind_some hc_14
    refine bf 0 [0] il ft (bC hr_35) rfl uD rfl (by kernel_rfl) (by kernel_rfl) (by kernel_rfl) (by kernel_rfl) (by kernel_rfl) (by kernel_rfl) (by kernel_rfl) (by decide) (by kernel_rfl) wz (vI r_34.1) (by kernel_rfl) ([((ak 0),some (.cells 2 [(vL eI r_34.2.L),(vI r_34.2.f_at)])),(n_13,gB 8 Campaign.enc s_10.1)]:Hp) (by kernel_rfl) (aa (.ref (ak 0) 0 0) (dU (([0,500,1000,1500]:List Int).map eI) je pJ rfl rfl rfl rfl rfl wz ?_))
    obtain ⟨r_37,hr_38,hc_14⟩:=bind_some hc_14
    refine bf 0 [0] il ft (bC hr_38) rfl uD rfl (by kernel_rfl) (by kernel_rfl) (by kernel_rfl) (by kernel_rfl) (by kernel_rfl) (by kernel_rfl) (by kernel_rfl) (by decide) (by kernel_rfl) wz (vI r_37.1) (by kernel_rfl) ([((ak 0),some (.cells 2 [(vL eI r_37.2.L),(vI r_37.2.f_at)])),(n_13,gB 8 Campaign.enc s_10.1)]:Hp) (by kernel_rfl) (aG (.agg [(vS x_7),(vS r_22.1),(vI r_25.1),(vI r_28.1),.nil,(vI r_31.1),(vI r_34.1),(vI r_37.1)]) wz (by kernel_rfl) (iO 0 (.inl rfl) z41 rfl wz (λn_40=>ji 0 il ft 2 gD rfl rfl [(vS x_7),(vS r_22.1),(vI r_25.1),(vI r_28.1),.nil,(vI r_31.1),(vI r_34.1),(vI r_37.1)] rfl wz (af (au (ai (dU (([(⟨#[99,105,116,121]⟩:ByteArray),(⟨#[109,97,108,108]⟩:ByteArray)]:List ByteArray).map eS) fV qm rfl rfl rfl rfl rfl wz (eH lw rfl wz (aa (vI 0) (af (bu (H0:=([((ak 0),some (.cells 2 [(vL eI r_37.2.L),(vI r_37.2.f_at)])),(n_13,gB 8 Campaign.enc s_10.1),(n_40,some (.cells 8 [(vS x_7),(vS r_22.1),(vI r_25.1),(vI r_28.1),.nil,(vI r_31.1),(vI r_34.1),(vI r_37.1)]))]:Hp)) ([(0,(.ref (ak 0) 0 0)),(5,(gV n_13 8 s_10.1)),(8,(.ref n_40 0 0)),(13,(vL eS y_3)),(14,(vI (y_3.length:Int))),(15,(vI (k_5:Int))),(42,(vL eS ([(⟨#[99,105,116,121]⟩:ByteArray),(⟨#[109,97,108,108]⟩:ByteArray)]:List ByteArray))),(43,(vI (([(⟨#[99,105,116,121]⟩:ByteArray),(⟨#[109,97,108,108]⟩:ByteArray)]:List ByteArray).length:Int))),(44,(vI 0))]:SL_) (by kernel_rfl) (vE (by kernel_rfl)) (oI (λn_47 => ?_)))))))))))))
    obtain ⟨o_52,hj_53,hc_14⟩:=bind_some hc_14
    obtain ⟨hn_45,hj_53⟩:=dh hj_53
    refine iM (σ:=(List ByteArray)×(List Int)×Int) (N:=Nm) (λp=>(λ(s_46:(List ByteArray)×(List Int)×Int) (n_49:Nm)=>([(0,(.ref (ak 0) 0 0)),(5,(gV n_13 8 s_10.1)),(8,(.ref n_40 0 0)),(13,(vL eS y_3)),(14,(vI (y_3.length:Int))),(15,(vI (k_5:Int)))]:SL_)) p.1 p.2) (λp=>(λ(s_46:(List ByteArray)×(List Int)×Int) (n_49:Nm)=>([((ak 0),some (.cells 2 [(vL eI s_46.2.1),(vI s_46.2.2)])),(n_13,gB 8 Campaign.enc s_10.1),(n_40,some (.cells 8 [(vS x_7),(vS r_22.1),(vI r_25.1),(vI r_28.1),(gV n_49 1 s_46.1),(vI r_31.1),(vI r_34.1),(vI r_37.1)])),(n_49,gB 1 eS s_46.1)]:Hp)) p.1 p.2) (λ(k_41:Nat)=>(λp=>(λ(s_46:(List ByteArray)×(List Int)×Int) (n_49:Nm)=>([(0,(.ref (ak 0) 0 0)),(5,(gV n_13 8 s_10.1)),(8,(.ref n_40 0 0)),(13,(vL eS y_3)),(14,(vI (y_3.length:Int))),(15,(vI (k_5:Int))),(42,(vL eS ([(⟨#[99,105,116,121]⟩:ByteArray),(⟨#[109,97,108,108]⟩:ByteArray)]:List ByteArray))),(43,(vI (([(⟨#[99,105,116,121]⟩:ByteArray),(⟨#[109,97,108,108]⟩:ByteArray)]:List ByteArray).length:Int))),(44,(vI (k_41:Int)))]:SL_)) p.1 p.2)) (λk x s=>bv k x s) o_52 ([(⟨#[99,105,116,121]⟩:ByteArray),(⟨#[109,97,108,108]⟩:ByteArray)]:List ByteArray) ((([]:List ByteArray),r_37.2.L,r_37.2.f_at),n_47) hj_53 rfl (aX rfl) ?_ ?_
    ·rintro ⟨k_41,l_42,s_46,n_49⟩ ⟨hL_51,hD_44⟩
     dsimp only at hL_51 hD_44
     cases l_42 with
     | nil =>
      obtain rfl:=ae hL_51
      refine ai (aa (vB (decide ((k_41:Int)<(([(⟨#[99,105,116,121]⟩:ByteArray),(⟨#[109,97,108,108]⟩:ByteArray)]:List ByteArray).length:Int)))) (af ?_))
      refine au (aI rfl (drop_nil hD_44) (dK ?_))
      exact dx (s_46,n_49) rfl rfl (aX rfl)
     | cons x_43 l_42 =>
      obtain ⟨c_,hc_50,hL_51⟩:=bind_some hL_51
      refine ai (aa (vB (decide ((k_41:Int)<(([(⟨#[99,105,116,121]⟩:ByteArray),(⟨#[109,97,108,108]⟩:ByteArray)]:List ByteArray).length:Int)))) (af ?_))
      refine au (aJ rfl (dH hD_44) (aF ?_))
      unfold bv at hc_50
      refine au (bz (ai (gL fV rfl rfl (d9 hD_44) rfl wz (dY sz9 ag9 rfl (vS x_43) rfl wz (aa (vS x_43) (af (ai (aa (.ref (ak 0) 0 0) ?_))))))))
      obtain ⟨r_54,hr_55,hc_50⟩:=bind_some hc_50
      refine bf 0 [0] il ft (ed hr_55) rfl Dw rfl (by kernel_rfl) (by kernel_rfl) (by kernel_rfl) (by kernel_rfl) (by kernel_rfl) (by kernel_rfl) (by kernel_rfl) (by decide) (by kernel_rfl) wz (vB r_54.1) (by kernel_rfl) ([((ak 0),some (.cells 2 [(vL eI r_54.2.L),(vI r_54.2.f_at)])),(n_13,gB 8 Campaign.enc s_10.1),(n_40,some (.cells 8 [(vS x_7),(vS r_22.1),(vI r_25.1),(vI r_28.1),(gV n_49 1 s_46.1),(vI r_31.1),(vI r_34.1),(vI r_37.1)])),(n_49,gB 1 eS s_46.1)]:Hp) (by kernel_rfl) (af ?_)
      obtain ⟨v_57,h_58,hc_50⟩:=bind_some hc_50
      refine jS (β:=Nm) (λ(n_59:Nm)=>([(0,(.ref (ak 0) 0 0)),(5,(gV n_13 8 s_10.1)),(8,(.ref n_40 0 0)),(13,(vL eS y_3)),(14,(vI (y_3.length:Int))),(15,(vI (k_5:Int))),(42,(vL eS ([(⟨#[99,105,116,121]⟩:ByteArray),(⟨#[109,97,108,108]⟩:ByteArray)]:List ByteArray))),(43,(vI (([(⟨#[99,105,116,121]⟩:ByteArray),(⟨#[109,97,108,108]⟩:ByteArray)]:List ByteArray).length:Int))),(44,(vI (k_41:Int)))]:SL_)) (λ(n_59:Nm)=>([((ak 0),some (.cells 2 [(vL eI r_54.2.L),(vI r_54.2.f_at)])),(n_13,gB 8 Campaign.enc s_10.1),(n_40,some (.cells 8 [(vS x_7),(vS r_22.1),(vI r_25.1),(vI r_28.1),(gV n_59 1 v_57),(vI r_31.1),(vI r_34.1),(vI r_37.1)])),(n_59,gB 1 eS v_57)]:Hp)) (λ_=>True) ?_ ?_
      ·rcases aj h_58 with⟨hc_60,h_58⟩|⟨hc_60,h_58⟩
       ·refine aJ rfl hc_60 (av (aR kX rfl 4 rfl wz (aY 0 2 il ft uq zQ rfl rfl (gV n_49 1 s_46.1) rfl wz (aa (vS x_43) (dU (([x_43]:List ByteArray).map eS) fV qm rfl rfl rfl rfl rfl wz ?_)))))
        obtain ⟨a_61,hz_62,h_58⟩:=bind_some h_58
        refine nE 0 il ft (i:=3) DR DR sz9 z9 rfl (by decide) by9 (by decide) (λ_=>rfl) rfl rfl rfl hz_62 wz (λn_63=>aR kX rfl 4 rfl wz (ji 0 il ft 2 uq rfl rfl [(vS x_7),(vS r_22.1),(vI r_25.1),(vI r_28.1),(gV n_63 1 a_61),(vI r_31.1),(vI r_34.1),(vI r_37.1)] (Ec rfl) wz (af ?_)))
        obtain rfl:=ae h_58
        exact dx n_63 trivial rfl (aX rfl)
       ·refine aI rfl hc_60 (aF ?_)
        obtain rfl:=ae h_58
        exact dx n_49 trivial rfl (aX rfl)
      ·rintro n_59 _ sl_ H_ hp_ hq_
       refine bu _ hp_ hq_ (av (iL (dI hD_44 hn_45) wz rfl (aa (vI ((k_41+1:Nat):Int)) (af ?_))))
       obtain rfl:=ae hc_50
       exact dJ (k_41+1,l_42,(v_57,r_54.2.L,r_54.2.f_at),n_59) ⟨hL_51,bP hD_44⟩ (ls_ _) rfl (aX rfl)
    ·rintro ⟨s_46,n_49⟩ ho_ sl_ H_ hp_ hq_
     subst ho_
     refine bu _ hp_ hq_ (jT 3 rfl (Bw 3 2 [(vS x_7),(vS r_22.1),(vI r_25.1),(vI r_28.1),(vL eS s_46.1),(vI r_31.1),(vI r_34.1),(vI r_37.1)] rfl rfl (λS hS=>dC (rfl) (dC (rfl) (dC (rfl) (dC (rfl) (dC (hS) (dC (rfl) (dC (rfl) (dC (rfl) (rfl))))))))) (av (aa (gV n_13 8 s_10.1) (aY 0 2 il ft gD mD rfl rfl (.d (.agg (Campaign.enc (⟨x_7,r_22.1,(⟨r_25.1,r_28.1⟩:Window),s_46.1,r_31.1,r_34.1,r_37.1⟩:Campaign)))) rfl wz (dU (([(⟨x_7,r_22.1,(⟨r_25.1,r_28.1⟩:Window),s_46.1,r_31.1,r_34.1,r_37.1⟩:Campaign)]:List Campaign).map Campaign.enc) sF Eb rfl rfl rfl rfl rfl wz ?_))))))
     obtain ⟨a_64,hz_65,hc_14⟩:=bind_some hc_14
     refine nE 0 il ft (i:=1) zI zI gD z41 rfl (by decide) by41 (by decide) (λ_=>rfl) rfl rfl rfl hz_65 wz (λn_66=>aa (gV n_66 8 a_64) (af (av (iL (dI hD_8 hn_9) wz rfl (aa (vI ((k_5+1:Nat):Int)) (af ?_))))))
     obtain rfl:=ae hc_14
     exact dJ (k_5+1,l_6,(a_64,s_46.2.1,s_46.2.2),n_66) ⟨hL_15,bP hD_8⟩ (ls_ _) rfl (aX rfl)
 ·rintro ⟨s_10,n_13⟩ ho_ sl_ H_ hp_ hq_
  subst ho_
  refine bu _ hp_ hq_ (ai (aa (gV n_13 8 s_10.1) (aa (gV n_13 8 s_10.1) (af (jT 1 rfl (lm 4 1 rfl rfl (lm 5 1 rfl rfl (lm 62 1 rfl rfl ?_))))))))
  obtain rfl:=ae hF
  exact aA (pO (.inr rfl) [(vL Campaign.enc s_10.1)] _ [0] [ak 0] ⟨rfl,trivial⟩ (.cons (fE rfl rfl) (.nil)) (by kernel_rfl) ⟨(by kernel_rfl),trivial⟩ (by decide) (by kernel_rfl))
theorem kw {s_1:Stream} {most_2:Int} {r:(List Campaign)×Stream} (hF:aW s_1 most_2=some r) :
  FnM Tryz.prog 14 [(.ref (ak 0) 0 0),(vI most_2)] [(.cells 2 [(vL eI s_1.L),(vI s_1.f_at)])] (gV (ak 1) 8 r.1) (([(.cells 2 [(vL eI r.2.L),(vI r.2.f_at)])]:List Box).map some++gO 8 Campaign.enc r.1):=by
 refine FnM.of_wH ⟨Tryz.prog,63,[],[]⟩ rfl Tryz.func14 rfl rfl (lb_ rfl) (by kernel_rfl) ?_
 unfold aW at hF
 refine ai (aa .nil (af (ai (aa .nil (af (au (ai (dU (([(⟨#[99,97]⟩:ByteArray),(⟨#[99,98]⟩:ByteArray),(⟨#[99,99]⟩:ByteArray),(⟨#[99,100]⟩:ByteArray)]:List ByteArray).map eS) fV qm rfl rfl rfl rfl rfl wz (aa (vI most_2) ?_)))))))))
 obtain ⟨y_3,hy_4,hF⟩:=bind_some hF
 refine kE lw sz9 (λ_=>rfl) rfl rfl hy_4 wz (eH lw rfl wz (aa (vI 0) (af (oI (λn_11 => ?_)))))
 obtain ⟨o_16,hj_17,hF⟩:=bind_some hF
 obtain ⟨hn_9,hj_17⟩:=dh hj_17
 refine iM (σ:=(List Campaign)×(List Int)×Int) (N:=Nm) (λp=>(λ(s_10:(List Campaign)×(List Int)×Int) (n_13:Nm)=>([(5,(gV n_13 8 s_10.1))]:SL_)) p.1 p.2) (λp=>(λ(s_10:(List Campaign)×(List Int)×Int) (n_13:Nm)=>([((ak 0),some (.cells 2 [(vL eI s_10.2.1),(vI s_10.2.2)])),(n_13,gB 8 Campaign.enc s_10.1)]:Hp)) p.1 p.2) (λ(k_5:Nat)=>(λp=>(λ(s_10:(List Campaign)×(List Int)×Int) (n_13:Nm)=>([(0,(.ref (ak 0) 0 0)),(5,(gV n_13 8 s_10.1)),(13,(vL eS y_3)),(14,(vI (y_3.length:Int))),(15,(vI (k_5:Int)))]:SL_)) p.1 p.2)) (λk x s=>aV k x s) o_16 y_3 ((([]:List Campaign),s_1.L,s_1.f_at),n_11) hj_17 rfl (aX rfl) ?_ ?_
 ·rintro ⟨k_5,l_6,s_10,n_13⟩ ⟨hL_15,hD_8⟩
  dsimp only at hL_15 hD_8
  cases l_6 with
  | nil =>
   obtain rfl:=ae hL_15
   refine ai (aa (vB (decide ((k_5:Int)<(y_3.length:Int)))) (af ?_))
   refine au (aI rfl (drop_nil hD_8) (dK ?_))
   exact dx (s_10,n_13) rfl rfl (aX rfl)
  | cons x_7 l_6 =>
   obtain ⟨c_,hc_14,hL_15⟩:=bind_some hL_15
   refine ai (aa (vB (decide ((k_5:Int)<(y_3.length:Int)))) (af ?_))
   refine au (aJ rfl (dH hD_8) (aF ?_))
   unfold aV at hc_14
   refine au (bz (ai (gL fV rfl rfl (d9 hD_8) rfl wz (dY sz9 ag9 rfl (vS x_7) rfl wz (aa (vS x_7) (af (au (ai (aa (.ref (ak 0) 0 0) ?_)))))))))
   obtain ⟨r_18,hr_19,hc_14⟩:=bind_some hc_14
   refine bf 0 [0] il ft (ed hr_19) rfl Dw rfl (by kernel_rfl) (by kernel_rfl) (by kernel_rfl) (by kernel_rfl) (by kernel_rfl) (by kernel_rfl) (by kernel_rfl) (by decide) (by kernel_rfl) wz (vB r_18.1) (by kernel_rfl) ([((ak 0),some (.cells 2 [(vL eI r_18.2.L),(vI r_18.2.f_at)])),(n_13,gB 8 Campaign.enc s_10.1)]:Hp) (by kernel_rfl) (af ?_)
   rcases aj hc_14 with⟨hc_21,hc_14⟩|⟨hc_21,hc_14⟩
   ·refine aJ rfl hc_21 (dK (av (iL (dI hD_8 hn_9) wz rfl (aa (vI ((k_5+1:Nat):Int)) (af ?_)))))
    obtain rfl:=ae hc_14
    exact dJ (k_5+1,l_6,(s_10.1,r_18.2.L,r_18.2.f_at),n_13) ⟨hL_15,bP hD_8⟩ (ls_ _) rfl (aX rfl)
   ·refine aI rfl hc_21 (aF (ai (aa (vS x_7) (aa (.ref (ak 0) 0 0) (dU (([(⟨#[]⟩:ByteArray),(⟨#[]⟩:ByteArray),(⟨#[99,97,114,115]⟩:ByteArray),(⟨#[102,111,111,100]⟩:ByteArray)]:List ByteArray).map eS) fV qm rfl rfl rfl rfl rfl wz ?_)))))
    obtain ⟨r_22,hr_23,hc_14⟩:=bind_some hc_14
    refine bf 0 [0] il ft (gH hr_23) rfl hb17 rfl (by kernel_rfl) (by kernel_rfl) (by kernel_rfl) (by kernel_rfl) (by kernel_rfl) (by kernel_rfl) (by kernel_rfl) (by decide) (by kernel_rfl) wz (vS r_22.1) (by kernel_rfl) ([((ak 0),some (.cells 2 [(vL eI r_22.2.L),(vI r_22.2.f_at)])),(n_13,gB 8 Campaign.enc s_10.1)]:Hp) (by kernel_rfl) (aa (.ref (ak 0) 0 0) (dU (([0,0,10,20]:List Int).map eI) je pJ rfl rfl rfl rfl rfl wz ?_))
    obtain ⟨r_25,hr_26,hc_14⟩:=bind_some hc_14
    refine bf 0 [0] il ft (bC hr_26) rfl uD rfl (by kernel_rfl) (by kernel_rfl) (by kernel_rfl) (by kernel_rfl) (by kernel_rfl) (by kernel_rfl) (by kernel_rfl) (by decide) (by kernel_rfl) wz (vI r_25.1) (by kernel_rfl) ([((ak 0),some (.cells 2 [(vL eI r_25.2.L),(vI r_25.2.f_at)])),(n_13,gB 8 Campaign.enc s_10.1)]:Hp) (by kernel_rfl) (aa (.ref (ak 0) 0 0) (dU (([30,50,60,100]:List Int).map eI) je pJ rfl rfl rfl rfl rfl wz ?_))
    obtain ⟨r_28,hr_29,hc_14⟩:=bind_some hc_14
    refine bf 0 [0] il ft (bC hr_29) rfl uD rfl (by kernel_rfl) (by kernel_rfl) (by kernel_rfl) (by kernel_rfl) (by kernel_rfl) (by kernel_rfl) (by kernel_rfl) (by decide) (by kernel_rfl) wz (vI r_28.1) (by kernel_rfl) ([((ak 0),some (.cells 2 [(vL eI r_28.2.L),(vI r_28.2.f_at)])),(n_13,gB 8 Campaign.enc s_10.1)]:Hp) (by kernel_rfl) (aG (.d (.agg (Window.enc (⟨r_25.1,r_28.1⟩:Window)))) wz (by kernel_rfl) (aa (.ref (ak 0) 0 0) (dU (([0,1,2,3,4,6]:List Int).map eI) je pJ rfl rfl rfl rfl rfl wz ?_)))
    obtain ⟨r_31,hr_32,hc_14⟩:=bind_some hc_14
    refine bf 0 [0] il ft (bC hr_32) rfl uD rfl (by kernel_rfl) (by kernel_rfl) (by kernel_rfl) (by kernel_rfl) (by kernel_rfl) (by kernel_rfl) (by kernel_rfl) (by decide) (by kernel_rfl) wz (vI r_31.1) (by kernel_rfl) ([((ak 0),some (.cells 2 [(vL eI r_31.2.L),(vI r_31.2.f_at)])),(n_13,gB 8 Campaign.enc s_10.1)]:Hp) (by kernel_rfl) (aa (.ref (ak 0) 0 0) (dU (([0,1,2,3,9]:List Int).map eI) je pJ rfl rfl rfl rfl rfl wz ?_))
    obtain ⟨r_34,hr_35,hc_14⟩:=bind_some hc_14
    refine bf 0 [0] il ft (bC hr_35) rfl uD rfl (by kernel_rfl) (by kernel_rfl) (by kernel_rfl) (by kernel_rfl) (by kernel_rfl) (by kernel_rfl) (by kernel_rfl) (by decide) (by kernel_rfl) wz (vI r_34.1) (by kernel_rfl) ([((ak 0),some (.cells 2 [(vL eI r_34.2.L),(vI r_34.2.f_at)])),(n_13,gB 8 Campaign.enc s_10.1)]:Hp) (by kernel_rfl) (aa (.ref (ak 0) 0 0) (dU (([0,500,1000,1500]:List Int).map eI) je pJ rfl rfl rfl rfl rfl wz ?_))
    obtain ⟨r_37,hr_38,hc_14⟩:=bind_some hc_14
    refine bf 0 [0] il ft (bC hr_38) rfl uD rfl (by kernel_rfl) (by kernel_rfl) (by kernel_rfl) (by kernel_rfl) (by kernel_rfl) (by kernel_rfl) (by kernel_rfl) (by decide) (by kernel_rfl) wz (vI r_37.1) (by kernel_rfl) ([((ak 0),some (.cells 2 [(vL eI r_37.2.L),(vI r_37.2.f_at)])),(n_13,gB 8 Campaign.enc s_10.1)]:Hp) (by kernel_rfl) (aG (.agg [(vS x_7),(vS r_22.1),(vI r_25.1),(vI r_28.1),.nil,(vI r_31.1),(vI r_34.1),(vI r_37.1)]) wz (by kernel_rfl) (iO 0 (.inl rfl) z41 rfl wz (λn_40=>ji 0 il ft 2 gD rfl rfl [(vS x_7),(vS r_22.1),(vI r_25.1),(vI r_28.1),.nil,(vI r_31.1),(vI r_34.1),(vI r_37.1)] rfl wz (af (au (ai (dU (([(⟨#[99,105,116,121]⟩:ByteArray),(⟨#[109,97,108,108]⟩:ByteArray)]:List ByteArray).map eS) fV qm rfl rfl rfl rfl rfl wz (eH lw rfl wz (aa (vI 0) (af (bu (H0:=([((ak 0),some (.cells 2 [(vL eI r_37.2.L),(vI r_37.2.f_at)])),(n_13,gB 8 Campaign.enc s_10.1),(n_40,some (.cells 8 [(vS x_7),(vS r_22.1),(vI r_25.1),(vI r_28.1),.nil,(vI r_31.1),(vI r_34.1),(vI r_37.1)]))]:Hp)) ([(0,(.ref (ak 0) 0 0)),(5,(gV n_13 8 s_10.1)),(8,(.ref n_40 0 0)),(13,(vL eS y_3)),(14,(vI (y_3.length:Int))),(15,(vI (k_5:Int))),(42,(vL eS ([(⟨#[99,105,116,121]⟩:ByteArray),(⟨#[109,97,108,108]⟩:ByteArray)]:List ByteArray))),(43,(vI (([(⟨#[99,105,116,121]⟩:ByteArray),(⟨#[109,97,108,108]⟩:ByteArray)]:List ByteArray).length:Int))),(44,(vI 0))]:SL_) (by kernel_rfl) (vE (by kernel_rfl)) (oI (λn_47 => ?_)))))))))))))
    obtain ⟨o_52,hj_53,hc_14⟩:=bind_some hc_14
    obtain ⟨hn_45,hj_53⟩:=dh hj_53
    refine iM (σ:=(List ByteArray)×(List Int)×Int) (N:=Nm) (λp=>(λ(s_46:(List ByteArray)×(List Int)×Int) (n_49:Nm)=>([(0,(.ref (ak 0) 0 0)),(5,(gV n_13 8 s_10.1)),(8,(.ref n_40 0 0)),(13,(vL eS y_3)),(14,(vI (y_3.length:Int))),(15,(vI (k_5:Int)))]:SL_)) p.1 p.2) (λp=>(λ(s_46:(List ByteArray)×(List Int)×Int) (n_49:Nm)=>([((ak 0),some (.cells 2 [(vL eI s_46.2.1),(vI s_46.2.2)])),(n_13,gB 8 Campaign.enc s_10.1),(n_40,some (.cells 8 [(vS x_7),(vS r_22.1),(vI r_25.1),(vI r_28.1),(gV n_49 1 s_46.1),(vI r_31.1),(vI r_34.1),(vI r_37.1)])),(n_49,gB 1 eS s_46.1)]:Hp)) p.1 p.2) (λ(k_41:Nat)=>(λp=>(λ(s_46:(List ByteArray)×(List Int)×Int) (n_49:Nm)=>([(0,(.ref (ak 0) 0 0)),(5,(gV n_13 8 s_10.1)),(8,(.ref n_40 0 0)),(13,(vL eS y_3)),(14,(vI (y_3.length:Int))),(15,(vI (k_5:Int))),(42,(vL eS ([(⟨#[99,105,116,121]⟩:ByteArray),(⟨#[109,97,108,108]⟩:ByteArray)]:List ByteArray))),(43,(vI (([(⟨#[99,105,116,121]⟩:ByteArray),(⟨#[109,97,108,108]⟩:ByteArray)]:List ByteArray).length:Int))),(44,(vI (k_41:Int)))]:SL_)) p.1 p.2)) (λk x s=>bv k x s) o_52 ([(⟨#[99,105,116,121]⟩:ByteArray),(⟨#[109,97,108,108]⟩:ByteArray)]:List ByteArray) ((([]:List ByteArray),r_37.2.L,r_37.2.f_at),n_47) hj_53 rfl (aX rfl) ?_ ?_
    ·rintro ⟨k_41,l_42,s_46,n_49⟩ ⟨hL_51,hD_44⟩
     dsimp only at hL_51 hD_44
     cases l_42 with
     | nil =>
      obtain rfl:=ae hL_51
      refine ai (aa (vB (decide ((k_41:Int)<(([(⟨#[99,105,116,121]⟩:ByteArray),(⟨#[109,97,108,108]⟩:ByteArray)]:List ByteArray).length:Int)))) (af ?_))
      refine au (aI rfl (drop_nil hD_44) (dK ?_))
      exact dx (s_46,n_49) rfl rfl (aX rfl)
     | cons x_43 l_42 =>
      obtain ⟨c_,hc_50,hL_51⟩:=bind_some hL_51
      refine ai (aa (vB (decide ((k_41:Int)<(([(⟨#[99,105,116,121]⟩:ByteArray),(⟨#[109,97,108,108]⟩:ByteArray)]:List ByteArray).length:Int)))) (af ?_))
      refine au (aJ rfl (dH hD_44) (aF ?_))
      unfold bv at hc_50
      refine au (bz (ai (gL fV rfl rfl (d9 hD_44) rfl wz (dY sz9 ag9 rfl (vS x_43) rfl wz (aa (vS x_43) (af (ai (aa (.ref (ak 0) 0 0) ?_))))))))
      obtain ⟨r_54,hr_55,hc_50⟩:=bind_some hc_50
      refine bf 0 [0] il ft (ed hr_55) rfl Dw rfl (by kernel_rfl) (by kernel_rfl) (by kernel_rfl) (by kernel_rfl) (by kernel_rfl) (by kernel_rfl) (by kernel_rfl) (by decide) (by kernel_rfl) wz (vB r_54.1) (by kernel_rfl) ([((ak 0),some (.cells 2 [(vL eI r_54.2.L),(vI r_54.2.f_at)])),(n_13,gB 8 Campaign.enc s_10.1),(n_40,some (.cells 8 [(vS x_7),(vS r_22.1),(vI r_25.1),(vI r_28.1),(gV n_49 1 s_46.1),(vI r_31.1),(vI r_34.1),(vI r_37.1)])),(n_49,gB 1 eS s_46.1)]:Hp) (by kernel_rfl) (af ?_)
      obtain ⟨v_57,h_58,hc_50⟩:=bind_some hc_50
      refine jS (β:=Nm) (λ(n_59:Nm)=>([(0,(.ref (ak 0) 0 0)),(5,(gV n_13 8 s_10.1)),(8,(.ref n_40 0 0)),(13,(vL eS y_3)),(14,(vI (y_3.length:Int))),(15,(vI (k_5:Int))),(42,(vL eS ([(⟨#[99,105,116,121]⟩:ByteArray),(⟨#[109,97,108,108]⟩:ByteArray)]:List ByteArray))),(43,(vI (([(⟨#[99,105,116,121]⟩:ByteArray),(⟨#[109,97,108,108]⟩:ByteArray)]:List ByteArray).length:Int))),(44,(vI (k_41:Int)))]:SL_)) (λ(n_59:Nm)=>([((ak 0),some (.cells 2 [(vL eI r_54.2.L),(vI r_54.2.f_at)])),(n_13,gB 8 Campaign.enc s_10.1),(n_40,some (.cells 8 [(vS x_7),(vS r_22.1),(vI r_25.1),(vI r_28.1),(gV n_59 1 v_57),(vI r_31.1),(vI r_34.1),(vI r_37.1)])),(n_59,gB 1 eS v_57)]:Hp)) (λ_=>True) ?_ ?_
      ·rcases aj h_58 with⟨hc_60,h_58⟩|⟨hc_60,h_58⟩
       ·refine aJ rfl hc_60 (av (aR kX rfl 4 rfl wz (aY 0 2 il ft uq zQ rfl rfl (gV n_49 1 s_46.1) rfl wz (aa (vS x_43) (dU (([x_43]:List ByteArray).map eS) fV qm rfl rfl rfl rfl rfl wz ?_)))))
        obtain ⟨a_61,hz_62,h_58⟩:=bind_some h_58
        refine nE 0 il ft (i:=3) DR DR sz9 z9 rfl (by decide) by9 (by decide) (λ_=>rfl) rfl rfl rfl hz_62 wz (λn_63=>aR kX rfl 4 rfl wz (ji 0 il ft 2 uq rfl rfl [(vS x_7),(vS r_22.1),(vI r_25.1),(vI r_28.1),(gV n_63 1 a_61),(vI r_31.1),(vI r_34.1),(vI r_37.1)] (Ec rfl) wz (af ?_)))
        obtain rfl:=ae h_58
        exact dx n_63 trivial rfl (aX rfl)
       ·refine aI rfl hc_60 (aF ?_)
        obtain rfl:=ae h_58
        exact dx n_49 trivial rfl (aX rfl)
      ·rintro n_59 _ sl_ H_ hp_ hq_
       refine bu _ hp_ hq_ (av (iL (dI hD_44 hn_45) wz rfl (aa (vI ((k_41+1:Nat):Int)) (af ?_))))
       obtain rfl:=ae hc_50
       exact dJ (k_41+1,l_42,(v_57,r_54.2.L,r_54.2.f_at),n_59) ⟨hL_51,bP hD_44⟩ (ls_ _) rfl (aX rfl)
    ·rintro ⟨s_46,n_49⟩ ho_ sl_ H_ hp_ hq_
     subst ho_
     refine bu _ hp_ hq_ (jT 3 rfl (Bw 3 2 [(vS x_7),(vS r_22.1),(vI r_25.1),(vI r_28.1),(vL eS s_46.1),(vI r_31.1),(vI r_34.1),(vI r_37.1)] rfl rfl (λS hS=>dC (rfl) (dC (rfl) (dC (rfl) (dC (rfl) (dC (hS) (dC (rfl) (dC (rfl) (dC (rfl) (rfl))))))))) (av (aa (gV n_13 8 s_10.1) (aY 0 2 il ft gD mD rfl rfl (.d (.agg (Campaign.enc (⟨x_7,r_22.1,(⟨r_25.1,r_28.1⟩:Window),s_46.1,r_31.1,r_34.1,r_37.1⟩:Campaign)))) rfl wz (dU (([(⟨x_7,r_22.1,(⟨r_25.1,r_28.1⟩:Window),s_46.1,r_31.1,r_34.1,r_37.1⟩:Campaign)]:List Campaign).map Campaign.enc) sF Eb rfl rfl rfl rfl rfl wz ?_))))))
     obtain ⟨a_64,hz_65,hc_14⟩:=bind_some hc_14
     refine nE 0 il ft (i:=1) zI zI gD z41 rfl (by decide) by41 (by decide) (λ_=>rfl) rfl rfl rfl hz_65 wz (λn_66=>aa (gV n_66 8 a_64) (af (av (iL (dI hD_8 hn_9) wz rfl (aa (vI ((k_5+1:Nat):Int)) (af ?_))))))
     obtain rfl:=ae hc_14
     exact dJ (k_5+1,l_6,(a_64,s_46.2.1,s_46.2.2),n_66) ⟨hL_15,bP hD_8⟩ (ls_ _) rfl (aX rfl)
 ·rintro ⟨s_10,n_13⟩ ho_ sl_ H_ hp_ hq_
  subst ho_
  refine bu _ hp_ hq_ (ai (aa (gV n_13 8 s_10.1) (aa (gV n_13 8 s_10.1) (af ?_))))
  obtain rfl:=ae hF
  exact aA (finG (outs:=([(.cells 2 [(vL eI s_10.2.1),(vI s_10.2.2)])]:List Box)) (.inr rfl) 1 rfl rfl rfl (by kernel_rfl) (by kernel_rfl))
theorem qy {s_1:Stream} {low_2:Int} {high_3:Int} {r:Int×Stream} (hF:gy s_1 low_2 high_3=some r) :
  FnM Tryz.prog 40 [(.ref (ak 0) 0 0),(vI low_2),(vI high_3)] [(.cells 2 [(vL eI s_1.L),(vI s_1.f_at)])] (vI r.1) [some (.cells 2 [(vL eI r.2.L),(vI r.2.f_at)])]:=by
 refine FnM.of_wH ⟨Tryz.prog,19,[],[]⟩ rfl Tryz.func40 rfl rfl (lb_ rfl) (by kernel_rfl) ?_
 unfold gy at hF
 refine ai (aa (vI 0) (af (au (ai (aa (vI high_3) (aa (vI low_2) (aa (vB (decide (high_3<low_2))) (af ?_))))))))
 rcases aj hF with⟨hc_4,hF⟩|⟨hc_4,hF⟩
 ·refine aJ rfl hc_4 (ai (aa (vI low_2) (aa (vI low_2) (af ?_))))
  obtain rfl:=ae hF
  exact aA (pO (.inr rfl) [(vI low_2)] _ [0] [ak 0] ⟨rfl,trivial⟩ (.cons (fE rfl rfl) (.nil)) (by kernel_rfl) ⟨(by kernel_rfl),trivial⟩ (by decide) (by kernel_rfl))
 ·refine aI rfl hc_4 (aF (ai (aa (vI low_2) (aa (.ref (ak 0) 0 0) (aa (vI high_3) (aa (vI low_2) (aa (vI (w64 (high_3-low_2))) (aa (vI (w64 ((w64 (high_3-low_2))+1))) ?_))))))))
  obtain ⟨r_5,hr_6,hF⟩:=bind_some hF
  refine bf 0 [0] il ft (bL hr_6) rfl xC rfl (by kernel_rfl) (by kernel_rfl) (by kernel_rfl) (by kernel_rfl) (by kernel_rfl) (by kernel_rfl) (by kernel_rfl) (by decide) (by kernel_rfl) wz (vI r_5.1) (by kernel_rfl) ([((ak 0),some (.cells 2 [(vL eI r_5.2.L),(vI r_5.2.f_at)]))]:Hp) (by kernel_rfl) (aa (vI (w64 (low_2+r_5.1))) (aa (vI (w64 (low_2+r_5.1))) (af ?_)))
  obtain rfl:=ae hF
  exact aA (pO (.inr rfl) [(vI (w64 (low_2+r_5.1)))] _ [0] [ak 0] ⟨rfl,trivial⟩ (.cons (fE rfl rfl) (.nil)) (by kernel_rfl) ⟨(by kernel_rfl),trivial⟩ (by decide) (by kernel_rfl))
theorem gZ {s_1:Stream} {low_2:Int} {high_3:Int} {r:Int×Stream} (hF:eF s_1 low_2 high_3=some r) :
  FnM Tryz.prog 18 [(.ref (ak 0) 0 0),(vI low_2),(vI high_3)] [(.cells 2 [(vL eI s_1.L),(vI s_1.f_at)])] (vI r.1) [some (.cells 2 [(vL eI r.2.L),(vI r.2.f_at)])]:=by
 refine FnM.of_wH ⟨Tryz.prog,22,[],[]⟩ rfl Tryz.func18 rfl rfl (lb_ rfl) (by kernel_rfl) ?_
 unfold eF at hF
 refine ai (aa (vI 0) (af (au (ai (aa (.ref (ak 0) 0 0) ?_)))))
 obtain ⟨r_4,hr_5,hF⟩:=bind_some hF
 refine bf 0 [0] il ft (ed hr_5) rfl Dw rfl (by kernel_rfl) (by kernel_rfl) (by kernel_rfl) (by kernel_rfl) (by kernel_rfl) (by kernel_rfl) (by kernel_rfl) (by decide) (by kernel_rfl) wz (vB r_4.1) (by kernel_rfl) ([((ak 0),some (.cells 2 [(vL eI r_4.2.L),(vI r_4.2.f_at)]))]:Hp) (by kernel_rfl) (af ?_)
 rcases aj hF with⟨hc_7,hF⟩|⟨hc_7,hF⟩
 ·refine aJ rfl hc_7 (ai (aa (.ref (ak 0) 0 0) (aa (vI low_2) (aa (vI (w64 (low_2-1))) (aa (vI high_3) (aa (vI (w64 (high_3+1))) (aa (vI low_2) (aa (vI high_3) (dU (([(w64 (low_2-1)),(w64 (high_3+1)),low_2,high_3,(-1099511627776),1099511627776]:List Int).map eI) je pJ rfl rfl rfl rfl rfl wz ?_)))))))))
  obtain ⟨r_8,hr_9,hF⟩:=bind_some hF
  refine bf 0 [0] il ft (bC hr_9) rfl uD rfl (by kernel_rfl) (by kernel_rfl) (by kernel_rfl) (by kernel_rfl) (by kernel_rfl) (by kernel_rfl) (by kernel_rfl) (by decide) (by kernel_rfl) wz (vI r_8.1) (by kernel_rfl) ([((ak 0),some (.cells 2 [(vL eI r_8.2.L),(vI r_8.2.f_at)]))]:Hp) (by kernel_rfl) (aa (vI r_8.1) (af ?_))
  obtain rfl:=ae hF
  exact aA (pO (.inr rfl) [(vI r_8.1)] _ [0] [ak 0] ⟨rfl,trivial⟩ (.cons (fE rfl rfl) (.nil)) (by kernel_rfl) ⟨(by kernel_rfl),trivial⟩ (by decide) (by kernel_rfl))
 ·refine aI rfl hc_7 (aF (ai (aa (.ref (ak 0) 0 0) (aa (vI low_2) (aa (vI high_3) ?_)))))
  obtain ⟨r_11,hr_12,hF⟩:=bind_some hF
  refine bf 0 [0] il ft (qy hr_12) rfl hb40 rfl (by kernel_rfl) (by kernel_rfl) (by kernel_rfl) (by kernel_rfl) (by kernel_rfl) (by kernel_rfl) (by kernel_rfl) (by decide) (by kernel_rfl) wz (vI r_11.1) (by kernel_rfl) ([((ak 0),some (.cells 2 [(vL eI r_11.2.L),(vI r_11.2.f_at)]))]:Hp) (by kernel_rfl) (aa (vI r_11.1) (af ?_))
  obtain rfl:=ae hF
  exact aA (pO (.inr rfl) [(vI r_11.1)] _ [0] [ak 0] ⟨rfl,trivial⟩ (.cons (fE rfl rfl) (.nil)) (by kernel_rfl) ⟨(by kernel_rfl),trivial⟩ (by decide) (by kernel_rfl))
theorem nC {s_1:Stream} {most_2:Int} {r:(List Campaign)×Stream} (hF:eD s_1 most_2=some r) :
  FnM Tryz.prog 4 [(.ref (ak 0) 0 0),(vI most_2)] [(.cells 2 [(vL eI s_1.L),(vI s_1.f_at)])] (vL Campaign.enc r.1) [some (.cells 2 [(vL eI r.2.L),(vI r.2.f_at)])]:=by
 refine FnM.of_wH ⟨Tryz.prog,80,[],[]⟩ rfl Tryz.func4 rfl rfl (lb_ rfl) (by kernel_rfl) ?_
 unfold eD at hF
 refine ai (aa .nil (af (ai (aa (.ref (ak 0) 0 0) (aa (vI most_2) ?_)))))
 obtain ⟨r_3,hr_4,hF⟩:=bind_some hF
 refine CK [0] (kw hr_4) rfl hb14 rfl (by kernel_rfl) (by kernel_rfl) (by kernel_rfl) (by kernel_rfl) (by kernel_rfl) rfl (by decide) (by kernel_rfl) wz ([((ak 0),some (.cells 2 [(vL eI r_3.2.L),(vI r_3.2.f_at)]))]:Hp) (λ_=>by kernel_rfl) (λn_6=>aa (gV n_6 8 r_3.1) (af (au (au ?_))))
 obtain ⟨v_7,h_8,hF⟩:=bind_some hF
 refine bg [(0,(.ref (ak 0) 0 0)),(5,(gV n_6 8 r_3.1)),(16,(vB v_7.1))] [((ak 0),some (.cells 2 [(vL eI v_7.2.1),(vI v_7.2.2)])),(n_6,gB 8 Campaign.enc r_3.1)] ?_ ?_
 ·refine av (aa (gV n_6 8 r_3.1) (Be uR rfl wz (aa (vB (decide ((r_3.1.length:Int)>0))) ?_)))
  rcases aj h_8 with⟨hc_9,h_8⟩|⟨hc_9,h_8⟩
  ·refine ay rfl hc_9 wz (aG (.ref (ak 0) 0 0) wa rfl ?_)
   obtain ⟨r_10,hr_11,h_8⟩:=bind_some h_8
   refine bf 0 [0] il ft (ed hr_11) rfl Dw rfl (by kernel_rfl) (by kernel_rfl) (by kernel_rfl) (by kernel_rfl) (by kernel_rfl) (by kernel_rfl) (by kernel_rfl) (by decide) (by kernel_rfl) wa (vB r_10.1) (by kernel_rfl) ([((ak 0),some (.cells 2 [(vL eI r_10.2.L),(vI r_10.2.f_at)])),(n_6,gB 8 Campaign.enc r_3.1)]:Hp) (by kernel_rfl) (aa (vB r_10.1) (af ?_))
   obtain rfl:=ae h_8
   exact cu
  ·refine ay rfl hc_9 wz (ah (ah (aa (vB false) (af ?_))))
   obtain rfl:=ae h_8
   exact cu
 ·rintro ⟨⟩ _ sl_ H_ hp_ hq_
  refine bu _ hp_ hq_ ?_
  obtain ⟨v_13,h_14,hF⟩:=bind_some hF
  refine bg [(5,(gV n_6 8 v_13.1))] [((ak 0),some (.cells 2 [(vL eI v_13.2.1),(vI v_13.2.2)])),(n_6,gB 8 Campaign.enc v_13.1)] ?_ ?_
  ·rcases aj h_14 with⟨hc_15,h_14⟩|⟨hc_15,h_14⟩
   ·refine aJ rfl hc_15 (ai (aa (gV n_6 8 r_3.1) (aa (.ref (ak 0) 0 0) (aa (gV n_6 8 r_3.1) (Be uR rfl wz ?_)))))
    obtain ⟨r_16,hr_17,h_14⟩:=bind_some h_14
    refine bf 0 [0] il ft (bL hr_17) rfl xC rfl (by kernel_rfl) (by kernel_rfl) (by kernel_rfl) (by kernel_rfl) (by kernel_rfl) (by kernel_rfl) (by kernel_rfl) (by decide) (by kernel_rfl) wz (vI r_16.1) (by kernel_rfl) ([((ak 0),some (.cells 2 [(vL eI r_16.2.L),(vI r_16.2.f_at)])),(n_6,gB 8 Campaign.enc r_3.1)]:Hp) (by kernel_rfl) ?_
    obtain ⟨_,hi_19,h_14⟩:=bind_some h_14
    refine sQ sF rfl rfl (oz hi_19) (lS hi_19) wz (aa (.ref n_6 (0+(r_16.1).toNat) 0) (af (ai (aa (.ref (ak 0) 0 0) ?_))))
    obtain ⟨r_20,hr_21,h_14⟩:=bind_some h_14
    refine bf 0 [0] il ft (bL hr_21) rfl xC rfl (by kernel_rfl) (by kernel_rfl) (by kernel_rfl) (by kernel_rfl) (by kernel_rfl) (by kernel_rfl) (by kernel_rfl) (by decide) (by kernel_rfl) wz (vI r_20.1) (by kernel_rfl) ([((ak 0),some (.cells 2 [(vL eI r_20.2.L),(vI r_20.2.f_at)])),(n_6,gB 8 Campaign.enc r_3.1)]:Hp) (by kernel_rfl) (af (bz (ai (aa (vB (r_20.1==0)) (aa (vB (r_20.1==0)) (af ?_))))))
    rcases aj h_14 with⟨hc_23,h_14⟩|⟨hc_23,h_14⟩
    ·refine aJ rfl hc_23 (av (aa (.ref n_6 (0+(r_16.1).toNat) 0) (aa (.ref n_6 (0+(r_16.1).toNat) 0) (aa (.ref (ak 0) 0 0) (aa (.ref n_6 (0+(r_16.1).toNat) 0) (aa (.ref n_6 (0+(r_16.1).toNat) 0) (aR mf rfl 0 rfl wz ?_)))))))
     obtain ⟨e_24,hy_25,h_14⟩:=bind_some h_14
     refine tq 0 1 il ft sz9 ag9 rfl rfl hy_25 (vS e_24.Key) rfl wz (dU (([e_24.Key,(⟨#[]⟩:ByteArray),(⟨#[99,97]⟩:ByteArray)]:List ByteArray).map eS) fV qm rfl rfl rfl rfl rfl wz ?_)
     obtain ⟨r_26,hr_27,h_14⟩:=bind_some h_14
     refine bf 0 [0] il ft (gH hr_27) rfl hb17 rfl (by kernel_rfl) (by kernel_rfl) (by kernel_rfl) (by kernel_rfl) (by kernel_rfl) (by kernel_rfl) (by kernel_rfl) (by decide) (by kernel_rfl) wz (vS r_26.1) (by kernel_rfl) ([((ak 0),some (.cells 2 [(vL eI r_26.2.L),(vI r_26.2.f_at)])),(n_6,gB 8 Campaign.enc r_3.1)]:Hp) (by kernel_rfl) (aa (.ref (ak 0) 0 0) (dU (([(⟨#[]⟩:ByteArray),(⟨#[65]⟩:ByteArray)]:List ByteArray).map eS) fV qm rfl rfl rfl rfl rfl wz ?_))
     obtain ⟨r_29,hr_30,h_14⟩:=bind_some h_14
     refine bf 0 [0] il ft (gH hr_30) rfl hb17 rfl (by kernel_rfl) (by kernel_rfl) (by kernel_rfl) (by kernel_rfl) (by kernel_rfl) (by kernel_rfl) (by kernel_rfl) (by decide) (by kernel_rfl) wz (vS r_29.1) (by kernel_rfl) ([((ak 0),some (.cells 2 [(vL eI r_29.2.L),(vI r_29.2.f_at)])),(n_6,gB 8 Campaign.enc r_3.1)]:Hp) (by kernel_rfl) (aa (.ref n_6 (0+(r_16.1).toNat) 0) (aR mf rfl 0 rfl wz ?_))
     obtain ⟨e_32,hy_33,h_14⟩:=bind_some h_14
     refine qG 0 il ft 1 sz9 rfl rfl hy_33 (⟨r_26.1,e_32.Class,e_32.Time,e_32.Tags,e_32.Goal,e_32.Most,e_32.Cents⟩:Campaign) rfl wz (jr (v':=(gV n_6 8 (r_3.1.set (0+(r_16.1).toNat) (⟨r_26.1,e_32.Class,e_32.Time,e_32.Tags,e_32.Goal,e_32.Most,e_32.Cents⟩:Campaign)))) 5 rfl (fF (by simp)) (jr (v':=(gV n_6 8 (r_3.1.set (0+(r_16.1).toNat) (⟨r_26.1,e_32.Class,e_32.Time,e_32.Tags,e_32.Goal,e_32.Most,e_32.Cents⟩:Campaign)))) 17 rfl (fF (by simp)) (jr (v':=(gV n_6 8 (r_3.1.set (0+(r_16.1).toNat) (⟨r_26.1,e_32.Class,e_32.Time,e_32.Tags,e_32.Goal,e_32.Most,e_32.Cents⟩:Campaign)))) 19 rfl (fF (by simp)) (aa (.ref n_6 (0+(r_16.1).toNat) 0) (aR oJ rfl 1 rfl wz ?_)))))
     obtain ⟨e_34,hy_35,h_14⟩:=bind_some h_14
     refine qG 0 il ft 1 sz9 rfl rfl hy_35 (⟨e_34.Key,r_29.1,e_34.Time,e_34.Tags,e_34.Goal,e_34.Most,e_34.Cents⟩:Campaign) rfl wz (jr (v':=(gV n_6 8 ((r_3.1.set (0+(r_16.1).toNat) (⟨r_26.1,e_32.Class,e_32.Time,e_32.Tags,e_32.Goal,e_32.Most,e_32.Cents⟩:Campaign)).set (0+(r_16.1).toNat) (⟨e_34.Key,r_29.1,e_34.Time,e_34.Tags,e_34.Goal,e_34.Most,e_34.Cents⟩:Campaign)))) 5 rfl (fF (by simp)) (jr (v':=(gV n_6 8 ((r_3.1.set (0+(r_16.1).toNat) (⟨r_26.1,e_32.Class,e_32.Time,e_32.Tags,e_32.Goal,e_32.Most,e_32.Cents⟩:Campaign)).set (0+(r_16.1).toNat) (⟨e_34.Key,r_29.1,e_34.Time,e_34.Tags,e_34.Goal,e_34.Most,e_34.Cents⟩:Campaign)))) 17 rfl (fF (by simp)) (jr (v':=(gV n_6 8 ((r_3.1.set (0+(r_16.1).toNat) (⟨r_26.1,e_32.Class,e_32.Time,e_32.Tags,e_32.Goal,e_32.Most,e_32.Cents⟩:Campaign)).set (0+(r_16.1).toNat) (⟨e_34.Key,r_29.1,e_34.Time,e_34.Tags,e_34.Goal,e_34.Most,e_34.Cents⟩:Campaign)))) 19 rfl (fF (by simp)) (af ?_))))
     obtain rfl:=ae h_14
     exact cu
    ·refine aI rfl hc_23 (ai (aa (vB (r_20.1==1)) (aa (vB (r_20.1==1)) (af ?_))))
     rcases aj h_14 with⟨hc_36,h_14⟩|⟨hc_36,h_14⟩
     ·refine aJ rfl hc_36 (av (aa (.ref n_6 (0+(r_16.1).toNat) 0) (aa (.ref (ak 0) 0 0) ?_)))
      obtain ⟨r_37,hr_38,h_14⟩:=bind_some h_14
      refine bf 0 [0] il ft (gZ hr_38) rfl hb18 rfl (by kernel_rfl) (by kernel_rfl) (by kernel_rfl) (by kernel_rfl) (by kernel_rfl) (by kernel_rfl) (by kernel_rfl) (by decide) (by kernel_rfl) wz (vI r_37.1) (by kernel_rfl) ([((ak 0),some (.cells 2 [(vL eI r_37.2.L),(vI r_37.2.f_at)])),(n_6,gB 8 Campaign.enc r_3.1)]:Hp) (by kernel_rfl) (aa (.ref n_6 (0+(r_16.1).toNat) 0) (aR iW rfl 2 rfl wz (aR nu rfl 3 rfl wz ?_)))
      obtain ⟨e_40,hy_41,h_14⟩:=bind_some h_14
      refine qG 0 il ft 1 sz3 rfl rfl hy_41 (⟨e_40.Key,e_40.Class,(⟨e_40.Time.From,r_37.1⟩:Window),e_40.Tags,e_40.Goal,e_40.Most,e_40.Cents⟩:Campaign) rfl wz (jr (v':=(gV n_6 8 (r_3.1.set (0+(r_16.1).toNat) (⟨e_40.Key,e_40.Class,(⟨e_40.Time.From,r_37.1⟩:Window),e_40.Tags,e_40.Goal,e_40.Most,e_40.Cents⟩:Campaign)))) 5 rfl (fF (by simp)) (jr (v':=(gV n_6 8 (r_3.1.set (0+(r_16.1).toNat) (⟨e_40.Key,e_40.Class,(⟨e_40.Time.From,r_37.1⟩:Window),e_40.Tags,e_40.Goal,e_40.Most,e_40.Cents⟩:Campaign)))) 17 rfl (fF (by simp)) (jr (v':=(gV n_6 8 (r_3.1.set (0+(r_16.1).toNat) (⟨e_40.Key,e_40.Class,(⟨e_40.Time.From,r_37.1⟩:Window),e_40.Tags,e_40.Goal,e_40.Most,e_40.Cents⟩:Campaign)))) 19 rfl (fF (by simp)) (af ?_))))
      obtain rfl:=ae h_14
      exact cu
     ·refine aI rfl hc_36 (ai (aa (vB (r_20.1==2)) (aa (vB (r_20.1==2)) (af ?_))))
      rcases aj h_14 with⟨hc_42,h_14⟩|⟨hc_42,h_14⟩
      ·refine aJ rfl hc_42 (av (aa (.ref n_6 (0+(r_16.1).toNat) 0) (aa (.ref n_6 (0+(r_16.1).toNat) 0) (aa (.ref n_6 (0+(r_16.1).toNat) 0) (aa (.ref (ak 0) 0 0) ?_)))))
       obtain ⟨r_43,hr_44,h_14⟩:=bind_some h_14
       refine bf 0 [0] il ft (gZ hr_44) rfl hb18 rfl (by kernel_rfl) (by kernel_rfl) (by kernel_rfl) (by kernel_rfl) (by kernel_rfl) (by kernel_rfl) (by kernel_rfl) (by decide) (by kernel_rfl) wz (vI r_43.1) (by kernel_rfl) ([((ak 0),some (.cells 2 [(vL eI r_43.2.L),(vI r_43.2.f_at)])),(n_6,gB 8 Campaign.enc r_3.1)]:Hp) (by kernel_rfl) (aa (.ref (ak 0) 0 0) ?_)
       obtain ⟨r_46,hr_47,h_14⟩:=bind_some h_14
       refine bf 0 [0] il ft (gZ hr_47) rfl hb18 rfl (by kernel_rfl) (by kernel_rfl) (by kernel_rfl) (by kernel_rfl) (by kernel_rfl) (by kernel_rfl) (by kernel_rfl) (by decide) (by kernel_rfl) wz (vI r_46.1) (by kernel_rfl) ([((ak 0),some (.cells 2 [(vL eI r_46.2.L),(vI r_46.2.f_at)])),(n_6,gB 8 Campaign.enc r_3.1)]:Hp) (by kernel_rfl) (aa (.ref (ak 0) 0 0) ?_)
       obtain ⟨r_49,hr_50,h_14⟩:=bind_some h_14
       refine bf 0 [0] il ft (gZ hr_50) rfl hb18 rfl (by kernel_rfl) (by kernel_rfl) (by kernel_rfl) (by kernel_rfl) (by kernel_rfl) (by kernel_rfl) (by kernel_rfl) (by decide) (by kernel_rfl) wz (vI r_49.1) (by kernel_rfl) ([((ak 0),some (.cells 2 [(vL eI r_49.2.L),(vI r_49.2.f_at)])),(n_6,gB 8 Campaign.enc r_3.1)]:Hp) (by kernel_rfl) (aa (.ref n_6 (0+(r_16.1).toNat) 0) (aR qj rfl 5 rfl wz ?_))
       obtain ⟨e_52,hy_53,h_14⟩:=bind_some h_14
       refine qG 0 il ft 1 sz3 rfl rfl hy_53 (⟨e_52.Key,e_52.Class,e_52.Time,e_52.Tags,r_43.1,e_52.Most,e_52.Cents⟩:Campaign) rfl wz (jr (v':=(gV n_6 8 (r_3.1.set (0+(r_16.1).toNat) (⟨e_52.Key,e_52.Class,e_52.Time,e_52.Tags,r_43.1,e_52.Most,e_52.Cents⟩:Campaign)))) 5 rfl (fF (by simp)) (jr (v':=(gV n_6 8 (r_3.1.set (0+(r_16.1).toNat) (⟨e_52.Key,e_52.Class,e_52.Time,e_52.Tags,r_43.1,e_52.Most,e_52.Cents⟩:Campaign)))) 17 rfl (fF (by simp)) (jr (v':=(gV n_6 8 (r_3.1.set (0+(r_16.1).toNat) (⟨e_52.Key,e_52.Class,e_52.Time,e_52.Tags,r_43.1,e_52.Most,e_52.Cents⟩:Campaign)))) 19 rfl (fF (by simp)) (aa (.ref n_6 (0+(r_16.1).toNat) 0) (aR wW rfl 6 rfl wz ?_)))))
       obtain ⟨e_54,hy_55,h_14⟩:=bind_some h_14
       refine qG 0 il ft 1 sz3 rfl rfl hy_55 (⟨e_54.Key,e_54.Class,e_54.Time,e_54.Tags,e_54.Goal,r_46.1,e_54.Cents⟩:Campaign) rfl wz (jr (v':=(gV n_6 8 ((r_3.1.set (0+(r_16.1).toNat) (⟨e_52.Key,e_52.Class,e_52.Time,e_52.Tags,r_43.1,e_52.Most,e_52.Cents⟩:Campaign)).set (0+(r_16.1).toNat) (⟨e_54.Key,e_54.Class,e_54.Time,e_54.Tags,e_54.Goal,r_46.1,e_54.Cents⟩:Campaign)))) 5 rfl (fF (by simp)) (jr (v':=(gV n_6 8 ((r_3.1.set (0+(r_16.1).toNat) (⟨e_52.Key,e_52.Class,e_52.Time,e_52.Tags,r_43.1,e_52.Most,e_52.Cents⟩:Campaign)).set (0+(r_16.1).toNat) (⟨e_54.Key,e_54.Class,e_54.Time,e_54.Tags,e_54.Goal,r_46.1,e_54.Cents⟩:Campaign)))) 17 rfl (fF (by simp)) (jr (v':=(gV n_6 8 ((r_3.1.set (0+(r_16.1).toNat) (⟨e_52.Key,e_52.Class,e_52.Time,e_52.Tags,r_43.1,e_52.Most,e_52.Cents⟩:Campaign)).set (0+(r_16.1).toNat) (⟨e_54.Key,e_54.Class,e_54.Time,e_54.Tags,e_54.Goal,r_46.1,e_54.Cents⟩:Campaign)))) 19 rfl (fF (by simp)) (aa (.ref n_6 (0+(r_16.1).toNat) 0) (aR uV rfl 7 rfl wz ?_)))))
       obtain ⟨e_56,hy_57,h_14⟩:=bind_some h_14
       refine qG 0 il ft 1 sz3 rfl rfl hy_57 (⟨e_56.Key,e_56.Class,e_56.Time,e_56.Tags,e_56.Goal,e_56.Most,r_49.1⟩:Campaign) rfl wz (jr (v':=(gV n_6 8 (((r_3.1.set (0+(r_16.1).toNat) (⟨e_52.Key,e_52.Class,e_52.Time,e_52.Tags,r_43.1,e_52.Most,e_52.Cents⟩:Campaign)).set (0+(r_16.1).toNat) (⟨e_54.Key,e_54.Class,e_54.Time,e_54.Tags,e_54.Goal,r_46.1,e_54.Cents⟩:Campaign)).set (0+(r_16.1).toNat) (⟨e_56.Key,e_56.Class,e_56.Time,e_56.Tags,e_56.Goal,e_56.Most,r_49.1⟩:Campaign)))) 5 rfl (fF (by simp)) (jr (v':=(gV n_6 8 (((r_3.1.set (0+(r_16.1).toNat) (⟨e_52.Key,e_52.Class,e_52.Time,e_52.Tags,r_43.1,e_52.Most,e_52.Cents⟩:Campaign)).set (0+(r_16.1).toNat) (⟨e_54.Key,e_54.Class,e_54.Time,e_54.Tags,e_54.Goal,r_46.1,e_54.Cents⟩:Campaign)).set (0+(r_16.1).toNat) (⟨e_56.Key,e_56.Class,e_56.Time,e_56.Tags,e_56.Goal,e_56.Most,r_49.1⟩:Campaign)))) 17 rfl (fF (by simp)) (jr (v':=(gV n_6 8 (((r_3.1.set (0+(r_16.1).toNat) (⟨e_52.Key,e_52.Class,e_52.Time,e_52.Tags,r_43.1,e_52.Most,e_52.Cents⟩:Campaign)).set (0+(r_16.1).toNat) (⟨e_54.Key,e_54.Class,e_54.Time,e_54.Tags,e_54.Goal,r_46.1,e_54.Cents⟩:Campaign)).set (0+(r_16.1).toNat) (⟨e_56.Key,e_56.Class,e_56.Time,e_56.Tags,e_56.Goal,e_56.Most,r_49.1⟩:Campaign)))) 19 rfl (fF (by simp)) (af ?_))))
       obtain rfl:=ae h_14
       exact cu
      ·refine aI rfl hc_42 (av (aa (.ref n_6 (0+(r_16.1).toNat) 0) (dU (([(⟨#[98]⟩:ByteArray),(⟨#[97]⟩:ByteArray)]:List ByteArray).map eS) fV qm rfl rfl rfl rfl rfl wz (dU (([(⟨#[65]⟩:ByteArray)]:List ByteArray).map eS) fV qm rfl rfl rfl rfl rfl wz (dU (([(⟨#[97]⟩:ByteArray),(⟨#[97]⟩:ByteArray)]:List ByteArray).map eS) fV qm rfl rfl rfl rfl rfl wz (dU (([([(⟨#[98]⟩:ByteArray),(⟨#[97]⟩:ByteArray)]:List ByteArray),([(⟨#[65]⟩:ByteArray)]:List ByteArray),([(⟨#[97]⟩:ByteArray),(⟨#[97]⟩:ByteArray)]:List ByteArray)]:List (List ByteArray)).map (eL eS)) es50 ez50 rfl rfl rfl rfl rfl wz (aa (.ref (ak 0) 0 0) ?_)))))))
       obtain ⟨r_58,hr_59,h_14⟩:=bind_some h_14
       refine bf 0 [0] il ft (bL hr_59) rfl xC rfl (by kernel_rfl) (by kernel_rfl) (by kernel_rfl) (by kernel_rfl) (by kernel_rfl) (by kernel_rfl) (by kernel_rfl) (by decide) (by kernel_rfl) wz (vI r_58.1) (by kernel_rfl) ([((ak 0),some (.cells 2 [(vL eI r_58.2.L),(vI r_58.2.f_at)])),(n_6,gB 8 Campaign.enc r_3.1)]:Hp) (by kernel_rfl) ?_
       obtain ⟨y_61,hy_62,h_14⟩:=bind_some h_14
       refine gL es50 rfl rfl hy_62 rfl wz (dY uq zQ rfl (vL eS y_61) rfl wz (aa (.ref n_6 (0+(r_16.1).toNat) 0) (aR kX rfl 4 rfl wz ?_)))
       obtain ⟨e_63,hy_64,h_14⟩:=bind_some h_14
       refine qG 0 il ft 1 uq rfl rfl hy_64 (⟨e_63.Key,e_63.Class,e_63.Time,y_61,e_63.Goal,e_63.Most,e_63.Cents⟩:Campaign) rfl wz (jr (v':=(gV n_6 8 (r_3.1.set (0+(r_16.1).toNat) (⟨e_63.Key,e_63.Class,e_63.Time,y_61,e_63.Goal,e_63.Most,e_63.Cents⟩:Campaign)))) 5 rfl (fF (by simp)) (jr (v':=(gV n_6 8 (r_3.1.set (0+(r_16.1).toNat) (⟨e_63.Key,e_63.Class,e_63.Time,y_61,e_63.Goal,e_63.Most,e_63.Cents⟩:Campaign)))) 17 rfl (fF (by simp)) (jr (v':=(gV n_6 8 (r_3.1.set (0+(r_16.1).toNat) (⟨e_63.Key,e_63.Class,e_63.Time,y_61,e_63.Goal,e_63.Most,e_63.Cents⟩:Campaign)))) 19 rfl (fF (by simp)) (af ?_))))
       obtain rfl:=ae h_14
       exact cu
   ·refine aI rfl hc_15 (aF ?_)
    obtain rfl:=ae h_14
    exact cu
  ·rintro ⟨⟩ _ sl_ H_ hp_ hq_
   refine bu _ hp_ hq_ (ai (aa (gV n_6 8 v_13.1) (aa (gV n_6 8 v_13.1) (af (jT 1 rfl (lm 4 1 rfl rfl (lm 5 1 rfl rfl (lm 79 1 rfl rfl ?_))))))))
   obtain rfl:=ae hF
   exact aA (pO (.inr rfl) [(vL Campaign.enc v_13.1)] _ [0] [ak 0] ⟨rfl,trivial⟩ (.cons (fE rfl rfl) (.nil)) (by kernel_rfl) ⟨(by kernel_rfl),trivial⟩ (by decide) (by kernel_rfl))
theorem kv {x0:Int} {r:ByteArray} (hF:strconv_Itoa x0=some r) :
  FnM Tryz.prog 24 [(vI x0)] [] (vS r) [] :=
 itoa_ok Tryz.strconv_Itoa Bu hF
theorem iT {x0:(List ByteArray)} {x1:ByteArray} {r:ByteArray} (hF:strings_Join x0 x1=some r) :
  FnM Tryz.prog 25 [(vL eS x0),(vS x1)] [] (vS r) [] :=
 join_ok rfl Tryz.strings_Join_none Tryz.strings_Join hF
theorem wJ {l_1:(List Int)} {r:ByteArray} (hF:jX l_1=some r) :
  FnM Tryz.prog 50 [(vL eI l_1)] [] (vS r) []:=by
 refine FnM.of_wH ⟨Tryz.prog,20,[],[]⟩ rfl Tryz.func50 rfl rfl (lb_ rfl) (by kernel_rfl) ?_
 unfold jX at hF
 refine ai (aa (vS (⟨#[]⟩:ByteArray)) (af (ai (aa .nil (af (au (ai (aa (vL eI l_1) (eH CY rfl wz (aa (vI 0) (af (oI (λn_8 => ?_)))))))))))))
 obtain ⟨o_13,hj_14,hF⟩:=bind_some hF
 obtain ⟨hn_6,hj_14⟩:=dh hj_14
 refine iM (σ:=(List ByteArray)) (N:=Nm) (λp=>(λ(s_7:List ByteArray) (n_10:Nm)=>([(3,(gV n_10 1 s_7))]:SL_)) p.1 p.2) (λp=>(λ(s_7:List ByteArray) (n_10:Nm)=>([(n_10,gB 1 eS s_7)]:Hp)) p.1 p.2) (λ(k_2:Nat)=>(λp=>(λ(s_7:List ByteArray) (n_10:Nm)=>([(3,(gV n_10 1 s_7)),(6,(vL eI l_1)),(7,(vI (l_1.length:Int))),(8,(vI (k_2:Int)))]:SL_)) p.1 p.2)) (λk x s=>fM k x s) o_13 l_1 (([]:List ByteArray),n_8) hj_14 rfl (aX rfl) ?_ ?_
 ·rintro ⟨k_2,l_3,s_7,n_10⟩ ⟨hL_12,hD_5⟩
  dsimp only at hL_12 hD_5
  cases l_3 with
  | nil =>
   obtain rfl:=ae hL_12
   refine ai (aa (vB (decide ((k_2:Int)<(l_1.length:Int)))) (af ?_))
   refine au (aI rfl (drop_nil hD_5) (dK ?_))
   exact dx (s_7,n_10) rfl rfl (aX rfl)
  | cons x_4 l_3 =>
   obtain ⟨c_,hc_11,hL_12⟩:=bind_some hL_12
   refine ai (aa (vB (decide ((k_2:Int)<(l_1.length:Int)))) (af ?_))
   refine au (aJ rfl (dH hD_5) (aF ?_))
   unfold fM at hc_11
   refine au (bz (ai (gL je rfl rfl (d9 hD_5) rfl wz (dY sz3 ag3 rfl (vI x_4) rfl wz (aa (vI x_4) (af (av (aa (gV n_10 1 s_7) (aa (vI x_4) ?_)))))))))
   obtain ⟨r_15,hr_16,hc_11⟩:=bind_some hc_11
   refine aD (kv hr_16) rfl hb24 rfl rfl rfl rfl wz (dU (([r_15]:List ByteArray).map eS) fV qm rfl rfl rfl rfl rfl wz ?_)
   obtain ⟨a_17,hz_18,hc_11⟩:=bind_some hc_11
   refine nE 0 il ft (i:=0) DR DR sz9 z9 rfl (by decide) by9 (by decide) (λ_=>rfl) rfl rfl rfl hz_18 wz (λn_19=>aa (gV n_19 1 a_17) (af (av (iL (dI hD_5 hn_6) wz rfl (aa (vI ((k_2+1:Nat):Int)) (af ?_))))))
   obtain rfl:=ae hc_11
   exact dJ (k_2+1,l_3,a_17,n_19) ⟨hL_12,bP hD_5⟩ (ls_ _) rfl (aX rfl)
 ·rintro ⟨s_7,n_10⟩ ho_ sl_ H_ hp_ hq_
  subst ho_
  refine bu _ hp_ hq_ (au (jT 0 rfl (lm 3 0 rfl rfl (av (aa (vL eS s_7) ?_)))))
  obtain ⟨r_20,hr_21,hF⟩:=bind_some hF
  refine aD (iT hr_21) rfl hb25 rfl rfl rfl rfl wz (aa (vS r_20) (af ?_))
  obtain rfl:=ae hF
  exact aA (aO [(vS r_20)] ⟨rfl,trivial⟩)
theorem xq {l_1:(List ByteArray)} {r:ByteArray} (hF:kZ l_1=some r) :
  FnM Tryz.prog 51 [(vL eS l_1)] [] (vS r) []:=by
 refine FnM.of_wH ⟨Tryz.prog,8,[],[]⟩ rfl Tryz.func51 rfl rfl (lb_ rfl) (by kernel_rfl) ?_
 unfold kZ at hF
 refine ai (aa (vS (⟨#[]⟩:ByteArray)) (af (au (ai (aa (vL eS l_1) (eH lw rfl wz (aa (vB ((l_1.length:Int)==0)) (af ?_))))))))
 rcases aj hF with⟨hc_2,hF⟩|⟨hc_2,hF⟩
 ·refine aJ rfl hc_2 (ai (aa (vS (⟨#[45]⟩:ByteArray)) (af ?_)))
  obtain rfl:=ae hF
  exact aA (aO [(vS (⟨#[45]⟩:ByteArray))] ⟨rfl,trivial⟩)
 ·refine aI rfl hc_2 (aF (ai (aa (vL eS l_1) ?_)))
  obtain ⟨r_3,hr_4,hF⟩:=bind_some hF
  refine aD (iT hr_4) rfl hb25 rfl rfl rfl rfl wz (aa (vS r_3) (af ?_))
  obtain rfl:=ae hF
  exact aA (aO [(vS r_3)] ⟨rfl,trivial⟩)
theorem iG {c_1:Campaign} {r:ByteArray} (hF:cZ c_1=some r) :
  FnM Tryz.prog 30 [(.d (.agg (Campaign.enc c_1)))] [] (vS r) []:=by
 refine FnM.of_wH ⟨Tryz.prog,30,[],[]⟩ rfl Tryz.func30 rfl rfl (lb_ rfl) (by kernel_rfl) ?_
 unfold cZ at hF
 refine ai (wG 0 (.inl rfl) (Campaign.v c_1) rfl rfl wz (λn_2=>aa (vS (⟨#[]⟩:ByteArray)) (af (ai (aR oJ rfl 1 rfl wz (aY 0 0 il ft sz9 ag9 rfl rfl (vS c_1.Class) rfl wz (aa (vS c_1.Class) (af (au (ai (aa (vS c_1.Class) (aa (vB (sEq c_1.Class (⟨#[]⟩:ByteArray))) (af ?_)))))))))))))
 obtain ⟨v_3,h_4,hF⟩:=bind_some hF
 refine bg [(1,(.ref n_2 0 0)),(3,(vS v_3))] [(n_2,some (.cells 8 (Campaign.v c_1)))] ?_ ?_
 ·rcases aj h_4 with⟨hc_5,h_4⟩|⟨hc_5,h_4⟩
  ·refine aJ rfl hc_5 (av (aa (vS (⟨#[45]⟩:ByteArray)) (af ?_)))
   obtain rfl:=ae h_4
   exact cu
  ·refine aI rfl hc_5 (aF ?_)
   obtain rfl:=ae h_4
   exact cu
 ·rintro ⟨⟩ _ sl_ H_ hp_ hq_
  refine bu _ hp_ hq_ (au (fD (aR mf rfl 0 rfl wz (aY 1 0 (.inr (by kernel_rfl)) (λ_ _ ag=>trivial) sz9 ag9 rfl rfl (vS c_1.Key) rfl wz (aa (vS v_3) (aR iW rfl 2 rfl wz (aR mV rfl 2 rfl wz (aY 5 0 (.inr (by kernel_rfl)) (λ_ _ ag=>⟨.inl ⟨rfl,rfl⟩,trivial⟩) sz3 ag3 rfl rfl (vI c_1.Time.From) rfl wz (aR iW rfl 2 rfl wz (aR nu rfl 3 rfl wz (aY 8 0 (.inr (by kernel_rfl)) (λ_ _ ag=>⟨.inl ⟨rfl,rfl⟩,⟨.inl ⟨rfl,rfl⟩,trivial⟩⟩) sz3 ag3 rfl rfl (vI c_1.Time.To) rfl wz (aR qj rfl 5 rfl wz (aY 10 0 (.inr (by kernel_rfl)) (λ_ _ ag=>⟨.inl ⟨rfl,rfl⟩,⟨.inl ⟨rfl,rfl⟩,⟨.inl ⟨rfl,rfl⟩,trivial⟩⟩⟩) sz3 ag3 rfl rfl (vI c_1.Goal) rfl wz (aR wW rfl 6 rfl wz (aY 12 0 (.inr (by kernel_rfl)) (λ_ _ ag=>⟨.inl ⟨rfl,rfl⟩,⟨.inl ⟨rfl,rfl⟩,⟨.inl ⟨rfl,rfl⟩,⟨.inl ⟨rfl,rfl⟩,trivial⟩⟩⟩⟩) sz3 ag3 rfl rfl (vI c_1.Most) rfl wz (aR uV rfl 7 rfl wz (aY 14 0 (.inr (by kernel_rfl)) (λ_ _ ag=>⟨.inl ⟨rfl,rfl⟩,⟨.inl ⟨rfl,rfl⟩,⟨.inl ⟨rfl,rfl⟩,⟨.inl ⟨rfl,rfl⟩,⟨.inl ⟨rfl,rfl⟩,trivial⟩⟩⟩⟩⟩) sz3 ag3 rfl rfl (vI c_1.Cents) rfl wz (dU (([c_1.Time.From,c_1.Time.To,c_1.Goal,c_1.Most,c_1.Cents]:List Int).map eI) je pJ rfl rfl rfl rfl rfl wz ?_))))))))))))))))))
  obtain ⟨r_6,hr_7,hF⟩:=bind_some hF
  refine aD (wJ hr_7) rfl hb50 rfl rfl rfl rfl wz (aR kX rfl 4 rfl wz (aY 18 0 (.inr (by kernel_rfl)) (λ_ _ ag=>⟨.inl ⟨rfl,rfl⟩,⟨.inl ⟨rfl,rfl⟩,⟨.inl ⟨rfl,rfl⟩,⟨.inl ⟨rfl,rfl⟩,⟨.inl ⟨rfl,rfl⟩,⟨.inl ⟨rfl,rfl⟩,trivial⟩⟩⟩⟩⟩⟩) uq zQ rfl rfl (vL eS c_1.Tags) rfl wz ?_))
  obtain ⟨r_8,hr_9,hF⟩:=bind_some hF
  refine aD (xq hr_9) rfl hb51 rfl rfl rfl rfl wz (dU (([c_1.Key,v_3,r_6,r_8]:List ByteArray).map eS) fV qm rfl rfl rfl rfl rfl wz ?_)
  obtain ⟨r_10,hr_11,hF⟩:=bind_some hF
  refine aD (iT hr_11) rfl hb25 rfl rfl rfl rfl wz (aa (vS r_10) (af ?_))
  obtain rfl:=ae hF
  exact aA (aO [(vS r_10)] ⟨rfl,trivial⟩)
theorem jY {l_1:(List Campaign)} {r:ByteArray} (hF:dz l_1=some r) :
  FnM Tryz.prog 8 [(vL Campaign.enc l_1)] [] (vS r) []:=by
 refine FnM.of_wH ⟨Tryz.prog,19,[],[]⟩ rfl Tryz.func8 rfl rfl (lb_ rfl) (by kernel_rfl) ?_
 unfold dz at hF
 refine ai (aa (vS (⟨#[]⟩:ByteArray)) (af (ai (aa (vS (⟨#[]⟩:ByteArray)) (af (au (ai (aa (vL Campaign.enc l_1) (eH uR rfl wz (aa (vI 0) (af ?_)))))))))))
 obtain ⟨o_10,hj_11,hF⟩:=bind_some hF
 obtain ⟨hn_6,hj_11⟩:=dh hj_11
 refine iy (λ(s_7:ByteArray)=>[(3,(vS s_7))]) (λ(s_7:ByteArray)=>[]) (λ(k_2:Nat)=>(λ(s_7:ByteArray)=>[(3,(vS s_7)),(6,(vL Campaign.enc l_1)),(7,(vI (l_1.length:Int))),(8,(vI (k_2:Int)))])) (λk x s=>dE k x s) o_10 l_1 (⟨#[]⟩:ByteArray) hj_11 rfl (aX rfl) ?_ ?_
 ·rintro ⟨k_2,l_3,s_7⟩ ⟨hL_9,hD_5⟩
  dsimp only at hL_9 hD_5
  cases l_3 with
  | nil =>
   obtain rfl:=ae hL_9
   refine ai (aa (vB (decide ((k_2:Int)<(l_1.length:Int)))) (af ?_))
   refine au (aI rfl (drop_nil hD_5) (dK ?_))
   exact dx (s_7) rfl rfl (aX rfl)
  | cons x_4 l_3 =>
   obtain ⟨c_,hc_8,hL_9⟩:=bind_some hL_9
   refine ai (aa (vB (decide ((k_2:Int)<(l_1.length:Int)))) (af ?_))
   refine au (aJ rfl (dH hD_5) (aF ?_))
   unfold dE at hc_8
   refine au (bz (ai (gL sF rfl rfl (d9 hD_5) rfl wz (dY gD mD rfl (.d (.agg (Campaign.enc x_4))) rfl wz (iO 0 (.inl rfl) z41 rfl wz (λn_12=>ji 0 il ft 0 gD rfl rfl (Campaign.v x_4) rfl wz (af (av (aa (vS s_7) (aY 0 0 il ft gD mD rfl rfl (.d (.agg (Campaign.enc x_4))) rfl wz ?_))))))))))
   obtain ⟨r_13,hr_14,hc_8⟩:=bind_some hc_8
   refine aD (iG hr_14) rfl hb30 rfl rfl rfl rfl wz ?_
   obtain ⟨s_15,hz_16,hc_8⟩:=bind_some hc_8
   refine nI rfl rfl hz_16 wz ?_
   obtain ⟨s_17,hz_18,hc_8⟩:=bind_some hc_8
   refine nI rfl rfl hz_18 wz (aa (vS s_17) (af (av (iL (dI hD_5 hn_6) wz rfl (aa (vI ((k_2+1:Nat):Int)) (af ?_))))))
   obtain rfl:=ae hc_8
   exact dJ (k_2+1,l_3,s_17) ⟨hL_9,bP hD_5⟩ (ls_ _) rfl (aX rfl)
 ·rintro s_7 ho_ sl_ H_ hp_ hq_
  subst ho_
  refine bu _ hp_ hq_ (ai (aa (vS s_7) (aa (vS s_7) (af ?_))))
  obtain rfl:=ae hF
  exact aA (aO [(vS s_7)] ⟨rfl,trivial⟩)
theorem nU {s_1:Stream} {t_2:ByteArray} {withv_3:ByteArray} {r:ByteArray×Stream} (hF:ek s_1 t_2 withv_3=some r) :
  FnM Tryz.prog 20 [(.ref (ak 0) 0 0),(vS t_2),(vS withv_3)] [(.cells 2 [(vL eI s_1.L),(vI s_1.f_at)])] (vS r.1) [some (.cells 2 [(vL eI r.2.L),(vI r.2.f_at)])]:=by
 refine FnM.of_wH ⟨Tryz.prog,63,[],[]⟩ rfl Tryz.func20 rfl rfl (lb_ rfl) (by kernel_rfl) ?_
 unfold ek at hF
 refine ai (aa (vS (⟨#[]⟩:ByteArray)) (af (au (au ?_))))
 obtain ⟨v_4,h_5,hF⟩:=bind_some hF
 refine bg [(0,(.ref (ak 0) 0 0)),(1,(vS t_2)),(2,(vS withv_3)),(14,(vB v_4))] [((ak 0),some (.cells 2 [(vL eI s_1.L),(vI s_1.f_at)]))] ?_ ?_
 ·refine av (aa (vS t_2) (aa (vB (sEq t_2 (⟨#[]⟩:ByteArray))) ?_))
  rcases aj h_5 with⟨hc_6,h_5⟩|⟨hc_6,h_5⟩
  ·refine ay rfl hc_6 wz (ah (ah (aa (vB true) (af ?_))))
   obtain rfl:=ae h_5
   exact cu
  ·refine ay rfl hc_6 wz (aG (vS withv_3) wa rfl (aG (vB (sEq withv_3 (⟨#[]⟩:ByteArray))) wa rfl (aa (vB (sEq withv_3 (⟨#[]⟩:ByteArray))) (af ?_))))
   obtain rfl:=ae h_5
   exact cu
 ·rintro ⟨⟩ _ sl_ H_ hp_ hq_
  refine bu _ hp_ hq_ ?_
  rcases aj hF with⟨hc_7,hF⟩|⟨hc_7,hF⟩
  ·refine aJ rfl hc_7 (ai (aa (vS withv_3) (aa (vS withv_3) (af ?_))))
   obtain rfl:=ae hF
   exact aA (pO (.inr rfl) [(vS withv_3)] _ [0] [ak 0] ⟨rfl,trivial⟩ (.cons (fE rfl rfl) (.nil)) (by kernel_rfl) ⟨(by kernel_rfl),trivial⟩ (by decide) (by kernel_rfl))
  ·refine aI rfl hc_7 (aF (ai (aa (.ref (ak 0) 0 0) (aa (vS t_2) (gG un9 rfl wz ?_)))))
   obtain ⟨r_8,hr_9,hF⟩:=bind_some hF
   refine bf 0 [0] il ft (bL hr_9) rfl xC rfl (by kernel_rfl) (by kernel_rfl) (by kernel_rfl) (by kernel_rfl) (by kernel_rfl) (by kernel_rfl) (by kernel_rfl) (by decide) (by kernel_rfl) wz (vI r_8.1) (by kernel_rfl) ([((ak 0),some (.cells 2 [(vL eI r_8.2.L),(vI r_8.2.f_at)]))]:Hp) (by kernel_rfl) (aa (vI r_8.1) (af (ai (aa (vS withv_3) (aa (.ref (ak 0) 0 0) (aa (vS withv_3) (gG un9 rfl wz ?_)))))))
   obtain ⟨r_11,hr_12,hF⟩:=bind_some hF
   refine bf 0 [0] il ft (bL hr_12) rfl xC rfl (by kernel_rfl) (by kernel_rfl) (by kernel_rfl) (by kernel_rfl) (by kernel_rfl) (by kernel_rfl) (by kernel_rfl) (by decide) (by kernel_rfl) wz (vI r_11.1) (by kernel_rfl) ([((ak 0),some (.cells 2 [(vL eI r_11.2.L),(vI r_11.2.f_at)]))]:Hp) (by kernel_rfl) ?_
   obtain ⟨b_14,hy_15,hF⟩:=bind_some hF
   refine ql un9 rfl rfl hy_15 wz (aa (.d (.int .u8 (b_14.toNat:Int))) (af (au (ai (aa (.ref (ak 0) 0 0) ?_)))))
   obtain ⟨r_16,hr_17,hF⟩:=bind_some hF
   refine bf 0 [0] il ft (bL hr_17) rfl xC rfl (by kernel_rfl) (by kernel_rfl) (by kernel_rfl) (by kernel_rfl) (by kernel_rfl) (by kernel_rfl) (by kernel_rfl) (by decide) (by kernel_rfl) wz (vI r_16.1) (by kernel_rfl) ([((ak 0),some (.cells 2 [(vL eI r_16.2.L),(vI r_16.2.f_at)]))]:Hp) (by kernel_rfl) (af (bz (ai (aa (vB (r_16.1==0)) (aa (vB (r_16.1==0)) (af ?_))))))
   rcases aj hF with⟨hc_19,hF⟩|⟨hc_19,hF⟩
   ·refine aJ rfl hc_19 (au (fD (aa (vS t_2) (aa (vI r_8.1) ?_))))
    obtain ⟨y_20,hy_21,hF⟩:=bind_some hF
    refine fT un9 rfl rfl hy_21 wz (aa (.d (.int .u8 (b_14.toNat:Int))) (FC un5 un21 rfl wz (Cv un21 un9 rfl wz ?_)))
    obtain ⟨s_22,hz_23,hF⟩:=bind_some hF
    refine nI rfl rfl hz_23 wz (aa (vS t_2) (aa (vI r_8.1) (aa (vI (w64 (r_8.1+1))) ?_)))
    obtain ⟨y_24,hy_25,hF⟩:=bind_some hF
    refine gQ un9 rfl rfl hy_25 wz ?_
    obtain ⟨s_26,hz_27,hF⟩:=bind_some hF
    refine nI rfl rfl hz_27 wz (aa (vS s_26) (af ?_))
    obtain rfl:=ae hF
    exact aA (pO (.inr rfl) [(vS s_26)] _ [0] [ak 0] ⟨rfl,trivial⟩ (.cons (fE rfl rfl) (.nil)) (by kernel_rfl) ⟨(by kernel_rfl),trivial⟩ (by decide) (by kernel_rfl))
   ·refine aI rfl hc_19 (ai (aa (vB (r_16.1==1)) (aa (vB (r_16.1==1)) (af ?_))))
    rcases aj hF with⟨hc_28,hF⟩|⟨hc_28,hF⟩
    ·refine aJ rfl hc_28 (au (fD (aa (vS t_2) (aa (vI r_8.1) ?_))))
     obtain ⟨y_29,hy_30,hF⟩:=bind_some hF
     refine fT un9 rfl rfl hy_30 wz (aa (.d (.int .u8 (b_14.toNat:Int))) (FC un5 un21 rfl wz (Cv un21 un9 rfl wz ?_)))
     obtain ⟨s_31,hz_32,hF⟩:=bind_some hF
     refine nI rfl rfl hz_32 wz (aa (vS t_2) (aa (vI r_8.1) ?_))
     obtain ⟨y_33,hy_34,hF⟩:=bind_some hF
     refine gQ un9 rfl rfl hy_34 wz ?_
     obtain ⟨s_35,hz_36,hF⟩:=bind_some hF
     refine nI rfl rfl hz_36 wz (aa (vS s_35) (af (bu (H0:=([((ak 0),some (.cells 2 [(vL eI r_16.2.L),(vI r_16.2.f_at)]))]:Hp)) ([(6,(vS s_35))]:SL_) (by kernel_rfl) (vE (by kernel_rfl)) ?_)))
     obtain rfl:=ae hF
     exact aA (pO (.inr rfl) [(vS s_35)] _ [0] [ak 0] ⟨rfl,trivial⟩ (.cons (fE rfl rfl) (.nil)) (by kernel_rfl) ⟨(by kernel_rfl),trivial⟩ (by decide) (by kernel_rfl))
    ·refine aI rfl hc_28 (aF (au (fD (aa (vS t_2) (aa (vI r_8.1) ?_)))))
     obtain ⟨y_37,hy_38,hF⟩:=bind_some hF
     refine fT un9 rfl rfl hy_38 wz (aa (vS t_2) (aa (vI r_8.1) (aa (vI (w64 (r_8.1+1))) ?_)))
     obtain ⟨y_39,hy_40,hF⟩:=bind_some hF
     refine gQ un9 rfl rfl hy_40 wz ?_
     obtain ⟨s_41,hz_42,hF⟩:=bind_some hF
     refine nI rfl rfl hz_42 wz (aa (vS s_41) (af ?_))
     obtain rfl:=ae hF
     exact aA (pO (.inr rfl) [(vS s_41)] _ [0] [ak 0] ⟨rfl,trivial⟩ (.cons (fE rfl rfl) (.nil)) (by kernel_rfl) ⟨(by kernel_rfl),trivial⟩ (by decide) (by kernel_rfl))
theorem lT {s_1:Stream} {r:ByteArray×Stream} (hF:dM s_1=some r) :
  FnM Tryz.prog 5 [(.ref (ak 0) 0 0)] [(.cells 2 [(vL eI s_1.L),(vI s_1.f_at)])] (vS r.1) [some (.cells 2 [(vL eI r.2.L),(vI r.2.f_at)])]:=by
 refine FnM.of_wH ⟨Tryz.prog,17,[],[]⟩ rfl Tryz.func5 rfl rfl (lb_ rfl) (by kernel_rfl) ?_
 unfold dM at hF
 refine ai (aa (vS (⟨#[]⟩:ByteArray)) (af (ai (aa (.ref (ak 0) 0 0) ?_))))
 obtain ⟨r_2,hr_3,hF⟩:=bind_some hF
 refine bf 0 [0] il ft (kT hr_3) rfl hb14 rfl (by kernel_rfl) (by kernel_rfl) (by kernel_rfl) (by kernel_rfl) (by kernel_rfl) (by kernel_rfl) (by kernel_rfl) (by decide) (by kernel_rfl) wz (vL Campaign.enc r_2.1) (by kernel_rfl) ([((ak 0),some (.cells 2 [(vL eI r_2.2.L),(vI r_2.2.f_at)]))]:Hp) (by kernel_rfl) ?_
 obtain ⟨r_5,hr_6,hF⟩:=bind_some hF
 refine aD (jY hr_6) rfl hb8 rfl rfl rfl rfl wz (aa (vS r_5) (af (au (ai (aa (.ref (ak 0) 0 0) (dU (([0,0,1,2]:List Int).map eI) je pJ rfl rfl rfl rfl rfl wz ?_))))))
 obtain ⟨r_7,hr_8,hF⟩:=bind_some hF
 refine bf 0 [0] il ft (bC hr_8) rfl uD rfl (by kernel_rfl) (by kernel_rfl) (by kernel_rfl) (by kernel_rfl) (by kernel_rfl) (by kernel_rfl) (by kernel_rfl) (by decide) (by kernel_rfl) wz (vI r_7.1) (by kernel_rfl) ([((ak 0),some (.cells 2 [(vL eI r_7.2.L),(vI r_7.2.f_at)]))]:Hp) (by kernel_rfl) (aa (vI 0) (af ?_))
 obtain ⟨o_18,hj_19,hF⟩:=bind_some hF
 obtain ⟨hn_14,hj_19⟩:=dh hj_19
 refine iy (λ(s_15:ByteArray×(List Int)×Int)=>[(3,(vS s_15.1))]) (λ(s_15:ByteArray×(List Int)×Int)=>[((ak 0),some (.cells 2 [(vL eI s_15.2.1),(vI s_15.2.2)]))]) (λ(k_10:Nat)=>(λ(s_15:ByteArray×(List Int)×Int)=>[(0,(.ref (ak 0) 0 0)),(3,(vS s_15.1)),(9,(vI r_7.1)),(10,(vI (k_10:Int)))])) (λk x s=>dn k x s) o_18 (List.range (r_7.1).toNat) (r_5,r_7.2.L,r_7.2.f_at) hj_19 rfl (aX rfl) ?_ ?_
 ·rintro ⟨k_10,l_11,s_15⟩ ⟨hL_17,hD_13⟩
  dsimp only at hL_17 hD_13
  cases l_11 with
  | nil =>
   obtain rfl:=ae hL_17
   refine ai (aa (vB (decide ((k_10:Int)<r_7.1))) (af ?_))
   refine au (aI rfl (x8 hD_13) (dK ?_))
   exact dx (s_15) rfl rfl (aX rfl)
  | cons x_12 l_11 =>
   obtain ⟨c_,hc_16,hL_17⟩:=bind_some hL_17
   refine ai (aa (vB (decide ((k_10:Int)<r_7.1))) (af ?_))
   refine au (aJ rfl (wR hD_13) (aF ?_))
   unfold dn at hc_16
   refine au (bz (av (aa (.ref (ak 0) 0 0) (aa (vS s_15.1) ?_))))
   obtain ⟨r_20,hr_21,hc_16⟩:=bind_some hc_16
   refine bf 0 [0] il ft (nU hr_21) rfl hb20 rfl (by kernel_rfl) (by kernel_rfl) (by kernel_rfl) (by kernel_rfl) (by kernel_rfl) (by kernel_rfl) (by kernel_rfl) (by decide) (by kernel_rfl) wz (vS r_20.1) (by kernel_rfl) ([((ak 0),some (.cells 2 [(vL eI r_20.2.L),(vI r_20.2.f_at)]))]:Hp) (by kernel_rfl) (aa (vS r_20.1) (af (av (iL (xZ hD_13 hn_14) wz rfl (aa (vI ((k_10+1:Nat):Int)) (af ?_))))))
   obtain rfl:=ae hc_16
   exact dJ (k_10+1,l_11,(r_20.1,r_20.2.L,r_20.2.f_at)) ⟨hL_17,bP hD_13⟩ (ls_ _) rfl (aX rfl)
 ·rintro s_15 ho_ sl_ H_ hp_ hq_
  subst ho_
  refine bu _ hp_ hq_ (ai (aa (vS s_15.1) (aa (vS s_15.1) (af ?_))))
  obtain rfl:=ae hF
  exact aA (pO (.inr rfl) [(vS s_15.1)] _ [0] [ak 0] ⟨rfl,trivial⟩ (.cons (fE rfl rfl) (.nil)) (by kernel_rfl) ⟨(by kernel_rfl),trivial⟩ (by decide) (by kernel_rfl))
theorem ni {s_1:ByteArray} {r:Bool} (hF:iA s_1=some r) :
  FnM Tryz.prog 41 [(vS s_1)] [] (vB r) []:=by
 refine FnM.of_wH ⟨Tryz.prog,48,[],[]⟩ rfl Tryz.func41 rfl rfl (lb_ rfl) (by kernel_rfl) ?_
 unfold iA at hF
 refine ai (aa (vB false) (af (au (ai (aa (vI 0) (af ?_))))))
 obtain ⟨o_10,hj_11,hF⟩:=bind_some hF
 obtain ⟨nq_33,hj_11⟩:=qh hj_11
 refine yx (λ(s_7:Int)=>[(0,(vS s_1))]) (λ(s_7:Int)=>[]) (λ(k_2:Nat)=>(λ(s_7:Int)=>[(0,(vS s_1)),(3,(vI s_7))])) (λs=>fB s_1 s) o_10 nq_33 0 hj_11 rfl (aX rfl) ?_ ?_
 ·rintro ⟨k_2,s_7⟩ hL_9
  dsimp only at hL_9
  cases k_2 with
  | zero=>cases hL_9
  | succ k_2 =>
   obtain ⟨c_,hc_8,hL_9⟩:=bind_some hL_9
   unfold fB at hc_8
   refine au (ai (aa (vI s_7) (aa (vS s_1) (gG un9 rfl wz (aa (vB (decide (s_7<(s_1.size:Int)))) (af ?_))))))
   rcases aj hc_8 with⟨hc_12,hc_8⟩|⟨hc_12,hc_8⟩
   ·refine aJ rfl hc_12 (aF (au (bz (ai (aa (vS s_1) (aa (vI s_7) ?_))))))
    obtain ⟨b_13,hy_14,hc_8⟩:=bind_some hc_8
    refine ql un9 rfl rfl hy_14 wz (aa (.d (.int .u8 (b_13.toNat:Int))) (af (au ?_)))
    obtain ⟨v_15,h_16,hc_8⟩:=bind_some hc_8
    refine bg [(0,(vS s_1)),(3,(vI s_7)),(40,(vB v_15))] [] ?_ ?_
    ·refine av (aa (.d (.int .u8 (b_13.toNat:Int))) (aa (vB (decide ((b_13.toNat:Int)>=97))) ?_))
     rcases aj h_16 with⟨hc_17,h_16⟩|⟨hc_17,h_16⟩
     ·refine ay rfl hc_17 wz (aG (.d (.int .u8 (b_13.toNat:Int))) wa rfl (aG (vB (decide ((b_13.toNat:Int)<=122))) wa rfl (aa (vB (decide ((b_13.toNat:Int)<=122))) ?_)))
      rcases aj h_16 with⟨hc_18,h_16⟩|⟨hc_18,h_16⟩
      ·refine ay rfl hc_18 wz (ah (ah (ah (bE (wn rfl rfl) (bE (wn rfl rfl) (bE (wn rfl rfl) (bE (wn rfl rfl) (bE (wn rfl rfl) (bE (wn rfl rfl) (bE (wn rfl rfl) (bE (wn rfl rfl) (bE (wn rfl rfl) (bE (wn rfl rfl) (bE (wn rfl rfl) (bE (wn rfl rfl) (bE (wn rfl rfl) (bE (wn rfl rfl) (ah (aa (vB true) (aa (vB false) (af ?_)))))))))))))))))))))
       obtain rfl:=ae h_16
       exact cu
      ·refine ay rfl hc_18 wz (aG (vI s_7) wa rfl (aG (vB (decide (s_7>0))) wa rfl ?_))
       rcases aj h_16 with⟨hc_19,h_16⟩|⟨hc_19,h_16⟩
       ·refine ay rfl hc_19 wa (aG (.d (.int .u8 (b_13.toNat:Int))) wa rfl (aG (vB (decide ((b_13.toNat:Int)>=48))) wa rfl ?_))
        rcases aj h_16 with⟨hc_20,h_16⟩|⟨hc_20,h_16⟩
        ·refine ay rfl hc_20 wa (aG (.d (.int .u8 (b_13.toNat:Int))) wa rfl (aG (vB (decide ((b_13.toNat:Int)<=57))) wa rfl (aG (vB (decide ((b_13.toNat:Int)<=57))) wa rfl ?_)))
         rcases aj h_16 with⟨hc_21,h_16⟩|⟨hc_21,h_16⟩
         ·refine ay rfl hc_21 wa (ah (ah (aG (vB true) wa rfl (aG (vB true) wa rfl (ah (ah (aG (vB true) wa rfl (aG (vB true) wa rfl (aa (vB true) (aa (vB false) (af ?_)))))))))))
          obtain rfl:=ae h_16
          exact cu
         ·refine ay rfl hc_21 wa (aG (.d (.int .u8 (b_13.toNat:Int))) wa rfl (aG (vB ((b_13.toNat:Int)==45)) wa rfl (aG (vB ((b_13.toNat:Int)==45)) wa rfl ?_)))
          rcases aj h_16 with⟨hc_22,h_16⟩|⟨hc_22,h_16⟩
          ·refine ay rfl hc_22 wa (ah (ah (aG (vB true) wa rfl (aG (vB true) wa rfl (aa (vB true) (aa (vB false) (af ?_)))))))
           obtain rfl:=ae h_16
           exact cu
          ·refine ay rfl hc_22 wa (aG (.d (.int .u8 (b_13.toNat:Int))) wa rfl (aG (vB ((b_13.toNat:Int)==95)) wa rfl (aG (vB ((b_13.toNat:Int)==95)) wa rfl (aG (vB ((b_13.toNat:Int)==95)) wa rfl (aa (vB ((b_13.toNat:Int)==95)) (aa (vB (!((b_13.toNat:Int)==95))) (af ?_)))))))
           obtain rfl:=ae h_16
           exact cu
        ·refine ay rfl hc_20 wa (ah (ah (aG (vB false) wa rfl (aG (vB false) wa rfl (aG (.d (.int .u8 (b_13.toNat:Int))) wa rfl (aG (vB ((b_13.toNat:Int)==45)) wa rfl (aG (vB ((b_13.toNat:Int)==45)) wa rfl ?_)))))))
         rcases aj h_16 with⟨hc_23,h_16⟩|⟨hc_23,h_16⟩
         ·refine ay rfl hc_23 wa (ah (ah (aG (vB true) wa rfl (aG (vB true) wa rfl (aa (vB true) (aa (vB false) (af ?_)))))))
          obtain rfl:=ae h_16
          exact cu
         ·refine ay rfl hc_23 wa (aG (.d (.int .u8 (b_13.toNat:Int))) wa rfl (aG (vB ((b_13.toNat:Int)==95)) wa rfl (aG (vB ((b_13.toNat:Int)==95)) wa rfl (aG (vB ((b_13.toNat:Int)==95)) wa rfl (aa (vB ((b_13.toNat:Int)==95)) (aa (vB (!((b_13.toNat:Int)==95))) (af ?_)))))))
          obtain rfl:=ae h_16
          exact cu
       ·refine ay rfl hc_19 wa (ah (ah (ah (bE (wn rfl rfl) (bE (wn rfl rfl) (ah (ah (bE (wn rfl rfl) (bE (wn rfl rfl) (ah (ah (bE (wn rfl rfl) (bE (wn rfl rfl) (ah (aG (vB false) wa rfl (aa (vB false) (aa (vB true) (af ?_))))))))))))))))))
        obtain rfl:=ae h_16
        exact cu
     ·refine ay rfl hc_17 wz (ah (ah (aa (vB false) (aa (vB false) (aG (vI s_7) wa rfl (aG (vB (decide (s_7>0))) wa rfl ?_))))))
      rcases aj h_16 with⟨hc_24,h_16⟩|⟨hc_24,h_16⟩
      ·refine ay rfl hc_24 wa (aG (.d (.int .u8 (b_13.toNat:Int))) wa rfl (aG (vB (decide ((b_13.toNat:Int)>=48))) wa rfl ?_))
       rcases aj h_16 with⟨hc_25,h_16⟩|⟨hc_25,h_16⟩
       ·refine ay rfl hc_25 wa (aG (.d (.int .u8 (b_13.toNat:Int))) wa rfl (aG (vB (decide ((b_13.toNat:Int)<=57))) wa rfl (aG (vB (decide ((b_13.toNat:Int)<=57))) wa rfl ?_)))
        rcases aj h_16 with⟨hc_26,h_16⟩|⟨hc_26,h_16⟩
        ·refine ay rfl hc_26 wa (ah (ah (aG (vB true) wa rfl (aG (vB true) wa rfl (ah (ah (aG (vB true) wa rfl (aG (vB true) wa rfl (aa (vB true) (aa (vB false) (af ?_)))))))))))
         obtain rfl:=ae h_16
         exact cu
        ·refine ay rfl hc_26 wa (aG (.d (.int .u8 (b_13.toNat:Int))) wa rfl (aG (vB ((b_13.toNat:Int)==45)) wa rfl (aG (vB ((b_13.toNat:Int)==45)) wa rfl ?_)))
         rcases aj h_16 with⟨hc_27,h_16⟩|⟨hc_27,h_16⟩
         ·refine ay rfl hc_27 wa (ah (ah (aG (vB true) wa rfl (aG (vB true) wa rfl (aa (vB true) (aa (vB false) (af ?_)))))))
          obtain rfl:=ae h_16
          exact cu
         ·refine ay rfl hc_27 wa (aG (.d (.int .u8 (b_13.toNat:Int))) wa rfl (aG (vB ((b_13.toNat:Int)==95)) wa rfl (aG (vB ((b_13.toNat:Int)==95)) wa rfl (aG (vB ((b_13.toNat:Int)==95)) wa rfl (aa (vB ((b_13.toNat:Int)==95)) (aa (vB (!((b_13.toNat:Int)==95))) (af ?_)))))))
          obtain rfl:=ae h_16
          exact cu
       ·refine ay rfl hc_25 wa (ah (ah (aG (vB false) wa rfl (aG (vB false) wa rfl (aG (.d (.int .u8 (b_13.toNat:Int))) wa rfl (aG (vB ((b_13.toNat:Int)==45)) wa rfl (aG (vB ((b_13.toNat:Int)==45)) wa rfl ?_)))))))
        rcases aj h_16 with⟨hc_28,h_16⟩|⟨hc_28,h_16⟩
        ·refine ay rfl hc_28 wa (ah (ah (aG (vB true) wa rfl (aG (vB true) wa rfl (aa (vB true) (aa (vB false) (af ?_)))))))
         obtain rfl:=ae h_16
         exact cu
        ·refine ay rfl hc_28 wa (aG (.d (.int .u8 (b_13.toNat:Int))) wa rfl (aG (vB ((b_13.toNat:Int)==95)) wa rfl (aG (vB ((b_13.toNat:Int)==95)) wa rfl (aG (vB ((b_13.toNat:Int)==95)) wa rfl (aa (vB ((b_13.toNat:Int)==95)) (aa (vB (!((b_13.toNat:Int)==95))) (af ?_)))))))
         obtain rfl:=ae h_16
         exact cu
      ·refine ay rfl hc_24 wa (ah (ah (ah (bE (wn rfl rfl) (bE (wn rfl rfl) (ah (ah (bE (wn rfl rfl) (bE (wn rfl rfl) (ah (ah (bE (wn rfl rfl) (bE (wn rfl rfl) (ah (aG (vB false) wa rfl (aa (vB false) (aa (vB true) (af ?_))))))))))))))))))
       obtain rfl:=ae h_16
       exact cu
    ·rintro ⟨⟩ _ sl_ H_ hp_ hq_
     refine bu _ hp_ hq_ ?_
     rcases aj hc_8 with⟨hc_29,hc_8⟩|⟨hc_29,hc_8⟩
     ·refine aJ rfl hc_29 (ai (aa (vB false) (af ?_)))
      obtain rfl:=ae hc_8
      obtain rfl:=ae hL_9
      obtain rfl:=ae hF
      exact aA (aO [(vB false)] ⟨rfl,trivial⟩)
     ·refine aI rfl hc_29 (aF (av (aa (vI s_7) (aa (vI (w64 (s_7+1))) (aa (vI (w64 (s_7+1))) (af ?_))))))
      obtain rfl:=ae hc_8
      exact dJ (k_2,(w64 (s_7+1))) hL_9 (ls_ _) rfl (aX rfl)
   ·refine aI rfl hc_12 (dK ?_)
    obtain rfl:=ae hc_8
    obtain rfl:=ae hL_9
    exact dx (s_7) rfl rfl (aX rfl)
 ·rintro s_7 ho_ sl_ H_ hp_ hq_
  subst ho_
  refine bu _ hp_ hq_ (au ?_)
  obtain ⟨v_30,h_31,hF⟩:=bind_some hF
  refine bg [(2,(vB v_30))] [] ?_ ?_
  ·refine av (aa (vS s_1) (aa (vB (sNe s_1 (⟨#[]⟩:ByteArray))) ?_))
   rcases aj h_31 with⟨hc_32,h_31⟩|⟨hc_32,h_31⟩
   ·refine ay rfl hc_32 wz (aG (vS s_1) wa rfl (gG un9 rfl wa (aG (vB (decide ((s_1.size:Int)<=40))) wa rfl (aa (vB (decide ((s_1.size:Int)<=40))) (aa (vB (decide ((s_1.size:Int)<=40))) (af ?_))))))
    obtain rfl:=ae h_31
    exact cu
   ·refine ay rfl hc_32 wz (ah (ah (ah (aa (vB false) (aa (vB false) (af ?_))))))
    obtain rfl:=ae h_31
    exact cu
  ·rintro ⟨⟩ _ sl_ H_ hp_ hq_
   refine bu _ hp_ hq_ ?_
   obtain rfl:=ae hF
   exact aA (aO [(vB v_30)] ⟨rfl,trivial⟩)
theorem qZ {wv_1:Window} {r:Bool} (hF:fQ wv_1=some r) :
  FnM Tryz.prog 42 [(.d (.agg (Window.enc wv_1)))] [] (vB r) []:=by
 refine FnM.of_wH ⟨Tryz.prog,18,[],[]⟩ rfl Tryz.func42 rfl rfl (lb_ rfl) (by kernel_rfl) ?_
 unfold fQ at hF
 refine ai (wG 0 (.inl rfl) [(vI wv_1.From),(vI wv_1.To)] rfl rfl wz (λn_2=>aa (vB false) (af (au ?_))))
 obtain ⟨v_3,h_4,hF⟩:=bind_some hF
 refine bg [(2,(vB v_3))] [(n_2,some (.cells 2 [(vI wv_1.From),(vI wv_1.To)]))] ?_ ?_
 ·refine av (aR mV rfl 0 rfl wz (aY 0 0 il ft sz3 ag3 rfl rfl (vI wv_1.From) rfl wz (aa (vB (decide (wv_1.From>=0))) ?_)))
  rcases aj h_4 with⟨hc_5,h_4⟩|⟨hc_5,h_4⟩
  ·refine ay rfl hc_5 wz (aR mV rfl 0 rfl wa (aY 0 0 il ft sz3 ag3 rfl rfl (vI wv_1.From) rfl wa (aR nu rfl 1 rfl wa (aY 0 0 il ft sz3 ag3 rfl rfl (vI wv_1.To) rfl wa (aG (vB (decide (wv_1.From<wv_1.To))) wa rfl (aa (vB (decide (wv_1.From<wv_1.To))) ?_))))))
   rcases aj h_4 with⟨hc_6,h_4⟩|⟨hc_6,h_4⟩
   ·refine ay rfl hc_6 wz (aR nu rfl 1 rfl wa (aY 0 0 il ft sz3 ag3 rfl rfl (vI wv_1.To) rfl wa (aG (vB (decide (wv_1.To<=345686400000))) wa rfl (aa (vB (decide (wv_1.To<=345686400000))) (aa (vB (decide (wv_1.To<=345686400000))) (af ?_))))))
    obtain rfl:=ae h_4
    exact cu
   ·refine ay rfl hc_6 wz (ah (ah (ah (aa (vB false) (aa (vB false) (af ?_))))))
    obtain rfl:=ae h_4
    exact cu
  ·refine ay rfl hc_5 wz (ah (ah (ah (ah (ah (aa (vB false) (aa (vB false) (ah (ah (ah (aa (vB false) (aa (vB false) (af ?_)))))))))))))
   obtain rfl:=ae h_4
   exact cu
 ·rintro ⟨⟩ _ sl_ H_ hp_ hq_
  refine bu _ hp_ hq_ ?_
  obtain rfl:=ae hF
  exact aA (aO [(vB v_3)] ⟨rfl,trivial⟩)
theorem lI {n_1:Int} {low_2:Int} {high_3:Int} {r:Bool} (hF:eG n_1 low_2 high_3=some r) :
  FnM Tryz.prog 43 [(vI n_1),(vI low_2),(vI high_3)] [] (vB r) []:=by
 refine FnM.of_wH ⟨Tryz.prog,15,[],[]⟩ rfl Tryz.func43 rfl rfl (lb_ rfl) (by kernel_rfl) ?_
 unfold eG at hF
 refine ai (aa (vB false) (af (au ?_)))
 obtain ⟨v_4,h_5,hF⟩:=bind_some hF
 refine bg [(6,(vB v_4))] [] ?_ ?_
 ·refine av (aa (vI n_1) (aa (vI low_2) (aa (vB (decide (n_1<low_2))) ?_)))
  rcases aj h_5 with⟨hc_6,h_5⟩|⟨hc_6,h_5⟩
  ·refine ay rfl hc_6 wz (ah (ah (ah (aa (vB true) (aa (vB true) (af ?_))))))
   obtain rfl:=ae h_5
   exact cu
  ·refine ay rfl hc_6 wz (aG (vI n_1) wa rfl (aG (vI high_3) wa rfl (aG (vB (decide (n_1>high_3))) wa rfl (aa (vB (decide (n_1>high_3))) (aa (vB (decide (n_1>high_3))) (af ?_))))))
   obtain rfl:=ae h_5
   exact cu
 ·rintro ⟨⟩ _ sl_ H_ hp_ hq_
  refine bu _ hp_ hq_ ?_
  obtain rfl:=ae hF
  exact aA (aO [(vB v_4)] ⟨rfl,trivial⟩)
theorem qd {l_1:(List ByteArray)} {r:Int} (hF:fA l_1=some r) :
  FnM Tryz.prog 60 [(vL eS l_1)] [] (vI r) []:=by
 refine FnM.of_wH ⟨Tryz.prog,27,[],[]⟩ rfl Tryz.func60 rfl rfl (lb_ rfl) (by kernel_rfl) ?_
 unfold fA at hF
 refine ai (aa (vI 0) (af (au (ai (aa (vL eS l_1) (eH lw rfl wz (aa (vI 0) (af ?_))))))))
 obtain ⟨o_10,hj_11,hF⟩:=bind_some hF
 obtain ⟨hn_6,hj_11⟩:=dh hj_11
 refine iy (λ(s_7:Unit)=>[]) (λ(s_7:Unit)=>[]) (λ(k_2:Nat)=>(λ(s_7:Unit)=>[(0,(vL eS l_1)),(5,(vL eS l_1)),(6,(vI (l_1.length:Int))),(7,(vI (k_2:Int)))])) (λk x s=>dW l_1 k x s) o_10 l_1 () hj_11 rfl (aX rfl) ?_ ?_
 ·rintro ⟨k_2,l_3,s_7⟩ ⟨hL_9,hD_5⟩
  dsimp only at hL_9 hD_5
  cases l_3 with
  | nil =>
   obtain rfl:=ae hL_9
   refine ai (aa (vB (decide ((k_2:Int)<(l_1.length:Int)))) (af ?_))
   refine au (aI rfl (drop_nil hD_5) (dK ?_))
   exact dx (s_7) rfl rfl (aX rfl)
  | cons x_4 l_3 =>
   obtain ⟨c_,hc_8,hL_9⟩:=bind_some hL_9
   refine ai (aa (vB (decide ((k_2:Int)<(l_1.length:Int)))) (af ?_))
   refine au (aJ rfl (dH hD_5) (aF ?_))
   unfold dW at hc_8
   refine au (bz (ai (aa (vI (k_2:Int)) (gL fV rfl rfl (d9 hD_5) rfl wz (dY sz9 ag9 rfl (vS x_4) rfl wz (aa (vI (k_2:Int)) (aa (vS x_4) (af (au (ai (aa (vS x_4) ?_)))))))))))
   obtain ⟨r_12,hr_13,hc_8⟩:=bind_some hc_8
   refine aD (ni hr_13) rfl hb41 rfl rfl rfl rfl wz (aa (vB (!r_12)) (af ?_))
   rcases aj hc_8 with⟨hc_14,hc_8⟩|⟨hc_14,hc_8⟩
   ·refine aJ rfl hc_14 (ai (aa (vI 5) (af ?_)))
    obtain rfl:=ae hc_8
    obtain rfl:=ae hL_9
    obtain rfl:=ae hF
    exact aA (aO [(vI 5)] ⟨rfl,trivial⟩)
   ·refine aI rfl hc_14 (aF (au ?_))
    obtain ⟨v_15,h_16,hc_8⟩:=bind_some hc_8
    refine bg [(0,(vL eS l_1)),(5,(vL eS l_1)),(6,(vI (l_1.length:Int))),(7,(vI (k_2:Int))),(25,(vB v_15))] [] ?_ ?_
    ·refine av (aa (vI (k_2:Int)) (aa (vB (decide ((k_2:Int)>0))) ?_))
     rcases aj h_16 with⟨hc_17,h_16⟩|⟨hc_17,h_16⟩
     ·refine ay rfl hc_17 wz (aG (vS x_4) wa rfl (aG (vL eS l_1) wa rfl (aG (vI (k_2:Int)) wa rfl (aG (vI (w64 ((k_2:Int)-1))) wa rfl ?_))))
      obtain ⟨y_18,hy_19,h_16⟩:=bind_some h_16
      refine gL fV rfl rfl hy_19 rfl wa (dY sz9 ag9 rfl (vS y_18) rfl wa (aG (vB (sLe x_4 y_18)) wa rfl (aa (vB (sLe x_4 y_18)) (af ?_))))
      obtain rfl:=ae h_16
      exact cu
     ·refine ay rfl hc_17 wz (ah (ah (ah (ah (ah (ah (ah (aa (vB false) (af ?_)))))))))
      obtain rfl:=ae h_16
      exact cu
    ·rintro ⟨⟩ _ sl_ H_ hp_ hq_
     refine bu _ hp_ hq_ ?_
     rcases aj hc_8 with⟨hc_20,hc_8⟩|⟨hc_20,hc_8⟩
     ·refine aJ rfl hc_20 (ai (aa (vI 7) (af ?_)))
      obtain rfl:=ae hc_8
      obtain rfl:=ae hL_9
      obtain rfl:=ae hF
      exact aA (aO [(vI 7)] ⟨rfl,trivial⟩)
     ·refine aI rfl hc_20 (aF (av (iL (dI hD_5 hn_6) wz rfl (aa (vI ((k_2+1:Nat):Int)) (af ?_)))))
      obtain rfl:=ae hc_8
      exact dJ (k_2+1,l_3,()) ⟨hL_9,bP hD_5⟩ (ls_ _) rfl (aX rfl)
 ·rintro s_7 ho_ sl_ H_ hp_ hq_
  subst ho_
  refine bu _ hp_ hq_ (ai (aa (vI 0) (af ?_)))
  obtain rfl:=ae hF
  exact aA (aO [(vI 0)] ⟨rfl,trivial⟩)
theorem nR {l_1:(List ByteArray)} {r:Int} (hF:dP l_1=some r) :
  FnM Tryz.prog 44 [(vL eS l_1)] [] (vI r) []:=by
 refine FnM.of_wH ⟨Tryz.prog,8,[],[]⟩ rfl Tryz.func44 rfl rfl (lb_ rfl) (by kernel_rfl) ?_
 unfold dP at hF
 refine ai (aa (vI 0) (af (au (ai (aa (vL eS l_1) (eH lw rfl wz (aa (vB (decide ((l_1.length:Int)>20))) (af ?_))))))))
 rcases aj hF with⟨hc_2,hF⟩|⟨hc_2,hF⟩
 ·refine aJ rfl hc_2 (ai (aa (vI 2) (af ?_)))
  obtain rfl:=ae hF
  exact aA (aO [(vI 2)] ⟨rfl,trivial⟩)
 ·refine aI rfl hc_2 (aF (ai (aa (vL eS l_1) ?_)))
  obtain ⟨r_3,hr_4,hF⟩:=bind_some hF
  refine aD (qd hr_4) rfl hb60 rfl rfl rfl rfl wz (aa (vI r_3) (af ?_))
  obtain rfl:=ae hF
  exact aA (aO [(vI r_3)] ⟨rfl,trivial⟩)
end Go.Proofs.YtigdobmllbakiacGreatDoor.Law

