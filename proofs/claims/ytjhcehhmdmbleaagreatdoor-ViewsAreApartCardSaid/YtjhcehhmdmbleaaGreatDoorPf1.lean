/-
 The machine computes these plain functions (written by a program of ours).
-/
import Derived.Test.YtjhcehhmdmbleaaGreatDoorFacts
import Derived.Test.YtjhcehhmdmbleaaGreatDoorDefs
open Go Go.Eng Go.Proofs
namespace Go.Proofs.YtjhcehhmdmbleaaGreatDoor.Law
set_option maxRecDepth 100000
set_option linter.unusedVariables false
set_option maxHeartbeats 1000000
theorem wF {x_1:Int} {n_2:Int} {r:Int} (hF:rz x_1 n_2=some r) :
  FnM Tryz.prog 159 [(vI x_1),(vI n_2)] [] (vI r) []:=by
 refine FnM.of_wH ⟨Tryz.prog,16,[],[]⟩ rfl Tryz.func159 rfl rfl (Nat.le_of_ble_eq_true rfl) (by kernel_rfl) ?_
 unfold rz at hF
 refine af (aa (ae (vI 0) wz rfl (ai (af (af (aa (ae (vI n_2) wz rfl (ae (vB (decide (n_2 < 1))) wz rfl (ai ?_)))))))))
 rcases ak hF with⟨hc_3,hF⟩ | ⟨hc_3,hF⟩
 ·refine aB rfl hc_3 (af (aa (ae (vI 0) wz rfl (ai ?_))))
  obtain rfl:=ah hF
  exact ay (aM (.inr rfl) [(vI 0)] ⟨rfl,trivial⟩ rfl rfl rfl)
 ·refine aA rfl hc_3 (av (af (aa (ae (vI x_1) wz rfl (ae (vI n_2) wz rfl ?_)))))
  obtain ⟨q_4,hz_5,hF⟩:=bind_some hF
  refine Ob rfl rfl hz_5 wz (ae (vI q_4) wz rfl (ai (af (af (aa (ae (vI q_4) wz rfl (ae (vB (decide (q_4 < 0))) wz rfl (ai ?_))))))))
  obtain ⟨v_6,h_7,hF⟩:=bind_some hF
  refine aG (β:=Unit) (fun _=>([(0,(vI v_6))]:List (Nat×V))) (fun _=>([]:Hp)) (fun _=>True) ?_ ?_
  ·rcases ak h_7 with⟨hc_8,h_7⟩ | ⟨hc_8,h_7⟩
   ·refine aB rfl hc_8 (aa (ae (vI q_4) wz rfl (ae (vI n_2) wz rfl (ae (vI (w64 (q_4 + n_2))) wz rfl (ae (vI (w64 (q_4 + n_2))) wz rfl (ai ?_))))))
    obtain rfl:=ah h_7
    exact cu
   ·refine aA rfl hc_8 (av ?_)
    obtain rfl:=ah h_7
    exact cu
  ·rintro ⟨⟩ _ sl_ H_ hp_ hq_
   refine aK _ hp_ hq_ (af (aa (ae (vI v_6) wz rfl (ae (vI v_6) wz rfl (ai ?_)))))
   obtain rfl:=ah hF
   exact ay (aM (.inr rfl) [(vI v_6)] ⟨rfl,trivial⟩ rfl rfl rfl)
theorem nE {s_1:Stream} {n_2:Int} {r:Int×Stream} (hF:iL s_1 n_2=some r) :
  FnM Tryz.prog 81 [(.ref (aJ 0) 0 0),(vI n_2)] [(.cells 2 [(vL eI s_1.L),(vI s_1.f_at)])] (vI r.1) [some (.cells 2 [(vL eI r.2.L),(vI r.2.f_at)])]:=by
 refine FnM.of_wH ⟨Tryz.prog,64,[],[]⟩ rfl Tryz.func81 rfl rfl (Nat.le_of_ble_eq_true rfl) (by kernel_rfl) ?_
 unfold iL at hF
 refine af (aa (ae (vI 0) wz rfl (ai (af (aa (ae (.ref (aJ 0) 0 0) wz rfl (ae (.ref (aJ 0) 0 0) wz rfl (ax Ec rfl 1 rfl wz (au 0 0 il ft sz3 ag3 rfl rfl (vI s_1.f_at) rfl wz (ae (vI (w64 (s_1.f_at + 1))) wz rfl (ae (.ref (aJ 0) 0 0) wz rfl (ax Ec rfl 1 rfl wz (bL 0 il ft 0 sz3 rfl rfl [(vL eI s_1.L),(vI (w64 (s_1.f_at + 1)))] rfl wz (ai (af (af (aa (ae (.ref (aJ 0) 0 0) wz rfl (ae (.ref (aJ 0) 0 0) wz rfl (ax GH rfl 0 rfl wz (au 0 0 il ft Me Lj rfl rfl (vL eI s_1.L) rfl wz (bP vE rfl wz (ae (vB ((s_1.L.length:Int) == 0)) wz rfl ?_)))))))))))))))))))))))
 refine ai ?_
 rcases ak hF with⟨hc_3,hF⟩ | ⟨hc_3,hF⟩
 ·refine aB rfl hc_3 (af (aa (ae (.ref (aJ 0) 0 0) wz rfl (ae (.ref (aJ 0) 0 0) wz rfl (ax Ec rfl 1 rfl wz (au 0 0 il ft sz3 ag3 rfl rfl (vI (w64 (s_1.f_at + 1))) rfl wz (ae (vI (w64 ((w64 (s_1.f_at + 1)) * 7919))) wz rfl (ae (vI n_2) wz rfl ?_))))))))
  obtain ⟨r_4,hr_5,hF⟩:=bind_some hF
  refine aC (wF hr_5) rfl Np rfl rfl rfl rfl wz (ae (vI r_4) wz rfl (ai ?_))
  obtain rfl:=ah hF
  exact ay (FQ (.inr rfl) [(vI r_4)] _ [0] [aJ 0] ⟨rfl,trivial⟩ (.cons (mF rfl rfl) (.nil)) (by kernel_rfl) ⟨(by kernel_rfl),trivial⟩ (by decide) (by kernel_rfl))
 ·refine aA rfl hc_3 (av (af (bB (ae (.ref (aJ 0) 0 0) wz rfl (ae (.ref (aJ 0) 0 0) wz rfl (ax Ec rfl 1 rfl wz (au 3 0 (.inr (by kernel_rfl)) (fun _ _ ag=>trivial) sz3 ag3 rfl rfl (vI (w64 (s_1.f_at + 1))) rfl wz (ae (vI (w64 ((w64 (s_1.f_at + 1)) - 1))) wz rfl (ae (.ref (aJ 0) 0 0) wz rfl (ae (.ref (aJ 0) 0 0) wz rfl (ax GH rfl 0 rfl wz (au 8 0 (.inr (by kernel_rfl)) (fun _ _ ag=>⟨.inl ⟨rfl,rfl⟩,trivial⟩) Me Lj rfl rfl (vL eI s_1.L) rfl wz (bP vE rfl wz ?_)))))))))))))
  obtain ⟨q_6,hz_7,hF⟩:=bind_some hF
  refine Ob rfl rfl hz_7 wz (ae (vI q_6) wz rfl (ai (af (bB (ae (.ref (aJ 0) 0 0) wz rfl (ae (.ref (aJ 0) 0 0) wz rfl (ax Ec rfl 1 rfl wz (au 3 0 (.inr (by kernel_rfl)) (fun _ _ ag=>trivial) sz3 ag3 rfl rfl (vI (w64 (s_1.f_at + 1))) rfl wz (ae (vI (w64 ((w64 (s_1.f_at + 1)) - 1))) wz rfl (ae (.ref (aJ 0) 0 0) wz rfl (ae (.ref (aJ 0) 0 0) wz rfl (ax GH rfl 0 rfl wz (au 8 0 (.inr (by kernel_rfl)) (fun _ _ ag=>⟨.inl ⟨rfl,rfl⟩,trivial⟩) Me Lj rfl rfl (vL eI s_1.L) rfl wz (bP vE rfl wz ?_))))))))))))))
  obtain ⟨q_8,hz_9,hF⟩:=bind_some hF
  refine Cc rfl rfl hz_9 wz (ae (vI q_8) wz rfl (ai (aK (H0:=([((aJ 0),some (.cells 2 [(vL eI s_1.L),(vI (w64 (s_1.f_at + 1)))]))]:Hp)) ([(0,(.ref (aJ 0) 0 0)),(1,(vI n_2)),(5,(vI q_6)),(6,(vI q_8))]:List (Nat×V)) (by kernel_rfl) (mM (by kernel_rfl)) (af (aa (ae (.ref (aJ 0) 0 0) wz rfl (ae (.ref (aJ 0) 0 0) wz rfl (ax GH rfl 0 rfl wz (au 0 0 il ft Me Lj rfl rfl (vL eI s_1.L) rfl wz (ae (vI q_6) wz rfl ?_))))))))))
  obtain ⟨y_10,hy_11,hF⟩:=bind_some hF
  refine dL oo rfl rfl hy_11 rfl wz (bJ sz3 ag3 rfl (vI y_10) rfl wz ?_)
  obtain ⟨r_12,hr_13,hF⟩:=bind_some hF
  refine aC (wF hr_13) rfl Np rfl rfl rfl rfl wz (ae (vI q_8) wz rfl (ae (vI q_6) wz rfl (ae (vI (w64 (7919 + q_6))) wz rfl (ae (vI (w64 (q_8 * (w64 (7919 + q_6))))) wz rfl (ae (vI (w64 (r_12 + (w64 (q_8 * (w64 (7919 + q_6))))))) wz rfl (ae (vI n_2) wz rfl ?_))))))
  obtain ⟨r_14,hr_15,hF⟩:=bind_some hF
  refine aC (wF hr_15) rfl Np rfl rfl rfl rfl wz (ae (vI r_14) wz rfl (ai ?_))
  obtain rfl:=ah hF
  exact ay (FQ (.inr rfl) [(vI r_14)] _ [0] [aJ 0] ⟨rfl,trivial⟩ (.cons (mF rfl rfl) (.nil)) (by kernel_rfl) ⟨(by kernel_rfl),trivial⟩ (by decide) (by kernel_rfl))
theorem jm {s_1:Stream} {l_2:(List Int)} {r:Int×Stream} (hF:fQ s_1 l_2=some r) :
  FnM Tryz.prog 19 [(.ref (aJ 0) 0 0),(vL eI l_2)] [(.cells 2 [(vL eI s_1.L),(vI s_1.f_at)])] (vI r.1) [some (.cells 2 [(vL eI r.2.L),(vI r.2.f_at)])]:=by
 refine FnM.of_wH ⟨Tryz.prog,12,[],[]⟩ rfl Tryz.func19 rfl rfl (Nat.le_of_ble_eq_true rfl) (by kernel_rfl) ?_
 unfold fQ at hF
 refine af (aa (ae (vI 0) wz rfl (ai (af (aa (ae (vL eI l_2) wz rfl (ae (.ref (aJ 0) 0 0) wz rfl (ae (vL eI l_2) wz rfl (bP vE rfl wz ?_)))))))))
 obtain ⟨r_3,hr_4,hF⟩:=bind_some hF
 refine gL 0 [0] il ft (nE hr_4) rfl hb81 rfl (by kernel_rfl) (by kernel_rfl) (by kernel_rfl) (by kernel_rfl) (by kernel_rfl) (by kernel_rfl) (by kernel_rfl) (by decide) (by kernel_rfl) wz (vI r_3.1) (by kernel_rfl) ([((aJ 0),some (.cells 2 [(vL eI r_3.2.L),(vI r_3.2.f_at)]))]:Hp) (by kernel_rfl) ?_
 obtain ⟨y_6,hy_7,hF⟩:=bind_some hF
 refine dL oo rfl rfl hy_7 rfl wz (bJ sz3 ag3 rfl (vI y_6) rfl wz (ae (vI y_6) wz rfl (ai ?_)))
 obtain rfl:=ah hF
 exact ay (FQ (.inr rfl) [(vI y_6)] _ [0] [aJ 0] ⟨rfl,trivial⟩ (.cons (mF rfl rfl) (.nil)) (by kernel_rfl) ⟨(by kernel_rfl),trivial⟩ (by decide) (by kernel_rfl))
theorem eD {s_1:Stream} {low_2:Int} {high_3:Int} {r:Int×Stream} (hF:dG s_1 low_2 high_3=some r) :
  FnM Tryz.prog 34 [(.ref (aJ 0) 0 0),(vI low_2),(vI high_3)] [(.cells 2 [(vL eI s_1.L),(vI s_1.f_at)])] (vI r.1) [some (.cells 2 [(vL eI r.2.L),(vI r.2.f_at)])]:=by
 refine FnM.of_wH ⟨Tryz.prog,19,[],[]⟩ rfl Tryz.func34 rfl rfl (Nat.le_of_ble_eq_true rfl) (by kernel_rfl) ?_
 unfold dG at hF
 refine af (aa (ae (vI 0) wz rfl (ai (af (af (aa (ae (vI high_3) wz rfl (ae (vI low_2) wz rfl (ae (vB (decide (high_3 < low_2))) wz rfl (ai ?_))))))))))
 rcases ak hF with⟨hc_4,hF⟩ | ⟨hc_4,hF⟩
 ·refine aB rfl hc_4 (af (aa (ae (vI low_2) wz rfl (ae (vI low_2) wz rfl (ai ?_)))))
  obtain rfl:=ah hF
  exact ay (FQ (.inr rfl) [(vI low_2)] _ [0] [aJ 0] ⟨rfl,trivial⟩ (.cons (mF rfl rfl) (.nil)) (by kernel_rfl) ⟨(by kernel_rfl),trivial⟩ (by decide) (by kernel_rfl))
 ·refine aA rfl hc_4 (av (af (aa (ae (vI low_2) wz rfl (ae (.ref (aJ 0) 0 0) wz rfl (ae (vI high_3) wz rfl (ae (vI low_2) wz rfl (ae (vI (w64 (high_3 - low_2))) wz rfl (ae (vI (w64 ((w64 (high_3 - low_2)) + 1))) wz rfl ?_)))))))))
  obtain ⟨r_5,hr_6,hF⟩:=bind_some hF
  refine gL 0 [0] il ft (nE hr_6) rfl hb81 rfl (by kernel_rfl) (by kernel_rfl) (by kernel_rfl) (by kernel_rfl) (by kernel_rfl) (by kernel_rfl) (by kernel_rfl) (by decide) (by kernel_rfl) wz (vI r_5.1) (by kernel_rfl) ([((aJ 0),some (.cells 2 [(vL eI r_5.2.L),(vI r_5.2.f_at)]))]:Hp) (by kernel_rfl) (ae (vI (w64 (low_2 + r_5.1))) wz rfl (ae (vI (w64 (low_2 + r_5.1))) wz rfl (ai ?_)))
  obtain rfl:=ah hF
  exact ay (FQ (.inr rfl) [(vI (w64 (low_2 + r_5.1)))] _ [0] [aJ 0] ⟨rfl,trivial⟩ (.cons (mF rfl rfl) (.nil)) (by kernel_rfl) ⟨(by kernel_rfl),trivial⟩ (by decide) (by kernel_rfl))
theorem lG {s_1:(List Screen)} {r:(List Screen)} (hF:dn s_1=some r) :
  FnM Tryz.prog 63 [(vL Screen.enc s_1)] [] (gV (aJ 0) 5 r) (([]:List Box).map some++gO 5 Screen.enc r):=by
 refine FnM.of_wH ⟨Tryz.prog,8,[],[]⟩ rfl Tryz.func63 rfl rfl (Nat.le_of_ble_eq_true rfl) (by kernel_rfl) ?_
 unfold dn at hF
 refine af (aa (ae .nil wz rfl (ai (af (af (aa (ae (vL Screen.enc s_1) wz rfl (h_nileq Ah rfl wz (fun b_2 hb_3=>ai ?_)))))))))
 cases b_2 with
 | true =>
  refine aB rfl rfl ?_
  obtain rfl:=hb_3 rfl
  replace hF:=LW hF
  refine af (aa (ae .nil wz rfl (ai (l5 (fun n_4 => ?_)))))
  obtain rfl:=ah hF
  exact ay (finG (outs:=([]:List Box)) (.inr rfl) 0 rfl rfl rfl (by kernel_rfl) (by kernel_rfl))
 | false =>
  refine aA rfl rfl (av (af (aa (h_lit0 DF ez26 rfl wz (ae (vL Screen.enc s_1) wz rfl ?_)))))
  obtain ⟨a_5,hz_6,hF⟩:=bind_some hF
  refine h_appn 0 (.inl rfl) el26 el26 lX z127 rfl (by decide) by127 (by decide) (fun _=>rfl) rfl rfl hz_6 wz (fun n_7=>ae (gV n_7 5 a_5) wz rfl (ai ?_))
  obtain rfl:=ah hF
  exact ay (finG (outs:=([]:List Box)) (.inr rfl) 0 rfl rfl rfl (by kernel_rfl) (by kernel_rfl))
theorem rM {s_1:Stream} {n_2:Int} {r:Bool×Stream} (hF:jM s_1 n_2=some r) :
  FnM Tryz.prog 20 [(.ref (aJ 0) 0 0),(vI n_2)] [(.cells 2 [(vL eI s_1.L),(vI s_1.f_at)])] (vB r.1) [some (.cells 2 [(vL eI r.2.L),(vI r.2.f_at)])]:=by
 refine FnM.of_wH ⟨Tryz.prog,9,[],[]⟩ rfl Tryz.func20 rfl rfl (Nat.le_of_ble_eq_true rfl) (by kernel_rfl) ?_
 unfold jM at hF
 refine af (aa (ae (vB false) wz rfl (ai (af (aa (ae (.ref (aJ 0) 0 0) wz rfl (ae (vI n_2) wz rfl ?_)))))))
 obtain ⟨r_3,hr_4,hF⟩:=bind_some hF
 refine gL 0 [0] il ft (nE hr_4) rfl hb81 rfl (by kernel_rfl) (by kernel_rfl) (by kernel_rfl) (by kernel_rfl) (by kernel_rfl) (by kernel_rfl) (by kernel_rfl) (by decide) (by kernel_rfl) wz (vI r_3.1) (by kernel_rfl) ([((aJ 0),some (.cells 2 [(vL eI r_3.2.L),(vI r_3.2.f_at)]))]:Hp) (by kernel_rfl) (ae (vB (r_3.1 == 0)) wz rfl (ae (vB (r_3.1 == 0)) wz rfl (ai ?_)))
 obtain rfl:=ah hF
 exact ay (FQ (.inr rfl) [(vB (r_3.1 == 0))] _ [0] [aJ 0] ⟨rfl,trivial⟩ (.cons (mF rfl rfl) (.nil)) (by kernel_rfl) ⟨(by kernel_rfl),trivial⟩ (by decide) (by kernel_rfl))
theorem qA {n_1:Int} {low_2:Int} {high_3:Int} {r:Bool} (hF:qN n_1 low_2 high_3=some r) :
  FnM Tryz.prog 89 [(vI n_1),(vI low_2),(vI high_3)] [] (vB r) []:=by
 refine FnM.of_wH ⟨Tryz.prog,15,[],[]⟩ rfl Tryz.func89 rfl rfl (Nat.le_of_ble_eq_true rfl) (by kernel_rfl) ?_
 unfold qN at hF
 refine af (aa (ae (vB false) wz rfl (ai (af ?_))))
 obtain ⟨v_4,h_5,hF⟩:=bind_some hF
 refine aG (β:=Unit) (fun _=>([(6,(vB v_4))]:List (Nat×V))) (fun _=>([]:Hp)) (fun _=>True) ?_ ?_
 ·refine aa (ae (vI low_2) wz rfl (ae (vI n_1) wz rfl (ae (vB (decide (low_2≤n_1))) wz rfl ?_)))
  rcases ak h_5 with⟨hc_6,h_5⟩ | ⟨hc_6,h_5⟩
  ·refine aD rfl hc_6 wz (ae (vI n_1) wa rfl (ae (vI high_3) wa rfl (ae (vB (decide (n_1≤high_3))) wa rfl (ae (vB (decide (n_1≤high_3))) wz rfl (ae (vB (decide (n_1≤high_3))) wz rfl (ai ?_))))))
   obtain rfl:=ah h_5
   exact cu
  ·refine aD rfl hc_6 wz (aj wa (aj wa (aj wa (ae (vB false) wz rfl (ae (vB false) wz rfl (ai ?_))))))
   obtain rfl:=ah h_5
   exact cu
 ·rintro ⟨⟩ _ sl_ H_ hp_ hq_
  refine aK _ hp_ hq_ ?_
  obtain rfl:=ah hF
  exact ay (aM (.inr rfl) [(vB v_4)] ⟨rfl,trivial⟩ rfl rfl rfl)
theorem iZ {s_1:ByteArray} {c_2:Int} {r:Int} (hF:dH s_1 c_2=some r) :
  FnM Tryz.prog 280 [(vS s_1),(.d (.int .u8 c_2))] [] (vI r) []:=by
 refine FnM.of_wH ⟨Tryz.prog,8,[],[]⟩ rfl Tryz.func280 rfl rfl (Nat.le_of_ble_eq_true rfl) (by kernel_rfl) ?_
 unfold dH at hF
 refine af (aa (ae (vI 0) wz rfl (ai (af (aa (ae (vS s_1) wz rfl (ae (.d (.int .u8 c_2)) wz rfl (h_ext (ext_ixB (f:=320) Tryz.func320 rfl rfl (by kernel_rfl) (by kernel_rfl) _ _) rfl nb320 rfl wz (ae (vI (ixB s_1 c_2)) wz rfl (ai ?_))))))))))
 obtain rfl:=ah hF
 exact ay (aM (.inr rfl) [(vI (ixB s_1 c_2))] ⟨rfl,trivial⟩ rfl rfl rfl)
theorem vR {s_1:ByteArray} {c_2:Int} {r:Int} (hF:strings_IndexByte s_1 c_2=some r) :
  FnM Tryz.prog 213 [(vS s_1),(.d (.int .u8 c_2))] [] (vI r) []:=by
 refine FnM.of_wH ⟨Tryz.prog,8,[],[]⟩ rfl Tryz.func213 rfl rfl (Nat.le_of_ble_eq_true rfl) (by kernel_rfl) ?_
 unfold strings_IndexByte at hF
 refine af (aa (ae (vI 0) wz rfl (ai (af (aa (ae (vS s_1) wz rfl (ae (.d (.int .u8 c_2)) wz rfl ?_)))))))
 obtain ⟨r_3,hr_4,hF⟩:=bind_some hF
 refine aC (iZ hr_4) rfl hb280 rfl rfl rfl rfl wz (ae (vI r_3) wz rfl (ai ?_))
 obtain rfl:=ah hF
 exact ay (aM (.inr rfl) [(vI r_3)] ⟨rfl,trivial⟩ rfl rfl rfl)
theorem Be {s_1:ByteArray} {somev_2:ByteArray} {r:Bool} (hF:tF s_1 somev_2=some r) :
  FnM Tryz.prog 165 [(vS s_1),(vS somev_2)] [] (vB r) []:=by
 refine FnM.of_wH ⟨Tryz.prog,18,[],[]⟩ rfl Tryz.func165 rfl rfl (Nat.le_of_ble_eq_true rfl) (by kernel_rfl) ?_
 unfold tF at hF
 refine af (aa (ae (vB false) wz rfl (ai (af (af (aa (ae (vS s_1) wz rfl (lu un9 rfl wz (ae (vI 0) wz rfl (ai ?_))))))))))
 obtain ⟨o_11,hj_12,hF⟩:=bind_some hF
 obtain ⟨hn_7,hj_12⟩:=aQ hj_12
 refine aG (β:=(Unit)) (fun (s_8:Unit)=>([]:List (Nat×V))) (fun (s_8:Unit)=>([]:Hp)) (fun p=>o_11 = .go p) ?_ ?_
 ·refine aF (aW (β:=Nat×(List Nat)×(Unit)) (fun p=>(fun (k_3:Nat) (l_4:List Nat) (s_8:Unit)=>([(0,(vS s_1)),(1,(vS somev_2)),(7,(vI (s_1.size:Int))),(8,(vI (k_3:Int)))]:List (Nat×V))) p.1 p.2.1 p.2.2) (fun p=>(fun (k_3:Nat) (l_4:List Nat) (s_8:Unit)=>([]:Hp)) p.1 p.2.1 p.2.2) (fun p=>forR (fun k x s=>mY s_1 somev_2 k x s) p.2.1 p.1 p.2.2=some o_11∧((List.range ((s_1.size:Int)).toNat)).drop p.1=p.2.1) (fun p=>p.2.1.length) (0,(List.range ((s_1.size:Int)).toNat),()) ⟨hj_12,rfl⟩ rfl (aH rfl) ?_)
  rintro ⟨k_3,l_4,s_8⟩ ⟨hL_10,hD_6⟩
  dsimp only at hL_10 hD_6
  cases l_4 with
  | nil =>
   obtain rfl:=ah hL_10
   refine af (aa (ae (vB (decide ((k_3:Int) < (s_1.size:Int)))) wz rfl (ai ?_)))
   refine af (aA rfl (AU hD_6) (aS ?_))
   exact aP (s_8) rfl rfl (aH rfl)
  | cons x_5 l_4 =>
   obtain ⟨c_,hc_9,hL_10⟩:=bind_some hL_10
   refine af (aa (ae (vB (decide ((k_3:Int) < (s_1.size:Int)))) wz rfl (ai ?_)))
   refine af (aB rfl (xW hD_6) (av ?_))
   unfold mY at hc_9
   refine af (aF (af (aa (ae (vI (k_3:Int)) wz rfl (ae (vI (k_3:Int)) wz rfl (ai (af (aa (ae (vS somev_2) wz rfl (ae (vS s_1) wz rfl (ae (vI (k_3:Int)) wz rfl ?_)))))))))))
   obtain ⟨b_13,hy_14,hc_9⟩:=bind_some hc_9
   refine jR un9 rfl rfl hy_14 wz ?_
   obtain ⟨r_15,hr_16,hc_9⟩:=bind_some hc_9
   refine aC (vR hr_16) rfl hb213 rfl rfl rfl rfl wz (ae (vB (decide (r_15 < 0))) wz rfl (ai ?_))
   rcases ak hc_9 with⟨hc_17,hc_9⟩ | ⟨hc_17,hc_9⟩
   ·refine aB rfl hc_17 (af (aa (ae (vB false) wz rfl (ai ?_))))
    obtain rfl:=ah hc_9
    obtain rfl:=ah hL_10
    obtain rfl:=ah hF
    exact ay (aM (.inr rfl) [(vB false)] ⟨rfl,trivial⟩ rfl rfl rfl)
   ·refine aA rfl hc_17 (av (aa (dQ (AL hD_6 hn_7) wz rfl (ae (vI ((k_3 + 1:Nat):Int)) wz rfl (ai ?_)))))
    obtain rfl:=ah hc_9
    exact aR (k_3 + 1,l_4,()) ⟨hL_10,aN hD_6⟩ (Nat.lt_succ_self _) rfl (aH rfl)
 ·rintro s_8 ho_ sl_ H_ hp_ hq_
  subst ho_
  refine aK _ hp_ hq_ (af (aa (ae (vB true) wz rfl (ai ?_))))
  obtain rfl:=ah hF
  exact ay (aM (.inr rfl) [(vB true)] ⟨rfl,trivial⟩ rfl rfl rfl)
theorem Dh {s_1:ByteArray} {r:Bool} (hF:wW s_1=some r) :
  FnM Tryz.prog 88 [(vS s_1)] [] (vB r) []:=by
 refine FnM.of_wH ⟨Tryz.prog,15,[],[]⟩ rfl Tryz.func88 rfl rfl (Nat.le_of_ble_eq_true rfl) (by kernel_rfl) ?_
 unfold wW at hF
 refine af (aa (ae (vB false) wz rfl (ai (af ?_))))
 obtain ⟨v_2,h_3,hF⟩:=bind_some hF
 refine aG (β:=Unit) (fun _=>([(2,(vB v_2))]:List (Nat×V))) (fun _=>([]:Hp)) (fun _=>True) ?_ ?_
 ·refine aa (ae (vS s_1) wz rfl (lu un9 rfl wz ?_))
  obtain ⟨r_4,hr_5,h_3⟩:=bind_some h_3
  refine aC (qA hr_5) rfl LG rfl rfl rfl rfl wz ?_
  rcases ak h_3 with⟨hc_6,h_3⟩ | ⟨hc_6,h_3⟩
  ·refine aD rfl hc_6 wz (ae (vS s_1) wa rfl ?_)
   obtain ⟨y_7,hy_8,h_3⟩:=bind_some h_3
   refine vT un9 rfl rfl hy_8 wa ?_
   obtain ⟨r_9,hr_10,h_3⟩:=bind_some h_3
   refine aC (Be hr_10) rfl hb165 rfl rfl rfl rfl wa (ae (vB r_9) wz rfl ?_)
   rcases ak h_3 with⟨hc_11,h_3⟩ | ⟨hc_11,h_3⟩
   ·refine aD rfl hc_11 wz (ae (vS s_1) wa rfl ?_)
    obtain ⟨r_12,hr_13,h_3⟩:=bind_some h_3
    refine aC (Be hr_13) rfl hb165 rfl rfl rfl rfl wa (ae (vB r_12) wz rfl (ae (vB r_12) wz rfl (ai ?_)))
    obtain rfl:=ah h_3
    exact cu
   ·refine aD rfl hc_11 wz (aj wa (aj wa (ae (vB false) wz rfl (ae (vB false) wz rfl (ai ?_)))))
    obtain rfl:=ah h_3
    exact cu
  ·refine aD rfl hc_6 wz (aj wa (aj wa (aj wa (ae (vB false) wz rfl (ae (vB false) wz rfl (aj wa (aj wa (ae (vB false) wz rfl (ae (vB false) wz rfl (ai ?_))))))))))
   obtain rfl:=ah h_3
   exact cu
 ·rintro ⟨⟩ _ sl_ H_ hp_ hq_
  refine aK _ hp_ hq_ ?_
  obtain rfl:=ah hF
  exact ay (aM (.inr rfl) [(vB v_2)] ⟨rfl,trivial⟩ rfl rfl rfl)
theorem AY {n_1:Int} {r:Bool} (hF:sK n_1=some r) :
  FnM Tryz.prog 140 [(vI n_1)] [] (vB r) []:=by
 refine FnM.of_wH ⟨Tryz.prog,5,[],[]⟩ rfl Tryz.func140 rfl rfl (Nat.le_of_ble_eq_true rfl) (by kernel_rfl) ?_
 unfold sK at hF
 refine af (aa (ae (vB false) wz rfl (ai (af (aa (ae (vI n_1) wz rfl ?_))))))
 obtain ⟨r_2,hr_3,hF⟩:=bind_some hF
 refine aC (qA hr_3) rfl LG rfl rfl rfl rfl wz (ae (vB r_2) wz rfl (ai ?_))
 obtain rfl:=ah hF
 exact ay (aM (.inr rfl) [(vB r_2)] ⟨rfl,trivial⟩ rfl rfl rfl)
theorem Al {r_1:Rect} {r:Int} (hF:mg r_1=some r) :
  FnM Tryz.prog 141 [(.d (.agg (Rect.enc r_1)))] [] (vI r) []:=by
 refine FnM.of_wH ⟨Tryz.prog,31,[],[]⟩ rfl Tryz.func141 rfl rfl (Nat.le_of_ble_eq_true rfl) (by kernel_rfl) ?_
 unfold mg at hF
 refine af (aa (dJ 0 (.inl rfl) [(vI r_1.X),(vI r_1.Y),(vI r_1.W),(vI r_1.H)] rfl rfl wz (fun n_2=>ae (vI 0) wz rfl (ai (af (af ?_))))))
 obtain ⟨v_3,h_4,hF⟩:=bind_some hF
 refine aG (β:=Unit) (fun _=>([(30,(vB v_3))]:List (Nat×V))) (fun _=>([(n_2,some (.cells 4 [(vI r_1.X),(vI r_1.Y),(vI r_1.W),(vI r_1.H)]))]:Hp)) (fun _=>True) ?_ ?_
 ·refine aa (ax gQ rfl 0 rfl wz (au 0 0 il ft sz3 ag3 rfl rfl (vI r_1.X) rfl wz ?_))
  obtain ⟨r_5,hr_6,h_4⟩:=bind_some h_4
  refine aC (qA hr_6) rfl LG rfl rfl rfl rfl wz (ae (vB (!r_5)) wz rfl ?_)
  rcases ak h_4 with⟨hc_7,h_4⟩ | ⟨hc_7,h_4⟩
  ·refine aD rfl hc_7 wz (aj wa (aj wa (aj wa (aj wa (ae (vB true) wz rfl (ae (vB true) wz rfl (aj wa (aj wa (aj wa (aj wa (aj wa (aj wa (aj wa (ae (vB true) wz rfl (ae (vB true) wz rfl (aj wa (aj wa (aj wa (aj wa (aj wa (aj wa (aj wa (ae (vB true) wz rfl ?_)))))))))))))))))))))))
   refine ai ?_
   obtain rfl:=ah h_4
   exact cu
  ·refine aD rfl hc_7 wz (ax fV rfl 1 rfl wa (au 0 0 il ft sz3 ag3 rfl rfl (vI r_1.Y) rfl wa ?_))
   obtain ⟨r_8,hr_9,h_4⟩:=bind_some h_4
   refine aC (qA hr_9) rfl LG rfl rfl rfl rfl wa (ae (vB (!r_8)) wa rfl (ae (vB (!r_8)) wz rfl ?_))
   rcases ak h_4 with⟨hc_10,h_4⟩ | ⟨hc_10,h_4⟩
   ·refine aD rfl hc_10 wz (aj wa (aj wa (aj wa (aj wa (aj wa (aj wa (aj wa (ae (vB true) wz rfl (ae (vB true) wz rfl (aj wa (aj wa (aj wa (aj wa (aj wa (aj wa (aj wa (ae (vB true) wz rfl (ai ?_))))))))))))))))))
    obtain rfl:=ah h_4
    exact cu
   ·refine aD rfl hc_10 wz (ax ku rfl 2 rfl wa (au 0 0 il ft sz3 ag3 rfl rfl (vI r_1.W) rfl wa (ax gQ rfl 0 rfl wa (au 0 0 il ft sz3 ag3 rfl rfl (vI r_1.X) rfl wa (ae (vI (w64 (100000 - r_1.X))) wa rfl ?_)))))
    obtain ⟨r_11,hr_12,h_4⟩:=bind_some h_4
    refine aC (qA hr_12) rfl LG rfl rfl rfl rfl wa (ae (vB (!r_11)) wa rfl (ae (vB (!r_11)) wz rfl ?_))
    rcases ak h_4 with⟨hc_13,h_4⟩ | ⟨hc_13,h_4⟩
    ·refine aD rfl hc_13 wz (aj wa (aj wa (aj wa (aj wa (aj wa (aj wa (aj wa (ae (vB true) wz rfl (ai ?_)))))))))
     obtain rfl:=ah h_4
     exact cu
    ·refine aD rfl hc_13 wz (ax kw rfl 3 rfl wa (au 0 0 il ft sz3 ag3 rfl rfl (vI r_1.H) rfl wa (ax fV rfl 1 rfl wa (au 0 0 il ft sz3 ag3 rfl rfl (vI r_1.Y) rfl wa (ae (vI (w64 (100000 - r_1.Y))) wa rfl ?_)))))
     obtain ⟨r_14,hr_15,h_4⟩:=bind_some h_4
     refine aC (qA hr_15) rfl LG rfl rfl rfl rfl wa (ae (vB (!r_14)) wa rfl (ae (vB (!r_14)) wz rfl (ai ?_)))
     obtain rfl:=ah h_4
     exact cu
 ·rintro ⟨⟩ _ sl_ H_ hp_ hq_
  refine aK _ hp_ hq_ ?_
  rcases ak hF with⟨hc_16,hF⟩ | ⟨hc_16,hF⟩
  ·refine aB rfl hc_16 (af (aa (ae (vI 1) wz rfl (ai ?_))))
   obtain rfl:=ah hF
   exact ay (aM (.inr rfl) [(vI 1)] ⟨rfl,trivial⟩ rfl rfl rfl)
  ·refine aA rfl hc_16 (av (af (aa (ae (vI 0) wz rfl (ai ?_)))))
   obtain rfl:=ah hF
   exact ay (aM (.inr rfl) [(vI 0)] ⟨rfl,trivial⟩ rfl rfl rfl)
theorem Em {r_1:Rect} {wv_2:Int} {h_3:Int} {r:Bool} (hF:uO r_1 wv_2 h_3=some r) :
  FnM Tryz.prog 142 [(.d (.agg (Rect.enc r_1))),(vI wv_2),(vI h_3)] [] (vB r) []:=by
 refine FnM.of_wH ⟨Tryz.prog,33,[],[]⟩ rfl Tryz.func142 rfl rfl (Nat.le_of_ble_eq_true rfl) (by kernel_rfl) ?_
 unfold uO at hF
 refine af (aa (dJ 0 (.inl rfl) [(vI r_1.X),(vI r_1.Y),(vI r_1.W),(vI r_1.H)] rfl rfl wz (fun n_4=>ae (vB false) wz rfl (ai (af ?_)))))
 obtain ⟨v_5,h_6,hF⟩:=bind_some hF
 refine aG (β:=Unit) (fun _=>([(6,(vB v_5))]:List (Nat×V))) (fun _=>([(n_4,some (.cells 4 [(vI r_1.X),(vI r_1.Y),(vI r_1.W),(vI r_1.H)]))]:Hp)) (fun _=>True) ?_ ?_
 ·refine aa (ax gQ rfl 0 rfl wz (au 0 0 il ft sz3 ag3 rfl rfl (vI r_1.X) rfl wz (ae (vB (decide (r_1.X≥0))) wz rfl ?_)))
  rcases ak h_6 with⟨hc_7,h_6⟩ | ⟨hc_7,h_6⟩
  ·refine aD rfl hc_7 wz (ax fV rfl 1 rfl wa (au 0 0 il ft sz3 ag3 rfl rfl (vI r_1.Y) rfl wa (ae (vB (decide (r_1.Y≥0))) wa rfl (ae (vB (decide (r_1.Y≥0))) wz rfl ?_))))
   rcases ak h_6 with⟨hc_8,h_6⟩ | ⟨hc_8,h_6⟩
   ·refine aD rfl hc_8 wz (ax gQ rfl 0 rfl wa (au 0 0 il ft sz3 ag3 rfl rfl (vI r_1.X) rfl wa (ax ku rfl 2 rfl wa (au 0 0 il ft sz3 ag3 rfl rfl (vI r_1.W) rfl wa (ae (vI (w64 (r_1.X + r_1.W))) wa rfl (ae (vI wv_2) wa rfl (ae (vB (decide ((w64 (r_1.X + r_1.W))≤wv_2))) wa rfl (ae (vB (decide ((w64 (r_1.X + r_1.W))≤wv_2))) wz rfl ?_))))))))
    rcases ak h_6 with⟨hc_9,h_6⟩ | ⟨hc_9,h_6⟩
    ·refine aD rfl hc_9 wz (ax fV rfl 1 rfl wa (au 0 0 il ft sz3 ag3 rfl rfl (vI r_1.Y) rfl wa (ax kw rfl 3 rfl wa (au 0 0 il ft sz3 ag3 rfl rfl (vI r_1.H) rfl wa (ae (vI (w64 (r_1.Y + r_1.H))) wa rfl (ae (vI h_3) wa rfl (ae (vB (decide ((w64 (r_1.Y + r_1.H))≤h_3))) wa rfl (ae (vB (decide ((w64 (r_1.Y + r_1.H))≤h_3))) wz rfl (ae (vB (decide ((w64 (r_1.Y + r_1.H))≤h_3))) wz rfl (ai ?_))))))))))
     obtain rfl:=ah h_6
     exact cu
    ·refine aD rfl hc_9 wz (aj wa (aj wa (aj wa (aj wa (aj wa (aj wa (aj wa (ae (vB false) wz rfl (ae (vB false) wz rfl (ai ?_))))))))))
     obtain rfl:=ah h_6
     exact cu
   ·refine aD rfl hc_8 wz (aj wa (aj wa (aj wa (aj wa (aj wa (aj wa (aj wa (ae (vB false) wz rfl (ae (vB false) wz rfl (aj wa (aj wa (aj wa (aj wa (aj wa (aj wa (aj wa (ae (vB false) wz rfl (ae (vB false) wz rfl (ai ?_)))))))))))))))))))
    obtain rfl:=ah h_6
    exact cu
  ·refine aD rfl hc_7 wz (aj wa (aj wa (aj wa (ae (vB false) wz rfl (ae (vB false) wz rfl (aj wa (aj wa (aj wa (aj wa (aj wa (aj wa (aj wa (ae (vB false) wz rfl (ae (vB false) wz rfl (aj wa (aj wa (aj wa (aj wa (aj wa (aj wa (aj wa (ae (vB false) wz rfl (ae (vB false) wz rfl ?_)))))))))))))))))))))))
   refine ai ?_
   obtain rfl:=ah h_6
   exact cu
 ·rintro ⟨⟩ _ sl_ H_ hp_ hq_
  refine aK _ hp_ hq_ ?_
  obtain rfl:=ah hF
  exact ay (aM (.inr rfl) [(vB v_5)] ⟨rfl,trivial⟩ rfl rfl rfl)
theorem Eo {a_1:Rect} {b_2:Rect} {r:Rect×Bool} (hF:x8 a_1 b_2=some r) :
  FnM Tryz.prog 143 [(.d (.agg (Rect.enc a_1))),(.d (.agg (Rect.enc b_2)))] [] (.tup [(.d (.agg (Rect.enc r.1))),(vB r.2)]) []:=by
 refine FnM.of_wH ⟨Tryz.prog,58,[],[]⟩ rfl Tryz.func143 rfl rfl (Nat.le_of_ble_eq_true rfl) (by kernel_rfl) ?_
 unfold x8 at hF
 refine af (aa (dJ 0 (.inl rfl) [(vI a_1.X),(vI a_1.Y),(vI a_1.W),(vI a_1.H)] rfl rfl wz (fun n_3=>dJ 0 (.inl rfl) [(vI b_2.X),(vI b_2.Y),(vI b_2.W),(vI b_2.H)] rfl rfl wz (fun n_4=>aY 0 (.inl rfl) z45 rfl wz (fun n_5=>ae (vB false) wz rfl (ai (af (bB (ax gQ rfl 0 rfl wz (au 1 0 (.inr (by kernel_rfl)) (fun _ _ ag=>trivial) sz3 ag3 rfl rfl (vI a_1.X) rfl wz (ax gQ rfl 0 rfl wz (au 3 1 (.inr (by kernel_rfl)) (fun _ _ ag=>⟨.inl ⟨rfl,rfl⟩,trivial⟩) sz3 ag3 rfl rfl (vI b_2.X) rfl wz (jy (vI (bS a_1.X b_2.X)) rfl (.inr rfl) wz (ax fV rfl 1 rfl wz (au 6 0 (.inr (by kernel_rfl)) (fun _ _ ag=>⟨.inl ⟨rfl,rfl⟩,⟨.inl ⟨rfl,rfl⟩,trivial⟩⟩) sz3 ag3 rfl rfl (vI a_1.Y) rfl wz (ax fV rfl 1 rfl wz (au 8 1 (.inr (by kernel_rfl)) (fun _ _ ag=>⟨.inl ⟨rfl,rfl⟩,⟨.inl ⟨rfl,rfl⟩,⟨.inl ⟨rfl,rfl⟩,trivial⟩⟩⟩) sz3 ag3 rfl rfl (vI b_2.Y) rfl wz (jy (vI (bS a_1.Y b_2.Y)) rfl (.inr rfl) wz (ae (vI (bS a_1.X b_2.X)) wz rfl (ae (vI (bS a_1.Y b_2.Y)) wz rfl (ai (af (bB ?_)))))))))))))))))))))))
 refine ax gQ rfl 0 rfl wz (au 1 0 (.inr (by kernel_rfl)) (fun _ _ ag=>trivial) sz3 ag3 rfl rfl (vI a_1.X) rfl wz (ax ku rfl 2 rfl wz (au 3 0 (.inr (by kernel_rfl)) (fun _ _ ag=>⟨.inl ⟨rfl,rfl⟩,trivial⟩) sz3 ag3 rfl rfl (vI a_1.W) rfl wz (ae (vI (w64 (a_1.X + a_1.W))) wz rfl (ax gQ rfl 0 rfl wz (au 6 1 (.inr (by kernel_rfl)) (fun _ _ ag=>⟨.inl ⟨rfl,rfl⟩,⟨.inl ⟨rfl,rfl⟩,trivial⟩⟩) sz3 ag3 rfl rfl (vI b_2.X) rfl wz (ax ku rfl 2 rfl wz (au 8 1 (.inr (by kernel_rfl)) (fun _ _ ag=>⟨.inl ⟨rfl,rfl⟩,⟨.inl ⟨rfl,rfl⟩,⟨.inl ⟨rfl,rfl⟩,trivial⟩⟩⟩) sz3 ag3 rfl rfl (vI b_2.W) rfl wz (ae (vI (w64 (b_2.X + b_2.W))) wz rfl (jy (vI (eZ (w64 (a_1.X + a_1.W)) (w64 (b_2.X + b_2.W)))) rfl (.inl rfl) wz (ae (vI (bS a_1.X b_2.X)) wz rfl (ae (vI (w64 ((eZ (w64 (a_1.X + a_1.W)) (w64 (b_2.X + b_2.W))) - (bS a_1.X b_2.X)))) wz rfl (ax fV rfl 1 rfl wz (au 14 0 (.inr (by kernel_rfl)) (fun _ _ ag=>⟨.inl ⟨rfl,rfl⟩,⟨.inl ⟨rfl,rfl⟩,⟨.inl ⟨rfl,rfl⟩,⟨.inl ⟨rfl,rfl⟩,trivial⟩⟩⟩⟩) sz3 ag3 rfl rfl (vI a_1.Y) rfl wz (ax kw rfl 3 rfl wz (au 16 0 (.inr (by kernel_rfl)) (fun _ _ ag=>⟨.inl ⟨rfl,rfl⟩,⟨.inl ⟨rfl,rfl⟩,⟨.inl ⟨rfl,rfl⟩,⟨.inl ⟨rfl,rfl⟩,⟨.inl ⟨rfl,rfl⟩,trivial⟩⟩⟩⟩⟩) sz3 ag3 rfl rfl (vI a_1.H) rfl wz (ae (vI (w64 (a_1.Y + a_1.H))) wz rfl (ax fV rfl 1 rfl wz (au 19 1 (.inr (by kernel_rfl)) (fun _ _ ag=>⟨.inl ⟨rfl,rfl⟩,⟨.inl ⟨rfl,rfl⟩,⟨.inl ⟨rfl,rfl⟩,⟨.inl ⟨rfl,rfl⟩,⟨.inl ⟨rfl,rfl⟩,⟨.inl ⟨rfl,rfl⟩,trivial⟩⟩⟩⟩⟩⟩) sz3 ag3 rfl rfl (vI b_2.Y) rfl wz (ax kw rfl 3 rfl wz (au 21 1 (.inr (by kernel_rfl)) (fun _ _ ag=>⟨.inl ⟨rfl,rfl⟩,⟨.inl ⟨rfl,rfl⟩,⟨.inl ⟨rfl,rfl⟩,⟨.inl ⟨rfl,rfl⟩,⟨.inl ⟨rfl,rfl⟩,⟨.inl ⟨rfl,rfl⟩,⟨.inl ⟨rfl,rfl⟩,trivial⟩⟩⟩⟩⟩⟩⟩) sz3 ag3 rfl rfl (vI b_2.H) rfl wz (ae (vI (w64 (b_2.Y + b_2.H))) wz rfl (jy (vI (eZ (w64 (a_1.Y + a_1.H)) (w64 (b_2.Y + b_2.H)))) rfl (.inl rfl) wz ?_)))))))))))))))))))))))
 refine ae (vI (bS a_1.Y b_2.Y)) wz rfl (ae (vI (w64 ((eZ (w64 (a_1.Y + a_1.H)) (w64 (b_2.Y + b_2.H))) - (bS a_1.Y b_2.Y)))) wz rfl (ae (vI (w64 ((eZ (w64 (a_1.X + a_1.W)) (w64 (b_2.X + b_2.W))) - (bS a_1.X b_2.X)))) wz rfl (ae (vI (w64 ((eZ (w64 (a_1.Y + a_1.H)) (w64 (b_2.Y + b_2.H))) - (bS a_1.Y b_2.Y)))) wz rfl (ai (aK (H0:=([(n_3,some (.cells 4 [(vI a_1.X),(vI a_1.Y),(vI a_1.W),(vI a_1.H)])),(n_4,some (.cells 4 [(vI b_2.X),(vI b_2.Y),(vI b_2.W),(vI b_2.H)])),(n_5,some (.cells 4 [(vI 0),(vI 0),(vI 0),(vI 0)]))]:Hp)) ([(4,(.ref n_5 0 0)),(6,(vI (bS a_1.X b_2.X))),(7,(vI (bS a_1.Y b_2.Y))),(8,(vI (w64 ((eZ (w64 (a_1.X + a_1.W)) (w64 (b_2.X + b_2.W))) - (bS a_1.X b_2.X))))),(9,(vI (w64 ((eZ (w64 (a_1.Y + a_1.H)) (w64 (b_2.Y + b_2.H))) - (bS a_1.Y b_2.Y)))))]:List (Nat×V)) (by kernel_rfl) (mM (by kernel_rfl)) (af (af ?_)))))))
 obtain ⟨v_6,h_7,hF⟩:=bind_some hF
 refine aG (β:=Unit) (fun _=>([(4,(.ref n_5 0 0)),(6,(vI (bS a_1.X b_2.X))),(7,(vI (bS a_1.Y b_2.Y))),(8,(vI (w64 ((eZ (w64 (a_1.X + a_1.W)) (w64 (b_2.X + b_2.W))) - (bS a_1.X b_2.X))))),(9,(vI (w64 ((eZ (w64 (a_1.Y + a_1.H)) (w64 (b_2.Y + b_2.H))) - (bS a_1.Y b_2.Y))))),(51,(vB v_6))]:List (Nat×V))) (fun _=>([(n_3,some (.cells 4 [(vI a_1.X),(vI a_1.Y),(vI a_1.W),(vI a_1.H)])),(n_4,some (.cells 4 [(vI b_2.X),(vI b_2.Y),(vI b_2.W),(vI b_2.H)])),(n_5,some (.cells 4 [(vI 0),(vI 0),(vI 0),(vI 0)]))]:Hp)) (fun _=>True) ?_ ?_
 ·refine aa (ae (vI (w64 ((eZ (w64 (a_1.X + a_1.W)) (w64 (b_2.X + b_2.W))) - (bS a_1.X b_2.X)))) wz rfl (ae (vB (decide ((w64 ((eZ (w64 (a_1.X + a_1.W)) (w64 (b_2.X + b_2.W))) - (bS a_1.X b_2.X)))≤0))) wz rfl ?_))
  rcases ak h_7 with⟨hc_8,h_7⟩ | ⟨hc_8,h_7⟩
  ·refine aD rfl hc_8 wz (aj wa (aj wa (ae (vB true) wz rfl (ai ?_))))
   obtain rfl:=ah h_7
   exact cu
  ·refine aD rfl hc_8 wz (ae (vI (w64 ((eZ (w64 (a_1.Y + a_1.H)) (w64 (b_2.Y + b_2.H))) - (bS a_1.Y b_2.Y)))) wa rfl (ae (vB (decide ((w64 ((eZ (w64 (a_1.Y + a_1.H)) (w64 (b_2.Y + b_2.H))) - (bS a_1.Y b_2.Y)))≤0))) wa rfl (ae (vB (decide ((w64 ((eZ (w64 (a_1.Y + a_1.H)) (w64 (b_2.Y + b_2.H))) - (bS a_1.Y b_2.Y)))≤0))) wz rfl (ai ?_))))
   obtain rfl:=ah h_7
   exact cu
 ·rintro ⟨⟩ _ sl_ H_ hp_ hq_
  refine aK _ hp_ hq_ ?_
  rcases ak hF with⟨hc_9,hF⟩ | ⟨hc_9,hF⟩
  ·refine aB rfl hc_9 (af (aa (ae (.d (.agg (Rect.enc (⟨0,0,0,0⟩:Rect)))) wz (by kernel_rfl) (bL 0 il ft 2 dx rfl rfl [(vI 0),(vI 0),(vI 0),(vI 0)] rfl wz (ae (vB false) wz rfl (ai ?_))))))
   obtain rfl:=ah hF
   exact ay (aM (.inr rfl) [(.d (.agg (Rect.enc (⟨0,0,0,0⟩:Rect)))),(vB false)] ⟨⟨2,_,_,_,_,_,_,_,rfl,rfl,dx,gm,rfl⟩,⟨rfl,trivial⟩⟩ rfl rfl rfl)
  ·refine aA rfl hc_9 (av (af (aa (ae (vI (bS a_1.X b_2.X)) wz rfl (ae (vI (bS a_1.Y b_2.Y)) wz rfl (ae (vI (w64 ((eZ (w64 (a_1.X + a_1.W)) (w64 (b_2.X + b_2.W))) - (bS a_1.X b_2.X)))) wz rfl (ae (vI (w64 ((eZ (w64 (a_1.Y + a_1.H)) (w64 (b_2.Y + b_2.H))) - (bS a_1.Y b_2.Y)))) wz rfl (ae (.d (.agg (Rect.enc (⟨(bS a_1.X b_2.X),(bS a_1.Y b_2.Y),(w64 ((eZ (w64 (a_1.X + a_1.W)) (w64 (b_2.X + b_2.W))) - (bS a_1.X b_2.X))),(w64 ((eZ (w64 (a_1.Y + a_1.H)) (w64 (b_2.Y + b_2.H))) - (bS a_1.Y b_2.Y)))⟩:Rect)))) wz (by kernel_rfl) (bL 0 il ft 2 dx rfl rfl [(vI (bS a_1.X b_2.X)),(vI (bS a_1.Y b_2.Y)),(vI (w64 ((eZ (w64 (a_1.X + a_1.W)) (w64 (b_2.X + b_2.W))) - (bS a_1.X b_2.X)))),(vI (w64 ((eZ (w64 (a_1.Y + a_1.H)) (w64 (b_2.Y + b_2.H))) - (bS a_1.Y b_2.Y))))] rfl wz (ae (vB true) wz rfl (ai ?_)))))))))))
   obtain rfl:=ah hF
   exact ay (aM (.inr rfl) [(.d (.agg (Rect.enc (⟨(bS a_1.X b_2.X),(bS a_1.Y b_2.Y),(w64 ((eZ (w64 (a_1.X + a_1.W)) (w64 (b_2.X + b_2.W))) - (bS a_1.X b_2.X))),(w64 ((eZ (w64 (a_1.Y + a_1.H)) (w64 (b_2.Y + b_2.H))) - (bS a_1.Y b_2.Y)))⟩:Rect)))),(vB true)] ⟨⟨2,_,_,_,_,_,_,_,rfl,rfl,dx,gm,rfl⟩,⟨rfl,trivial⟩⟩ rfl rfl rfl)
theorem AV {wv_1:Wall} {r:Int} (hF:mo wv_1=some r) :
  FnM Tryz.prog 64 [(.d (.agg (Wall.enc wv_1)))] [] (vI r) []:=by
 refine FnM.of_wH ⟨Tryz.prog,96,[],[]⟩ rfl Tryz.func64 rfl rfl (Nat.le_of_ble_eq_true rfl) (by kernel_rfl) ?_
 unfold mo at hF
 refine af (aa (dJ 0 (.inl rfl) [(vS wv_1.Key),(vI wv_1.W),(vI wv_1.H),(vL Screen.enc wv_1.Screens)] rfl rfl wz (fun n_2=>ae (vI 0) wz rfl (ai (af (aF (af (aa (ax Na rfl 0 rfl wz (au 0 0 il ft sz9 ag9 rfl rfl (vS wv_1.Key) rfl wz ?_))))))))))
 obtain ⟨r_3,hr_4,hF⟩:=bind_some hF
 refine aC (Dh hr_4) rfl hb88 rfl rfl rfl rfl wz (ae (vB (!r_3)) wz rfl (ae (vB (!r_3)) wz rfl (ai ?_)))
 rcases ak hF with⟨hc_5,hF⟩ | ⟨hc_5,hF⟩
 ·refine aB rfl hc_5 (af (aa (ae (vI 5) wz rfl (ai ?_))))
  obtain rfl:=ah hF
  exact ay (aM (.inr rfl) [(vI 5)] ⟨rfl,trivial⟩ rfl rfl rfl)
 ·refine aA rfl hc_5 (af ?_)
  obtain ⟨v_6,h_7,hF⟩:=bind_some hF
  refine aG (β:=Unit) (fun _=>([(1,(.ref n_2 0 0)),(18,(vB v_6))]:List (Nat×V))) (fun _=>([(n_2,some (.cells 4 [(vS wv_1.Key),(vI wv_1.W),(vI wv_1.H),(vL Screen.enc wv_1.Screens)]))]:Hp)) (fun _=>True) ?_ ?_
  ·refine aa (ax wo rfl 1 rfl wz (au 0 0 il ft sz3 ag3 rfl rfl (vI wv_1.W) rfl wz ?_))
   obtain ⟨r_8,hr_9,h_7⟩:=bind_some h_7
   refine aC (AY hr_9) rfl hb140 rfl rfl rfl rfl wz (ae (vB (!r_8)) wz rfl ?_)
   rcases ak h_7 with⟨hc_10,h_7⟩ | ⟨hc_10,h_7⟩
   ·refine aD rfl hc_10 wz (aj wa (aj wa (aj wa (aj wa (ae (vB true) wz rfl (ae (vB true) wz rfl (ai ?_)))))))
    obtain rfl:=ah h_7
    exact cu
   ·refine aD rfl hc_10 wz (ax wC rfl 2 rfl wa (au 0 0 il ft sz3 ag3 rfl rfl (vI wv_1.H) rfl wa ?_))
    obtain ⟨r_11,hr_12,h_7⟩:=bind_some h_7
    refine aC (AY hr_12) rfl hb140 rfl rfl rfl rfl wa (ae (vB (!r_11)) wa rfl (ae (vB (!r_11)) wz rfl (ae (vB (!r_11)) wz rfl (ai ?_))))
    obtain rfl:=ah h_7
    exact cu
  ·rintro ⟨⟩ _ sl_ H_ hp_ hq_
   refine aK _ hp_ hq_ ?_
   rcases ak hF with⟨hc_13,hF⟩ | ⟨hc_13,hF⟩
   ·refine aB rfl hc_13 (af (aa (ae (vI 1) wz rfl (ai ?_))))
    obtain rfl:=ah hF
    exact ay (aM (.inr rfl) [(vI 1)] ⟨rfl,trivial⟩ rfl rfl rfl)
   ·refine aA rfl hc_13 (af (aa (ax ol rfl 3 rfl wz (au 0 0 il ft zJ Bu rfl rfl (vL Screen.enc wv_1.Screens) rfl wz (bP Ah rfl wz (ae (vB (decide ((wv_1.Screens.length:Int) > 50))) wz rfl (ae (vB (decide ((wv_1.Screens.length:Int) > 50))) wz rfl (ai ?_))))))))
    rcases ak hF with⟨hc_14,hF⟩ | ⟨hc_14,hF⟩
    ·refine aB rfl hc_14 (af (aa (ae (vI 2) wz rfl (ai ?_))))
     obtain rfl:=ah hF
     exact ay (aM (.inr rfl) [(vI 2)] ⟨rfl,trivial⟩ rfl rfl rfl)
    ·refine aA rfl hc_14 (av (af (aa (ae (vS (⟨#[]⟩:ByteArray)) wz rfl (ai (af (af (aa (ax ol rfl 3 rfl wz (au 0 0 il ft zJ Bu rfl rfl (vL Screen.enc wv_1.Screens) rfl wz (bP Ah rfl wz (ae (vI 0) wz rfl (ai ?_)))))))))))))
     obtain ⟨o_23,hj_24,hF⟩:=bind_some hF
     obtain ⟨hn_19,hj_24⟩:=aQ hj_24
     refine aG (β:=(ByteArray)) (fun (s_20:ByteArray)=>([(1,(.ref n_2 0 0))]:List (Nat×V))) (fun (s_20:ByteArray)=>([(n_2,some (.cells 4 [(vS wv_1.Key),(vI wv_1.W),(vI wv_1.H),(vL Screen.enc wv_1.Screens)]))]:Hp)) (fun p=>o_23 = .go p) ?_ ?_
     ·refine aF (aW (β:=Nat×(List Screen)×(ByteArray)) (fun p=>(fun (k_15:Nat) (l_16:List Screen) (s_20:ByteArray)=>([(1,(.ref n_2 0 0)),(3,(vS s_20)),(35,(vL Screen.enc wv_1.Screens)),(36,(vI (wv_1.Screens.length:Int))),(37,(vI (k_15:Int)))]:List (Nat×V))) p.1 p.2.1 p.2.2) (fun p=>(fun (k_15:Nat) (l_16:List Screen) (s_20:ByteArray)=>([(n_2,some (.cells 4 [(vS wv_1.Key),(vI wv_1.W),(vI wv_1.H),(vL Screen.enc wv_1.Screens)]))]:Hp)) p.1 p.2.1 p.2.2) (fun p=>forR (fun k x s=>jP wv_1 k x s) p.2.1 p.1 p.2.2=some o_23∧(wv_1.Screens).drop p.1=p.2.1) (fun p=>p.2.1.length) (0,wv_1.Screens,(⟨#[]⟩:ByteArray)) ⟨hj_24,rfl⟩ rfl (aH rfl) ?_)
      rintro ⟨k_15,l_16,s_20⟩ ⟨hL_22,hD_18⟩
      dsimp only at hL_22 hD_18
      cases l_16 with
      | nil =>
       obtain rfl:=ah hL_22
       refine af (aa (ae (vB (decide ((k_15:Int) < (wv_1.Screens.length:Int)))) wz rfl (ai ?_)))
       refine af (aA rfl (drop_nil hD_18) (aS ?_))
       exact aP (s_20) rfl rfl (aH rfl)
      | cons x_17 l_16 =>
       obtain ⟨c_,hc_21,hL_22⟩:=bind_some hL_22
       refine af (aa (ae (vB (decide ((k_15:Int) < (wv_1.Screens.length:Int)))) wz rfl (ai ?_)))
       refine af (aB rfl (aX hD_18) (av ?_))
       unfold jP at hc_21
       refine af (aF (af (aa (dL DF rfl rfl (bC hD_18) rfl wz (bJ lX zi rfl (.d (.agg (Screen.enc x_17))) rfl wz (aY 0 (.inl rfl) z127 rfl wz (fun n_25=>bL 0 il ft 1 lX rfl rfl [(vS x_17.Key),(vI x_17.On.X),(vI x_17.On.Y),(vI x_17.On.W),(vI x_17.On.H)] rfl wz (ai (af (af (aa (ax uK rfl 0 rfl wz (au 0 1 il ft sz9 ag9 rfl rfl (vS x_17.Key) rfl wz ?_)))))))))))))
       obtain ⟨r_26,hr_27,hc_21⟩:=bind_some hc_21
       refine aC (Dh hr_27) rfl hb88 rfl rfl rfl rfl wz (ae (vB (!r_26)) wz rfl (ai ?_))
       rcases ak hc_21 with⟨hc_28,hc_21⟩ | ⟨hc_28,hc_21⟩
       ·refine aB rfl hc_28 (af (aa (ae (vI 5) wz rfl (ai ?_))))
        obtain rfl:=ah hc_21
        obtain rfl:=ah hL_22
        obtain rfl:=ah hF
        exact ay (aM (.inr rfl) [(vI 5)] ⟨rfl,trivial⟩ rfl rfl rfl)
       ·refine aA rfl hc_28 (av (af (af (aa (ax kg rfl 1 rfl wz (au 0 1 il ft dx gm rfl rfl (.d (.agg (Rect.enc x_17.On))) rfl wz ?_))))))
        obtain ⟨r_29,hr_30,hc_21⟩:=bind_some hc_21
        refine aC (Al hr_30) rfl hb141 rfl rfl rfl rfl wz (ae (vI r_29) wz rfl (ai (af (aa (ae (vI r_29) wz rfl (ae (vB (r_29 != 0)) wz rfl (ai ?_)))))))
        rcases ak hc_21 with⟨hc_31,hc_21⟩ | ⟨hc_31,hc_21⟩
        ·refine aB rfl hc_31 (af (aa (ae (vI r_29) wz rfl (ae (vI r_29) wz rfl (ai ?_)))))
         obtain rfl:=ah hc_21
         obtain rfl:=ah hL_22
         obtain rfl:=ah hF
         exact ay (aM (.inr rfl) [(vI r_29)] ⟨rfl,trivial⟩ rfl rfl rfl)
        ·refine aA rfl hc_31 (av (af (aF (af (aa (ax kg rfl 1 rfl wz (au 0 1 il ft dx gm rfl rfl (.d (.agg (Rect.enc x_17.On))) rfl wz (ax wo rfl 1 rfl wz (au 0 0 il ft sz3 ag3 rfl rfl (vI wv_1.W) rfl wz (ax wC rfl 2 rfl wz (au 0 0 il ft sz3 ag3 rfl rfl (vI wv_1.H) rfl wz ?_)))))))))))
         obtain ⟨r_32,hr_33,hc_21⟩:=bind_some hc_21
         refine aC (Em hr_33) rfl hb142 rfl rfl rfl rfl wz (ae (vB (!r_32)) wz rfl (ae (vB (!r_32)) wz rfl (ai ?_)))
         rcases ak hc_21 with⟨hc_34,hc_21⟩ | ⟨hc_34,hc_21⟩
         ·refine aB rfl hc_34 (af (aa (ae (vI 3) wz rfl (ai ?_))))
          obtain rfl:=ah hc_21
          obtain rfl:=ah hL_22
          obtain rfl:=ah hF
          exact ay (aM (.inr rfl) [(vI 3)] ⟨rfl,trivial⟩ rfl rfl rfl)
         ·refine aA rfl hc_34 (af (aa (ax uK rfl 0 rfl wz (au 0 1 il ft sz9 ag9 rfl rfl (vS x_17.Key) rfl wz (ae (vS s_20) wz rfl (ae (vB (sLe x_17.Key s_20)) wz rfl (ae (vB (sLe x_17.Key s_20)) wz rfl (ai ?_))))))))
          rcases ak hc_21 with⟨hc_35,hc_21⟩ | ⟨hc_35,hc_21⟩
          ·refine aB rfl hc_35 (af (aa (ae (vI 7) wz rfl (ai ?_))))
           obtain rfl:=ah hc_21
           obtain rfl:=ah hL_22
           obtain rfl:=ah hF
           exact ay (aM (.inr rfl) [(vI 7)] ⟨rfl,trivial⟩ rfl rfl rfl)
          ·refine aA rfl hc_35 (av (aa (ax uK rfl 0 rfl wz (au 0 1 il ft sz9 ag9 rfl rfl (vS x_17.Key) rfl wz (ae (vS x_17.Key) wz rfl (ai (aK (H0:=([(n_2,some (.cells 4 [(vS wv_1.Key),(vI wv_1.W),(vI wv_1.H),(vL Screen.enc wv_1.Screens)])),(n_25,some (.cells 5 [(vS x_17.Key),(vI x_17.On.X),(vI x_17.On.Y),(vI x_17.On.W),(vI x_17.On.H)]))]:Hp)) ([(1,(.ref n_2 0 0)),(3,(vS x_17.Key)),(35,(vL Screen.enc wv_1.Screens)),(36,(vI (wv_1.Screens.length:Int))),(37,(vI (k_15:Int)))]:List (Nat×V)) (by kernel_rfl) (mM (by kernel_rfl)) (aa (dQ (bu hD_18 hn_19) wz rfl (ae (vI ((k_15 + 1:Nat):Int)) wz rfl (ai ?_)))))))))))
           obtain rfl:=ah hc_21
           exact aR (k_15 + 1,l_16,x_17.Key) ⟨hL_22,aN hD_18⟩ (Nat.lt_succ_self _) rfl (aH rfl)
     ·rintro s_20 ho_ sl_ H_ hp_ hq_
      subst ho_
      refine aK _ hp_ hq_ (af (af (aa (ax ol rfl 3 rfl wz (au 0 0 il ft zJ Bu rfl rfl (vL Screen.enc wv_1.Screens) rfl wz (bP Ah rfl wz (ae (vI 0) wz rfl (ai ?_))))))))
      obtain ⟨o_44,hj_45,hF⟩:=bind_some hF
      obtain ⟨hn_40,hj_45⟩:=aQ hj_45
      refine aG (β:=(Unit)) (fun (s_41:Unit)=>([]:List (Nat×V))) (fun (s_41:Unit)=>([(n_2,some (.cells 4 [(vS wv_1.Key),(vI wv_1.W),(vI wv_1.H),(vL Screen.enc wv_1.Screens)]))]:Hp)) (fun p=>o_44 = .go p) ?_ ?_
      ·refine aF (aW (β:=Nat×(List Screen)×(Unit)) (fun p=>(fun (k_36:Nat) (l_37:List Screen) (s_41:Unit)=>([(1,(.ref n_2 0 0)),(69,(vL Screen.enc wv_1.Screens)),(70,(vI (wv_1.Screens.length:Int))),(71,(vI (k_36:Int)))]:List (Nat×V))) p.1 p.2.1 p.2.2) (fun p=>(fun (k_36:Nat) (l_37:List Screen) (s_41:Unit)=>([(n_2,some (.cells 4 [(vS wv_1.Key),(vI wv_1.W),(vI wv_1.H),(vL Screen.enc wv_1.Screens)]))]:Hp)) p.1 p.2.1 p.2.2) (fun p=>forR (fun k x s=>lT wv_1 k x s) p.2.1 p.1 p.2.2=some o_44∧(wv_1.Screens).drop p.1=p.2.1) (fun p=>p.2.1.length) (0,wv_1.Screens,()) ⟨hj_45,rfl⟩ rfl (aH rfl) ?_)
       rintro ⟨k_36,l_37,s_41⟩ ⟨hL_43,hD_39⟩
       dsimp only at hL_43 hD_39
       cases l_37 with
       | nil =>
        obtain rfl:=ah hL_43
        refine af (aa (ae (vB (decide ((k_36:Int) < (wv_1.Screens.length:Int)))) wz rfl (ai ?_)))
        refine af (aA rfl (drop_nil hD_39) (aS ?_))
        exact aP (s_41) rfl rfl (aH rfl)
       | cons x_38 l_37 =>
        obtain ⟨c_,hc_42,hL_43⟩:=bind_some hL_43
        refine af (aa (ae (vB (decide ((k_36:Int) < (wv_1.Screens.length:Int)))) wz rfl (ai ?_)))
        refine af (aB rfl (aX hD_39) (av ?_))
        unfold lT at hc_42
        refine af (aF (af (aa (ae (vI (k_36:Int)) wz rfl (dL DF rfl rfl (bC hD_39) rfl wz (bJ lX zi rfl (.d (.agg (Screen.enc x_38))) rfl wz (aY 0 (.inl rfl) z127 rfl wz (fun n_46=>ae (vI (k_36:Int)) wz rfl (bL 0 il ft 1 lX rfl rfl [(vS x_38.Key),(vI x_38.On.X),(vI x_38.On.Y),(vI x_38.On.W),(vI x_38.On.H)] rfl wz (ai (af (aa (ax ol rfl 3 rfl wz (au 0 0 il ft zJ Bu rfl rfl (vL Screen.enc wv_1.Screens) rfl wz (ae (vI (k_36:Int)) wz rfl ?_)))))))))))))))
        obtain ⟨y_47,hy_48,hc_42⟩:=bind_some hc_42
        refine pM Ah lX (fun _=>rfl) rfl rfl hy_48 wz (bP Ah rfl wz (ae (vI 0) wz rfl (ai ?_)))
        obtain ⟨o_57,hj_58,hc_42⟩:=bind_some hc_42
        obtain ⟨hn_53,hj_58⟩:=aQ hj_58
        refine aG (β:=(Unit)) (fun (s_54:Unit)=>([(1,(.ref n_2 0 0)),(69,(vL Screen.enc wv_1.Screens)),(70,(vI (wv_1.Screens.length:Int))),(71,(vI (k_36:Int)))]:List (Nat×V))) (fun (s_54:Unit)=>([(n_2,some (.cells 4 [(vS wv_1.Key),(vI wv_1.W),(vI wv_1.H),(vL Screen.enc wv_1.Screens)])),(n_46,some (.cells 5 [(vS x_38.Key),(vI x_38.On.X),(vI x_38.On.Y),(vI x_38.On.W),(vI x_38.On.H)]))]:Hp)) (fun p=>o_57 = .go p) ?_ ?_
        ·refine aF (aW (β:=Nat×(List Screen)×(Unit)) (fun p=>(fun (k_49:Nat) (l_50:List Screen) (s_54:Unit)=>([(1,(.ref n_2 0 0)),(8,(.ref n_46 0 0)),(69,(vL Screen.enc wv_1.Screens)),(70,(vI (wv_1.Screens.length:Int))),(71,(vI (k_36:Int))),(79,(vL Screen.enc y_47)),(80,(vI (y_47.length:Int))),(81,(vI (k_49:Int)))]:List (Nat×V))) p.1 p.2.1 p.2.2) (fun p=>(fun (k_49:Nat) (l_50:List Screen) (s_54:Unit)=>([(n_2,some (.cells 4 [(vS wv_1.Key),(vI wv_1.W),(vI wv_1.H),(vL Screen.enc wv_1.Screens)])),(n_46,some (.cells 5 [(vS x_38.Key),(vI x_38.On.X),(vI x_38.On.Y),(vI x_38.On.W),(vI x_38.On.H)]))]:Hp)) p.1 p.2.1 p.2.2) (fun p=>forR (fun k x s=>om x_38 k x s) p.2.1 p.1 p.2.2=some o_57∧(y_47).drop p.1=p.2.1) (fun p=>p.2.1.length) (0,y_47,()) ⟨hj_58,rfl⟩ rfl (aH rfl) ?_)
         rintro ⟨k_49,l_50,s_54⟩ ⟨hL_56,hD_52⟩
         dsimp only at hL_56 hD_52
         cases l_50 with
         | nil =>
          obtain rfl:=ah hL_56
          refine af (aa (ae (vB (decide ((k_49:Int) < (y_47.length:Int)))) wz rfl (ai ?_)))
          refine af (aA rfl (drop_nil hD_52) (aS ?_))
          exact aP (s_54) rfl rfl (aH rfl)
         | cons x_51 l_50 =>
          obtain ⟨c_,hc_55,hL_56⟩:=bind_some hL_56
          refine af (aa (ae (vB (decide ((k_49:Int) < (y_47.length:Int)))) wz rfl (ai ?_)))
          refine af (aB rfl (aX hD_52) (av ?_))
          unfold om at hc_55
          refine af (aF (af (aa (dL DF rfl rfl (bC hD_52) rfl wz (bJ lX zi rfl (.d (.agg (Screen.enc x_51))) rfl wz (aY 0 (.inl rfl) z127 rfl wz (fun n_59=>bL 0 il ft 2 lX rfl rfl [(vS x_51.Key),(vI x_51.On.X),(vI x_51.On.Y),(vI x_51.On.W),(vI x_51.On.H)] rfl wz (ai (af (aa (ax kg rfl 1 rfl wz (au 0 1 il ft dx gm rfl rfl (.d (.agg (Rect.enc x_38.On))) rfl wz (ax kg rfl 1 rfl wz (au 0 2 il ft dx gm rfl rfl (.d (.agg (Rect.enc x_51.On))) rfl wz ?_))))))))))))))
          obtain ⟨r_60,hr_61,hc_55⟩:=bind_some hc_55
          refine aC (Eo hr_61) rfl hb143 rfl rfl rfl rfl wz (ae (.tup [(.d (.agg (Rect.enc r_60.1))),(vB r_60.2)]) wz rfl (ae (.d (.agg (Rect.enc r_60.1))) wz rfl (ae (vB r_60.2) wz rfl (aY 0 (.inl rfl) z45 rfl wz (fun n_62=>bL 0 il ft 3 dx rfl rfl [(vI r_60.1.X),(vI r_60.1.Y),(vI r_60.1.W),(vI r_60.1.H)] rfl wz (ae (vB r_60.2) wz rfl (ai (af (aa (ae (vB r_60.2) wz rfl (ai ?_)))))))))))
          rcases ak hc_55 with⟨hc_63,hc_55⟩ | ⟨hc_63,hc_55⟩
          ·refine aB rfl hc_63 (af (aa (ae (vI 13) wz rfl (ai ?_))))
           obtain rfl:=ah hc_55
           obtain rfl:=ah hL_56
           obtain rfl:=ah hc_42
           obtain rfl:=ah hL_43
           obtain rfl:=ah hF
           exact ay (aM (.inr rfl) [(vI 13)] ⟨rfl,trivial⟩ rfl rfl rfl)
          ·refine aA rfl hc_63 (av (aa (dQ (bu hD_52 hn_53) wz rfl (ae (vI ((k_49 + 1:Nat):Int)) wz rfl (ai ?_)))))
           obtain rfl:=ah hc_55
           exact aR (k_49 + 1,l_50,()) ⟨hL_56,aN hD_52⟩ (Nat.lt_succ_self _) rfl (aH rfl)
        ·rintro s_54 ho_ sl_ H_ hp_ hq_
         subst ho_
         refine aK _ hp_ hq_ (aa (dQ (bu hD_39 hn_40) wz rfl (ae (vI ((k_36 + 1:Nat):Int)) wz rfl (ai ?_))))
         obtain rfl:=ah hc_42
         exact aR (k_36 + 1,l_37,()) ⟨hL_43,aN hD_39⟩ (Nat.lt_succ_self _) rfl (aH rfl)
      ·rintro s_41 ho_ sl_ H_ hp_ hq_
       subst ho_
       refine aK _ hp_ hq_ (af (aa (ae (vI 0) wz rfl (ai ?_))))
       obtain rfl:=ah hF
       exact ay (aM (.inr rfl) [(vI 0)] ⟨rfl,trivial⟩ rfl rfl rfl)
theorem uz {s_1:Stream} {r:Wall×Stream} (hF:iw s_1=some r) :
  FnM Tryz.prog 9 [(.ref (aJ 0) 0 0)] [(.cells 2 [(vL eI s_1.L),(vI s_1.f_at)])] (.d (.agg (Wall.enc r.1))) [some (.cells 2 [(vL eI r.2.L),(vI r.2.f_at)])]:=by
 refine FnM.of_wH ⟨Tryz.prog,73,[],[]⟩ rfl Tryz.func9 rfl rfl (Nat.le_of_ble_eq_true rfl) (by kernel_rfl) ?_
 unfold iw at hF
 refine af (aa (aY 0 (.inl rfl) z28 rfl wz (fun n_2=>ai (af (aa (ae (.ref (aJ 0) 0 0) wz rfl (fH (([10,20,24,100]:List Int).map eI) oo Ce rfl rfl rfl rfl rfl wz ?_)))))))
 obtain ⟨r_3,hr_4,hF⟩:=bind_some hF
 refine gL 0 [0] il ft (jm hr_4) rfl NY rfl (by kernel_rfl) (by kernel_rfl) (by kernel_rfl) (by kernel_rfl) (by kernel_rfl) (by kernel_rfl) (by kernel_rfl) (by decide) (by kernel_rfl) wz (vI r_3.1) (by kernel_rfl) ([((aJ 0),some (.cells 2 [(vL eI r_3.2.L),(vI r_3.2.f_at)])),(n_2,some (.cells 4 [(vS (⟨#[]⟩:ByteArray)),(vI 0),(vI 0),.nil]))]:Hp) (by kernel_rfl) (ae (.ref (aJ 0) 0 0) wz rfl (fH (([6,10,30]:List Int).map eI) oo Ce rfl rfl rfl rfl rfl wz ?_))
 obtain ⟨r_6,hr_7,hF⟩:=bind_some hF
 refine gL 0 [0] il ft (jm hr_7) rfl NY rfl (by kernel_rfl) (by kernel_rfl) (by kernel_rfl) (by kernel_rfl) (by kernel_rfl) (by kernel_rfl) (by kernel_rfl) (by decide) (by kernel_rfl) wz (vI r_6.1) (by kernel_rfl) ([((aJ 0),some (.cells 2 [(vL eI r_6.2.L),(vI r_6.2.f_at)])),(n_2,some (.cells 4 [(vS (⟨#[]⟩:ByteArray)),(vI 0),(vI 0),.nil]))]:Hp) (by kernel_rfl) (ae (.agg [(vS (⟨#[119]⟩:ByteArray)),(vI r_3.1),(vI r_6.1),.nil]) wz (by kernel_rfl) (aY 0 (.inl rfl) z28 rfl wz (fun n_9=>bL 0 il ft 2 xk rfl rfl [(vS (⟨#[119]⟩:ByteArray)),(vI r_3.1),(vI r_6.1),.nil] rfl wz (ai (af (af (aa (fH (([(⟨#[115,97]⟩:ByteArray),(⟨#[115,98]⟩:ByteArray),(⟨#[115,99]⟩:ByteArray),(⟨#[115,100]⟩:ByteArray)]:List ByteArray).map eS) Ia ez79 rfl rfl rfl rfl rfl wz (bP I6 rfl wz (ae (vI 0) wz rfl (ai (wH_coc0 2 [(vS (⟨#[119]⟩:ByteArray)),(vI r_3.1),(vI r_6.1),(vL Screen.enc ([]:List Screen))] rfl (fun S=>mG (rfl) (mG (rfl) (mG (rfl) (mG (rfl) (rfl))))) ?_))))))))))))
 obtain ⟨o_18,hj_19,hF⟩:=bind_some hF
 obtain ⟨hn_14,hj_19⟩:=aQ hj_19
 refine aG (β:=((List Int)×Int×(List Screen))) (fun (s_15:(List Int)×Int×(List Screen))=>([(2,(.ref n_2 0 0)),(3,(.ref n_9 0 0))]:List (Nat×V))) (fun (s_15:(List Int)×Int×(List Screen))=>([((aJ 0),some (.cells 2 [(vL eI s_15.1),(vI s_15.2.1)])),(n_2,some (.cells 4 [(vS (⟨#[]⟩:ByteArray)),(vI 0),(vI 0),.nil])),(n_9,some (.cells 4 [(vS (⟨#[119]⟩:ByteArray)),(vI r_3.1),(vI r_6.1),(vL Screen.enc s_15.2.2)]))]:Hp)) (fun p=>o_18 = .go p) ?_ ?_
 ·refine aF (aW (β:=Nat×(List ByteArray)×((List Int)×Int×(List Screen))) (fun p=>(fun (k_10:Nat) (l_11:List ByteArray) (s_15:(List Int)×Int×(List Screen))=>([(0,(.ref (aJ 0) 0 0)),(2,(.ref n_2 0 0)),(3,(.ref n_9 0 0)),(16,(vL eS ([(⟨#[115,97]⟩:ByteArray),(⟨#[115,98]⟩:ByteArray),(⟨#[115,99]⟩:ByteArray),(⟨#[115,100]⟩:ByteArray)]:List ByteArray))),(17,(vI (([(⟨#[115,97]⟩:ByteArray),(⟨#[115,98]⟩:ByteArray),(⟨#[115,99]⟩:ByteArray),(⟨#[115,100]⟩:ByteArray)]:List ByteArray).length:Int))),(18,(vI (k_10:Int)))]:List (Nat×V))) p.1 p.2.1 p.2.2) (fun p=>(fun (k_10:Nat) (l_11:List ByteArray) (s_15:(List Int)×Int×(List Screen))=>([((aJ 0),some (.cells 2 [(vL eI s_15.1),(vI s_15.2.1)])),(n_2,some (.cells 4 [(vS (⟨#[]⟩:ByteArray)),(vI 0),(vI 0),.nil])),(n_9,some (.cells 4 [(vS (⟨#[119]⟩:ByteArray)),(vI r_3.1),(vI r_6.1),(vL Screen.enc s_15.2.2)]))]:Hp)) p.1 p.2.1 p.2.2) (fun p=>forR (fun k x s=>fO r_3 r_6 k x s) p.2.1 p.1 p.2.2=some o_18∧(([(⟨#[115,97]⟩:ByteArray),(⟨#[115,98]⟩:ByteArray),(⟨#[115,99]⟩:ByteArray),(⟨#[115,100]⟩:ByteArray)]:List ByteArray)).drop p.1=p.2.1) (fun p=>p.2.1.length) (0,([(⟨#[115,97]⟩:ByteArray),(⟨#[115,98]⟩:ByteArray),(⟨#[115,99]⟩:ByteArray),(⟨#[115,100]⟩:ByteArray)]:List ByteArray),(r_6.2.L,r_6.2.f_at,([]:List Screen))) ⟨hj_19,rfl⟩ rfl (aH rfl) ?_)
  rintro ⟨k_10,l_11,s_15⟩ ⟨hL_17,hD_13⟩
  dsimp only at hL_17 hD_13
  cases l_11 with
  | nil =>
   obtain rfl:=ah hL_17
   refine af (aa (ae (vB (decide ((k_10:Int) < (([(⟨#[115,97]⟩:ByteArray),(⟨#[115,98]⟩:ByteArray),(⟨#[115,99]⟩:ByteArray),(⟨#[115,100]⟩:ByteArray)]:List ByteArray).length:Int)))) wz rfl (ai ?_)))
   refine af (aA rfl (drop_nil hD_13) (aS ?_))
   exact aP (s_15) rfl rfl (aH rfl)
  | cons x_12 l_11 =>
   obtain ⟨c_,hc_16,hL_17⟩:=bind_some hL_17
   refine af (aa (ae (vB (decide ((k_10:Int) < (([(⟨#[115,97]⟩:ByteArray),(⟨#[115,98]⟩:ByteArray),(⟨#[115,99]⟩:ByteArray),(⟨#[115,100]⟩:ByteArray)]:List ByteArray).length:Int)))) wz rfl (ai ?_)))
   refine af (aB rfl (aX hD_13) (av ?_))
   unfold fO at hc_16
   refine af (aF (af (aa (dL Ia rfl rfl (bC hD_13) rfl wz (bJ sz9 ag9 rfl (vS x_12) rfl wz (ae (vS x_12) wz rfl (ai (af (bB (ae (vS x_12) wz rfl (ae (.ref (aJ 0) 0 0) wz rfl (ax wo rfl 1 rfl wz (au 3 2 (.inr (by kernel_rfl)) (fun _ _ ag=>trivial) sz3 ag3 rfl rfl (vI r_3.1) rfl wz (ae (vI (w64 (r_3.1 - 1))) wz rfl ?_))))))))))))))
   obtain ⟨r_20,hr_21,hc_16⟩:=bind_some hc_16
   refine gL 5 [0] (.inr (by kernel_rfl)) (fun _ _ ag=>by exact⟨.inr (.inr (by kernel_rfl)),trivial⟩) (eD hr_21) rfl IE rfl (by kernel_rfl) (by kernel_rfl) (by kernel_rfl) (by kernel_rfl) (by kernel_rfl) (by kernel_rfl) (by kernel_rfl) (by decide) (by kernel_rfl) wz (vI r_20.1) (by kernel_rfl) ([((aJ 0),some (.cells 2 [(vL eI r_20.2.L),(vI r_20.2.f_at)])),(n_2,some (.cells 4 [(vS (⟨#[]⟩:ByteArray)),(vI 0),(vI 0),.nil])),(n_9,some (.cells 4 [(vS (⟨#[119]⟩:ByteArray)),(vI r_3.1),(vI r_6.1),(vL Screen.enc s_15.2.2)]))]:Hp) (by kernel_rfl) (ae (.ref (aJ 0) 0 0) wz rfl (ax wC rfl 2 rfl wz (au 8 2 (.inr (by kernel_rfl)) (fun _ _ ag=>⟨.inl ⟨rfl,rfl⟩,⟨.inr (.inl (Jg (Ef ag (i:=2) (j:=0) rfl rfl (by decide)))),trivial⟩⟩) sz3 ag3 rfl rfl (vI r_6.1) rfl wz (ae (vI (w64 (r_6.1 - 1))) wz rfl ?_))))
   obtain ⟨r_23,hr_24,hc_16⟩:=bind_some hc_16
   refine gL 10 [0] (.inr (by kernel_rfl)) (fun _ _ ag=>by exact⟨.inr (.inr (by kernel_rfl)),⟨.inr (.inr (by kernel_rfl)),⟨.inr (.inr (by kernel_rfl)),trivial⟩⟩⟩) (eD hr_24) rfl IE rfl (by kernel_rfl) (by kernel_rfl) (by kernel_rfl) (by kernel_rfl) (by kernel_rfl) (by kernel_rfl) (by kernel_rfl) (by decide) (by kernel_rfl) wz (vI r_23.1) (by kernel_rfl) ([((aJ 0),some (.cells 2 [(vL eI r_23.2.L),(vI r_23.2.f_at)])),(n_2,some (.cells 4 [(vS (⟨#[]⟩:ByteArray)),(vI 0),(vI 0),.nil])),(n_9,some (.cells 4 [(vS (⟨#[119]⟩:ByteArray)),(vI r_3.1),(vI r_6.1),(vL Screen.enc s_15.2.2)]))]:Hp) (by kernel_rfl) (ae (.d (.agg (Rect.enc (⟨r_20.1,r_23.1,0,0⟩:Rect)))) wz (by kernel_rfl) (ae (.d (.agg (Screen.enc (⟨x_12,(⟨r_20.1,r_23.1,0,0⟩:Rect)⟩:Screen)))) wz (by kernel_rfl) (aY 13 (.inr (by kernel_rfl)) z127 rfl wz (fun n_26=>bL 14 (.inr (by kernel_rfl)) (fun _ _ ag=>⟨.inr (.inr (by kernel_rfl)),⟨.inr (.inr (by kernel_rfl)),⟨.inr (.inr (by kernel_rfl)),⟨.inr (.inr (by kernel_rfl)),⟨.inr (.inr (by kernel_rfl)),trivial⟩⟩⟩⟩⟩) 3 lX rfl rfl [(vS x_12),(vI r_20.1),(vI r_23.1),(vI 0),(vI 0)] rfl wz (ai (af (bB (ae (.ref (aJ 0) 0 0) wz rfl (ax wo rfl 1 rfl wz (au 2 2 (.inr (by kernel_rfl)) (fun _ _ ag=>trivial) sz3 ag3 rfl rfl (vI r_3.1) rfl wz (ax kg rfl 1 rfl wz (ax gQ rfl 1 rfl wz (au 5 3 (.inr (by kernel_rfl)) (fun _ _ ag=>⟨.inl ⟨rfl,rfl⟩,trivial⟩) sz3 ag3 rfl rfl (vI r_20.1) rfl wz (ae (vI (w64 (r_3.1 - r_20.1))) wz rfl ?_))))))))))))))
   obtain ⟨r_27,hr_28,hc_16⟩:=bind_some hc_16
   refine gL 7 [0] (.inr (by kernel_rfl)) (fun _ _ ag=>by exact⟨.inr (.inr (by kernel_rfl)),⟨.inr (.inr (by kernel_rfl)),trivial⟩⟩) (eD hr_28) rfl IE rfl (by kernel_rfl) (by kernel_rfl) (by kernel_rfl) (by kernel_rfl) (by kernel_rfl) (by kernel_rfl) (by kernel_rfl) (by decide) (by kernel_rfl) wz (vI r_27.1) (by kernel_rfl) ([((aJ 0),some (.cells 2 [(vL eI r_27.2.L),(vI r_27.2.f_at)])),(n_2,some (.cells 4 [(vS (⟨#[]⟩:ByteArray)),(vI 0),(vI 0),.nil])),(n_9,some (.cells 4 [(vS (⟨#[119]⟩:ByteArray)),(vI r_3.1),(vI r_6.1),(vL Screen.enc s_15.2.2)])),(n_26,some (.cells 5 [(vS x_12),(vI r_20.1),(vI r_23.1),(vI 0),(vI 0)]))]:Hp) (by kernel_rfl) (ae (.ref (aJ 0) 0 0) wz rfl (ax wC rfl 2 rfl wz (au 10 2 (.inr (by kernel_rfl)) (fun _ _ ag=>⟨.inl ⟨rfl,rfl⟩,⟨.inl ⟨rfl,rfl⟩,⟨.inr (.inl (Jg (Ef ag (i:=2) (j:=0) rfl rfl (by decide)))),trivial⟩⟩⟩) sz3 ag3 rfl rfl (vI r_6.1) rfl wz (ax kg rfl 1 rfl wz (ax fV rfl 2 rfl wz (au 13 3 (.inr (by kernel_rfl)) (fun _ _ ag=>⟨.inl ⟨rfl,rfl⟩,⟨.inl ⟨rfl,rfl⟩,⟨.inr (.inl (Jg (Ef ag (i:=3) (j:=0) rfl rfl (by decide)))),⟨.inl ⟨rfl,rfl⟩,trivial⟩⟩⟩⟩) sz3 ag3 rfl rfl (vI r_23.1) rfl wz (ae (vI (w64 (r_6.1 - r_23.1))) wz rfl ?_)))))))
   obtain ⟨r_30,hr_31,hc_16⟩:=bind_some hc_16
   refine gL 15 [0] (.inr (by kernel_rfl)) (fun _ _ ag=>by exact⟨.inr (.inr (by kernel_rfl)),⟨.inr (.inr (by kernel_rfl)),⟨.inr (.inr (by kernel_rfl)),⟨.inr (.inr (by kernel_rfl)),⟨.inr (.inr (by kernel_rfl)),trivial⟩⟩⟩⟩⟩) (eD hr_31) rfl IE rfl (by kernel_rfl) (by kernel_rfl) (by kernel_rfl) (by kernel_rfl) (by kernel_rfl) (by kernel_rfl) (by kernel_rfl) (by decide) (by kernel_rfl) wz (vI r_30.1) (by kernel_rfl) ([((aJ 0),some (.cells 2 [(vL eI r_30.2.L),(vI r_30.2.f_at)])),(n_2,some (.cells 4 [(vS (⟨#[]⟩:ByteArray)),(vI 0),(vI 0),.nil])),(n_9,some (.cells 4 [(vS (⟨#[119]⟩:ByteArray)),(vI r_3.1),(vI r_6.1),(vL Screen.enc s_15.2.2)])),(n_26,some (.cells 5 [(vS x_12),(vI r_20.1),(vI r_23.1),(vI 0),(vI 0)]))]:Hp) (by kernel_rfl) (ax kg rfl 1 rfl wz (ax ku rfl 3 rfl wz (bL 18 (.inr (by kernel_rfl)) (fun _ _ ag=>⟨.inr (.inr (by kernel_rfl)),⟨.inr (.inr (by kernel_rfl)),⟨.inr (.inr (by kernel_rfl)),⟨.inr (.inr (by kernel_rfl)),⟨.inr (.inr (by kernel_rfl)),⟨.inr (.inr (by kernel_rfl)),trivial⟩⟩⟩⟩⟩⟩) 3 sz3 rfl rfl [(vS x_12),(vI r_20.1),(vI r_23.1),(vI r_27.1),(vI 0)] rfl wz (ax kg rfl 1 rfl wz (ax kw rfl 4 rfl wz (bL 21 (.inr (by kernel_rfl)) (fun _ _ ag=>⟨.inr (.inr (by kernel_rfl)),⟨.inr (.inr (by kernel_rfl)),⟨.inr (.inr (by kernel_rfl)),⟨.inr (.inr (by kernel_rfl)),⟨.inr (.inr (by kernel_rfl)),⟨.inr (.inr (by kernel_rfl)),⟨.inr (.inr (by kernel_rfl)),trivial⟩⟩⟩⟩⟩⟩⟩) 3 sz3 rfl rfl [(vS x_12),(vI r_20.1),(vI r_23.1),(vI r_27.1),(vI r_30.1)] rfl wz (ai (aK (H0:=([((aJ 0),some (.cells 2 [(vL eI r_30.2.L),(vI r_30.2.f_at)])),(n_2,some (.cells 4 [(vS (⟨#[]⟩:ByteArray)),(vI 0),(vI 0),.nil])),(n_9,some (.cells 4 [(vS (⟨#[119]⟩:ByteArray)),(vI r_3.1),(vI r_6.1),(vL Screen.enc s_15.2.2)])),(n_26,some (.cells 5 [(vS x_12),(vI r_20.1),(vI r_23.1),(vI r_27.1),(vI r_30.1)]))]:Hp)) ([(0,(.ref (aJ 0) 0 0)),(2,(.ref n_2 0 0)),(3,(.ref n_9 0 0)),(6,(.ref n_26 0 0)),(16,(vL eS ([(⟨#[115,97]⟩:ByteArray),(⟨#[115,98]⟩:ByteArray),(⟨#[115,99]⟩:ByteArray),(⟨#[115,100]⟩:ByteArray)]:List ByteArray))),(17,(vI (([(⟨#[115,97]⟩:ByteArray),(⟨#[115,98]⟩:ByteArray),(⟨#[115,99]⟩:ByteArray),(⟨#[115,100]⟩:ByteArray)]:List ByteArray).length:Int))),(18,(vI (k_10:Int)))]:List (Nat×V)) (by kernel_rfl) (mM (by kernel_rfl)) (af (bB (ax ol rfl 3 rfl wz (au 1 2 (.inr (by kernel_rfl)) (fun _ _ ag=>trivial) zJ Bu rfl rfl (vL Screen.enc s_15.2.2) rfl wz ?_))))))))))))
   obtain ⟨r_33,hr_34,hc_16⟩:=bind_some hc_16
   refine Mw 2 (.inr (by kernel_rfl)) (lG hr_34) rfl hb63 (by kernel_rfl) (by kernel_rfl) (by kernel_rfl) wz (fun n_35=>au 3 3 (.inr (by kernel_rfl)) (fun _ _ ag=>⟨.inl ⟨rfl,rfl⟩,⟨.inr (.inl (Jg (Ef ag (i:=3) (j:=4) rfl rfl (by decide)))),trivial⟩⟩) lX zi rfl rfl (.d (.agg (Screen.enc (⟨x_12,(⟨r_20.1,r_23.1,r_27.1,r_30.1⟩:Rect)⟩:Screen)))) rfl wz (fH (([(⟨x_12,(⟨r_20.1,r_23.1,r_27.1,r_30.1⟩:Rect)⟩:Screen)]:List Screen).map Screen.enc) DF ez26 rfl rfl rfl rfl rfl wz ?_))
   obtain ⟨a_36,hz_37,hc_16⟩:=bind_some hc_16
   refine kN 5 (.inr (by kernel_rfl)) (fun _ _ ag=>⟨.inr (.inr (by kernel_rfl)),⟨.inr (.inr (by kernel_rfl)),⟨.inr (.inr (by kernel_rfl)),trivial⟩⟩⟩) (i:=4) el26 el26 lX z127 rfl (by decide) by127 (by decide) (fun _=>rfl) rfl rfl rfl hz_37 wz (fun n_38=>ae (gV n_38 5 a_36) wz rfl (ai (af (aa (au 0 2 il ft xk Cf rfl rfl (.d (.agg (Wall.enc (⟨(⟨#[119]⟩:ByteArray),r_3.1,r_6.1,s_15.2.2⟩:Wall)))) rfl wz (aY 0 (.inl rfl) z28 rfl wz (fun n_39=>bL 0 il ft 5 xk rfl rfl [(vS (⟨#[119]⟩:ByteArray)),(vI r_3.1),(vI r_6.1),(vL Screen.enc s_15.2.2)] rfl wz (ai (af (aa (ae (.ref (aJ 0) 0 0) wz rfl ?_)))))))))))
   obtain ⟨r_40,hr_41,hc_16⟩:=bind_some hc_16
   refine gL 0 [0] il ft (rM hr_41) rfl hb20 rfl (by kernel_rfl) (by kernel_rfl) (by kernel_rfl) (by kernel_rfl) (by kernel_rfl) (by kernel_rfl) (by kernel_rfl) (by decide) (by kernel_rfl) wz (vB r_40.1) (by kernel_rfl) ([((aJ 0),some (.cells 2 [(vL eI r_40.2.L),(vI r_40.2.f_at)])),(n_2,some (.cells 4 [(vS (⟨#[]⟩:ByteArray)),(vI 0),(vI 0),.nil])),(n_9,some (.cells 4 [(vS (⟨#[119]⟩:ByteArray)),(vI r_3.1),(vI r_6.1),(vL Screen.enc s_15.2.2)])),(n_26,some (.cells 5 [(vS x_12),(vI r_20.1),(vI r_23.1),(vI r_27.1),(vI r_30.1)])),(n_38,gB 5 Screen.enc a_36),(n_39,some (.cells 4 [(vS (⟨#[119]⟩:ByteArray)),(vI r_3.1),(vI r_6.1),(vL Screen.enc s_15.2.2)]))]:Hp) (by kernel_rfl) (ae (vB (!r_40.1)) wz rfl (ai ?_))
   obtain ⟨v_43,h_44,hc_16⟩:=bind_some hc_16
   refine aG (β:=Unit) (fun _=>([(0,(.ref (aJ 0) 0 0)),(2,(.ref n_2 0 0)),(3,(.ref n_9 0 0)),(16,(vL eS ([(⟨#[115,97]⟩:ByteArray),(⟨#[115,98]⟩:ByteArray),(⟨#[115,99]⟩:ByteArray),(⟨#[115,100]⟩:ByteArray)]:List ByteArray))),(17,(vI (([(⟨#[115,97]⟩:ByteArray),(⟨#[115,98]⟩:ByteArray),(⟨#[115,99]⟩:ByteArray),(⟨#[115,100]⟩:ByteArray)]:List ByteArray).length:Int))),(18,(vI (k_10:Int)))]:List (Nat×V))) (fun _=>([((aJ 0),some (.cells 2 [(vL eI r_40.2.L),(vI r_40.2.f_at)])),(n_2,some (.cells 4 [(vS (⟨#[]⟩:ByteArray)),(vI 0),(vI 0),.nil])),(n_9,some (.cells 4 [(vS (⟨#[119]⟩:ByteArray)),(vI r_3.1),(vI r_6.1),(vL Screen.enc v_43.1)])),(n_26,some (.cells 5 [(vS x_12),(vI r_20.1),(vI r_23.1),(vI r_27.1),(vI r_30.1)])),(n_39,some (.cells 4 [(vS (⟨#[119]⟩:ByteArray)),(vI r_3.1),(vI r_6.1),(vL Screen.enc v_43.2)]))]:Hp)) (fun _=>True) ?_ ?_
   ·rcases ak h_44 with⟨hc_45,h_44⟩ | ⟨hc_45,h_44⟩
    ·refine aB rfl hc_45 (af (aa (ae (gV n_38 5 a_36) wz rfl (ax ol rfl 3 rfl wz (bL 0 il ft 5 zJ rfl rfl [(vS (⟨#[119]⟩:ByteArray)),(vI r_3.1),(vI r_6.1),(gV n_38 5 a_36)] (stC_g rfl) wz (ai (af (gU 4 rfl (dX 7 4 rfl rfl (dX 60 4 rfl rfl (dX 65 4 rfl rfl (NJ 4 5 [(vS (⟨#[119]⟩:ByteArray)),(vI r_3.1),(vI r_6.1),(vL Screen.enc a_36)] rfl rfl (fun S hS=>mG (rfl) (mG (rfl) (mG (rfl) (mG (hS) (rfl))))) (aa (au 0 5 il ft xk Cf rfl rfl (.d (.agg (Wall.enc (⟨(⟨#[119]⟩:ByteArray),r_3.1,r_6.1,a_36⟩:Wall)))) rfl wz ?_))))))))))))))
     obtain ⟨r_46,hr_47,h_44⟩:=bind_some h_44
     refine aC (AV hr_47) rfl hb64 rfl rfl rfl rfl wz (ae (vB (r_46 == 0)) wz rfl (ai ?_))
     rcases ak h_44 with⟨hc_48,h_44⟩ | ⟨hc_48,h_44⟩
     ·refine aB rfl hc_48 (aa (au 0 5 il ft xk Cf rfl rfl (.d (.agg (Wall.enc (⟨(⟨#[119]⟩:ByteArray),r_3.1,r_6.1,a_36⟩:Wall)))) rfl wz (bL 0 il ft 2 xk rfl rfl [(vS (⟨#[119]⟩:ByteArray)),(vI r_3.1),(vI r_6.1),(vL Screen.enc a_36)] rfl wz (ai ?_))))
      obtain rfl:=ah h_44
      exact aP () trivial rfl (Jw [0,1,2,3,5] (by decide) rfl)
     ·refine aA rfl hc_48 (av ?_)
      obtain rfl:=ah h_44
      exact aP () trivial rfl (Jw [0,1,2,3,5] (by decide) rfl)
    ·refine aA rfl hc_45 (av ?_)
     obtain rfl:=ah h_44
     exact aP () trivial rfl (Jw [0,1,2,3,5] (by decide) rfl)
   ·rintro ⟨⟩ _ sl_ H_ hp_ hq_
    refine aK _ hp_ hq_ (aa (dQ (bu hD_13 hn_14) wz rfl (ae (vI ((k_10 + 1:Nat):Int)) wz rfl (ai ?_))))
    obtain rfl:=ah hc_16
    exact aR (k_10 + 1,l_11,(r_40.2.L,r_40.2.f_at,v_43.1)) ⟨hL_17,aN hD_13⟩ (Nat.lt_succ_self _) rfl (aH rfl)
 ·rintro s_15 ho_ sl_ H_ hp_ hq_
  subst ho_
  refine aK _ hp_ hq_ (af (aa (au 0 2 il ft xk Cf rfl rfl (.d (.agg (Wall.enc (⟨(⟨#[119]⟩:ByteArray),r_3.1,r_6.1,s_15.2.2⟩:Wall)))) rfl wz (bL 0 il ft 1 xk rfl rfl [(vS (⟨#[119]⟩:ByteArray)),(vI r_3.1),(vI r_6.1),(vL Screen.enc s_15.2.2)] rfl wz (ai ?_)))))
  obtain rfl:=ah hF
  exact ay (FQ (.inr rfl) [(.d (.agg (Wall.enc (⟨(⟨#[119]⟩:ByteArray),r_3.1,r_6.1,s_15.2.2⟩:Wall))))] _ [0] [aJ 0] ⟨⟨1,_,_,_,_,_,_,_,rfl,rfl,xk,Cf,rfl⟩,trivial⟩ (.cons (mF rfl rfl) (.nil)) (by kernel_rfl) ⟨(by kernel_rfl),trivial⟩ (by decide) (by kernel_rfl))
theorem sw {s_1:Stream} {r:Layout×Stream} (hF:gy s_1=some r) :
  FnM Tryz.prog 10 [(.ref (aJ 0) 0 0)] [(.cells 2 [(vL eI s_1.L),(vI s_1.f_at)])] (.d (.agg (Layout.enc r.1))) [some (.cells 2 [(vL eI r.2.L),(vI r.2.f_at)])]:=by
 refine FnM.of_wH ⟨Tryz.prog,66,[],[]⟩ rfl Tryz.func10 rfl rfl (Nat.le_of_ble_eq_true rfl) (by kernel_rfl) ?_
 unfold gy at hF
 refine af (aa (aY 0 (.inl rfl) z32 rfl wz (fun n_2=>ai (af (aa (ae (.ref (aJ 0) 0 0) wz rfl (fH (([5,8,10,16]:List Int).map eI) oo Ce rfl rfl rfl rfl rfl wz ?_)))))))
 obtain ⟨r_3,hr_4,hF⟩:=bind_some hF
 refine gL 0 [0] il ft (jm hr_4) rfl NY rfl (by kernel_rfl) (by kernel_rfl) (by kernel_rfl) (by kernel_rfl) (by kernel_rfl) (by kernel_rfl) (by kernel_rfl) (by decide) (by kernel_rfl) wz (vI r_3.1) (by kernel_rfl) ([((aJ 0),some (.cells 2 [(vL eI r_3.2.L),(vI r_3.2.f_at)])),(n_2,some (.cells 4 [(vS (⟨#[]⟩:ByteArray)),(vI 0),(vI 0),.nil]))]:Hp) (by kernel_rfl) (ae (.ref (aJ 0) 0 0) wz rfl (fH (([4,6,9]:List Int).map eI) oo Ce rfl rfl rfl rfl rfl wz ?_))
 obtain ⟨r_6,hr_7,hF⟩:=bind_some hF
 refine gL 0 [0] il ft (jm hr_7) rfl NY rfl (by kernel_rfl) (by kernel_rfl) (by kernel_rfl) (by kernel_rfl) (by kernel_rfl) (by kernel_rfl) (by kernel_rfl) (by decide) (by kernel_rfl) wz (vI r_6.1) (by kernel_rfl) ([((aJ 0),some (.cells 2 [(vL eI r_6.2.L),(vI r_6.2.f_at)])),(n_2,some (.cells 4 [(vS (⟨#[]⟩:ByteArray)),(vI 0),(vI 0),.nil]))]:Hp) (by kernel_rfl) (ae (.agg [(vS (⟨#[108]⟩:ByteArray)),(vI r_3.1),(vI r_6.1),.nil]) wz (by kernel_rfl) (aY 0 (.inl rfl) z32 rfl wz (fun n_9=>bL 0 il ft 2 yg rfl rfl [(vS (⟨#[108]⟩:ByteArray)),(vI r_3.1),(vI r_6.1),.nil] rfl wz (ai (af (af (aa (fH (([(⟨#[122,97]⟩:ByteArray),(⟨#[122,98]⟩:ByteArray),(⟨#[122,99]⟩:ByteArray),(⟨#[122,100]⟩:ByteArray)]:List ByteArray).map eS) Ia ez79 rfl rfl rfl rfl rfl wz (bP I6 rfl wz (ae (vI 0) wz rfl (ai (l5 (fun n_16 => ?_)))))))))))))
 obtain ⟨o_21,hj_22,hF⟩:=bind_some hF
 obtain ⟨hn_14,hj_22⟩:=aQ hj_22
 refine aG (β:=((List Zone)×(List Int)×Int)×Nm) (fun p=>(fun (s_15:(List Zone)×(List Int)×Int) (n_18:Nm)=>([(2,(.ref n_2 0 0)),(3,(.ref n_9 0 0))]:List (Nat×V))) p.1 p.2) (fun p=>(fun (s_15:(List Zone)×(List Int)×Int) (n_18:Nm)=>([((aJ 0),some (.cells 2 [(vL eI s_15.2.1),(vI s_15.2.2)])),(n_2,some (.cells 4 [(vS (⟨#[]⟩:ByteArray)),(vI 0),(vI 0),.nil])),(n_9,some (.cells 4 [(vS (⟨#[108]⟩:ByteArray)),(vI r_3.1),(vI r_6.1),(gV n_18 6 s_15.1)])),(n_18,gB 6 Zone.enc s_15.1)]:Hp)) p.1 p.2) (fun p=>o_21 = .go p.1) ?_ ?_
 ·refine aF (aW (β:=Nat×(List ByteArray)×((List Zone)×(List Int)×Int)×Nm) (fun p=>(fun (k_10:Nat) (l_11:List ByteArray) (s_15:(List Zone)×(List Int)×Int) (n_18:Nm)=>([(0,(.ref (aJ 0) 0 0)),(2,(.ref n_2 0 0)),(3,(.ref n_9 0 0)),(14,(vL eS ([(⟨#[122,97]⟩:ByteArray),(⟨#[122,98]⟩:ByteArray),(⟨#[122,99]⟩:ByteArray),(⟨#[122,100]⟩:ByteArray)]:List ByteArray))),(15,(vI (([(⟨#[122,97]⟩:ByteArray),(⟨#[122,98]⟩:ByteArray),(⟨#[122,99]⟩:ByteArray),(⟨#[122,100]⟩:ByteArray)]:List ByteArray).length:Int))),(16,(vI (k_10:Int)))]:List (Nat×V))) p.1 p.2.1 p.2.2.1 p.2.2.2) (fun p=>(fun (k_10:Nat) (l_11:List ByteArray) (s_15:(List Zone)×(List Int)×Int) (n_18:Nm)=>([((aJ 0),some (.cells 2 [(vL eI s_15.2.1),(vI s_15.2.2)])),(n_2,some (.cells 4 [(vS (⟨#[]⟩:ByteArray)),(vI 0),(vI 0),.nil])),(n_9,some (.cells 4 [(vS (⟨#[108]⟩:ByteArray)),(vI r_3.1),(vI r_6.1),(gV n_18 6 s_15.1)])),(n_18,gB 6 Zone.enc s_15.1)]:Hp)) p.1 p.2.1 p.2.2.1 p.2.2.2) (fun p=>forR (fun k x s=>fw r_3 r_6 k x s) p.2.1 p.1 p.2.2.1=some o_21∧(([(⟨#[122,97]⟩:ByteArray),(⟨#[122,98]⟩:ByteArray),(⟨#[122,99]⟩:ByteArray),(⟨#[122,100]⟩:ByteArray)]:List ByteArray)).drop p.1=p.2.1) (fun p=>p.2.1.length) (0,([(⟨#[122,97]⟩:ByteArray),(⟨#[122,98]⟩:ByteArray),(⟨#[122,99]⟩:ByteArray),(⟨#[122,100]⟩:ByteArray)]:List ByteArray),(([]:List Zone),r_6.2.L,r_6.2.f_at),n_16) ⟨hj_22,rfl⟩ rfl (aH rfl) ?_)
  rintro ⟨k_10,l_11,s_15,n_18⟩ ⟨hL_20,hD_13⟩
  dsimp only at hL_20 hD_13
  cases l_11 with
  | nil =>
   obtain rfl:=ah hL_20
   refine af (aa (ae (vB (decide ((k_10:Int) < (([(⟨#[122,97]⟩:ByteArray),(⟨#[122,98]⟩:ByteArray),(⟨#[122,99]⟩:ByteArray),(⟨#[122,100]⟩:ByteArray)]:List ByteArray).length:Int)))) wz rfl (ai ?_)))
   refine af (aA rfl (drop_nil hD_13) (aS ?_))
   exact aP (s_15,n_18) rfl rfl (aH rfl)
  | cons x_12 l_11 =>
   obtain ⟨c_,hc_19,hL_20⟩:=bind_some hL_20
   refine af (aa (ae (vB (decide ((k_10:Int) < (([(⟨#[122,97]⟩:ByteArray),(⟨#[122,98]⟩:ByteArray),(⟨#[122,99]⟩:ByteArray),(⟨#[122,100]⟩:ByteArray)]:List ByteArray).length:Int)))) wz rfl (ai ?_)))
   refine af (aB rfl (aX hD_13) (av ?_))
   unfold fw at hc_19
   refine af (aF (af (aa (dL Ia rfl rfl (bC hD_13) rfl wz (bJ sz9 ag9 rfl (vS x_12) rfl wz (ae (vS x_12) wz rfl (ai (af (af (aa (ae (.ref (aJ 0) 0 0) wz rfl ?_)))))))))))
   obtain ⟨r_23,hr_24,hc_19⟩:=bind_some hc_19
   refine gL 0 [0] il ft (rM hr_24) rfl hb20 rfl (by kernel_rfl) (by kernel_rfl) (by kernel_rfl) (by kernel_rfl) (by kernel_rfl) (by kernel_rfl) (by kernel_rfl) (by decide) (by kernel_rfl) wz (vB r_23.1) (by kernel_rfl) ([((aJ 0),some (.cells 2 [(vL eI r_23.2.L),(vI r_23.2.f_at)])),(n_2,some (.cells 4 [(vS (⟨#[]⟩:ByteArray)),(vI 0),(vI 0),.nil])),(n_9,some (.cells 4 [(vS (⟨#[108]⟩:ByteArray)),(vI r_3.1),(vI r_6.1),(gV n_18 6 s_15.1)])),(n_18,gB 6 Zone.enc s_15.1)]:Hp) (by kernel_rfl) (ai ?_)
   rcases ak hc_19 with⟨hc_26,hc_19⟩ | ⟨hc_26,hc_19⟩
   ·refine aB rfl hc_26 (aS (aa (dQ (bu hD_13 hn_14) wz rfl (ae (vI ((k_10 + 1:Nat):Int)) wz rfl (ai ?_)))))
    obtain rfl:=ah hc_19
    exact aR (k_10 + 1,l_11,(s_15.1,r_23.2.L,r_23.2.f_at),n_18) ⟨hL_20,aN hD_13⟩ (Nat.lt_succ_self _) rfl (aH rfl)
   ·refine aA rfl hc_26 (av (af (bB (ae (vS x_12) wz rfl (ae (.ref (aJ 0) 0 0) wz rfl (ax zU rfl 1 rfl wz (au 3 2 (.inr (by kernel_rfl)) (fun _ _ ag=>trivial) sz3 ag3 rfl rfl (vI r_3.1) rfl wz (ae (vI (w64 (r_3.1 - 1))) wz rfl ?_))))))))
    obtain ⟨r_27,hr_28,hc_19⟩:=bind_some hc_19
    refine gL 5 [0] (.inr (by kernel_rfl)) (fun _ _ ag=>by exact⟨.inr (.inr (by kernel_rfl)),trivial⟩) (eD hr_28) rfl IE rfl (by kernel_rfl) (by kernel_rfl) (by kernel_rfl) (by kernel_rfl) (by kernel_rfl) (by kernel_rfl) (by kernel_rfl) (by decide) (by kernel_rfl) wz (vI r_27.1) (by kernel_rfl) ([((aJ 0),some (.cells 2 [(vL eI r_27.2.L),(vI r_27.2.f_at)])),(n_2,some (.cells 4 [(vS (⟨#[]⟩:ByteArray)),(vI 0),(vI 0),.nil])),(n_9,some (.cells 4 [(vS (⟨#[108]⟩:ByteArray)),(vI r_3.1),(vI r_6.1),(gV n_18 6 s_15.1)])),(n_18,gB 6 Zone.enc s_15.1)]:Hp) (by kernel_rfl) (ae (.ref (aJ 0) 0 0) wz rfl (ax Av rfl 2 rfl wz (au 8 2 (.inr (by kernel_rfl)) (fun _ _ ag=>⟨.inl ⟨rfl,rfl⟩,⟨.inr (.inl (Jg (Ef ag (i:=2) (j:=0) rfl rfl (by decide)))),trivial⟩⟩) sz3 ag3 rfl rfl (vI r_6.1) rfl wz (ae (vI (w64 (r_6.1 - 1))) wz rfl ?_))))
    obtain ⟨r_30,hr_31,hc_19⟩:=bind_some hc_19
    refine gL 10 [0] (.inr (by kernel_rfl)) (fun _ _ ag=>by exact⟨.inr (.inr (by kernel_rfl)),⟨.inr (.inr (by kernel_rfl)),⟨.inr (.inr (by kernel_rfl)),trivial⟩⟩⟩) (eD hr_31) rfl IE rfl (by kernel_rfl) (by kernel_rfl) (by kernel_rfl) (by kernel_rfl) (by kernel_rfl) (by kernel_rfl) (by kernel_rfl) (by decide) (by kernel_rfl) wz (vI r_30.1) (by kernel_rfl) ([((aJ 0),some (.cells 2 [(vL eI r_30.2.L),(vI r_30.2.f_at)])),(n_2,some (.cells 4 [(vS (⟨#[]⟩:ByteArray)),(vI 0),(vI 0),.nil])),(n_9,some (.cells 4 [(vS (⟨#[108]⟩:ByteArray)),(vI r_3.1),(vI r_6.1),(gV n_18 6 s_15.1)])),(n_18,gB 6 Zone.enc s_15.1)]:Hp) (by kernel_rfl) (ae (.d (.agg (Rect.enc (⟨r_27.1,r_30.1,0,0⟩:Rect)))) wz (by kernel_rfl) (ae (.ref (aJ 0) 0 0) wz rfl (fH (([0,0,1,2]:List Int).map eI) oo Ce rfl rfl rfl rfl rfl wz ?_)))
    obtain ⟨r_33,hr_34,hc_19⟩:=bind_some hc_19
    refine gL 14 [0] (.inr (by kernel_rfl)) (fun _ _ ag=>by exact⟨.inr (.inr (by kernel_rfl)),⟨.inr (.inr (by kernel_rfl)),⟨.inr (.inr (by kernel_rfl)),⟨.inr (.inr (by kernel_rfl)),trivial⟩⟩⟩⟩) (jm hr_34) rfl NY rfl (by kernel_rfl) (by kernel_rfl) (by kernel_rfl) (by kernel_rfl) (by kernel_rfl) (by kernel_rfl) (by kernel_rfl) (by decide) (by kernel_rfl) wz (vI r_33.1) (by kernel_rfl) ([((aJ 0),some (.cells 2 [(vL eI r_33.2.L),(vI r_33.2.f_at)])),(n_2,some (.cells 4 [(vS (⟨#[]⟩:ByteArray)),(vI 0),(vI 0),.nil])),(n_9,some (.cells 4 [(vS (⟨#[108]⟩:ByteArray)),(vI r_3.1),(vI r_6.1),(gV n_18 6 s_15.1)])),(n_18,gB 6 Zone.enc s_15.1)]:Hp) (by kernel_rfl) (ae (.d (.agg (Zone.enc (⟨x_12,(⟨r_27.1,r_30.1,0,0⟩:Rect),r_33.1⟩:Zone)))) wz (by kernel_rfl) (aY 16 (.inr (by kernel_rfl)) z131 rfl wz (fun n_36=>bL 17 (.inr (by kernel_rfl)) (fun _ _ ag=>⟨.inr (.inr (by kernel_rfl)),⟨.inr (.inr (by kernel_rfl)),⟨.inr (.inr (by kernel_rfl)),⟨.inr (.inr (by kernel_rfl)),⟨.inr (.inr (by kernel_rfl)),⟨.inr (.inr (by kernel_rfl)),trivial⟩⟩⟩⟩⟩⟩) 4 yH rfl rfl [(vS x_12),(vI r_27.1),(vI r_30.1),(vI 0),(vI 0),(vI r_33.1)] rfl wz (ai (af (bB (ae (.ref (aJ 0) 0 0) wz rfl (ax zU rfl 1 rfl wz (au 2 2 (.inr (by kernel_rfl)) (fun _ _ ag=>trivial) sz3 ag3 rfl rfl (vI r_3.1) rfl wz (ax rR rfl 1 rfl wz (ax gQ rfl 1 rfl wz (au 5 4 (.inr (by kernel_rfl)) (fun _ _ ag=>⟨.inl ⟨rfl,rfl⟩,trivial⟩) sz3 ag3 rfl rfl (vI r_27.1) rfl wz (ae (vI (w64 (r_3.1 - r_27.1))) wz rfl ?_)))))))))))))
    obtain ⟨r_37,hr_38,hc_19⟩:=bind_some hc_19
    refine gL 7 [0] (.inr (by kernel_rfl)) (fun _ _ ag=>by exact⟨.inr (.inr (by kernel_rfl)),⟨.inr (.inr (by kernel_rfl)),trivial⟩⟩) (eD hr_38) rfl IE rfl (by kernel_rfl) (by kernel_rfl) (by kernel_rfl) (by kernel_rfl) (by kernel_rfl) (by kernel_rfl) (by kernel_rfl) (by decide) (by kernel_rfl) wz (vI r_37.1) (by kernel_rfl) ([((aJ 0),some (.cells 2 [(vL eI r_37.2.L),(vI r_37.2.f_at)])),(n_2,some (.cells 4 [(vS (⟨#[]⟩:ByteArray)),(vI 0),(vI 0),.nil])),(n_9,some (.cells 4 [(vS (⟨#[108]⟩:ByteArray)),(vI r_3.1),(vI r_6.1),(gV n_18 6 s_15.1)])),(n_18,gB 6 Zone.enc s_15.1),(n_36,some (.cells 6 [(vS x_12),(vI r_27.1),(vI r_30.1),(vI 0),(vI 0),(vI r_33.1)]))]:Hp) (by kernel_rfl) (ae (.ref (aJ 0) 0 0) wz rfl (ax Av rfl 2 rfl wz (au 10 2 (.inr (by kernel_rfl)) (fun _ _ ag=>⟨.inl ⟨rfl,rfl⟩,⟨.inl ⟨rfl,rfl⟩,⟨.inr (.inl (Jg (Ef ag (i:=2) (j:=0) rfl rfl (by decide)))),trivial⟩⟩⟩) sz3 ag3 rfl rfl (vI r_6.1) rfl wz (ax rR rfl 1 rfl wz (ax fV rfl 2 rfl wz (au 13 4 (.inr (by kernel_rfl)) (fun _ _ ag=>⟨.inl ⟨rfl,rfl⟩,⟨.inl ⟨rfl,rfl⟩,⟨.inr (.inl (Jg (Ef ag (i:=4) (j:=0) rfl rfl (by decide)))),⟨.inl ⟨rfl,rfl⟩,trivial⟩⟩⟩⟩) sz3 ag3 rfl rfl (vI r_30.1) rfl wz (ae (vI (w64 (r_6.1 - r_30.1))) wz rfl ?_)))))))
    obtain ⟨r_40,hr_41,hc_19⟩:=bind_some hc_19
    refine gL 15 [0] (.inr (by kernel_rfl)) (fun _ _ ag=>by exact⟨.inr (.inr (by kernel_rfl)),⟨.inr (.inr (by kernel_rfl)),⟨.inr (.inr (by kernel_rfl)),⟨.inr (.inr (by kernel_rfl)),⟨.inr (.inr (by kernel_rfl)),trivial⟩⟩⟩⟩⟩) (eD hr_41) rfl IE rfl (by kernel_rfl) (by kernel_rfl) (by kernel_rfl) (by kernel_rfl) (by kernel_rfl) (by kernel_rfl) (by kernel_rfl) (by decide) (by kernel_rfl) wz (vI r_40.1) (by kernel_rfl) ([((aJ 0),some (.cells 2 [(vL eI r_40.2.L),(vI r_40.2.f_at)])),(n_2,some (.cells 4 [(vS (⟨#[]⟩:ByteArray)),(vI 0),(vI 0),.nil])),(n_9,some (.cells 4 [(vS (⟨#[108]⟩:ByteArray)),(vI r_3.1),(vI r_6.1),(gV n_18 6 s_15.1)])),(n_18,gB 6 Zone.enc s_15.1),(n_36,some (.cells 6 [(vS x_12),(vI r_27.1),(vI r_30.1),(vI 0),(vI 0),(vI r_33.1)]))]:Hp) (by kernel_rfl) (ax rR rfl 1 rfl wz (ax ku rfl 3 rfl wz (bL 18 (.inr (by kernel_rfl)) (fun _ _ ag=>⟨.inr (.inr (by kernel_rfl)),⟨.inr (.inr (by kernel_rfl)),⟨.inr (.inr (by kernel_rfl)),⟨.inr (.inr (by kernel_rfl)),⟨.inr (.inr (by kernel_rfl)),⟨.inr (.inr (by kernel_rfl)),trivial⟩⟩⟩⟩⟩⟩) 4 sz3 rfl rfl [(vS x_12),(vI r_27.1),(vI r_30.1),(vI r_37.1),(vI 0),(vI r_33.1)] rfl wz (ax rR rfl 1 rfl wz (ax kw rfl 4 rfl wz (bL 21 (.inr (by kernel_rfl)) (fun _ _ ag=>⟨.inr (.inr (by kernel_rfl)),⟨.inr (.inr (by kernel_rfl)),⟨.inr (.inr (by kernel_rfl)),⟨.inr (.inr (by kernel_rfl)),⟨.inr (.inr (by kernel_rfl)),⟨.inr (.inr (by kernel_rfl)),⟨.inr (.inr (by kernel_rfl)),trivial⟩⟩⟩⟩⟩⟩⟩) 4 sz3 rfl rfl [(vS x_12),(vI r_27.1),(vI r_30.1),(vI r_37.1),(vI r_40.1),(vI r_33.1)] rfl wz (ai (aK (H0:=([((aJ 0),some (.cells 2 [(vL eI r_40.2.L),(vI r_40.2.f_at)])),(n_2,some (.cells 4 [(vS (⟨#[]⟩:ByteArray)),(vI 0),(vI 0),.nil])),(n_9,some (.cells 4 [(vS (⟨#[108]⟩:ByteArray)),(vI r_3.1),(vI r_6.1),(gV n_18 6 s_15.1)])),(n_18,gB 6 Zone.enc s_15.1),(n_36,some (.cells 6 [(vS x_12),(vI r_27.1),(vI r_30.1),(vI r_37.1),(vI r_40.1),(vI r_33.1)]))]:Hp)) ([(0,(.ref (aJ 0) 0 0)),(2,(.ref n_2 0 0)),(3,(.ref n_9 0 0)),(6,(.ref n_36 0 0)),(14,(vL eS ([(⟨#[122,97]⟩:ByteArray),(⟨#[122,98]⟩:ByteArray),(⟨#[122,99]⟩:ByteArray),(⟨#[122,100]⟩:ByteArray)]:List ByteArray))),(15,(vI (([(⟨#[122,97]⟩:ByteArray),(⟨#[122,98]⟩:ByteArray),(⟨#[122,99]⟩:ByteArray),(⟨#[122,100]⟩:ByteArray)]:List ByteArray).length:Int))),(16,(vI (k_10:Int)))]:List (Nat×V)) (by kernel_rfl) (mM (by kernel_rfl)) (aa (ax tY rfl 3 rfl wz (au 0 2 il ft G9 Ie rfl rfl (gV n_18 6 s_15.1) rfl wz (au 0 4 il ft yH K4 rfl rfl (.d (.agg (Zone.enc (⟨x_12,(⟨r_27.1,r_30.1,r_37.1,r_40.1⟩:Rect),r_33.1⟩:Zone)))) rfl wz (fH (([(⟨x_12,(⟨r_27.1,r_30.1,r_37.1,r_40.1⟩:Rect),r_33.1⟩:Zone)]:List Zone).map Zone.enc) Ep ez30 rfl rfl rfl rfl rfl wz ?_)))))))))))))
    obtain ⟨a_43,hz_44,hc_19⟩:=bind_some hc_19
    refine kN 0 il ft (i:=3) el30 el30 yH z131 rfl (by decide) by131 (by decide) (fun _=>rfl) rfl rfl rfl hz_44 wz (fun n_45=>ax tY rfl 3 rfl wz (bL 0 il ft 2 G9 rfl rfl [(vS (⟨#[108]⟩:ByteArray)),(vI r_3.1),(vI r_6.1),(gV n_45 6 a_43)] (stC_g rfl) wz (ai (aa (dQ (bu hD_13 hn_14) wz rfl (ae (vI ((k_10 + 1:Nat):Int)) wz rfl (ai ?_)))))))
    obtain rfl:=ah hc_19
    exact aR (k_10 + 1,l_11,(a_43,r_40.2.L,r_40.2.f_at),n_45) ⟨hL_20,aN hD_13⟩ (Nat.lt_succ_self _) rfl (aH rfl)
 ·rintro ⟨s_15,n_18⟩ ho_ sl_ H_ hp_ hq_
  subst ho_
  refine aK _ hp_ hq_ (af (gU 3 rfl (NJ 3 2 [(vS (⟨#[108]⟩:ByteArray)),(vI r_3.1),(vI r_6.1),(vL Zone.enc s_15.1)] rfl rfl (fun S hS=>mG (rfl) (mG (rfl) (mG (rfl) (mG (hS) (rfl))))) (aa (au 0 2 il ft yg BF rfl rfl (.d (.agg (Layout.enc (⟨(⟨#[108]⟩:ByteArray),r_3.1,r_6.1,s_15.1⟩:Layout)))) rfl wz (bL 0 il ft 1 yg rfl rfl [(vS (⟨#[108]⟩:ByteArray)),(vI r_3.1),(vI r_6.1),(vL Zone.enc s_15.1)] rfl wz (ai ?_)))))))
  obtain rfl:=ah hF
  exact ay (FQ (.inr rfl) [(.d (.agg (Layout.enc (⟨(⟨#[108]⟩:ByteArray),r_3.1,r_6.1,s_15.1⟩:Layout))))] _ [0] [aJ 0] ⟨⟨1,_,_,_,_,_,_,_,rfl,rfl,yg,BF,rfl⟩,trivial⟩ (.cons (mF rfl rfl) (.nil)) (by kernel_rfl) ⟨(by kernel_rfl),trivial⟩ (by decide) (by kernel_rfl))
end Go.Proofs.YtjhcehhmdmbleaaGreatDoor.Law

