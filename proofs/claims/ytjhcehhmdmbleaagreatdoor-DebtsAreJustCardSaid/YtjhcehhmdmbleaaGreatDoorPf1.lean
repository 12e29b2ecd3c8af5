/-
 The machine computes these plain functions (written by a program of ours).
-/
import Derived.Test.YtjhcehhmdmbleaaGreatDoorFacts
import Derived.Test.YtjhcehhmdmbleaaGreatDoorDefs
open Go Go.Eng Go.Proofs
namespace Go.Proofs.YtjhcehhmdmbleaaGreatDoor.Law
set_option maxRecDepth 100000
set_option linter.unusedVariables false
set_option maxHeartbeats 1000000
theorem uE {x_1:Int} {n_2:Int} {r:Int} (hF:qC x_1 n_2=some r) :
  FnM Tryz.prog 159 [(vI x_1),(vI n_2)] [] (vI r) []:=by
 refine FnM.of_wH ⟨Tryz.prog,16,[],[]⟩ rfl Tryz.func159 rfl rfl (Nat.le_of_ble_eq_true rfl) (by kernel_rfl) ?_
 unfold qC at hF
 refine af (aa (ae (vI 0) wz rfl (aj (af (af (aa (ae (vI n_2) wz rfl (ae (vB (decide (n_2 < 1))) wz rfl (aj ?_)))))))))
 rcases ak hF with⟨hc_3,hF⟩ | ⟨hc_3,hF⟩
 ·refine ay rfl hc_3 (af (aa (ae (vI 0) wz rfl (aj ?_))))
  obtain rfl:=ah hF
  exact aB (aP (.inr rfl) [(vI 0)] ⟨rfl,trivial⟩ rfl rfl rfl)
 ·refine ax rfl hc_3 (au (af (aa (ae (vI x_1) wz rfl (ae (vI n_2) wz rfl ?_)))))
  obtain ⟨q_4,hz_5,hF⟩:=bind_some hF
  refine KY rfl rfl hz_5 wz (ae (vI q_4) wz rfl (aj (af (af (aa (ae (vI q_4) wz rfl (ae (vB (decide (q_4 < 0))) wz rfl (aj ?_))))))))
  obtain ⟨v_6,h_7,hF⟩:=bind_some hF
  refine aD (β:=Unit) (fun _=>([(0,(vI v_6))]:List (Nat×V))) (fun _=>([]:Hp)) (fun _=>True) ?_ ?_
  ·rcases ak h_7 with⟨hc_8,h_7⟩ | ⟨hc_8,h_7⟩
   ·refine ay rfl hc_8 (aa (ae (vI q_4) wz rfl (ae (vI n_2) wz rfl (ae (vI (w64 (q_4 + n_2))) wz rfl (ae (vI (w64 (q_4 + n_2))) wz rfl (aj ?_))))))
    obtain rfl:=ah h_7
    exact cu
   ·refine ax rfl hc_8 (au ?_)
    obtain rfl:=ah h_7
    exact cu
  ·rintro ⟨⟩ _ sl_ H_ hp_ hq_
   refine aK _ hp_ hq_ (af (aa (ae (vI v_6) wz rfl (ae (vI v_6) wz rfl (aj ?_)))))
   obtain rfl:=ah hF
   exact aB (aP (.inr rfl) [(vI v_6)] ⟨rfl,trivial⟩ rfl rfl rfl)
theorem kI {s_1:Stream} {n_2:Int} {r:Int×Stream} (hF:gP s_1 n_2=some r) :
  FnM Tryz.prog 81 [(.ref (aH 0) 0 0),(vI n_2)] [(.cells 2 [(vL eI s_1.L),(vI s_1.f_at)])] (vI r.1) [some (.cells 2 [(vL eI r.2.L),(vI r.2.f_at)])]:=by
 refine FnM.of_wH ⟨Tryz.prog,64,[],[]⟩ rfl Tryz.func81 rfl rfl (Nat.le_of_ble_eq_true rfl) (by kernel_rfl) ?_
 unfold gP at hF
 refine af (aa (ae (vI 0) wz rfl (aj (af (aa (ae (.ref (aH 0) 0 0) wz rfl (ae (.ref (aH 0) 0 0) wz rfl (aG Aw rfl 1 rfl wz (aC 0 0 il ft sz3 ag3 rfl rfl (vI s_1.f_at) rfl wz (ae (vI (w64 (s_1.f_at + 1))) wz rfl (ae (.ref (aH 0) 0 0) wz rfl (aG Aw rfl 1 rfl wz (fD 0 il ft 0 sz3 rfl rfl [(vL eI s_1.L),(vI (w64 (s_1.f_at + 1)))] rfl wz (aj (af (af (aa (ae (.ref (aH 0) 0 0) wz rfl (ae (.ref (aH 0) 0 0) wz rfl (aG Dw rfl 0 rfl wz (aC 0 0 il ft IX IM rfl rfl (vL eI s_1.L) rfl wz (bO vZ rfl wz (ae (vB ((s_1.L.length:Int) == 0)) wz rfl ?_)))))))))))))))))))))))
 refine aj ?_
 rcases ak hF with⟨hc_3,hF⟩ | ⟨hc_3,hF⟩
 ·refine ay rfl hc_3 (af (aa (ae (.ref (aH 0) 0 0) wz rfl (ae (.ref (aH 0) 0 0) wz rfl (aG Aw rfl 1 rfl wz (aC 0 0 il ft sz3 ag3 rfl rfl (vI (w64 (s_1.f_at + 1))) rfl wz (ae (vI (w64 ((w64 (s_1.f_at + 1)) * 7919))) wz rfl (ae (vI n_2) wz rfl ?_))))))))
  obtain ⟨r_4,hr_5,hF⟩:=bind_some hF
  refine aF (uE hr_5) rfl J8 rfl rfl rfl rfl wz (ae (vI r_4) wz rfl (aj ?_))
  obtain rfl:=ah hF
  exact aB (xC (.inr rfl) [(vI r_4)] _ [0] [aH 0] ⟨rfl,trivial⟩ (.cons (iZ rfl rfl) (.nil)) (by kernel_rfl) ⟨(by kernel_rfl),trivial⟩ (by decide) (by kernel_rfl))
 ·refine ax rfl hc_3 (au (af (bA (ae (.ref (aH 0) 0 0) wz rfl (ae (.ref (aH 0) 0 0) wz rfl (aG Aw rfl 1 rfl wz (aC 3 0 (.inr (by kernel_rfl)) (fun _ _ ag=>trivial) sz3 ag3 rfl rfl (vI (w64 (s_1.f_at + 1))) rfl wz (ae (vI (w64 ((w64 (s_1.f_at + 1)) - 1))) wz rfl (ae (.ref (aH 0) 0 0) wz rfl (ae (.ref (aH 0) 0 0) wz rfl (aG Dw rfl 0 rfl wz (aC 8 0 (.inr (by kernel_rfl)) (fun _ _ ag=>⟨.inl ⟨rfl,rfl⟩,trivial⟩) IX IM rfl rfl (vL eI s_1.L) rfl wz (bO vZ rfl wz ?_)))))))))))))
  obtain ⟨q_6,hz_7,hF⟩:=bind_some hF
  refine KY rfl rfl hz_7 wz (ae (vI q_6) wz rfl (aj (af (bA (ae (.ref (aH 0) 0 0) wz rfl (ae (.ref (aH 0) 0 0) wz rfl (aG Aw rfl 1 rfl wz (aC 3 0 (.inr (by kernel_rfl)) (fun _ _ ag=>trivial) sz3 ag3 rfl rfl (vI (w64 (s_1.f_at + 1))) rfl wz (ae (vI (w64 ((w64 (s_1.f_at + 1)) - 1))) wz rfl (ae (.ref (aH 0) 0 0) wz rfl (ae (.ref (aH 0) 0 0) wz rfl (aG Dw rfl 0 rfl wz (aC 8 0 (.inr (by kernel_rfl)) (fun _ _ ag=>⟨.inl ⟨rfl,rfl⟩,trivial⟩) IX IM rfl rfl (vL eI s_1.L) rfl wz (bO vZ rfl wz ?_))))))))))))))
  obtain ⟨q_8,hz_9,hF⟩:=bind_some hF
  refine KV rfl rfl hz_9 wz (ae (vI q_8) wz rfl (aj (aK (H0:=([((aH 0),some (.cells 2 [(vL eI s_1.L),(vI (w64 (s_1.f_at + 1)))]))]:Hp)) ([(0,(.ref (aH 0) 0 0)),(1,(vI n_2)),(5,(vI q_6)),(6,(vI q_8))]:List (Nat×V)) (by kernel_rfl) (xk (by kernel_rfl)) (af (aa (ae (.ref (aH 0) 0 0) wz rfl (ae (.ref (aH 0) 0 0) wz rfl (aG Dw rfl 0 rfl wz (aC 0 0 il ft IX IM rfl rfl (vL eI s_1.L) rfl wz (ae (vI q_6) wz rfl ?_))))))))))
  obtain ⟨y_10,hy_11,hF⟩:=bind_some hF
  refine dI nM rfl rfl hy_11 rfl wz (bG sz3 ag3 rfl (vI y_10) rfl wz ?_)
  obtain ⟨r_12,hr_13,hF⟩:=bind_some hF
  refine aF (uE hr_13) rfl J8 rfl rfl rfl rfl wz (ae (vI q_8) wz rfl (ae (vI q_6) wz rfl (ae (vI (w64 (7919 + q_6))) wz rfl (ae (vI (w64 (q_8 * (w64 (7919 + q_6))))) wz rfl (ae (vI (w64 (r_12 + (w64 (q_8 * (w64 (7919 + q_6))))))) wz rfl (ae (vI n_2) wz rfl ?_))))))
  obtain ⟨r_14,hr_15,hF⟩:=bind_some hF
  refine aF (uE hr_15) rfl J8 rfl rfl rfl rfl wz (ae (vI r_14) wz rfl (aj ?_))
  obtain rfl:=ah hF
  exact aB (xC (.inr rfl) [(vI r_14)] _ [0] [aH 0] ⟨rfl,trivial⟩ (.cons (iZ rfl rfl) (.nil)) (by kernel_rfl) ⟨(by kernel_rfl),trivial⟩ (by decide) (by kernel_rfl))
theorem bX {s_1:Stream} {low_2:Int} {high_3:Int} {r:Int×Stream} (hF:bJ s_1 low_2 high_3=some r) :
  FnM Tryz.prog 34 [(.ref (aH 0) 0 0),(vI low_2),(vI high_3)] [(.cells 2 [(vL eI s_1.L),(vI s_1.f_at)])] (vI r.1) [some (.cells 2 [(vL eI r.2.L),(vI r.2.f_at)])]:=by
 refine FnM.of_wH ⟨Tryz.prog,19,[],[]⟩ rfl Tryz.func34 rfl rfl (Nat.le_of_ble_eq_true rfl) (by kernel_rfl) ?_
 unfold bJ at hF
 refine af (aa (ae (vI 0) wz rfl (aj (af (af (aa (ae (vI high_3) wz rfl (ae (vI low_2) wz rfl (ae (vB (decide (high_3 < low_2))) wz rfl (aj ?_))))))))))
 rcases ak hF with⟨hc_4,hF⟩ | ⟨hc_4,hF⟩
 ·refine ay rfl hc_4 (af (aa (ae (vI low_2) wz rfl (ae (vI low_2) wz rfl (aj ?_)))))
  obtain rfl:=ah hF
  exact aB (xC (.inr rfl) [(vI low_2)] _ [0] [aH 0] ⟨rfl,trivial⟩ (.cons (iZ rfl rfl) (.nil)) (by kernel_rfl) ⟨(by kernel_rfl),trivial⟩ (by decide) (by kernel_rfl))
 ·refine ax rfl hc_4 (au (af (aa (ae (vI low_2) wz rfl (ae (.ref (aH 0) 0 0) wz rfl (ae (vI high_3) wz rfl (ae (vI low_2) wz rfl (ae (vI (w64 (high_3 - low_2))) wz rfl (ae (vI (w64 ((w64 (high_3 - low_2)) + 1))) wz rfl ?_)))))))))
  obtain ⟨r_5,hr_6,hF⟩:=bind_some hF
  refine dw 0 [0] il ft (kI hr_6) rfl hb81 rfl (by kernel_rfl) (by kernel_rfl) (by kernel_rfl) (by kernel_rfl) (by kernel_rfl) (by kernel_rfl) (by kernel_rfl) (by decide) (by kernel_rfl) wz (vI r_5.1) (by kernel_rfl) ([((aH 0),some (.cells 2 [(vL eI r_5.2.L),(vI r_5.2.f_at)]))]:Hp) (by kernel_rfl) (ae (vI (w64 (low_2 + r_5.1))) wz rfl (ae (vI (w64 (low_2 + r_5.1))) wz rfl (aj ?_)))
  obtain rfl:=ah hF
  exact aB (xC (.inr rfl) [(vI (w64 (low_2 + r_5.1)))] _ [0] [aH 0] ⟨rfl,trivial⟩ (.cons (iZ rfl rfl) (.nil)) (by kernel_rfl) ⟨(by kernel_rfl),trivial⟩ (by decide) (by kernel_rfl))
theorem nE {s_1:Stream} {l_2:(List ByteArray)} {r:ByteArray×Stream} (hF:gU s_1 l_2=some r) :
  FnM Tryz.prog 47 [(.ref (aH 0) 0 0),(vL eS l_2)] [(.cells 2 [(vL eI s_1.L),(vI s_1.f_at)])] (vS r.1) [some (.cells 2 [(vL eI r.2.L),(vI r.2.f_at)])]:=by
 refine FnM.of_wH ⟨Tryz.prog,12,[],[]⟩ rfl Tryz.func47 rfl rfl (Nat.le_of_ble_eq_true rfl) (by kernel_rfl) ?_
 unfold gU at hF
 refine af (aa (ae (vS (⟨#[]⟩:ByteArray)) wz rfl (aj (af (aa (ae (vL eS l_2) wz rfl (ae (.ref (aH 0) 0 0) wz rfl (ae (vL eS l_2) wz rfl (bO xu rfl wz ?_)))))))))
 obtain ⟨r_3,hr_4,hF⟩:=bind_some hF
 refine dw 0 [0] il ft (kI hr_4) rfl hb81 rfl (by kernel_rfl) (by kernel_rfl) (by kernel_rfl) (by kernel_rfl) (by kernel_rfl) (by kernel_rfl) (by kernel_rfl) (by decide) (by kernel_rfl) wz (vI r_3.1) (by kernel_rfl) ([((aH 0),some (.cells 2 [(vL eI r_3.2.L),(vI r_3.2.f_at)]))]:Hp) (by kernel_rfl) ?_
 obtain ⟨y_6,hy_7,hF⟩:=bind_some hF
 refine dI q8 rfl rfl hy_7 rfl wz (bG sz9 ag9 rfl (vS y_6) rfl wz (ae (vS y_6) wz rfl (aj ?_)))
 obtain rfl:=ah hF
 exact aB (xC (.inr rfl) [(vS y_6)] _ [0] [aH 0] ⟨rfl,trivial⟩ (.cons (iZ rfl rfl) (.nil)) (by kernel_rfl) ⟨(by kernel_rfl),trivial⟩ (by decide) (by kernel_rfl))
theorem mP {s_1:Stream} {l_2:(List Int)} {r:Int×Stream} (hF:iH s_1 l_2=some r) :
  FnM Tryz.prog 19 [(.ref (aH 0) 0 0),(vL eI l_2)] [(.cells 2 [(vL eI s_1.L),(vI s_1.f_at)])] (vI r.1) [some (.cells 2 [(vL eI r.2.L),(vI r.2.f_at)])]:=by
 refine FnM.of_wH ⟨Tryz.prog,12,[],[]⟩ rfl Tryz.func19 rfl rfl (Nat.le_of_ble_eq_true rfl) (by kernel_rfl) ?_
 unfold iH at hF
 refine af (aa (ae (vI 0) wz rfl (aj (af (aa (ae (vL eI l_2) wz rfl (ae (.ref (aH 0) 0 0) wz rfl (ae (vL eI l_2) wz rfl (bO vZ rfl wz ?_)))))))))
 obtain ⟨r_3,hr_4,hF⟩:=bind_some hF
 refine dw 0 [0] il ft (kI hr_4) rfl hb81 rfl (by kernel_rfl) (by kernel_rfl) (by kernel_rfl) (by kernel_rfl) (by kernel_rfl) (by kernel_rfl) (by kernel_rfl) (by decide) (by kernel_rfl) wz (vI r_3.1) (by kernel_rfl) ([((aH 0),some (.cells 2 [(vL eI r_3.2.L),(vI r_3.2.f_at)]))]:Hp) (by kernel_rfl) ?_
 obtain ⟨y_6,hy_7,hF⟩:=bind_some hF
 refine dI nM rfl rfl hy_7 rfl wz (bG sz3 ag3 rfl (vI y_6) rfl wz (ae (vI y_6) wz rfl (aj ?_)))
 obtain rfl:=ah hF
 exact aB (xC (.inr rfl) [(vI y_6)] _ [0] [aH 0] ⟨rfl,trivial⟩ (.cons (iZ rfl rfl) (.nil)) (by kernel_rfl) ⟨(by kernel_rfl),trivial⟩ (by decide) (by kernel_rfl))
theorem nC {s_1:Stream} {n_2:Int} {r:Bool×Stream} (hF:iO s_1 n_2=some r) :
  FnM Tryz.prog 20 [(.ref (aH 0) 0 0),(vI n_2)] [(.cells 2 [(vL eI s_1.L),(vI s_1.f_at)])] (vB r.1) [some (.cells 2 [(vL eI r.2.L),(vI r.2.f_at)])]:=by
 refine FnM.of_wH ⟨Tryz.prog,9,[],[]⟩ rfl Tryz.func20 rfl rfl (Nat.le_of_ble_eq_true rfl) (by kernel_rfl) ?_
 unfold iO at hF
 refine af (aa (ae (vB false) wz rfl (aj (af (aa (ae (.ref (aH 0) 0 0) wz rfl (ae (vI n_2) wz rfl ?_)))))))
 obtain ⟨r_3,hr_4,hF⟩:=bind_some hF
 refine dw 0 [0] il ft (kI hr_4) rfl hb81 rfl (by kernel_rfl) (by kernel_rfl) (by kernel_rfl) (by kernel_rfl) (by kernel_rfl) (by kernel_rfl) (by kernel_rfl) (by decide) (by kernel_rfl) wz (vI r_3.1) (by kernel_rfl) ([((aH 0),some (.cells 2 [(vL eI r_3.2.L),(vI r_3.2.f_at)]))]:Hp) (by kernel_rfl) (ae (vB (r_3.1 == 0)) wz rfl (ae (vB (r_3.1 == 0)) wz rfl (aj ?_)))
 obtain rfl:=ah hF
 exact aB (xC (.inr rfl) [(vB (r_3.1 == 0))] _ [0] [aH 0] ⟨rfl,trivial⟩ (.cons (iZ rfl rfl) (.nil)) (by kernel_rfl) ⟨(by kernel_rfl),trivial⟩ (by decide) (by kernel_rfl))
theorem ug {s_1:Stream} {r:Rect×Stream} (hF:iq s_1=some r) :
  FnM Tryz.prog 97 [(.ref (aH 0) 0 0)] [(.cells 2 [(vL eI s_1.L),(vI s_1.f_at)])] (.d (.agg (Rect.enc r.1))) [some (.cells 2 [(vL eI r.2.L),(vI r.2.f_at)])]:=by
 refine FnM.of_wH ⟨Tryz.prog,12,[],[]⟩ rfl Tryz.func97 rfl rfl (Nat.le_of_ble_eq_true rfl) (by kernel_rfl) ?_
 unfold iq at hF
 refine af (aa (dh 0 (.inl rfl) z45 rfl wz (fun n_2=>aj (af (aa (ae (.ref (aH 0) 0 0) wz rfl ?_))))))
 obtain ⟨r_3,hr_4,hF⟩:=bind_some hF
 refine dw 0 [0] il ft (bX hr_4) rfl zJ rfl (by kernel_rfl) (by kernel_rfl) (by kernel_rfl) (by kernel_rfl) (by kernel_rfl) (by kernel_rfl) (by kernel_rfl) (by decide) (by kernel_rfl) wz (vI r_3.1) (by kernel_rfl) ([((aH 0),some (.cells 2 [(vL eI r_3.2.L),(vI r_3.2.f_at)])),(n_2,some (.cells 4 [(vI 0),(vI 0),(vI 0),(vI 0)]))]:Hp) (by kernel_rfl) (ae (.ref (aH 0) 0 0) wz rfl ?_)
 obtain ⟨r_6,hr_7,hF⟩:=bind_some hF
 refine dw 0 [0] il ft (bX hr_7) rfl zJ rfl (by kernel_rfl) (by kernel_rfl) (by kernel_rfl) (by kernel_rfl) (by kernel_rfl) (by kernel_rfl) (by kernel_rfl) (by decide) (by kernel_rfl) wz (vI r_6.1) (by kernel_rfl) ([((aH 0),some (.cells 2 [(vL eI r_6.2.L),(vI r_6.2.f_at)])),(n_2,some (.cells 4 [(vI 0),(vI 0),(vI 0),(vI 0)]))]:Hp) (by kernel_rfl) (ae (.ref (aH 0) 0 0) wz rfl ?_)
 obtain ⟨r_9,hr_10,hF⟩:=bind_some hF
 refine dw 0 [0] il ft (bX hr_10) rfl zJ rfl (by kernel_rfl) (by kernel_rfl) (by kernel_rfl) (by kernel_rfl) (by kernel_rfl) (by kernel_rfl) (by kernel_rfl) (by decide) (by kernel_rfl) wz (vI r_9.1) (by kernel_rfl) ([((aH 0),some (.cells 2 [(vL eI r_9.2.L),(vI r_9.2.f_at)])),(n_2,some (.cells 4 [(vI 0),(vI 0),(vI 0),(vI 0)]))]:Hp) (by kernel_rfl) (ae (.ref (aH 0) 0 0) wz rfl ?_)
 obtain ⟨r_12,hr_13,hF⟩:=bind_some hF
 refine dw 0 [0] il ft (bX hr_13) rfl zJ rfl (by kernel_rfl) (by kernel_rfl) (by kernel_rfl) (by kernel_rfl) (by kernel_rfl) (by kernel_rfl) (by kernel_rfl) (by decide) (by kernel_rfl) wz (vI r_12.1) (by kernel_rfl) ([((aH 0),some (.cells 2 [(vL eI r_12.2.L),(vI r_12.2.f_at)])),(n_2,some (.cells 4 [(vI 0),(vI 0),(vI 0),(vI 0)]))]:Hp) (by kernel_rfl) (ae (.d (.agg (Rect.enc (⟨r_3.1,r_6.1,r_9.1,r_12.1⟩:Rect)))) wz (by kernel_rfl) (fD 0 il ft 1 rF rfl rfl [(vI r_3.1),(vI r_6.1),(vI r_9.1),(vI r_12.1)] rfl wz (aj ?_)))
 obtain rfl:=ah hF
 exact aB (xC (.inr rfl) [(.d (.agg (Rect.enc (⟨r_3.1,r_6.1,r_9.1,r_12.1⟩:Rect))))] _ [0] [aH 0] ⟨⟨1,_,_,_,_,_,_,_,rfl,rfl,rF,DK,rfl⟩,trivial⟩ (.cons (iZ rfl rfl) (.nil)) (by kernel_rfl) ⟨(by kernel_rfl),trivial⟩ (by decide) (by kernel_rfl))
theorem yK {a_1:Alert} {b_2:Alert} {r:Int} (hF:ko a_1 b_2=some r) :
  FnM Tryz.prog 99 [(.d (.agg (Alert.enc a_1))),(.d (.agg (Alert.enc b_2)))] [] (vI r) []:=by
 refine FnM.of_wH ⟨Tryz.prog,20,[],[]⟩ rfl Tryz.func99 rfl rfl (Nat.le_of_ble_eq_true rfl) (by kernel_rfl) ?_
 unfold ko at hF
 refine af (aa (fB 0 (.inl rfl) [(vS a_1.Id),(vS a_1.Sender),(vI a_1.Kind),(vL eS a_1.Refs),(vI a_1.At),(vI a_1.Until),(vI a_1.Weight),(vL Rect.enc a_1.Areas),(vS a_1.Text)] rfl rfl wz (fun n_3=>fB 0 (.inl rfl) [(vS b_2.Id),(vS b_2.Sender),(vI b_2.Kind),(vL eS b_2.Refs),(vI b_2.At),(vI b_2.Until),(vI b_2.Weight),(vL Rect.enc b_2.Areas),(vS b_2.Text)] rfl rfl wz (fun n_4=>ae (vI 0) wz rfl (aj (af (af (aa (aG jU rfl 4 rfl wz (aC 0 0 il ft sz3 ag3 rfl rfl (vI a_1.At) rfl wz (aG jU rfl 4 rfl wz (aC 0 1 il ft sz3 ag3 rfl rfl (vI b_2.At) rfl wz (ae (vB (a_1.At != b_2.At)) wz rfl (aj ?_))))))))))))))
 rcases ak hF with⟨hc_5,hF⟩ | ⟨hc_5,hF⟩
 ·refine ay rfl hc_5 (af (aa (aG jU rfl 4 rfl wz (aC 0 0 il ft sz3 ag3 rfl rfl (vI a_1.At) rfl wz (aG jU rfl 4 rfl wz (aC 0 1 il ft sz3 ag3 rfl rfl (vI b_2.At) rfl wz (ae (vI (w64 (a_1.At - b_2.At))) wz rfl (ae (vI (w64 (a_1.At - b_2.At))) wz rfl (aj ?_)))))))))
  obtain rfl:=ah hF
  exact aB (aP (.inr rfl) [(vI (w64 (a_1.At - b_2.At)))] ⟨rfl,trivial⟩ rfl rfl rfl)
 ·refine ax rfl hc_5 (au (af (af (aa (aG lD rfl 0 rfl wz (aC 0 0 il ft sz9 ag9 rfl rfl (vS a_1.Id) rfl wz (aG lD rfl 0 rfl wz (aC 0 1 il ft sz9 ag9 rfl rfl (vS b_2.Id) rfl wz (ae (vB (sLt a_1.Id b_2.Id)) wz rfl (aj ?_))))))))))
  rcases ak hF with⟨hc_6,hF⟩ | ⟨hc_6,hF⟩
  ·refine ay rfl hc_6 (af (aa (ae (vI (-1)) wz rfl (aj ?_))))
   obtain rfl:=ah hF
   exact aB (aP (.inr rfl) [(vI (-1))] ⟨rfl,trivial⟩ rfl rfl rfl)
  ·refine ax rfl hc_6 (au (af (aa (ae (vI 1) wz rfl (aj ?_)))))
   obtain rfl:=ah hF
   exact aB (aP (.inr rfl) [(vI 1)] ⟨rfl,trivial⟩ rfl rfl rfl)
theorem wR {x_1:Int} {r:Int} (hF:pg x_1=some r) :
  FnM Tryz.prog 224 [(.d (.int .u64 x_1))] [] (vI r) []:=by
 refine FnM.of_wH ⟨Tryz.prog,25,[],[]⟩ rfl Tryz.func224 rfl rfl (Nat.le_of_ble_eq_true rfl) (by kernel_rfl) ?_
 unfold pg at hF
 refine af (aa (ae (vI 0) wz rfl (aj (af (af (aa (ae (.d (.int .u64 x_1)) wz rfl (ae (vB (decide (x_1≥4294967296))) wz rfl (aj ?_)))))))))
 obtain ⟨v_2,h_3,hF⟩:=bind_some hF
 refine aD (β:=Unit) (fun _=>([(0,(.d (.int .u64 v_2.1))),(2,(vI v_2.2))]:List (Nat×V))) (fun _=>([]:Hp)) (fun _=>True) ?_ ?_
 ·rcases ak h_3 with⟨hc_4,h_3⟩ | ⟨hc_4,h_3⟩
  ·refine ay rfl hc_4 (af (aa (ae (.d (.int .u64 x_1)) wz rfl ?_)))
   obtain ⟨q_5,hz_6,h_3⟩:=bind_some h_3
   refine HY rfl rfl hz_6 wz (ae (.d (.int .u64 q_5)) wz rfl (aj (aa (ae (vI 32) wz rfl (aj ?_)))))
   obtain rfl:=ah h_3
   exact cu
  ·refine ax rfl hc_4 (au ?_)
   obtain rfl:=ah h_3
   exact cu
 ·rintro ⟨⟩ _ sl_ H_ hp_ hq_
  refine aK _ hp_ hq_ (af (af (aa (ae (.d (.int .u64 v_2.1)) wz rfl (ae (vB (decide (v_2.1≥65536))) wz rfl (aj ?_))))))
  obtain ⟨v_7,h_8,hF⟩:=bind_some hF
  refine aD (β:=Unit) (fun _=>([(0,(.d (.int .u64 v_7.1))),(2,(vI v_7.2))]:List (Nat×V))) (fun _=>([]:Hp)) (fun _=>True) ?_ ?_
  ·rcases ak h_8 with⟨hc_9,h_8⟩ | ⟨hc_9,h_8⟩
   ·refine ay rfl hc_9 (af (aa (ae (.d (.int .u64 v_2.1)) wz rfl ?_)))
    obtain ⟨q_10,hz_11,h_8⟩:=bind_some h_8
    refine HY rfl rfl hz_11 wz (ae (.d (.int .u64 q_10)) wz rfl (aj (aa (ae (vI v_2.2) wz rfl (ae (vI (w64 (v_2.2 + 16))) wz rfl (ae (vI (w64 (v_2.2 + 16))) wz rfl (aj ?_)))))))
    obtain rfl:=ah h_8
    exact cu
   ·refine ax rfl hc_9 (au ?_)
    obtain rfl:=ah h_8
    exact cu
  ·rintro ⟨⟩ _ sl_ H_ hp_ hq_
   refine aK _ hp_ hq_ (af (af (aa (ae (.d (.int .u64 v_7.1)) wz rfl (ae (vB (decide (v_7.1≥256))) wz rfl (aj ?_))))))
   obtain ⟨v_12,h_13,hF⟩:=bind_some hF
   refine aD (β:=Unit) (fun _=>([(0,(.d (.int .u64 v_12.1))),(2,(vI v_12.2))]:List (Nat×V))) (fun _=>([]:Hp)) (fun _=>True) ?_ ?_
   ·rcases ak h_13 with⟨hc_14,h_13⟩ | ⟨hc_14,h_13⟩
    ·refine ay rfl hc_14 (af (aa (ae (.d (.int .u64 v_7.1)) wz rfl ?_)))
     obtain ⟨q_15,hz_16,h_13⟩:=bind_some h_13
     refine HY rfl rfl hz_16 wz (ae (.d (.int .u64 q_15)) wz rfl (aj (aa (ae (vI v_7.2) wz rfl (ae (vI (w64 (v_7.2 + 8))) wz rfl (ae (vI (w64 (v_7.2 + 8))) wz rfl (aj ?_)))))))
     obtain rfl:=ah h_13
     exact cu
    ·refine ax rfl hc_14 (au ?_)
     obtain rfl:=ah h_13
     exact cu
   ·rintro ⟨⟩ _ sl_ H_ hp_ hq_
    refine aK _ hp_ hq_ (af (aa (ae (vI v_12.2) wz rfl (ae (.d (.int .u64 v_12.1)) wz rfl (mU yl un5 rfl wz ?_)))))
    obtain ⟨b_17,hy_18,hF⟩:=bind_some hF
    refine kz un9 rfl rfl hy_18 wz (mU un5 un3 rfl wz (ae (vI (w64 (v_12.2 + (w64 (b_17.toNat:Int))))) wz rfl (ae (vI (w64 (v_12.2 + (w64 (b_17.toNat:Int))))) wz rfl (aj ?_))))
    obtain rfl:=ah hF
    exact aB (aP (.inr rfl) [(vI (w64 (v_12.2 + (w64 (b_17.toNat:Int)))))] ⟨rfl,trivial⟩ rfl rfl rfl)
theorem rT {x_1:Int} {r:Int} (hF:iA x_1=some r) :
  FnM Tryz.prog 167 [(.d (.int .u64 x_1))] [] (vI r) []:=by
 refine FnM.of_wH ⟨Tryz.prog,8,[],[]⟩ rfl Tryz.func167 rfl rfl (Nat.le_of_ble_eq_true rfl) (by kernel_rfl) ?_
 unfold iA at hF
 refine af (aa (ae (vI 0) wz rfl (aj (af (ax rfl rfl (au (af (aa (ae (.d (.int .u64 x_1)) wz rfl ?_)))))))))
 obtain ⟨r_2,hr_3,hF⟩:=bind_some hF
 refine aF (wR hr_3) rfl hb224 rfl rfl rfl rfl wz (ae (vI r_2) wz rfl (aj ?_))
 obtain rfl:=ah hF
 exact aB (aP (.inr rfl) [(vI r_2)] ⟨rfl,trivial⟩ rfl rfl rfl)
theorem jI {data_1:(List Alert)} {a_2:Int} {b_3:Int} {r:(List Alert)} (hF:dL data_1 a_2 b_3=some r) :
  FnM Tryz.prog 231 [(dV (aH 0) 9 data_1),(vI a_2),(vI b_3),(.fn 99 [])] (([]:List Box)++gI 9 Alert.enc data_1) (.tup []) (([]:List Box).map some++gT data_1 (gB 9 Alert.enc r)):=by
 refine FnM.of_wHv ⟨Tryz.prog,53,[],[]⟩ rfl Tryz.func231 rfl rfl (Nat.le_of_ble_eq_true rfl) (by kernel_rfl) ?_
 unfold dL at hF
 refine af (aa (ae (vI a_2) wz rfl (ae (vI (w64 (a_2 + 1))) wz rfl (ae (vI (w64 (a_2 + 1))) wz rfl (aj ?_)))))
 obtain ⟨o_13,hj_14,hF⟩:=bind_some hF
 obtain ⟨nq_51,hj_14⟩:=dB hj_14
 refine aD (β:=((List Alert)×Int)) (fun (s_10:(List Alert)×Int)=>([]:List (Nat×V))) (fun (s_10:(List Alert)×Int)=>([((aH 0),gB 9 Alert.enc s_10.1)]:Hp)) (fun p=>o_13 = .go p) ?_ ?_
 ·refine aA (aV (β:=Nat×((List Alert)×Int)) (fun p=>(fun (k_5:Nat) (s_10:(List Alert)×Int)=>([(0,(dV (aH 0) 9 s_10.1)),(1,(vI a_2)),(2,(vI b_3)),(3,(.fn 99 [])),(8,(vI s_10.2))]:List (Nat×V))) p.1 p.2) (fun p=>(fun (k_5:Nat) (s_10:(List Alert)×Int)=>([((aH 0),gB 9 Alert.enc s_10.1)]:Hp)) p.1 p.2) (fun p=>iterN (fun s=>dA b_3 a_2 s) p.1 p.2=some o_13) (fun p=>p.1) (nq_51,(data_1,(w64 (a_2 + 1)))) hj_14 rfl (aI rfl) ?_)
  rintro ⟨k_5,s_10⟩ hL_12
  dsimp only at hL_12
  cases k_5 with
  | zero=>cases hL_12
  | succ k_5 =>
   obtain ⟨c_,hc_11,hL_12⟩:=bind_some hL_12
   unfold dA at hc_11
   refine af (af (aa (ae (vI s_10.2) wz rfl (ae (vI b_3) wz rfl (ae (vB (decide (s_10.2 < b_3))) wz rfl (aj ?_))))))
   rcases ak hc_11 with⟨hc_15,hc_11⟩ | ⟨hc_15,hc_11⟩
   ·refine ay rfl hc_15 (au (af (aA (af (aa (ae (vI s_10.2) wz rfl (ae (vI s_10.2) wz rfl (aj ?_))))))))
    obtain ⟨o_24,hj_25,hc_11⟩:=bind_some hc_11
    obtain ⟨nq_50,hj_25⟩:=dB hj_25
    refine aD (β:=((List Alert)×Int)) (fun (s_21:(List Alert)×Int)=>([(0,(dV (aH 0) 9 s_21.1)),(1,(vI a_2)),(2,(vI b_3)),(3,(.fn 99 [])),(8,(vI s_10.2))]:List (Nat×V))) (fun (s_21:(List Alert)×Int)=>([((aH 0),gB 9 Alert.enc s_21.1)]:Hp)) (fun p=>o_24 = .go p) ?_ ?_
    ·refine aA (aV (β:=Nat×((List Alert)×Int)) (fun p=>(fun (k_16:Nat) (s_21:(List Alert)×Int)=>([(0,(dV (aH 0) 9 s_21.1)),(1,(vI a_2)),(2,(vI b_3)),(3,(.fn 99 [])),(8,(vI s_10.2)),(9,(vI s_21.2))]:List (Nat×V))) p.1 p.2) (fun p=>(fun (k_16:Nat) (s_21:(List Alert)×Int)=>([((aH 0),gB 9 Alert.enc s_21.1)]:Hp)) p.1 p.2) (fun p=>iterN (fun s=>dx a_2 s) p.1 p.2=some o_24) (fun p=>p.1) (nq_50,(s_10.1,s_10.2)) hj_25 rfl (aI rfl) ?_)
     rintro ⟨k_16,s_21⟩ hL_23
     dsimp only at hL_23
     cases k_16 with
     | zero=>cases hL_23
     | succ k_16 =>
      obtain ⟨c_,hc_22,hL_23⟩:=bind_some hL_23
      unfold dx at hc_22
      refine af (af ?_)
      obtain ⟨v_26,h_27,hc_22⟩:=bind_some hc_22
      refine aD (β:=Unit) (fun _=>([(0,(dV (aH 0) 9 s_21.1)),(1,(vI a_2)),(2,(vI b_3)),(3,(.fn 99 [])),(8,(vI s_10.2)),(9,(vI s_21.2)),(34,(vB v_26))]:List (Nat×V))) (fun _=>([((aH 0),gB 9 Alert.enc s_21.1)]:Hp)) (fun _=>True) ?_ ?_
      ·refine bA (ae (vI s_21.2) wz rfl (ae (vI a_2) wz rfl (ae (vB (decide (s_21.2 > a_2))) wz rfl ?_)))
       rcases ak h_27 with⟨hc_28,h_27⟩ | ⟨hc_28,h_27⟩
       ·refine av rfl hc_28 wz (ae (.fn 99 []) wa rfl (ae (dV (aH 0) 9 s_21.1) wa rfl (ae (vI s_21.2) wa rfl ?_)))
        obtain ⟨_,hi_29,h_27⟩:=bind_some h_27
        refine ng uF rfl rfl (lN hi_29) (iV hi_29) wa ?_
        obtain ⟨e_30,hy_31,h_27⟩:=bind_some h_27
        refine nz 8 0 (.inr (by kernel_rfl)) (fun _ _ ag=>trivial) gX kC rfl rfl hy_31 (.d (.agg (Alert.enc e_30))) rfl wa (ae (dV (aH 0) 9 s_21.1) wa rfl (ae (vI s_21.2) wa rfl (ae (vI (w64 (s_21.2 - 1))) wa rfl ?_)))
        obtain ⟨_,hi_32,h_27⟩:=bind_some h_27
        refine ng uF rfl rfl (lN hi_32) (iV hi_32) wa ?_
        obtain ⟨e_33,hy_34,h_27⟩:=bind_some h_27
        refine nz 13 0 (.inr (by kernel_rfl)) (fun _ _ ag=>⟨.inl ⟨rfl,rfl⟩,trivial⟩) gX kC rfl rfl hy_34 (.d (.agg (Alert.enc e_33))) rfl wa ?_
        obtain ⟨r_35,hr_36,h_27⟩:=bind_some h_27
        refine aF (yK hr_36) rfl hb99 rfl rfl rfl rfl wa (ae (vB (decide (r_35 < 0))) wa rfl (ae (vB (decide (r_35 < 0))) wz rfl (aj ?_)))
        obtain rfl:=ah h_27
        exact cu
       ·refine av rfl hc_28 wz (ai wa (ai wa (ai wa (ai wa (ai wa (ai wa (ai wa (ai wa (ai wa (ai wa (ai wa (ai wa (ae (vB false) wz rfl (aj ?_))))))))))))))
        obtain rfl:=ah h_27
        exact cu
      ·rintro ⟨⟩ _ sl_ H_ hp_ hq_
       refine aK _ hp_ hq_ ?_
       rcases ak hc_22 with⟨hc_37,hc_22⟩ | ⟨hc_37,hc_22⟩
       ·refine ay rfl hc_37 (au (af (aA (bA (ae (dV (aH 0) 9 s_21.1) wz rfl (ae (vI s_21.2) wz rfl (ae (dV (aH 0) 9 s_21.1) wz rfl (ae (vI s_21.2) wz rfl (ae (vI (w64 (s_21.2 - 1))) wz rfl (ae (dV (aH 0) 9 s_21.1) wz rfl (ae (vI s_21.2) wz rfl (ae (vI (w64 (s_21.2 - 1))) wz rfl ?_))))))))))))
        obtain ⟨_,hi_38,hc_22⟩:=bind_some hc_22
        refine ng uF rfl rfl (lN hi_38) (iV hi_38) wz ?_
        obtain ⟨e_39,hy_40,hc_22⟩:=bind_some hc_22
        refine nz 9 0 (.inr (by kernel_rfl)) (fun _ _ ag=>trivial) gX kC rfl rfl hy_40 (.d (.agg (Alert.enc e_39))) rfl wz (ae (dV (aH 0) 9 s_21.1) wz rfl (ae (vI s_21.2) wz rfl ?_))
        obtain ⟨_,hi_41,hc_22⟩:=bind_some hc_22
        refine ng uF rfl rfl (lN hi_41) (iV hi_41) wz ?_
        obtain ⟨e_42,hy_43,hc_22⟩:=bind_some hc_22
        refine nz 13 0 (.inr (by kernel_rfl)) (fun _ _ ag=>⟨.inl ⟨rfl,rfl⟩,trivial⟩) gX kC rfl rfl hy_43 (.d (.agg (Alert.enc e_42))) rfl wz ?_
        obtain ⟨_,hi_44,hc_22⟩:=bind_some hc_22
        refine ng uF rfl rfl (lN hi_44) (iV hi_44) wz ?_
        obtain ⟨e_45,hy_46,hc_22⟩:=bind_some hc_22
        refine w9 15 (.inr (by kernel_rfl)) (fun _ _ ag=>⟨.inr (.inr (by kernel_rfl)),⟨.inr (.inr (by kernel_rfl)),trivial⟩⟩) 0 gX rfl rfl hy_46 e_39 rfl wz (fU (v':=(dV (aH 0) 9 (s_21.1.set (0 + (s_21.2).toNat) e_39))) 0 rfl (fG (by simp)) (fU (v':=(dV (aH 0) 9 (s_21.1.set (0 + (s_21.2).toNat) e_39))) 37 rfl (fG (by simp)) (fU (v':=(dV (aH 0) 9 (s_21.1.set (0 + (s_21.2).toNat) e_39))) 39 rfl (fG (by simp)) (fU (v':=(dV (aH 0) 9 (s_21.1.set (0 + (s_21.2).toNat) e_39))) 42 rfl (fG (by simp)) (fU (v':=(dV (aH 0) 9 (s_21.1.set (0 + (s_21.2).toNat) e_39))) 47 rfl (fG (by simp)) ?_)))))
        obtain ⟨_,hi_47,hc_22⟩:=bind_some hc_22
        refine ng uF rfl rfl (lN hi_47) (iV hi_47) wz ?_
        obtain ⟨e_48,hy_49,hc_22⟩:=bind_some hc_22
        refine w9 17 (.inr (by kernel_rfl)) (fun _ _ ag=>⟨.inr (.inr (by kernel_rfl)),⟨.inr (.inr (by kernel_rfl)),⟨.inr (.inr (by kernel_rfl)),trivial⟩⟩⟩) 0 gX rfl rfl hy_49 e_42 rfl wz (fU (v':=(dV (aH 0) 9 ((s_21.1.set (0 + (s_21.2).toNat) e_39).set (0 + ((w64 (s_21.2 - 1))).toNat) e_42))) 0 rfl (fG (by simp)) (fU (v':=(dV (aH 0) 9 ((s_21.1.set (0 + (s_21.2).toNat) e_39).set (0 + ((w64 (s_21.2 - 1))).toNat) e_42))) 37 rfl (fG (by simp)) (fU (v':=(dV (aH 0) 9 ((s_21.1.set (0 + (s_21.2).toNat) e_39).set (0 + ((w64 (s_21.2 - 1))).toNat) e_42))) 39 rfl (fG (by simp)) (fU (v':=(dV (aH 0) 9 ((s_21.1.set (0 + (s_21.2).toNat) e_39).set (0 + ((w64 (s_21.2 - 1))).toNat) e_42))) 42 rfl (fG (by simp)) (fU (v':=(dV (aH 0) 9 ((s_21.1.set (0 + (s_21.2).toNat) e_39).set (0 + ((w64 (s_21.2 - 1))).toNat) e_42))) 47 rfl (fG (by simp)) (aj (aa (ae (vI s_21.2) wz rfl (ae (vI (w64 (s_21.2 - 1))) wz rfl (ae (vI (w64 (s_21.2 - 1))) wz rfl (aj ?_)))))))))))
        obtain rfl:=ah hc_22
        exact aU (k_16,(((s_21.1.set (0 + (s_21.2).toNat) e_39).set (0 + ((w64 (s_21.2 - 1))).toNat) e_42),(w64 (s_21.2 - 1)))) hL_23 (Nat.lt_succ_self _) rfl (aI rfl)
       ·refine ax rfl hc_37 (aS ?_)
        obtain rfl:=ah hc_22
        obtain rfl:=ah hL_23
        exact aO ((s_21.1,s_21.2)) rfl rfl (aI rfl)
    ·rintro s_21 ho_ sl_ H_ hp_ hq_
     subst ho_
     refine aK _ hp_ hq_ (aa (ae (vI s_10.2) wz rfl (ae (vI (w64 (s_10.2 + 1))) wz rfl (ae (vI (w64 (s_10.2 + 1))) wz rfl (aj ?_)))))
     obtain rfl:=ah hc_11
     exact aU (k_5,(s_21.1,(w64 (s_10.2 + 1)))) hL_12 (Nat.lt_succ_self _) rfl (aI rfl)
   ·refine ax rfl hc_15 (aS ?_)
    obtain rfl:=ah hc_11
    obtain rfl:=ah hL_12
    exact aO ((s_10.1,s_10.2)) rfl rfl (aI rfl)
 ·rintro s_10 ho_ sl_ H_ hp_ hq_
  subst ho_
  show uC _ _ _ _ _ _ _ _
  obtain rfl:=ah hF
  exact zU (H0:=([((aH 0),gB 9 Alert.enc s_10.1)]:Hp)) (sl':=envS []) hq_ (Av (bs:=([]:List Box)) (os:=([]:List Box)) (xs:=data_1) (o:=gB 9 Alert.enc s_10.1) (.inl rfl) [] trivial rfl rfl rfl rfl rfl (by kernel_rfl) pu rfl)
theorem lF {data_1:(List Alert)} {a_2:Int} {b_3:Int} {limit_4:Int} {r:(List Alert)} (hF:eY data_1 a_2 b_3 limit_4=some r) :
  FnM Tryz.prog 178 [(dV (aH 0) 9 data_1),(vI a_2),(vI b_3),(vI limit_4),(.fn 99 [])] (([]:List Box)++gI 9 Alert.enc data_1) (.tup []) (([]:List Box).map some++gT data_1 (gB 9 Alert.enc r)):=by
 refine FnM.of_wHv ⟨Tryz.prog,148,[],[]⟩ rfl Tryz.func178 rfl rfl (Nat.le_of_ble_eq_true rfl) (by kernel_rfl) ?_
 unfold eY at hF
 refine af (aa (ae (vB true) wz rfl (aj (af (aa (ae (vB true) wz rfl (aj ?_)))))))
 obtain ⟨o_14,hj_15,hF⟩:=bind_some hF
 obtain ⟨nq_21,hj_15⟩:=dB hj_15
 refine aD (β:=(Unit)) (fun (s_11:Unit)=>([]:List (Nat×V))) (fun (s_11:Unit)=>([((aH 0),gB 9 Alert.enc data_1)]:Hp)) (fun p=>o_14 = .go p) ?_ ?_
 ·refine aA (aV (β:=Nat×(Unit)) (fun p=>(fun (k_6:Nat) (s_11:Unit)=>([(0,(dV (aH 0) 9 data_1)),(1,(vI a_2)),(2,(vI b_3)),(3,(vI limit_4)),(4,(.fn 99 [])),(10,(vB true)),(11,(vB true))]:List (Nat×V))) p.1 p.2) (fun p=>(fun (k_6:Nat) (s_11:Unit)=>([((aH 0),gB 9 Alert.enc data_1)]:Hp)) p.1 p.2) (fun p=>iterN (fun s=>d9 b_3 a_2 data_1 limit_4 s) p.1 p.2=some o_14) (fun p=>p.1) (nq_21,()) hj_15 rfl (aI rfl) ?_)
  rintro ⟨k_6,s_11⟩ hL_13
  dsimp only at hL_13
  cases k_6 with
  | zero=>cases hL_13
  | succ k_6 =>
   obtain ⟨c_,hc_12,hL_13⟩:=bind_some hL_13
   unfold d9 at hc_12
   refine aA (af (aa (ae (vI b_3) wz rfl (ae (vI a_2) wz rfl (ae (vI (w64 (b_3 - a_2))) wz rfl (ae (vI (w64 (b_3 - a_2))) wz rfl (aj (af (af (aa (ae (vI (w64 (b_3 - a_2))) wz rfl (ae (vB (decide ((w64 (b_3 - a_2))≤12))) wz rfl (aj ?_)))))))))))))
   rcases ak hc_12 with⟨hc_16,hc_12⟩ | ⟨hc_16,hc_12⟩
   ·refine ay rfl hc_16 (af (aa (ae (dV (aH 0) 9 data_1) wz rfl (ae (vI a_2) wz rfl (ae (vI b_3) wz rfl (ae (.fn 99 []) wz rfl ?_))))))
    obtain ⟨r_17,hr_18,hc_12⟩:=bind_some hc_12
    obtain ⟨_,hs_19,hc_12⟩:=bind_some hc_12
    replace hs_19:=oD hs_19
    refine pQ 0 [] 0 0 il ft (jI hr_18) rfl hb231 rfl rfl rfl (by kernel_rfl) rfl (.inr (.inl rfl)) rfl (by kernel_rfl) (by kernel_rfl) (by kernel_rfl) (by kernel_rfl) rfl (by decide) (by kernel_rfl) pu (zh hs_19) wz ([((aH 0),gB 9 Alert.enc r_17)]:Hp) (by kernel_rfl) (fU (v':=(dV (aH 0) 9 r_17)) 0 rfl (fG hs_19.symm) (fU (v':=(dV (aH 0) 9 r_17)) 26 rfl (fG hs_19.symm) (aj ?_)))
    obtain rfl:=ah hc_12
    obtain rfl:=ah hL_13
    obtain rfl:=ah hF
    exact aB (Av (bs:=([]:List Box)) (os:=([]:List Box)) (xs:=data_1) (o:=gB 9 Alert.enc r_17) (.inr rfl) [] trivial rfl rfl rfl rfl rfl (by kernel_rfl) pu rfl)
   ·refine ax rfl hc_16 (au (af (af (aa (ae (vI limit_4) wz rfl (ae (vB (limit_4 == 0)) wz rfl (aj ?_)))))))
    rcases ak hc_12 with⟨hc_20,hc_12⟩ | ⟨hc_20,hc_12⟩
    ·refine ay rfl hc_20 (af (aa (ae (dV (aH 0) 9 data_1) wz rfl (ae (vI a_2) wz rfl (ae (vI b_3) wz rfl (ae (.fn 99 []) wz rfl ?_))))))
     cases hc_12
    ·refine ax rfl hc_20 (au (af (af (aa (ae (vB true) wz rfl (ae (vB false) wz rfl (aj (ax rfl rfl (au (af (aa (ae (dV (aH 0) 9 data_1) wz rfl (ae (vI a_2) wz rfl (ae (vI b_3) wz rfl (ae (.fn 99 []) wz rfl ?_)))))))))))))))
     cases hc_12
 ·rintro s_11 ho_ sl_ H_ hp_ hq_
  subst ho_
  show uC _ _ _ _ _ _ _ _
  obtain rfl:=ah hF
  exact zU (H0:=([((aH 0),gB 9 Alert.enc data_1)]:Hp)) (sl':=envS []) hq_ (Av (bs:=([]:List Box)) (os:=([]:List Box)) (xs:=data_1) (o:=gB 9 Alert.enc data_1) (.inl rfl) [] trivial rfl rfl rfl rfl rfl (by kernel_rfl) pu rfl)
theorem jY {x_1:(List Alert)} {r:(List Alert)} (hF:bS x_1=some r) :
  FnM Tryz.prog 98 [(dV (aH 0) 9 x_1),(.fn 99 [])] (([]:List Box)++gI 9 Alert.enc x_1) (.tup []) (([]:List Box).map some++gT x_1 (gB 9 Alert.enc r)):=by
 refine FnM.of_wHv ⟨Tryz.prog,14,[],[]⟩ rfl Tryz.func98 rfl rfl (Nat.le_of_ble_eq_true rfl) (by kernel_rfl) ?_
 unfold bS at hF
 refine af (aa (ae (dV (aH 0) 9 x_1) wz rfl (DC FN rfl wz (ae (vI (x_1.length:Int)) wz rfl (aj (aa (ae (dV (aH 0) 9 x_1) wz rfl (ae (vI (x_1.length:Int)) wz rfl (ae (vI (x_1.length:Int)) wz rfl (mU un3 Hf rfl wz ?_))))))))))
 obtain ⟨r_3,hr_4,hF⟩:=bind_some hF
 refine aF (rT hr_4) rfl hb167 rfl rfl rfl rfl wz (ae (.fn 99 []) wz rfl ?_)
 obtain ⟨r_5,hr_6,hF⟩:=bind_some hF
 obtain ⟨_,hs_7,hF⟩:=bind_some hF
 replace hs_7:=oD hs_7
 refine pQ 0 [] 0 0 il ft (lF hr_6) rfl hb178 rfl rfl rfl (by kernel_rfl) rfl (.inr (.inl rfl)) rfl (by kernel_rfl) (by kernel_rfl) (by kernel_rfl) (by kernel_rfl) rfl (by decide) (by kernel_rfl) pu (zh hs_7) wz ([((aH 0),gB 9 Alert.enc r_5)]:Hp) (by kernel_rfl) (fU (v':=(dV (aH 0) 9 r_5)) 0 rfl (fG hs_7.symm) (fU (v':=(dV (aH 0) 9 r_5)) 5 rfl (fG hs_7.symm) (fU (v':=(dV (aH 0) 9 r_5)) 7 rfl (fG hs_7.symm) (aj ?_))))
 show uC _ _ _ _ _ _ _ _
 obtain rfl:=ah hF
 exact Av (bs:=([]:List Box)) (os:=([]:List Box)) (xs:=x_1) (o:=gB 9 Alert.enc r_5) (.inl rfl) [] trivial rfl rfl rfl rfl rfl (by kernel_rfl) pu rfl
theorem qZ {s_1:Stream} {most_2:Int} {r:(List Alert)×Stream} (hF:gp s_1 most_2=some r) :
  FnM Tryz.prog 38 [(.ref (aH 0) 0 0),(vI most_2)] [(.cells 2 [(vL eI s_1.L),(vI s_1.f_at)])] (vL Alert.enc r.1) [some (.cells 2 [(vL eI r.2.L),(vI r.2.f_at)])]:=by
 refine FnM.of_wH ⟨Tryz.prog,101,[],[]⟩ rfl Tryz.func38 rfl rfl (Nat.le_of_ble_eq_true rfl) (by kernel_rfl) ?_
 unfold gp at hF
 refine af (aa (ae .nil wz rfl (aj (af (aa (ae .nil wz rfl (aj (af (af (aa (eQ (([(⟨#[97,97]⟩:ByteArray),(⟨#[97,98]⟩:ByteArray),(⟨#[97,99]⟩:ByteArray),(⟨#[97,100]⟩:ByteArray),(⟨#[97,101]⟩:ByteArray),(⟨#[97,102]⟩:ByteArray)]:List ByteArray).map eS) q8 BS rfl rfl rfl rfl rfl wz (ae (.ref (aH 0) 0 0) wz rfl (ae (vI most_2) wz rfl ?_)))))))))))))
 obtain ⟨r_3,hr_4,hF⟩:=bind_some hF
 refine dw 0 [0] il ft (bX hr_4) rfl zJ rfl (by kernel_rfl) (by kernel_rfl) (by kernel_rfl) (by kernel_rfl) (by kernel_rfl) (by kernel_rfl) (by kernel_rfl) (by decide) (by kernel_rfl) wz (vI r_3.1) (by kernel_rfl) ([((aH 0),some (.cells 2 [(vL eI r_3.2.L),(vI r_3.2.f_at)]))]:Hp) (by kernel_rfl) ?_
 obtain ⟨y_6,hy_7,hF⟩:=bind_some hF
 refine zz xu sz9 (fun _=>rfl) rfl rfl hy_7 wz (bO xu rfl wz (ae (vI 0) wz rfl (aj (lT (fun n_14 => ?_)))))
 obtain ⟨o_19,hj_20,hF⟩:=bind_some hF
 obtain ⟨hn_12,hj_20⟩:=aW hj_20
 refine aD (β:=((List Alert)×(List Int)×Int)×Nm) (fun p=>(fun (s_13:(List Alert)×(List Int)×Int) (n_16:Nm)=>([(5,(gV n_16 9 s_13.1))]:List (Nat×V))) p.1 p.2) (fun p=>(fun (s_13:(List Alert)×(List Int)×Int) (n_16:Nm)=>([((aH 0),some (.cells 2 [(vL eI s_13.2.1),(vI s_13.2.2)])),(n_16,gB 9 Alert.enc s_13.1)]:Hp)) p.1 p.2) (fun p=>o_19 = .go p.1) ?_ ?_
 ·refine aA (aV (β:=Nat×(List ByteArray)×((List Alert)×(List Int)×Int)×Nm) (fun p=>(fun (k_8:Nat) (l_9:List ByteArray) (s_13:(List Alert)×(List Int)×Int) (n_16:Nm)=>([(0,(.ref (aH 0) 0 0)),(5,(gV n_16 9 s_13.1)),(15,(vL eS y_6)),(16,(vI (y_6.length:Int))),(17,(vI (k_8:Int)))]:List (Nat×V))) p.1 p.2.1 p.2.2.1 p.2.2.2) (fun p=>(fun (k_8:Nat) (l_9:List ByteArray) (s_13:(List Alert)×(List Int)×Int) (n_16:Nm)=>([((aH 0),some (.cells 2 [(vL eI s_13.2.1),(vI s_13.2.2)])),(n_16,gB 9 Alert.enc s_13.1)]:Hp)) p.1 p.2.1 p.2.2.1 p.2.2.2) (fun p=>forR (fun k x s=>dK k x s) p.2.1 p.1 p.2.2.1=some o_19∧(y_6).drop p.1=p.2.1) (fun p=>p.2.1.length) (0,y_6,(([]:List Alert),r_3.2.L,r_3.2.f_at),n_14) ⟨hj_20,rfl⟩ rfl (aI rfl) ?_)
  rintro ⟨k_8,l_9,s_13,n_16⟩ ⟨hL_18,hD_11⟩
  dsimp only at hL_18 hD_11
  cases l_9 with
  | nil =>
   obtain rfl:=ah hL_18
   refine af (aa (ae (vB (decide ((k_8:Int) < (y_6.length:Int)))) wz rfl (aj ?_)))
   refine af (ax rfl (drop_nil hD_11) (aS ?_))
   exact aO (s_13,n_16) rfl rfl (aI rfl)
  | cons x_10 l_9 =>
   obtain ⟨c_,hc_17,hL_18⟩:=bind_some hL_18
   refine af (aa (ae (vB (decide ((k_8:Int) < (y_6.length:Int)))) wz rfl (aj ?_)))
   refine af (ay rfl (aX hD_11) (au ?_))
   unfold dK at hc_17
   refine af (aA (af (aa (dI q8 rfl rfl (bC hD_11) rfl wz (bG sz9 ag9 rfl (vS x_10) rfl wz (ae (vS x_10) wz rfl (aj (af (aa (ae (vS x_10) wz rfl (ae (.ref (aH 0) 0 0) wz rfl (eQ (([(⟨#[119,120]⟩:ByteArray),(⟨#[119,120]⟩:ByteArray),(⟨#[102,105,114,101]⟩:ByteArray)]:List ByteArray).map eS) q8 BS rfl rfl rfl rfl rfl wz ?_))))))))))))
   obtain ⟨r_21,hr_22,hc_17⟩:=bind_some hc_17
   refine dw 0 [0] il ft (nE hr_22) rfl hb47 rfl (by kernel_rfl) (by kernel_rfl) (by kernel_rfl) (by kernel_rfl) (by kernel_rfl) (by kernel_rfl) (by kernel_rfl) (by decide) (by kernel_rfl) wz (vS r_21.1) (by kernel_rfl) ([((aH 0),some (.cells 2 [(vL eI r_21.2.L),(vI r_21.2.f_at)])),(n_16,gB 9 Alert.enc s_13.1)]:Hp) (by kernel_rfl) (ae (.ref (aH 0) 0 0) wz rfl (eQ (([1,1,2,2,3]:List Int).map eI) nM Di rfl rfl rfl rfl rfl wz ?_))
   obtain ⟨r_24,hr_25,hc_17⟩:=bind_some hc_17
   refine dw 0 [0] il ft (mP hr_25) rfl hb19 rfl (by kernel_rfl) (by kernel_rfl) (by kernel_rfl) (by kernel_rfl) (by kernel_rfl) (by kernel_rfl) (by kernel_rfl) (by decide) (by kernel_rfl) wz (vI r_24.1) (by kernel_rfl) ([((aH 0),some (.cells 2 [(vL eI r_24.2.L),(vI r_24.2.f_at)])),(n_16,gB 9 Alert.enc s_13.1)]:Hp) (by kernel_rfl) (ae (.ref (aH 0) 0 0) wz rfl ?_)
   obtain ⟨r_27,hr_28,hc_17⟩:=bind_some hc_17
   refine dw 0 [0] il ft (bX hr_28) rfl zJ rfl (by kernel_rfl) (by kernel_rfl) (by kernel_rfl) (by kernel_rfl) (by kernel_rfl) (by kernel_rfl) (by kernel_rfl) (by decide) (by kernel_rfl) wz (vI r_27.1) (by kernel_rfl) ([((aH 0),some (.cells 2 [(vL eI r_27.2.L),(vI r_27.2.f_at)])),(n_16,gB 9 Alert.enc s_13.1)]:Hp) (by kernel_rfl) (ae (vI (w64 (r_27.1 * 5))) wz rfl (ae (.ref (aH 0) 0 0) wz rfl (eQ (([1,5,5,9]:List Int).map eI) nM Di rfl rfl rfl rfl rfl wz ?_)))
   obtain ⟨r_30,hr_31,hc_17⟩:=bind_some hc_17
   refine dw 0 [0] il ft (mP hr_31) rfl hb19 rfl (by kernel_rfl) (by kernel_rfl) (by kernel_rfl) (by kernel_rfl) (by kernel_rfl) (by kernel_rfl) (by kernel_rfl) (by decide) (by kernel_rfl) wz (vI r_30.1) (by kernel_rfl) ([((aH 0),some (.cells 2 [(vL eI r_30.2.L),(vI r_30.2.f_at)])),(n_16,gB 9 Alert.enc s_13.1)]:Hp) (by kernel_rfl) (ae (.ref (aH 0) 0 0) wz rfl (eQ (([(⟨#[102,108,111,111,100]⟩:ByteArray),(⟨#[102,105,114,101,32,105,110,32,116,104,101,32,109,97,108,108]⟩:ByteArray)]:List ByteArray).map eS) q8 BS rfl rfl rfl rfl rfl wz ?_))
   obtain ⟨r_33,hr_34,hc_17⟩:=bind_some hc_17
   refine dw 0 [0] il ft (nE hr_34) rfl hb47 rfl (by kernel_rfl) (by kernel_rfl) (by kernel_rfl) (by kernel_rfl) (by kernel_rfl) (by kernel_rfl) (by kernel_rfl) (by decide) (by kernel_rfl) wz (vS r_33.1) (by kernel_rfl) ([((aH 0),some (.cells 2 [(vL eI r_33.2.L),(vI r_33.2.f_at)])),(n_16,gB 9 Alert.enc s_13.1)]:Hp) (by kernel_rfl) (ae (.agg [(vS x_10),(vS r_21.1),(vI r_24.1),.nil,(vI (w64 (r_27.1 * 5))),(vI 0),(vI r_30.1),.nil,(vS r_33.1)]) wz (by kernel_rfl) (dh 0 (.inl rfl) FR rfl wz (fun n_36=>fD 0 il ft 2 gX rfl rfl [(vS x_10),(vS r_21.1),(vI r_24.1),.nil,(vI (w64 (r_27.1 * 5))),(vI 0),(vI r_30.1),.nil,(vS r_33.1)] rfl wz (aj (af (bA (aG jU rfl 4 rfl wz (aC 1 2 (.inr (by kernel_rfl)) (fun _ _ ag=>trivial) sz3 ag3 rfl rfl (vI (w64 (r_27.1 * 5))) rfl wz (ae (.ref (aH 0) 0 0) wz rfl (eQ (([1,10,20,50]:List Int).map eI) nM Di rfl rfl rfl rfl rfl wz ?_))))))))))
   obtain ⟨r_37,hr_38,hc_17⟩:=bind_some hc_17
   refine dw 4 [0] (.inr (by kernel_rfl)) (fun _ _ ag=>by exact⟨.inr (.inl (dis1 (JD ag (i:=0) (j:=2) rfl rfl (by decide)))),trivial⟩) (mP hr_38) rfl hb19 rfl (by kernel_rfl) (by kernel_rfl) (by kernel_rfl) (by kernel_rfl) (by kernel_rfl) (by kernel_rfl) (by kernel_rfl) (by decide) (by kernel_rfl) wz (vI r_37.1) (by kernel_rfl) ([((aH 0),some (.cells 2 [(vL eI r_37.2.L),(vI r_37.2.f_at)])),(n_16,gB 9 Alert.enc s_13.1),(n_36,some (.cells 9 [(vS x_10),(vS r_21.1),(vI r_24.1),.nil,(vI (w64 (r_27.1 * 5))),(vI 0),(vI r_30.1),.nil,(vS r_33.1)]))]:Hp) (by kernel_rfl) (ae (vI (w64 ((w64 (r_27.1 * 5)) + r_37.1))) wz rfl (aG Ep rfl 5 rfl wz (fD 7 (.inr (by kernel_rfl)) (fun _ _ ag=>⟨.inr (.inr (by kernel_rfl)),⟨.inr (.inr (by kernel_rfl)),trivial⟩⟩) 2 sz3 rfl rfl [(vS x_10),(vS r_21.1),(vI r_24.1),.nil,(vI (w64 (r_27.1 * 5))),(vI (w64 ((w64 (r_27.1 * 5)) + r_37.1))),(vI r_30.1),.nil,(vS r_33.1)] rfl wz (aj (aK (H0:=([((aH 0),some (.cells 2 [(vL eI r_37.2.L),(vI r_37.2.f_at)])),(n_16,gB 9 Alert.enc s_13.1),(n_36,some (.cells 9 [(vS x_10),(vS r_21.1),(vI r_24.1),.nil,(vI (w64 (r_27.1 * 5))),(vI (w64 ((w64 (r_27.1 * 5)) + r_37.1))),(vI r_30.1),.nil,(vS r_33.1)]))]:Hp)) ([(0,(.ref (aH 0) 0 0)),(5,(gV n_16 9 s_13.1)),(7,(vS x_10)),(8,(.ref n_36 0 0)),(15,(vL eS y_6)),(16,(vI (y_6.length:Int))),(17,(vI (k_8:Int)))]:List (Nat×V)) (by kernel_rfl) (xk (by kernel_rfl)) (af (af (aa (aG vz rfl 2 rfl wz (aC 0 2 il ft sz3 ag3 rfl rfl (vI r_24.1) rfl wz (ae (vB (r_24.1 != 1)) wz rfl (aj ?_))))))))))))
   obtain ⟨v_42,h_43,hc_17⟩:=bind_some hc_17
   refine aD (β:=Unit) (fun _=>([(0,(.ref (aH 0) 0 0)),(5,(gV n_16 9 s_13.1)),(8,(.ref n_36 0 0)),(15,(vL eS y_6)),(16,(vI (y_6.length:Int))),(17,(vI (k_8:Int)))]:List (Nat×V))) (fun _=>([((aH 0),some (.cells 2 [(vL eI v_42.1),(vI v_42.2.1)])),(n_16,gB 9 Alert.enc s_13.1),(n_36,some (.cells 9 [(vS x_10),(vS r_21.1),(vI r_24.1),(vL eS v_42.2.2),(vI (w64 (r_27.1 * 5))),(vI (w64 ((w64 (r_27.1 * 5)) + r_37.1))),(vI r_30.1),.nil,(vS r_33.1)]))]:Hp)) (fun _=>True) ?_ ?_
   ·rcases ak h_43 with⟨hc_44,h_43⟩ | ⟨hc_44,h_43⟩
    ·refine ay rfl hc_44 (af (af (aa (eQ (([(⟨#[97,97]⟩:ByteArray),(⟨#[97,98]⟩:ByteArray),(⟨#[97,99]⟩:ByteArray),(⟨#[97,100]⟩:ByteArray),(⟨#[122,122]⟩:ByteArray)]:List ByteArray).map eS) q8 BS rfl rfl rfl rfl rfl wz (bO xu rfl wz (ae (vI 0) wz rfl (aj (lT (fun n_51 => ?_)))))))))
     obtain ⟨o_56,hj_57,h_43⟩:=bind_some h_43
     obtain ⟨hn_49,hj_57⟩:=aW hj_57
     refine aD (β:=((List ByteArray)×(List Int)×Int)×Nm) (fun p=>(fun (s_50:(List ByteArray)×(List Int)×Int) (n_53:Nm)=>([(0,(.ref (aH 0) 0 0)),(5,(gV n_16 9 s_13.1)),(8,(.ref n_36 0 0)),(15,(vL eS y_6)),(16,(vI (y_6.length:Int))),(17,(vI (k_8:Int)))]:List (Nat×V))) p.1 p.2) (fun p=>(fun (s_50:(List ByteArray)×(List Int)×Int) (n_53:Nm)=>([((aH 0),some (.cells 2 [(vL eI s_50.2.1),(vI s_50.2.2)])),(n_16,gB 9 Alert.enc s_13.1),(n_36,some (.cells 9 [(vS x_10),(vS r_21.1),(vI r_24.1),(gV n_53 1 s_50.1),(vI (w64 (r_27.1 * 5))),(vI (w64 ((w64 (r_27.1 * 5)) + r_37.1))),(vI r_30.1),.nil,(vS r_33.1)])),(n_53,gB 1 eS s_50.1)]:Hp)) p.1 p.2) (fun p=>o_56 = .go p.1) ?_ ?_
     ·refine aA (aV (β:=Nat×(List ByteArray)×((List ByteArray)×(List Int)×Int)×Nm) (fun p=>(fun (k_45:Nat) (l_46:List ByteArray) (s_50:(List ByteArray)×(List Int)×Int) (n_53:Nm)=>([(0,(.ref (aH 0) 0 0)),(5,(gV n_16 9 s_13.1)),(7,(vS x_10)),(8,(.ref n_36 0 0)),(15,(vL eS y_6)),(16,(vI (y_6.length:Int))),(17,(vI (k_8:Int))),(48,(vL eS ([(⟨#[97,97]⟩:ByteArray),(⟨#[97,98]⟩:ByteArray),(⟨#[97,99]⟩:ByteArray),(⟨#[97,100]⟩:ByteArray),(⟨#[122,122]⟩:ByteArray)]:List ByteArray))),(49,(vI (([(⟨#[97,97]⟩:ByteArray),(⟨#[97,98]⟩:ByteArray),(⟨#[97,99]⟩:ByteArray),(⟨#[97,100]⟩:ByteArray),(⟨#[122,122]⟩:ByteArray)]:List ByteArray).length:Int))),(50,(vI (k_45:Int)))]:List (Nat×V))) p.1 p.2.1 p.2.2.1 p.2.2.2) (fun p=>(fun (k_45:Nat) (l_46:List ByteArray) (s_50:(List ByteArray)×(List Int)×Int) (n_53:Nm)=>([((aH 0),some (.cells 2 [(vL eI s_50.2.1),(vI s_50.2.2)])),(n_16,gB 9 Alert.enc s_13.1),(n_36,some (.cells 9 [(vS x_10),(vS r_21.1),(vI r_24.1),(gV n_53 1 s_50.1),(vI (w64 (r_27.1 * 5))),(vI (w64 ((w64 (r_27.1 * 5)) + r_37.1))),(vI r_30.1),.nil,(vS r_33.1)])),(n_53,gB 1 eS s_50.1)]:Hp)) p.1 p.2.1 p.2.2.1 p.2.2.2) (fun p=>forR (fun k x s=>cZ x_10 k x s) p.2.1 p.1 p.2.2.1=some o_56∧(([(⟨#[97,97]⟩:ByteArray),(⟨#[97,98]⟩:ByteArray),(⟨#[97,99]⟩:ByteArray),(⟨#[97,100]⟩:ByteArray),(⟨#[122,122]⟩:ByteArray)]:List ByteArray)).drop p.1=p.2.1) (fun p=>p.2.1.length) (0,([(⟨#[97,97]⟩:ByteArray),(⟨#[97,98]⟩:ByteArray),(⟨#[97,99]⟩:ByteArray),(⟨#[97,100]⟩:ByteArray),(⟨#[122,122]⟩:ByteArray)]:List ByteArray),(([]:List ByteArray),r_37.2.L,r_37.2.f_at),n_51) ⟨hj_57,rfl⟩ rfl (aI rfl) ?_)
      rintro ⟨k_45,l_46,s_50,n_53⟩ ⟨hL_55,hD_48⟩
      dsimp only at hL_55 hD_48
      cases l_46 with
      | nil =>
       obtain rfl:=ah hL_55
       refine af (aa (ae (vB (decide ((k_45:Int) < (([(⟨#[97,97]⟩:ByteArray),(⟨#[97,98]⟩:ByteArray),(⟨#[97,99]⟩:ByteArray),(⟨#[97,100]⟩:ByteArray),(⟨#[122,122]⟩:ByteArray)]:List ByteArray).length:Int)))) wz rfl (aj ?_)))
       refine af (ax rfl (drop_nil hD_48) (aS ?_))
       exact aO (s_50,n_53) rfl rfl (aI rfl)
      | cons x_47 l_46 =>
       obtain ⟨c_,hc_54,hL_55⟩:=bind_some hL_55
       refine af (aa (ae (vB (decide ((k_45:Int) < (([(⟨#[97,97]⟩:ByteArray),(⟨#[97,98]⟩:ByteArray),(⟨#[97,99]⟩:ByteArray),(⟨#[97,100]⟩:ByteArray),(⟨#[122,122]⟩:ByteArray)]:List ByteArray).length:Int)))) wz rfl (aj ?_)))
       refine af (ay rfl (aX hD_48) (au ?_))
       unfold cZ at hc_54
       refine af (aA (af (aa (dI q8 rfl rfl (bC hD_48) rfl wz (bG sz9 ag9 rfl (vS x_47) rfl wz (ae (vS x_47) wz rfl (aj (af ?_))))))))
       obtain ⟨v_58,h_59,hc_54⟩:=bind_some hc_54
       refine aD (β:=Unit) (fun _=>([(0,(.ref (aH 0) 0 0)),(5,(gV n_16 9 s_13.1)),(7,(vS x_10)),(8,(.ref n_36 0 0)),(10,(vS x_47)),(15,(vL eS y_6)),(16,(vI (y_6.length:Int))),(17,(vI (k_8:Int))),(48,(vL eS ([(⟨#[97,97]⟩:ByteArray),(⟨#[97,98]⟩:ByteArray),(⟨#[97,99]⟩:ByteArray),(⟨#[97,100]⟩:ByteArray),(⟨#[122,122]⟩:ByteArray)]:List ByteArray))),(49,(vI (([(⟨#[97,97]⟩:ByteArray),(⟨#[97,98]⟩:ByteArray),(⟨#[97,99]⟩:ByteArray),(⟨#[97,100]⟩:ByteArray),(⟨#[122,122]⟩:ByteArray)]:List ByteArray).length:Int))),(50,(vI (k_45:Int))),(60,(vB v_58.1))]:List (Nat×V))) (fun _=>([((aH 0),some (.cells 2 [(vL eI v_58.2.1),(vI v_58.2.2)])),(n_16,gB 9 Alert.enc s_13.1),(n_36,some (.cells 9 [(vS x_10),(vS r_21.1),(vI r_24.1),(gV n_53 1 s_50.1),(vI (w64 (r_27.1 * 5))),(vI (w64 ((w64 (r_27.1 * 5)) + r_37.1))),(vI r_30.1),.nil,(vS r_33.1)])),(n_53,gB 1 eS s_50.1)]:Hp)) (fun _=>True) ?_ ?_
       ·refine aa (ae (vS x_47) wz rfl (ae (vS x_10) wz rfl (ae (vB (sNe x_47 x_10)) wz rfl ?_)))
        rcases ak h_59 with⟨hc_60,h_59⟩ | ⟨hc_60,h_59⟩
        ·refine av rfl hc_60 wz (ae (.ref (aH 0) 0 0) wa rfl ?_)
         obtain ⟨r_61,hr_62,h_59⟩:=bind_some h_59
         refine dw 0 [0] il ft (nC hr_62) rfl hb20 rfl (by kernel_rfl) (by kernel_rfl) (by kernel_rfl) (by kernel_rfl) (by kernel_rfl) (by kernel_rfl) (by kernel_rfl) (by decide) (by kernel_rfl) wa (vB r_61.1) (by kernel_rfl) ([((aH 0),some (.cells 2 [(vL eI r_61.2.L),(vI r_61.2.f_at)])),(n_16,gB 9 Alert.enc s_13.1),(n_36,some (.cells 9 [(vS x_10),(vS r_21.1),(vI r_24.1),(gV n_53 1 s_50.1),(vI (w64 (r_27.1 * 5))),(vI (w64 ((w64 (r_27.1 * 5)) + r_37.1))),(vI r_30.1),.nil,(vS r_33.1)])),(n_53,gB 1 eS s_50.1)]:Hp) (by kernel_rfl) (ae (vB r_61.1) wz rfl (aj ?_))
         obtain rfl:=ah h_59
         exact cu
        ·refine av rfl hc_60 wz (ai wa (ai wa (ae (vB false) wz rfl (aj ?_))))
         obtain rfl:=ah h_59
         exact cu
       ·rintro ⟨⟩ _ sl_ H_ hp_ hq_
        refine aK _ hp_ hq_ ?_
        obtain ⟨v_64,h_65,hc_54⟩:=bind_some hc_54
        refine aD (β:=Nm) (fun (n_66:Nm)=>([(0,(.ref (aH 0) 0 0)),(5,(gV n_16 9 s_13.1)),(7,(vS x_10)),(8,(.ref n_36 0 0)),(15,(vL eS y_6)),(16,(vI (y_6.length:Int))),(17,(vI (k_8:Int))),(48,(vL eS ([(⟨#[97,97]⟩:ByteArray),(⟨#[97,98]⟩:ByteArray),(⟨#[97,99]⟩:ByteArray),(⟨#[97,100]⟩:ByteArray),(⟨#[122,122]⟩:ByteArray)]:List ByteArray))),(49,(vI (([(⟨#[97,97]⟩:ByteArray),(⟨#[97,98]⟩:ByteArray),(⟨#[97,99]⟩:ByteArray),(⟨#[97,100]⟩:ByteArray),(⟨#[122,122]⟩:ByteArray)]:List ByteArray).length:Int))),(50,(vI (k_45:Int)))]:List (Nat×V))) (fun (n_66:Nm)=>([((aH 0),some (.cells 2 [(vL eI v_58.2.1),(vI v_58.2.2)])),(n_16,gB 9 Alert.enc s_13.1),(n_36,some (.cells 9 [(vS x_10),(vS r_21.1),(vI r_24.1),(gV n_66 1 v_64),(vI (w64 (r_27.1 * 5))),(vI (w64 ((w64 (r_27.1 * 5)) + r_37.1))),(vI r_30.1),.nil,(vS r_33.1)])),(n_66,gB 1 eS v_64)]:Hp)) (fun _=>True) ?_ ?_
        ·rcases ak h_65 with⟨hc_67,h_65⟩ | ⟨hc_67,h_65⟩
         ·refine ay rfl hc_67 (aa (aG p8 rfl 3 rfl wz (aC 0 2 il ft Bu DD rfl rfl (gV n_53 1 s_50.1) rfl wz (ae (vS x_47) wz rfl (eQ (([x_47]:List ByteArray).map eS) q8 BS rfl rfl rfl rfl rfl wz ?_)))))
          obtain ⟨a_68,hz_69,h_65⟩:=bind_some h_65
          refine jT 0 il ft (i:=3) el79 el79 sz9 z9 rfl (by decide) by9 (by decide) (fun _=>rfl) rfl rfl rfl hz_69 wz (fun n_70=>aG p8 rfl 3 rfl wz (fD 0 il ft 2 Bu rfl rfl [(vS x_10),(vS r_21.1),(vI r_24.1),(gV n_70 1 a_68),(vI (w64 (r_27.1 * 5))),(vI (w64 ((w64 (r_27.1 * 5)) + r_37.1))),(vI r_30.1),.nil,(vS r_33.1)] (stC_g rfl) wz (aj ?_)))
          obtain rfl:=ah h_65
          exact aO n_70 trivial rfl (aI rfl)
         ·refine ax rfl hc_67 (au ?_)
          obtain rfl:=ah h_65
          exact aO n_53 trivial rfl (aI rfl)
        ·rintro n_66 _ sl_ H_ hp_ hq_
         refine aK _ hp_ hq_ (aa (dY (bn hD_48 hn_49) wz rfl (ae (vI ((k_45 + 1:Nat):Int)) wz rfl (aj ?_))))
         obtain rfl:=ah hc_54
         exact aU (k_45 + 1,l_46,(v_64,v_58.2.1,v_58.2.2),n_66) ⟨hL_55,aR hD_48⟩ (Nat.lt_succ_self _) rfl (aI rfl)
     ·rintro ⟨s_50,n_53⟩ ho_ sl_ H_ hp_ hq_
      subst ho_
      refine aK _ hp_ hq_ (af (aa (aG p8 rfl 3 rfl wz (aC 0 2 il ft Bu DD rfl rfl (gV n_53 1 s_50.1) rfl wz (Df xu rfl wz (ae (vB ((s_50.1.length:Int) == 0)) wz rfl (aj ?_)))))))
      rcases ak h_43 with⟨hc_71,h_43⟩ | ⟨hc_71,h_43⟩
      ·refine ay rfl hc_71 (aa (eQ (([(⟨#[122,121]⟩:ByteArray)]:List ByteArray).map eS) q8 BS rfl rfl rfl rfl rfl wz (aG p8 rfl 3 rfl wz (fD 0 il ft 2 Bu rfl rfl [(vS x_10),(vS r_21.1),(vI r_24.1),(vL eS ([(⟨#[122,121]⟩:ByteArray)]:List ByteArray)),(vI (w64 (r_27.1 * 5))),(vI (w64 ((w64 (r_27.1 * 5)) + r_37.1))),(vI r_30.1),.nil,(vS r_33.1)] rfl wz (aj ?_)))))
       obtain rfl:=ah h_43
       exact cu
      ·refine ax rfl hc_71 (gM 3 rfl (dQ 69 3 rfl rfl (wH_coc3 3 2 [false,false,false,true,false,false,false,false,false] [(vS x_10),(vS r_21.1),(vI r_24.1),(vL eS s_50.1),(vI (w64 (r_27.1 * 5))),(vI (w64 ((w64 (r_27.1 * 5)) + r_37.1))),(vI r_30.1),.nil,(vS r_33.1)] rfl rfl rfl (fun S hS=>iQ (rfl) (iQ (rfl) (iQ (rfl) (iQ (hS) (iQ (rfl) (iQ (rfl) (iQ (rfl) (iQ (rfl) (iQ (rfl) (rfl)))))))))) (au ?_))))
       obtain rfl:=ah h_43
       exact cu
    ·refine ax rfl hc_44 (wH_coc1 2 [false,false,false,true,false,false,false,false,false] [(vS x_10),(vS r_21.1),(vI r_24.1),(vL eS ([]:List ByteArray)),(vI (w64 (r_27.1 * 5))),(vI (w64 ((w64 (r_27.1 * 5)) + r_37.1))),(vI r_30.1),.nil,(vS r_33.1)] rfl rfl (fun _=>rfl) (au ?_))
     obtain rfl:=ah h_43
     exact cu
   ·rintro ⟨⟩ _ sl_ H_ hp_ hq_
    refine aK _ hp_ hq_ (af (af (aa (aG vz rfl 2 rfl wz (aC 0 2 il ft sz3 ag3 rfl rfl (vI r_24.1) rfl wz (ae (vB (r_24.1 == 3)) wz rfl (aj (lT (fun n_74 => ?_)))))))))
    obtain ⟨v_75,h_76,hc_17⟩:=bind_some hc_17
    refine aD (β:=Nm) (fun (n_77:Nm)=>([(0,(.ref (aH 0) 0 0)),(5,(gV n_16 9 s_13.1)),(8,(.ref n_36 0 0)),(15,(vL eS y_6)),(16,(vI (y_6.length:Int))),(17,(vI (k_8:Int)))]:List (Nat×V))) (fun (n_77:Nm)=>([((aH 0),some (.cells 2 [(vL eI v_75.2.1),(vI v_75.2.2.1)])),(n_16,gB 9 Alert.enc s_13.1),(n_36,some (.cells 9 [(vS x_10),(vS r_21.1),(vI r_24.1),(vL eS v_42.2.2),(vI (w64 (r_27.1 * 5))),(vI (w64 ((w64 (r_27.1 * 5)) + r_37.1))),(vI r_30.1),(gV n_77 4 v_75.1),(vS v_75.2.2.2)])),(n_77,gB 4 Rect.enc v_75.1)]:Hp)) (fun _=>True) ?_ ?_
    ·rcases ak h_76 with⟨hc_78,h_76⟩ | ⟨hc_78,h_76⟩
     ·refine ay rfl hc_78 (aa (ae (.ref (aH 0) 0 0) wz rfl (eQ (([(⟨#[]⟩:ByteArray),(⟨#[111,118,101,114]⟩:ByteArray)]:List ByteArray).map eS) q8 BS rfl rfl rfl rfl rfl wz ?_)))
      obtain ⟨r_79,hr_80,h_76⟩:=bind_some h_76
      refine dw 0 [0] il ft (nE hr_80) rfl hb47 rfl (by kernel_rfl) (by kernel_rfl) (by kernel_rfl) (by kernel_rfl) (by kernel_rfl) (by kernel_rfl) (by kernel_rfl) (by decide) (by kernel_rfl) wz (vS r_79.1) (by kernel_rfl) ([((aH 0),some (.cells 2 [(vL eI r_79.2.L),(vI r_79.2.f_at)])),(n_16,gB 9 Alert.enc s_13.1),(n_36,some (.cells 9 [(vS x_10),(vS r_21.1),(vI r_24.1),(vL eS v_42.2.2),(vI (w64 (r_27.1 * 5))),(vI (w64 ((w64 (r_27.1 * 5)) + r_37.1))),(vI r_30.1),(gV n_74 4 ([]:List Rect)),(vS r_33.1)])),(n_74,gB 4 Rect.enc ([]:List Rect))]:Hp) (by kernel_rfl) (aG zT rfl 8 rfl wz (fD 0 il ft 2 sz9 rfl rfl [(vS x_10),(vS r_21.1),(vI r_24.1),(vL eS v_42.2.2),(vI (w64 (r_27.1 * 5))),(vI (w64 ((w64 (r_27.1 * 5)) + r_37.1))),(vI r_30.1),(gV n_74 4 ([]:List Rect)),(vS r_79.1)] rfl wz (aj ?_)))
      obtain rfl:=ah h_76
      exact aO n_74 trivial rfl (aI rfl)
     ·refine ax rfl hc_78 (af (aa (ae (.ref (aH 0) 0 0) wz rfl ?_)))
      obtain ⟨r_82,hr_83,h_76⟩:=bind_some h_76
      refine dw 0 [0] il ft (bX hr_83) rfl zJ rfl (by kernel_rfl) (by kernel_rfl) (by kernel_rfl) (by kernel_rfl) (by kernel_rfl) (by kernel_rfl) (by kernel_rfl) (by decide) (by kernel_rfl) wz (vI r_82.1) (by kernel_rfl) ([((aH 0),some (.cells 2 [(vL eI r_82.2.L),(vI r_82.2.f_at)])),(n_16,gB 9 Alert.enc s_13.1),(n_36,some (.cells 9 [(vS x_10),(vS r_21.1),(vI r_24.1),(vL eS v_42.2.2),(vI (w64 (r_27.1 * 5))),(vI (w64 ((w64 (r_27.1 * 5)) + r_37.1))),(vI r_30.1),(gV n_74 4 ([]:List Rect)),(vS r_33.1)])),(n_74,gB 4 Rect.enc ([]:List Rect))]:Hp) (by kernel_rfl) (ae (vI 0) wz rfl (aj ?_))
      obtain ⟨o_95,hj_96,h_76⟩:=bind_some h_76
      obtain ⟨hn_89,hj_96⟩:=aW hj_96
      refine aD (β:=((List Rect)×(List Int)×Int)×Nm) (fun p=>(fun (s_90:(List Rect)×(List Int)×Int) (n_92:Nm)=>([(0,(.ref (aH 0) 0 0)),(5,(gV n_16 9 s_13.1)),(8,(.ref n_36 0 0)),(15,(vL eS y_6)),(16,(vI (y_6.length:Int))),(17,(vI (k_8:Int)))]:List (Nat×V))) p.1 p.2) (fun p=>(fun (s_90:(List Rect)×(List Int)×Int) (n_92:Nm)=>([((aH 0),some (.cells 2 [(vL eI s_90.2.1),(vI s_90.2.2)])),(n_16,gB 9 Alert.enc s_13.1),(n_36,some (.cells 9 [(vS x_10),(vS r_21.1),(vI r_24.1),(vL eS v_42.2.2),(vI (w64 (r_27.1 * 5))),(vI (w64 ((w64 (r_27.1 * 5)) + r_37.1))),(vI r_30.1),(gV n_92 4 s_90.1),(vS r_33.1)])),(n_92,gB 4 Rect.enc s_90.1)]:Hp)) p.1 p.2) (fun p=>o_95 = .go p.1) ?_ ?_
      ·refine aA (aV (β:=Nat×(List Nat)×((List Rect)×(List Int)×Int)×Nm) (fun p=>(fun (k_85:Nat) (l_86:List Nat) (s_90:(List Rect)×(List Int)×Int) (n_92:Nm)=>([(0,(.ref (aH 0) 0 0)),(5,(gV n_16 9 s_13.1)),(8,(.ref n_36 0 0)),(15,(vL eS y_6)),(16,(vI (y_6.length:Int))),(17,(vI (k_8:Int))),(82,(vI r_82.1)),(83,(vI (k_85:Int)))]:List (Nat×V))) p.1 p.2.1 p.2.2.1 p.2.2.2) (fun p=>(fun (k_85:Nat) (l_86:List Nat) (s_90:(List Rect)×(List Int)×Int) (n_92:Nm)=>([((aH 0),some (.cells 2 [(vL eI s_90.2.1),(vI s_90.2.2)])),(n_16,gB 9 Alert.enc s_13.1),(n_36,some (.cells 9 [(vS x_10),(vS r_21.1),(vI r_24.1),(vL eS v_42.2.2),(vI (w64 (r_27.1 * 5))),(vI (w64 ((w64 (r_27.1 * 5)) + r_37.1))),(vI r_30.1),(gV n_92 4 s_90.1),(vS r_33.1)])),(n_92,gB 4 Rect.enc s_90.1)]:Hp)) p.1 p.2.1 p.2.2.1 p.2.2.2) (fun p=>forR (fun k x s=>cO k x s) p.2.1 p.1 p.2.2.1=some o_95∧((List.range (r_82.1).toNat)).drop p.1=p.2.1) (fun p=>p.2.1.length) (0,(List.range (r_82.1).toNat),(([]:List Rect),r_82.2.L,r_82.2.f_at),n_74) ⟨hj_96,rfl⟩ rfl (aI rfl) ?_)
       rintro ⟨k_85,l_86,s_90,n_92⟩ ⟨hL_94,hD_88⟩
       dsimp only at hL_94 hD_88
       cases l_86 with
       | nil =>
        obtain rfl:=ah hL_94
        refine af (aa (ae (vB (decide ((k_85:Int) < r_82.1))) wz rfl (aj ?_)))
        refine af (ax rfl (CL hD_88) (aS ?_))
        exact aO (s_90,n_92) rfl rfl (aI rfl)
       | cons x_87 l_86 =>
        obtain ⟨c_,hc_93,hL_94⟩:=bind_some hL_94
        refine af (aa (ae (vB (decide ((k_85:Int) < r_82.1))) wz rfl (aj ?_)))
        refine af (ay rfl (Bi hD_88) (au ?_))
        unfold cO at hc_93
        refine af (aA (bA (aG vH rfl 7 rfl wz (aC 1 2 (.inr (by kernel_rfl)) (fun _ _ ag=>trivial) FT Gi rfl rfl (gV n_92 4 s_90.1) rfl wz (ae (.ref (aH 0) 0 0) wz rfl ?_)))))
        obtain ⟨r_97,hr_98,hc_93⟩:=bind_some hc_93
        refine dw 3 [0] (.inr (by kernel_rfl)) (fun _ _ ag=>by exact⟨.inr (.inl (dis1 (JD ag (i:=0) (j:=2) rfl rfl (by decide)))),trivial⟩) (ug hr_98) rfl hb97 rfl (by kernel_rfl) (by kernel_rfl) (by kernel_rfl) (by kernel_rfl) (by kernel_rfl) (by kernel_rfl) (by kernel_rfl) (by decide) (by kernel_rfl) wz (.d (.agg (Rect.enc r_97.1))) (by kernel_rfl) ([((aH 0),some (.cells 2 [(vL eI r_97.2.L),(vI r_97.2.f_at)])),(n_16,gB 9 Alert.enc s_13.1),(n_36,some (.cells 9 [(vS x_10),(vS r_21.1),(vI r_24.1),(vL eS v_42.2.2),(vI (w64 (r_27.1 * 5))),(vI (w64 ((w64 (r_27.1 * 5)) + r_37.1))),(vI r_30.1),(gV n_92 4 s_90.1),(vS r_33.1)])),(n_92,gB 4 Rect.enc s_90.1)]:Hp) (by kernel_rfl) (eQ (([r_97.1]:List Rect).map Rect.enc) Cj ez98 rfl rfl rfl rfl rfl wz ?_)
        obtain ⟨a_100,hz_101,hc_93⟩:=bind_some hc_93
        refine jT 5 (.inr (by kernel_rfl)) (fun _ _ ag=>⟨.inr (.inr (by kernel_rfl)),⟨.inr (.inr (by kernel_rfl)),trivial⟩⟩) (i:=3) C9 C9 rF z45 rfl (by decide) by45 (by decide) (fun _=>rfl) rfl rfl rfl hz_101 wz (fun n_102=>aG vH rfl 7 rfl wz (fD 7 (.inr (by kernel_rfl)) (fun _ _ ag=>⟨.inr (.inr (by kernel_rfl)),⟨.inr (.inr (by kernel_rfl)),⟨.inr (.inr (by kernel_rfl)),trivial⟩⟩⟩) 2 FT rfl rfl [(vS x_10),(vS r_21.1),(vI r_24.1),(vL eS v_42.2.2),(vI (w64 (r_27.1 * 5))),(vI (w64 ((w64 (r_27.1 * 5)) + r_37.1))),(vI r_30.1),(gV n_102 4 a_100),(vS r_33.1)] (stC_g rfl) wz (aj (aa (dY (Cq hD_88 hn_89) wz rfl (ae (vI ((k_85 + 1:Nat):Int)) wz rfl (aj ?_)))))))
        obtain rfl:=ah hc_93
        exact aU (k_85 + 1,l_86,(a_100,r_97.2.L,r_97.2.f_at),n_102) ⟨hL_94,aR hD_88⟩ (Nat.lt_succ_self _) rfl (aI rfl)
      ·rintro ⟨s_90,n_92⟩ ho_ sl_ H_ hp_ hq_
       subst ho_
       obtain rfl:=ah h_76
       exact aO n_92 trivial (Iw [0,1,2,3,4,5] hp_ rfl) (JP hq_ (aI rfl))
    ·rintro n_77 _ sl_ H_ hp_ hq_
     refine aK _ hp_ hq_ (gM 3 rfl (wH_coc 3 2 [(vS x_10),(vS r_21.1),(vI r_24.1),(vL eS v_42.2.2),(vI (w64 (r_27.1 * 5))),(vI (w64 ((w64 (r_27.1 * 5)) + r_37.1))),(vI r_30.1),(vL Rect.enc v_75.1),(vS v_75.2.2.2)] rfl rfl (fun S hS=>iQ (rfl) (iQ (rfl) (iQ (rfl) (iQ (rfl) (iQ (rfl) (iQ (rfl) (iQ (rfl) (iQ (hS) (iQ (rfl) (rfl)))))))))) (aa (ae (gV n_16 9 s_13.1) wz rfl (aC 0 2 il ft gX kC rfl rfl (.d (.agg (Alert.enc (⟨x_10,r_21.1,r_24.1,v_42.2.2,(w64 (r_27.1 * 5)),(w64 ((w64 (r_27.1 * 5)) + r_37.1)),r_30.1,v_75.1,v_75.2.2.2⟩:Alert)))) rfl wz (eQ (([(⟨x_10,r_21.1,r_24.1,v_42.2.2,(w64 (r_27.1 * 5)),(w64 ((w64 (r_27.1 * 5)) + r_37.1)),r_30.1,v_75.1,v_75.2.2.2⟩:Alert)]:List Alert).map Alert.enc) uF ez56 rfl rfl rfl rfl rfl wz ?_))))))
     obtain ⟨a_103,hz_104,hc_17⟩:=bind_some hc_17
     refine jT 0 il ft (i:=1) el56 el56 gX FR rfl (by decide) by100 (by decide) (fun _=>rfl) rfl rfl rfl hz_104 wz (fun n_105=>ae (gV n_105 9 a_103) wz rfl (aj (aa (dY (bn hD_11 hn_12) wz rfl (ae (vI ((k_8 + 1:Nat):Int)) wz rfl (aj ?_))))))
     obtain rfl:=ah hc_17
     exact aU (k_8 + 1,l_9,(a_103,v_75.2.1,v_75.2.2.1),n_105) ⟨hL_18,aR hD_11⟩ (Nat.lt_succ_self _) rfl (aI rfl)
 ·rintro ⟨s_13,n_16⟩ ho_ sl_ H_ hp_ hq_
  subst ho_
  refine aK _ hp_ hq_ (af (aa (ae (gV n_16 9 s_13.1) wz rfl ?_)))
  obtain ⟨r_106,hr_107,hF⟩:=bind_some hF
  obtain ⟨_,hs_108,hF⟩:=bind_some hF
  replace hs_108:=oD hs_108
  refine pQ 0 [] 1 0 il ft (jY hr_107) rfl hb98 rfl rfl rfl (by kernel_rfl) rfl (.inl rfl) rfl (by kernel_rfl) (by kernel_rfl) (by kernel_rfl) (by kernel_rfl) rfl (by decide) (by kernel_rfl) pu (zh hs_108) wz ([((aH 0),some (.cells 2 [(vL eI s_13.2.1),(vI s_13.2.2)])),(n_16,gB 9 Alert.enc r_106)]:Hp) (by kernel_rfl) (fU (v':=(gV n_16 9 r_106)) 5 rfl (lc hs_108.symm) (fU (v':=(gV n_16 9 r_106)) 98 rfl (lc hs_108.symm) (aj (af (aa (ae (gV n_16 9 r_106) wz rfl (ae (gV n_16 9 r_106) wz rfl (aj (gM 1 rfl (dQ 4 1 rfl rfl (dQ 5 1 rfl rfl (dQ 98 1 rfl rfl (dQ 100 1 rfl rfl ?_)))))))))))))
  obtain rfl:=ah hF
  exact aB (xC (.inr rfl) [(vL Alert.enc r_106)] _ [0] [aH 0] ⟨rfl,trivial⟩ (.cons (iZ rfl rfl) (.nil)) (by kernel_rfl) ⟨(by kernel_rfl),trivial⟩ (by decide) (by kernel_rfl))
theorem rM {s_1:Stream} {r:(List Post)×Stream} (hF:gQ s_1=some r) :
  FnM Tryz.prog 39 [(.ref (aH 0) 0 0)] [(.cells 2 [(vL eI s_1.L),(vI s_1.f_at)])] (vL Post.enc r.1) [some (.cells 2 [(vL eI r.2.L),(vI r.2.f_at)])]:=by
 refine FnM.of_wH ⟨Tryz.prog,26,[],[]⟩ rfl Tryz.func39 rfl rfl (Nat.le_of_ble_eq_true rfl) (by kernel_rfl) ?_
 unfold gQ at hF
 refine af (aa (ae .nil wz rfl (aj (af (aa (ae .nil wz rfl (aj (af (af (aa (eQ (([(⟨#[112,97]⟩:ByteArray),(⟨#[112,98]⟩:ByteArray),(⟨#[112,99]⟩:ByteArray)]:List ByteArray).map eS) q8 BS rfl rfl rfl rfl rfl wz (bO xu rfl wz (ae (vI 0) wz rfl (aj (lT (fun n_8 => ?_))))))))))))))))
 obtain ⟨o_13,hj_14,hF⟩:=bind_some hF
 obtain ⟨hn_6,hj_14⟩:=aW hj_14
 refine aD (β:=((List Post)×(List Int)×Int)×Nm) (fun p=>(fun (s_7:(List Post)×(List Int)×Int) (n_10:Nm)=>([(3,(gV n_10 3 s_7.1))]:List (Nat×V))) p.1 p.2) (fun p=>(fun (s_7:(List Post)×(List Int)×Int) (n_10:Nm)=>([((aH 0),some (.cells 2 [(vL eI s_7.2.1),(vI s_7.2.2)])),(n_10,gB 3 Post.enc s_7.1)]:Hp)) p.1 p.2) (fun p=>o_13 = .go p.1) ?_ ?_
 ·refine aA (aV (β:=Nat×(List ByteArray)×((List Post)×(List Int)×Int)×Nm) (fun p=>(fun (k_2:Nat) (l_3:List ByteArray) (s_7:(List Post)×(List Int)×Int) (n_10:Nm)=>([(0,(.ref (aH 0) 0 0)),(3,(gV n_10 3 s_7.1)),(6,(vL eS ([(⟨#[112,97]⟩:ByteArray),(⟨#[112,98]⟩:ByteArray),(⟨#[112,99]⟩:ByteArray)]:List ByteArray))),(7,(vI (([(⟨#[112,97]⟩:ByteArray),(⟨#[112,98]⟩:ByteArray),(⟨#[112,99]⟩:ByteArray)]:List ByteArray).length:Int))),(8,(vI (k_2:Int)))]:List (Nat×V))) p.1 p.2.1 p.2.2.1 p.2.2.2) (fun p=>(fun (k_2:Nat) (l_3:List ByteArray) (s_7:(List Post)×(List Int)×Int) (n_10:Nm)=>([((aH 0),some (.cells 2 [(vL eI s_7.2.1),(vI s_7.2.2)])),(n_10,gB 3 Post.enc s_7.1)]:Hp)) p.1 p.2.1 p.2.2.1 p.2.2.2) (fun p=>forR (fun k x s=>dS k x s) p.2.1 p.1 p.2.2.1=some o_13∧(([(⟨#[112,97]⟩:ByteArray),(⟨#[112,98]⟩:ByteArray),(⟨#[112,99]⟩:ByteArray)]:List ByteArray)).drop p.1=p.2.1) (fun p=>p.2.1.length) (0,([(⟨#[112,97]⟩:ByteArray),(⟨#[112,98]⟩:ByteArray),(⟨#[112,99]⟩:ByteArray)]:List ByteArray),(([]:List Post),s_1.L,s_1.f_at),n_8) ⟨hj_14,rfl⟩ rfl (aI rfl) ?_)
  rintro ⟨k_2,l_3,s_7,n_10⟩ ⟨hL_12,hD_5⟩
  dsimp only at hL_12 hD_5
  cases l_3 with
  | nil =>
   obtain rfl:=ah hL_12
   refine af (aa (ae (vB (decide ((k_2:Int) < (([(⟨#[112,97]⟩:ByteArray),(⟨#[112,98]⟩:ByteArray),(⟨#[112,99]⟩:ByteArray)]:List ByteArray).length:Int)))) wz rfl (aj ?_)))
   refine af (ax rfl (drop_nil hD_5) (aS ?_))
   exact aO (s_7,n_10) rfl rfl (aI rfl)
  | cons x_4 l_3 =>
   obtain ⟨c_,hc_11,hL_12⟩:=bind_some hL_12
   refine af (aa (ae (vB (decide ((k_2:Int) < (([(⟨#[112,97]⟩:ByteArray),(⟨#[112,98]⟩:ByteArray),(⟨#[112,99]⟩:ByteArray)]:List ByteArray).length:Int)))) wz rfl (aj ?_)))
   refine af (ay rfl (aX hD_5) (au ?_))
   unfold dS at hc_11
   refine af (aA (af (aa (dI q8 rfl rfl (bC hD_5) rfl wz (bG sz9 ag9 rfl (vS x_4) rfl wz (ae (vS x_4) wz rfl (aj (af (aa (ae (.ref (aH 0) 0 0) wz rfl ?_))))))))))
   obtain ⟨r_15,hr_16,hc_11⟩:=bind_some hc_11
   refine dw 0 [0] il ft (nC hr_16) rfl hb20 rfl (by kernel_rfl) (by kernel_rfl) (by kernel_rfl) (by kernel_rfl) (by kernel_rfl) (by kernel_rfl) (by kernel_rfl) (by decide) (by kernel_rfl) wz (vB r_15.1) (by kernel_rfl) ([((aH 0),some (.cells 2 [(vL eI r_15.2.L),(vI r_15.2.f_at)])),(n_10,gB 3 Post.enc s_7.1)]:Hp) (by kernel_rfl) (ae (vB (!r_15.1)) wz rfl (aj ?_))
   obtain ⟨v_18,h_19,hc_11⟩:=bind_some hc_11
   refine aD (β:=Nm) (fun (n_20:Nm)=>([(0,(.ref (aH 0) 0 0)),(3,(gV n_20 3 v_18.1)),(6,(vL eS ([(⟨#[112,97]⟩:ByteArray),(⟨#[112,98]⟩:ByteArray),(⟨#[112,99]⟩:ByteArray)]:List ByteArray))),(7,(vI (([(⟨#[112,97]⟩:ByteArray),(⟨#[112,98]⟩:ByteArray),(⟨#[112,99]⟩:ByteArray)]:List ByteArray).length:Int))),(8,(vI (k_2:Int)))]:List (Nat×V))) (fun (n_20:Nm)=>([((aH 0),some (.cells 2 [(vL eI v_18.2.1),(vI v_18.2.2)])),(n_20,gB 3 Post.enc v_18.1)]:Hp)) (fun _=>True) ?_ ?_
   ·rcases ak h_19 with⟨hc_21,h_19⟩ | ⟨hc_21,h_19⟩
    ·refine ay rfl hc_21 (aa (ae (gV n_10 3 s_7.1) wz rfl (ae (vS x_4) wz rfl (ae (.ref (aH 0) 0 0) wz rfl ?_))))
     obtain ⟨r_22,hr_23,h_19⟩:=bind_some h_19
     refine dw 0 [0] il ft (bX hr_23) rfl zJ rfl (by kernel_rfl) (by kernel_rfl) (by kernel_rfl) (by kernel_rfl) (by kernel_rfl) (by kernel_rfl) (by kernel_rfl) (by decide) (by kernel_rfl) wz (vI r_22.1) (by kernel_rfl) ([((aH 0),some (.cells 2 [(vL eI r_22.2.L),(vI r_22.2.f_at)])),(n_10,gB 3 Post.enc s_7.1)]:Hp) (by kernel_rfl) (ae (.ref (aH 0) 0 0) wz rfl ?_)
     obtain ⟨r_25,hr_26,h_19⟩:=bind_some h_19
     refine dw 0 [0] il ft (bX hr_26) rfl zJ rfl (by kernel_rfl) (by kernel_rfl) (by kernel_rfl) (by kernel_rfl) (by kernel_rfl) (by kernel_rfl) (by kernel_rfl) (by decide) (by kernel_rfl) wz (vI r_25.1) (by kernel_rfl) ([((aH 0),some (.cells 2 [(vL eI r_25.2.L),(vI r_25.2.f_at)])),(n_10,gB 3 Post.enc s_7.1)]:Hp) (by kernel_rfl) (ae (.d (.agg (Post.enc (⟨x_4,r_22.1,r_25.1⟩:Post)))) wz (by kernel_rfl) (eQ (([(⟨x_4,r_22.1,r_25.1⟩:Post)]:List Post).map Post.enc) Er ez63 rfl rfl rfl rfl rfl wz ?_))
     obtain ⟨a_28,hz_29,h_19⟩:=bind_some h_19
     refine jT 0 il ft (i:=1) el63 el63 wZ z66 rfl (by decide) by66 (by decide) (fun _=>rfl) rfl rfl rfl hz_29 wz (fun n_30=>ae (gV n_30 3 a_28) wz rfl (aj ?_))
     obtain rfl:=ah h_19
     exact aO n_30 trivial rfl (aI rfl)
    ·refine ax rfl hc_21 (au ?_)
     obtain rfl:=ah h_19
     exact aO n_10 trivial rfl (aI rfl)
   ·rintro n_20 _ sl_ H_ hp_ hq_
    refine aK _ hp_ hq_ (aa (dY (bn hD_5 hn_6) wz rfl (ae (vI ((k_2 + 1:Nat):Int)) wz rfl (aj ?_))))
    obtain rfl:=ah hc_11
    exact aU (k_2 + 1,l_3,(v_18.1,v_18.2.1,v_18.2.2),n_20) ⟨hL_12,aR hD_5⟩ (Nat.lt_succ_self _) rfl (aI rfl)
 ·rintro ⟨s_7,n_10⟩ ho_ sl_ H_ hp_ hq_
  subst ho_
  refine aK _ hp_ hq_ (af (aa (ae (gV n_10 3 s_7.1) wz rfl (ae (gV n_10 3 s_7.1) wz rfl (aj (gM 1 rfl (dQ 2 1 rfl rfl (dQ 3 1 rfl rfl (dQ 25 1 rfl rfl ?_)))))))))
  obtain rfl:=ah hF
  exact aB (xC (.inr rfl) [(vL Post.enc s_7.1)] _ [0] [aH 0] ⟨rfl,trivial⟩ (.cons (iZ rfl rfl) (.nil)) (by kernel_rfl) ⟨(by kernel_rfl),trivial⟩ (by decide) (by kernel_rfl))
theorem eB {s_1:ByteArray} {r:Bool} (hF:kit_IsKey s_1=some r) :
  FnM Tryz.prog 125 [(vS s_1)] [] (vB r) []:=by
 refine FnM.of_wH ⟨Tryz.prog,48,[],[]⟩ rfl Tryz.func125 rfl rfl (Nat.le_of_ble_eq_true rfl) (by kernel_rfl) ?_
 unfold kit_IsKey at hF
 refine af (aa (ae (vB false) wz rfl (aj (af (af (aa (ae (vI 0) wz rfl (aj ?_))))))))
 obtain ⟨o_10,hj_11,hF⟩:=bind_some hF
 obtain ⟨nq_33,hj_11⟩:=dB hj_11
 refine aD (β:=(Int)) (fun (s_7:Int)=>([(0,(vS s_1))]:List (Nat×V))) (fun (s_7:Int)=>([]:Hp)) (fun p=>o_10 = .go p) ?_ ?_
 ·refine aA (aV (β:=Nat×(Int)) (fun p=>(fun (k_2:Nat) (s_7:Int)=>([(0,(vS s_1)),(3,(vI s_7))]:List (Nat×V))) p.1 p.2) (fun p=>(fun (k_2:Nat) (s_7:Int)=>([]:Hp)) p.1 p.2) (fun p=>iterN (fun s=>jf s_1 s) p.1 p.2=some o_10) (fun p=>p.1) (nq_33,0) hj_11 rfl (aI rfl) ?_)
  rintro ⟨k_2,s_7⟩ hL_9
  dsimp only at hL_9
  cases k_2 with
  | zero=>cases hL_9
  | succ k_2 =>
   obtain ⟨c_,hc_8,hL_9⟩:=bind_some hL_9
   unfold jf at hc_8
   refine af (af (aa (ae (vI s_7) wz rfl (ae (vS s_1) wz rfl (nU un9 rfl wz (ae (vB (decide (s_7 < (s_1.size:Int)))) wz rfl (aj ?_)))))))
   rcases ak hc_8 with⟨hc_12,hc_8⟩ | ⟨hc_12,hc_8⟩
   ·refine ay rfl hc_12 (au (af (aA (af (aa (ae (vS s_1) wz rfl (ae (vI s_7) wz rfl ?_)))))))
    obtain ⟨b_13,hy_14,hc_8⟩:=bind_some hc_8
    refine kz un9 rfl rfl hy_14 wz (ae (.d (.int .u8 (b_13.toNat:Int))) wz rfl (aj (af ?_)))
    obtain ⟨v_15,h_16,hc_8⟩:=bind_some hc_8
    refine aD (β:=Unit) (fun _=>([(0,(vS s_1)),(3,(vI s_7)),(40,(vB v_15))]:List (Nat×V))) (fun _=>([]:Hp)) (fun _=>True) ?_ ?_
    ·refine aa (ae (.d (.int .u8 (b_13.toNat:Int))) wz rfl (ae (vB (decide ((b_13.toNat:Int)≥97))) wz rfl ?_))
     rcases ak h_16 with⟨hc_17,h_16⟩ | ⟨hc_17,h_16⟩
     ·refine av rfl hc_17 wz (ae (.d (.int .u8 (b_13.toNat:Int))) wa rfl (ae (vB (decide ((b_13.toNat:Int)≤122))) wa rfl (ae (vB (decide ((b_13.toNat:Int)≤122))) wz rfl ?_)))
      rcases ak h_16 with⟨hc_18,h_16⟩ | ⟨hc_18,h_16⟩
      ·refine av rfl hc_18 wz (ai wa (ai wa (ai wa (ai (wn rfl rfl) (ai (wn rfl rfl) (ai (wn rfl rfl) (ai (wn rfl rfl) (ai (wn rfl rfl) (ai (wn rfl rfl) (ai (wn rfl rfl) (ai (wn rfl rfl) (ai (wn rfl rfl) (ai (wn rfl rfl) (ai (wn rfl rfl) (ai (wn rfl rfl) (ai (wn rfl rfl) (ai (wn rfl rfl) (ai wa (ae (vB true) wz rfl (ae (vB false) wz rfl (aj ?_)))))))))))))))))))))
       obtain rfl:=ah h_16
       exact cu
      ·refine av rfl hc_18 wz (ae (vI s_7) wa rfl (ae (vB (decide (s_7 > 0))) wa rfl ?_))
       rcases ak h_16 with⟨hc_19,h_16⟩ | ⟨hc_19,h_16⟩
       ·refine av rfl hc_19 wa (ae (.d (.int .u8 (b_13.toNat:Int))) wa rfl (ae (vB (decide ((b_13.toNat:Int)≥48))) wa rfl ?_))
        rcases ak h_16 with⟨hc_20,h_16⟩ | ⟨hc_20,h_16⟩
        ·refine av rfl hc_20 wa (ae (.d (.int .u8 (b_13.toNat:Int))) wa rfl (ae (vB (decide ((b_13.toNat:Int)≤57))) wa rfl (ae (vB (decide ((b_13.toNat:Int)≤57))) wa rfl ?_)))
         rcases ak h_16 with⟨hc_21,h_16⟩ | ⟨hc_21,h_16⟩
         ·refine av rfl hc_21 wa (ai wa (ai wa (ae (vB true) wa rfl (ae (vB true) wa rfl (ai wa (ai wa (ae (vB true) wa rfl (ae (vB true) wa rfl (ae (vB true) wz rfl (ae (vB false) wz rfl (aj ?_)))))))))))
          obtain rfl:=ah h_16
          exact cu
         ·refine av rfl hc_21 wa (ae (.d (.int .u8 (b_13.toNat:Int))) wa rfl (ae (vB ((b_13.toNat:Int) == 45)) wa rfl (ae (vB ((b_13.toNat:Int) == 45)) wa rfl ?_)))
          rcases ak h_16 with⟨hc_22,h_16⟩ | ⟨hc_22,h_16⟩
          ·refine av rfl hc_22 wa (ai wa (ai wa (ae (vB true) wa rfl (ae (vB true) wa rfl (ae (vB true) wz rfl (ae (vB false) wz rfl (aj ?_)))))))
           obtain rfl:=ah h_16
           exact cu
          ·refine av rfl hc_22 wa (ae (.d (.int .u8 (b_13.toNat:Int))) wa rfl (ae (vB ((b_13.toNat:Int) == 95)) wa rfl (ae (vB ((b_13.toNat:Int) == 95)) wa rfl (ae (vB ((b_13.toNat:Int) == 95)) wa rfl (ae (vB ((b_13.toNat:Int) == 95)) wz rfl (ae (vB (!((b_13.toNat:Int) == 95))) wz rfl (aj ?_)))))))
           obtain rfl:=ah h_16
           exact cu
        ·refine av rfl hc_20 wa (ai wa (ai wa (ae (vB false) wa rfl (ae (vB false) wa rfl (ae (.d (.int .u8 (b_13.toNat:Int))) wa rfl (ae (vB ((b_13.toNat:Int) == 45)) wa rfl (ae (vB ((b_13.toNat:Int) == 45)) wa rfl ?_)))))))
         rcases ak h_16 with⟨hc_23,h_16⟩ | ⟨hc_23,h_16⟩
         ·refine av rfl hc_23 wa (ai wa (ai wa (ae (vB true) wa rfl (ae (vB true) wa rfl (ae (vB true) wz rfl (ae (vB false) wz rfl (aj ?_)))))))
          obtain rfl:=ah h_16
          exact cu
         ·refine av rfl hc_23 wa (ae (.d (.int .u8 (b_13.toNat:Int))) wa rfl (ae (vB ((b_13.toNat:Int) == 95)) wa rfl (ae (vB ((b_13.toNat:Int) == 95)) wa rfl (ae (vB ((b_13.toNat:Int) == 95)) wa rfl (ae (vB ((b_13.toNat:Int) == 95)) wz rfl (ae (vB (!((b_13.toNat:Int) == 95))) wz rfl (aj ?_)))))))
          obtain rfl:=ah h_16
          exact cu
       ·refine av rfl hc_19 wa (ai wa (ai wa (ai wa (ai (wn rfl rfl) (ai (wn rfl rfl) (ai wa (ai wa (ai (wn rfl rfl) (ai (wn rfl rfl) (ai wa (ai wa (ai (wn rfl rfl) (ai (wn rfl rfl) (ai wa (ae (vB false) wa rfl (ae (vB false) wz rfl (ae (vB true) wz rfl (aj ?_))))))))))))))))))
        obtain rfl:=ah h_16
        exact cu
     ·refine av rfl hc_17 wz (ai wa (ai wa (ae (vB false) wz rfl (ae (vB false) wz rfl (ae (vI s_7) wa rfl (ae (vB (decide (s_7 > 0))) wa rfl ?_))))))
      rcases ak h_16 with⟨hc_24,h_16⟩ | ⟨hc_24,h_16⟩
      ·refine av rfl hc_24 wa (ae (.d (.int .u8 (b_13.toNat:Int))) wa rfl (ae (vB (decide ((b_13.toNat:Int)≥48))) wa rfl ?_))
       rcases ak h_16 with⟨hc_25,h_16⟩ | ⟨hc_25,h_16⟩
       ·refine av rfl hc_25 wa (ae (.d (.int .u8 (b_13.toNat:Int))) wa rfl (ae (vB (decide ((b_13.toNat:Int)≤57))) wa rfl (ae (vB (decide ((b_13.toNat:Int)≤57))) wa rfl ?_)))
        rcases ak h_16 with⟨hc_26,h_16⟩ | ⟨hc_26,h_16⟩
        ·refine av rfl hc_26 wa (ai wa (ai wa (ae (vB true) wa rfl (ae (vB true) wa rfl (ai wa (ai wa (ae (vB true) wa rfl (ae (vB true) wa rfl (ae (vB true) wz rfl (ae (vB false) wz rfl (aj ?_)))))))))))
         obtain rfl:=ah h_16
         exact cu
        ·refine av rfl hc_26 wa (ae (.d (.int .u8 (b_13.toNat:Int))) wa rfl (ae (vB ((b_13.toNat:Int) == 45)) wa rfl (ae (vB ((b_13.toNat:Int) == 45)) wa rfl ?_)))
         rcases ak h_16 with⟨hc_27,h_16⟩ | ⟨hc_27,h_16⟩
         ·refine av rfl hc_27 wa (ai wa (ai wa (ae (vB true) wa rfl (ae (vB true) wa rfl (ae (vB true) wz rfl (ae (vB false) wz rfl (aj ?_)))))))
          obtain rfl:=ah h_16
          exact cu
         ·refine av rfl hc_27 wa (ae (.d (.int .u8 (b_13.toNat:Int))) wa rfl (ae (vB ((b_13.toNat:Int) == 95)) wa rfl (ae (vB ((b_13.toNat:Int) == 95)) wa rfl (ae (vB ((b_13.toNat:Int) == 95)) wa rfl (ae (vB ((b_13.toNat:Int) == 95)) wz rfl (ae (vB (!((b_13.toNat:Int) == 95))) wz rfl (aj ?_)))))))
          obtain rfl:=ah h_16
          exact cu
       ·refine av rfl hc_25 wa (ai wa (ai wa (ae (vB false) wa rfl (ae (vB false) wa rfl (ae (.d (.int .u8 (b_13.toNat:Int))) wa rfl (ae (vB ((b_13.toNat:Int) == 45)) wa rfl (ae (vB ((b_13.toNat:Int) == 45)) wa rfl ?_)))))))
        rcases ak h_16 with⟨hc_28,h_16⟩ | ⟨hc_28,h_16⟩
        ·refine av rfl hc_28 wa (ai wa (ai wa (ae (vB true) wa rfl (ae (vB true) wa rfl (ae (vB true) wz rfl (ae (vB false) wz rfl (aj ?_)))))))
         obtain rfl:=ah h_16
         exact cu
        ·refine av rfl hc_28 wa (ae (.d (.int .u8 (b_13.toNat:Int))) wa rfl (ae (vB ((b_13.toNat:Int) == 95)) wa rfl (ae (vB ((b_13.toNat:Int) == 95)) wa rfl (ae (vB ((b_13.toNat:Int) == 95)) wa rfl (ae (vB ((b_13.toNat:Int) == 95)) wz rfl (ae (vB (!((b_13.toNat:Int) == 95))) wz rfl (aj ?_)))))))
         obtain rfl:=ah h_16
         exact cu
      ·refine av rfl hc_24 wa (ai wa (ai wa (ai wa (ai (wn rfl rfl) (ai (wn rfl rfl) (ai wa (ai wa (ai (wn rfl rfl) (ai (wn rfl rfl) (ai wa (ai wa (ai (wn rfl rfl) (ai (wn rfl rfl) (ai wa (ae (vB false) wa rfl (ae (vB false) wz rfl (ae (vB true) wz rfl (aj ?_))))))))))))))))))
       obtain rfl:=ah h_16
       exact cu
    ·rintro ⟨⟩ _ sl_ H_ hp_ hq_
     refine aK _ hp_ hq_ ?_
     rcases ak hc_8 with⟨hc_29,hc_8⟩ | ⟨hc_29,hc_8⟩
     ·refine ay rfl hc_29 (af (aa (ae (vB false) wz rfl (aj ?_))))
      obtain rfl:=ah hc_8
      obtain rfl:=ah hL_9
      obtain rfl:=ah hF
      exact aB (aP (.inr rfl) [(vB false)] ⟨rfl,trivial⟩ rfl rfl rfl)
     ·refine ax rfl hc_29 (au (aa (ae (vI s_7) wz rfl (ae (vI (w64 (s_7 + 1))) wz rfl (ae (vI (w64 (s_7 + 1))) wz rfl (aj ?_))))))
      obtain rfl:=ah hc_8
      exact aU (k_2,(w64 (s_7 + 1))) hL_9 (Nat.lt_succ_self _) rfl (aI rfl)
   ·refine ax rfl hc_12 (aS ?_)
    obtain rfl:=ah hc_8
    obtain rfl:=ah hL_9
    exact aO (s_7) rfl rfl (aI rfl)
 ·rintro s_7 ho_ sl_ H_ hp_ hq_
  subst ho_
  refine aK _ hp_ hq_ (af ?_)
  obtain ⟨v_30,h_31,hF⟩:=bind_some hF
  refine aD (β:=Unit) (fun _=>([(2,(vB v_30))]:List (Nat×V))) (fun _=>([]:Hp)) (fun _=>True) ?_ ?_
  ·refine aa (ae (vS s_1) wz rfl (ae (vB (sNe s_1 (⟨#[]⟩:ByteArray))) wz rfl ?_))
   rcases ak h_31 with⟨hc_32,h_31⟩ | ⟨hc_32,h_31⟩
   ·refine av rfl hc_32 wz (ae (vS s_1) wa rfl (nU un9 rfl wa (ae (vB (decide ((s_1.size:Int)≤40))) wa rfl (ae (vB (decide ((s_1.size:Int)≤40))) wz rfl (ae (vB (decide ((s_1.size:Int)≤40))) wz rfl (aj ?_))))))
    obtain rfl:=ah h_31
    exact cu
   ·refine av rfl hc_32 wz (ai wa (ai wa (ai wa (ae (vB false) wz rfl (ae (vB false) wz rfl (aj ?_))))))
    obtain rfl:=ah h_31
    exact cu
  ·rintro ⟨⟩ _ sl_ H_ hp_ hq_
   refine aK _ hp_ hq_ ?_
   obtain rfl:=ah hF
   exact aB (aP (.inr rfl) [(vB v_30)] ⟨rfl,trivial⟩ rfl rfl rfl)
theorem aY {n_1:Int} {low_2:Int} {high_3:Int} {r:Bool} (hF:aN n_1 low_2 high_3=some r) :
  FnM Tryz.prog 84 [(vI n_1),(vI low_2),(vI high_3)] [] (vB r) []:=by
 refine FnM.of_wH ⟨Tryz.prog,15,[],[]⟩ rfl Tryz.func84 rfl rfl (Nat.le_of_ble_eq_true rfl) (by kernel_rfl) ?_
 unfold aN at hF
 refine af (aa (ae (vB false) wz rfl (aj (af ?_))))
 obtain ⟨v_4,h_5,hF⟩:=bind_some hF
 refine aD (β:=Unit) (fun _=>([(6,(vB v_4))]:List (Nat×V))) (fun _=>([]:Hp)) (fun _=>True) ?_ ?_
 ·refine aa (ae (vI n_1) wz rfl (ae (vI low_2) wz rfl (ae (vB (decide (n_1 < low_2))) wz rfl ?_)))
  rcases ak h_5 with⟨hc_6,h_5⟩ | ⟨hc_6,h_5⟩
  ·refine av rfl hc_6 wz (ai wa (ai wa (ai wa (ae (vB true) wz rfl (ae (vB true) wz rfl (aj ?_))))))
   obtain rfl:=ah h_5
   exact cu
  ·refine av rfl hc_6 wz (ae (vI n_1) wa rfl (ae (vI high_3) wa rfl (ae (vB (decide (n_1 > high_3))) wa rfl (ae (vB (decide (n_1 > high_3))) wz rfl (ae (vB (decide (n_1 > high_3))) wz rfl (aj ?_))))))
   obtain rfl:=ah h_5
   exact cu
 ·rintro ⟨⟩ _ sl_ H_ hp_ hq_
  refine aK _ hp_ hq_ ?_
  obtain rfl:=ah hF
  exact aB (aP (.inr rfl) [(vB v_4)] ⟨rfl,trivial⟩ rfl rfl rfl)
theorem xA {a_1:Alert} {r:Int} (hF:gZ a_1=some r) :
  FnM Tryz.prog 268 [(.d (.agg (Alert.enc a_1)))] [] (vI r) []:=by
 refine FnM.of_wH ⟨Tryz.prog,48,[],[]⟩ rfl Tryz.func268 rfl rfl (Nat.le_of_ble_eq_true rfl) (by kernel_rfl) ?_
 unfold gZ at hF
 refine af (aa (fB 0 (.inl rfl) [(vS a_1.Id),(vS a_1.Sender),(vI a_1.Kind),(vL eS a_1.Refs),(vI a_1.At),(vI a_1.Until),(vI a_1.Weight),(vL Rect.enc a_1.Areas),(vS a_1.Text)] rfl rfl wz (fun n_2=>ae (vI 0) wz rfl (aj (af (af (aa (aG p8 rfl 3 rfl wz (aC 0 0 il ft Bu DD rfl rfl (vL eS a_1.Refs) rfl wz (bO xu rfl wz (ae (vB (decide ((a_1.Refs.length:Int) > 20))) wz rfl (aj ?_))))))))))))
 rcases ak hF with⟨hc_3,hF⟩ | ⟨hc_3,hF⟩
 ·refine ay rfl hc_3 (af (aa (ae (vI 2) wz rfl (aj ?_))))
  obtain rfl:=ah hF
  exact aB (aP (.inr rfl) [(vI 2)] ⟨rfl,trivial⟩ rfl rfl rfl)
 ·refine ax rfl hc_3 (au (af (af (aa (aG p8 rfl 3 rfl wz (aC 0 0 il ft Bu DD rfl rfl (vL eS a_1.Refs) rfl wz (bO xu rfl wz (ae (vI 0) wz rfl (aj ?_)))))))))
  obtain ⟨o_12,hj_13,hF⟩:=bind_some hF
  obtain ⟨hn_8,hj_13⟩:=aW hj_13
  refine aD (β:=(Unit)) (fun (s_9:Unit)=>([(1,(.ref n_2 0 0))]:List (Nat×V))) (fun (s_9:Unit)=>([(n_2,some (.cells 9 [(vS a_1.Id),(vS a_1.Sender),(vI a_1.Kind),(vL eS a_1.Refs),(vI a_1.At),(vI a_1.Until),(vI a_1.Weight),(vL Rect.enc a_1.Areas),(vS a_1.Text)]))]:Hp)) (fun p=>o_12 = .go p) ?_ ?_
  ·refine aA (aV (β:=Nat×(List ByteArray)×(Unit)) (fun p=>(fun (k_4:Nat) (l_5:List ByteArray) (s_9:Unit)=>([(1,(.ref n_2 0 0)),(10,(vL eS a_1.Refs)),(11,(vI (a_1.Refs.length:Int))),(12,(vI (k_4:Int)))]:List (Nat×V))) p.1 p.2.1 p.2.2) (fun p=>(fun (k_4:Nat) (l_5:List ByteArray) (s_9:Unit)=>([(n_2,some (.cells 9 [(vS a_1.Id),(vS a_1.Sender),(vI a_1.Kind),(vL eS a_1.Refs),(vI a_1.At),(vI a_1.Until),(vI a_1.Weight),(vL Rect.enc a_1.Areas),(vS a_1.Text)]))]:Hp)) p.1 p.2.1 p.2.2) (fun p=>forR (fun k x s=>eZ a_1 k x s) p.2.1 p.1 p.2.2=some o_12∧(a_1.Refs).drop p.1=p.2.1) (fun p=>p.2.1.length) (0,a_1.Refs,()) ⟨hj_13,rfl⟩ rfl (aI rfl) ?_)
   rintro ⟨k_4,l_5,s_9⟩ ⟨hL_11,hD_7⟩
   dsimp only at hL_11 hD_7
   cases l_5 with
   | nil =>
    obtain rfl:=ah hL_11
    refine af (aa (ae (vB (decide ((k_4:Int) < (a_1.Refs.length:Int)))) wz rfl (aj ?_)))
    refine af (ax rfl (drop_nil hD_7) (aS ?_))
    exact aO (s_9) rfl rfl (aI rfl)
   | cons x_6 l_5 =>
    obtain ⟨c_,hc_10,hL_11⟩:=bind_some hL_11
    refine af (aa (ae (vB (decide ((k_4:Int) < (a_1.Refs.length:Int)))) wz rfl (aj ?_)))
    refine af (ay rfl (aX hD_7) (au ?_))
    unfold eZ at hc_10
    refine af (aA (af (aa (ae (vI (k_4:Int)) wz rfl (dI q8 rfl rfl (bC hD_7) rfl wz (bG sz9 ag9 rfl (vS x_6) rfl wz (ae (vI (k_4:Int)) wz rfl (ae (vS x_6) wz rfl (aj (aA (af (aa (ae (vS x_6) wz rfl ?_)))))))))))))
    obtain ⟨r_14,hr_15,hc_10⟩:=bind_some hc_10
    refine aF (eB hr_15) rfl rV rfl rfl rfl rfl wz (ae (vB (!r_14)) wz rfl (ae (vB (!r_14)) wz rfl (aj ?_)))
    rcases ak hc_10 with⟨hc_16,hc_10⟩ | ⟨hc_16,hc_10⟩
    ·refine ay rfl hc_16 (af (aa (ae (vI 5) wz rfl (aj ?_))))
     obtain rfl:=ah hc_10
     obtain rfl:=ah hL_11
     obtain rfl:=ah hF
     exact aB (aP (.inr rfl) [(vI 5)] ⟨rfl,trivial⟩ rfl rfl rfl)
    ·refine ax rfl hc_16 (af ?_)
     obtain ⟨v_17,h_18,hc_10⟩:=bind_some hc_10
     refine aD (β:=Unit) (fun _=>([(1,(.ref n_2 0 0)),(4,(vS x_6)),(10,(vL eS a_1.Refs)),(11,(vI (a_1.Refs.length:Int))),(12,(vI (k_4:Int))),(21,(vB v_17))]:List (Nat×V))) (fun _=>([(n_2,some (.cells 9 [(vS a_1.Id),(vS a_1.Sender),(vI a_1.Kind),(vL eS a_1.Refs),(vI a_1.At),(vI a_1.Until),(vI a_1.Weight),(vL Rect.enc a_1.Areas),(vS a_1.Text)]))]:Hp)) (fun _=>True) ?_ ?_
     ·refine aa (ae (vI (k_4:Int)) wz rfl (ae (vB (decide ((k_4:Int) > 0))) wz rfl ?_))
      rcases ak h_18 with⟨hc_19,h_18⟩ | ⟨hc_19,h_18⟩
      ·refine av rfl hc_19 wz (ae (vS x_6) wa rfl (aG p8 rfl 3 rfl wa (aC 0 0 il ft Bu DD rfl rfl (vL eS a_1.Refs) rfl wa (ae (vI (k_4:Int)) wa rfl (ae (vI (w64 ((k_4:Int) - 1))) wa rfl ?_)))))
       obtain ⟨y_20,hy_21,h_18⟩:=bind_some h_18
       refine dI q8 rfl rfl hy_21 rfl wa (bG sz9 ag9 rfl (vS y_20) rfl wa (ae (vB (sLe x_6 y_20)) wa rfl (ae (vB (sLe x_6 y_20)) wz rfl (ae (vB (sLe x_6 y_20)) wz rfl (aj ?_)))))
       obtain rfl:=ah h_18
       exact cu
      ·refine av rfl hc_19 wz (ai wa (ai wa (ai wa (ai wa (ai wa (ai wa (ai wa (ai wa (ae (vB false) wz rfl (ae (vB false) wz rfl (aj ?_)))))))))))
       obtain rfl:=ah h_18
       exact cu
     ·rintro ⟨⟩ _ sl_ H_ hp_ hq_
      refine aK _ hp_ hq_ ?_
      rcases ak hc_10 with⟨hc_22,hc_10⟩ | ⟨hc_22,hc_10⟩
      ·refine ay rfl hc_22 (af (aa (ae (vI 7) wz rfl (aj ?_))))
       obtain rfl:=ah hc_10
       obtain rfl:=ah hL_11
       obtain rfl:=ah hF
       exact aB (aP (.inr rfl) [(vI 7)] ⟨rfl,trivial⟩ rfl rfl rfl)
      ·refine ax rfl hc_22 (af (aa (ae (vS x_6) wz rfl (aG lD rfl 0 rfl wz (aC 0 0 il ft sz9 ag9 rfl rfl (vS a_1.Id) rfl wz (ae (vB (sEq x_6 a_1.Id)) wz rfl (ae (vB (sEq x_6 a_1.Id)) wz rfl (aj ?_))))))))
       rcases ak hc_10 with⟨hc_23,hc_10⟩ | ⟨hc_23,hc_10⟩
       ·refine ay rfl hc_23 (af (aa (ae (vI 14) wz rfl (aj ?_))))
        obtain rfl:=ah hc_10
        obtain rfl:=ah hL_11
        obtain rfl:=ah hF
        exact aB (aP (.inr rfl) [(vI 14)] ⟨rfl,trivial⟩ rfl rfl rfl)
       ·refine ax rfl hc_23 (au (aa (dY (bn hD_7 hn_8) wz rfl (ae (vI ((k_4 + 1:Nat):Int)) wz rfl (aj ?_)))))
        obtain rfl:=ah hc_10
        exact aU (k_4 + 1,l_5,()) ⟨hL_11,aR hD_7⟩ (Nat.lt_succ_self _) rfl (aI rfl)
  ·rintro s_9 ho_ sl_ H_ hp_ hq_
   subst ho_
   refine aK _ hp_ hq_ (af (af (aa (aG vz rfl 2 rfl wz (aC 0 0 il ft sz3 ag3 rfl rfl (vI a_1.Kind) rfl wz (ae (vB (a_1.Kind == 1)) wz rfl (aG p8 rfl 3 rfl wz (aC 0 0 il ft Bu DD rfl rfl (vL eS a_1.Refs) rfl wz (bO xu rfl wz (ae (vB ((a_1.Refs.length:Int) == 0)) wz rfl (K3 un4 rfl rfl wz (aj ?_))))))))))))
   rcases ak hF with⟨hc_24,hF⟩ | ⟨hc_24,hF⟩
   ·refine ay rfl hc_24 (af (aa (ae (vI 3) wz rfl (aj ?_))))
    obtain rfl:=ah hF
    exact aB (aP (.inr rfl) [(vI 3)] ⟨rfl,trivial⟩ rfl rfl rfl)
   ·refine ax rfl hc_24 (au (af (aa (ae (vI 0) wz rfl (aj ?_)))))
    obtain rfl:=ah hF
    exact aB (aP (.inr rfl) [(vI 0)] ⟨rfl,trivial⟩ rfl rfl rfl)
theorem eU {n_1:Int} {r:Bool} (hF:bW n_1=some r) :
  FnM Tryz.prog 101 [(vI n_1)] [] (vB r) []:=by
 refine FnM.of_wH ⟨Tryz.prog,9,[],[]⟩ rfl Tryz.func101 rfl rfl (Nat.le_of_ble_eq_true rfl) (by kernel_rfl) ?_
 unfold bW at hF
 refine af (aa (ae (vB false) wz rfl (aj (af ?_))))
 obtain ⟨v_2,h_3,hF⟩:=bind_some hF
 refine aD (β:=Unit) (fun _=>([(2,(vB v_2))]:List (Nat×V))) (fun _=>([]:Hp)) (fun _=>True) ?_ ?_
 ·refine aa (ae (vI n_1) wz rfl (ae (vB (decide (n_1≥0))) wz rfl ?_))
  rcases ak h_3 with⟨hc_4,h_3⟩ | ⟨hc_4,h_3⟩
  ·refine av rfl hc_4 wz (ae (vI n_1) wa rfl (ae (vB (decide (n_1 < 345686400000))) wa rfl (ae (vB (decide (n_1 < 345686400000))) wz rfl (ae (vB (decide (n_1 < 345686400000))) wz rfl (aj ?_)))))
   obtain rfl:=ah h_3
   exact cu
  ·refine av rfl hc_4 wz (ai wa (ai wa (ae (vB false) wz rfl (ae (vB false) wz rfl (aj ?_)))))
   obtain rfl:=ah h_3
   exact cu
 ·rintro ⟨⟩ _ sl_ H_ hp_ hq_
  refine aK _ hp_ hq_ ?_
  obtain rfl:=ah hF
  exact aB (aP (.inr rfl) [(vB v_2)] ⟨rfl,trivial⟩ rfl rfl rfl)
end Go.Proofs.YtjhcehhmdmbleaaGreatDoor.Law

