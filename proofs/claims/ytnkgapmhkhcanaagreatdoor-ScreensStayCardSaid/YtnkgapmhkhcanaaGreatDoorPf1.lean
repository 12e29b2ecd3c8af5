/-
 The machine computes these plain functions (written by a program of ours).
-/
import Derived.Test.YtnkgapmhkhcanaaGreatDoorFacts
import Derived.Test.YtnkgapmhkhcanaaGreatDoorDefs
import Derived.Test.YtnkgapmhkhcanaaGreatDoorShelf
open Go Go.Eng Go.Proofs
namespace Go.Proofs.YtnkgapmhkhcanaaGreatDoor.Law
set_option maxRecDepth 100000
set_option linter.unusedVariables false
set_option maxHeartbeats 1000000
theorem xc {x_1:Int} {n_2:Int} {r:Int} (hF:sO x_1 n_2=some r) :
  FnM Tryz.prog 71 [(vI x_1),(vI n_2)] [] (vI r) []:=by
 refine FnM.of_wH ⟨Tryz.prog,16,[],[]⟩ rfl Tryz.func71 rfl rfl (lb_ rfl) (by kernel_rfl) ?_
 unfold sO at hF
 refine ai (aa (vI 0) (ah (ak (ai (aa (vI n_2) (aa (vB (decide (n_2<1))) (ah ?_)))))))
 rcases aj hF with⟨hc_3,hF⟩|⟨hc_3,hF⟩
 ·refine aC rfl hc_3 (ai (aa (vI 0) (ah ?_)))
  obtain rfl:=ae hF
  exact aA (aK [(vI 0)] ⟨rfl,trivial⟩)
 ·refine aB rfl hc_3 (ax (ai (aa (vI x_1) (aa (vI n_2) ?_))))
  obtain ⟨q_4,hz_5,hF⟩:=bind_some hF
  refine O1 rfl rfl hz_5 wz (aa (vI q_4) (ah (ak (ai (aa (vI q_4) (aa (vB (decide (q_4<0))) (ah ?_)))))))
  obtain ⟨v_6,h_7,hF⟩:=bind_some hF
  refine aP [(0,(vI v_6))] [] ?_ ?_
  ·rcases aj h_7 with⟨hc_8,h_7⟩|⟨hc_8,h_7⟩
   ·refine aC rfl hc_8 (au (aa (vI q_4) (aa (vI n_2) (aa (vI (w64 (q_4+n_2))) (aa (vI (w64 (q_4+n_2))) (ah ?_))))))
    obtain rfl:=ae h_7
    exact cu
   ·refine aB rfl hc_8 (ax ?_)
    obtain rfl:=ae h_7
    exact cu
  ·rintro ⟨⟩ _ sl_ H_ hp_ hq_
   refine aM _ hp_ hq_ (ai (aa (vI v_6) (aa (vI v_6) (ah ?_))))
   obtain rfl:=ae hF
   exact aA (aK [(vI v_6)] ⟨rfl,trivial⟩)
theorem o7 {s_1:Stream} {n_2:Int} {r:Int×Stream} (hF:jq s_1 n_2=some r) :
  FnM Tryz.prog 41 [(.ref (aJ 0) 0 0),(vI n_2)] [(.cells 2 [(vL eI s_1.L),(vI s_1.f_at)])] (vI r.1) [some (.cells 2 [(vL eI r.2.L),(vI r.2.f_at)])]:=by
 refine FnM.of_wH ⟨Tryz.prog,64,[],[]⟩ rfl Tryz.func41 rfl rfl (lb_ rfl) (by kernel_rfl) ?_
 unfold jq at hF
 refine ai (aa (vI 0) (ah (ai (aa (.ref (aJ 0) 0 0) (aa (.ref (aJ 0) 0 0) (ay EI rfl 1 rfl wz (av 0 0 il ft sz3 ag3 rfl rfl (vI s_1.f_at) rfl wz (aa (vI (w64 (s_1.f_at+1))) (aa (.ref (aJ 0) 0 0) (ay EI rfl 1 rfl wz (cz 0 il ft 0 sz3 rfl rfl [(vL eI s_1.L),(vI (w64 (s_1.f_at+1)))] rfl wz (ah (ak (ai (aa (.ref (aJ 0) 0 0) (aa (.ref (aJ 0) 0 0) (ay Ie rfl 0 rfl wz (av 0 0 il ft NQ Ny rfl rfl (vL eI s_1.L) rfl wz (bJ vF rfl wz (aa (vB ((s_1.L.length:Int)==0)) (ah ?_)))))))))))))))))))))
 rcases aj hF with⟨hc_3,hF⟩|⟨hc_3,hF⟩
 ·refine aC rfl hc_3 (ai (aa (.ref (aJ 0) 0 0) (aa (.ref (aJ 0) 0 0) (ay EI rfl 1 rfl wz (av 0 0 il ft sz3 ag3 rfl rfl (vI (w64 (s_1.f_at+1))) rfl wz (aa (vI (w64 ((w64 (s_1.f_at+1))*7919))) (aa (vI n_2) ?_)))))))
  obtain ⟨r_4,hr_5,hF⟩:=bind_some hF
  refine aD (xc hr_5) rfl hb71 rfl rfl rfl rfl wz (aa (vI r_4) (ah ?_))
  obtain rfl:=ae hF
  exact aA (F5 (.inr rfl) [(vI r_4)] _ [0] [aJ 0] ⟨rfl,trivial⟩ (.cons (mX rfl rfl) (.nil)) (by kernel_rfl) ⟨(by kernel_rfl),trivial⟩ (by decide) (by kernel_rfl))
 ·refine aB rfl hc_3 (ax (ak (bz (aa (.ref (aJ 0) 0 0) (aa (.ref (aJ 0) 0 0) (ay EI rfl 1 rfl wz (av 3 0 (.inr (by kernel_rfl)) (λ_ _ ag=>trivial) sz3 ag3 rfl rfl (vI (w64 (s_1.f_at+1))) rfl wz (aa (vI (w64 ((w64 (s_1.f_at+1))-1))) (aa (.ref (aJ 0) 0 0) (aa (.ref (aJ 0) 0 0) (ay Ie rfl 0 rfl wz (av 8 0 (.inr (by kernel_rfl)) (λ_ _ ag=>⟨.inl ⟨rfl,rfl⟩,trivial⟩) NQ Ny rfl rfl (vL eI s_1.L) rfl wz (bJ vF rfl wz ?_)))))))))))))
  obtain ⟨q_6,hz_7,hF⟩:=bind_some hF
  refine O1 rfl rfl hz_7 wz (aa (vI q_6) (ah (ak (bz (aa (.ref (aJ 0) 0 0) (aa (.ref (aJ 0) 0 0) (ay EI rfl 1 rfl wz (av 3 0 (.inr (by kernel_rfl)) (λ_ _ ag=>trivial) sz3 ag3 rfl rfl (vI (w64 (s_1.f_at+1))) rfl wz (aa (vI (w64 ((w64 (s_1.f_at+1))-1))) (aa (.ref (aJ 0) 0 0) (aa (.ref (aJ 0) 0 0) (ay Ie rfl 0 rfl wz (av 8 0 (.inr (by kernel_rfl)) (λ_ _ ag=>⟨.inl ⟨rfl,rfl⟩,trivial⟩) NQ Ny rfl rfl (vL eI s_1.L) rfl wz (bJ vF rfl wz ?_))))))))))))))
  obtain ⟨q_8,hz_9,hF⟩:=bind_some hF
  refine DX rfl rfl hz_9 wz (aa (vI q_8) (ah (aM (H0:=([((aJ 0),some (.cells 2 [(vL eI s_1.L),(vI (w64 (s_1.f_at+1)))]))]:Hp)) ([(0,(.ref (aJ 0) 0 0)),(1,(vI n_2)),(5,(vI q_6)),(6,(vI q_8))]:SL_) (by kernel_rfl) (oF (by kernel_rfl)) (ai (aa (.ref (aJ 0) 0 0) (aa (.ref (aJ 0) 0 0) (ay Ie rfl 0 rfl wz (av 0 0 il ft NQ Ny rfl rfl (vL eI s_1.L) rfl wz (aa (vI q_6) ?_)))))))))
  obtain ⟨y_10,hy_11,hF⟩:=bind_some hF
  refine dM o9 rfl rfl hy_11 rfl wz (bI sz3 ag3 rfl (vI y_10) rfl wz ?_)
  obtain ⟨r_12,hr_13,hF⟩:=bind_some hF
  refine aD (xc hr_13) rfl hb71 rfl rfl rfl rfl wz (aa (vI q_8) (aa (vI q_6) (aa (vI (w64 (7919+q_6))) (aa (vI (w64 (q_8*(w64 (7919+q_6))))) (aa (vI (w64 (r_12+(w64 (q_8*(w64 (7919+q_6))))))) (aa (vI n_2) ?_))))))
  obtain ⟨r_14,hr_15,hF⟩:=bind_some hF
  refine aD (xc hr_15) rfl hb71 rfl rfl rfl rfl wz (aa (vI r_14) (ah ?_))
  obtain rfl:=ae hF
  exact aA (F5 (.inr rfl) [(vI r_14)] _ [0] [aJ 0] ⟨rfl,trivial⟩ (.cons (mX rfl rfl) (.nil)) (by kernel_rfl) ⟨(by kernel_rfl),trivial⟩ (by decide) (by kernel_rfl))
theorem di {s_1:Stream} {low_2:Int} {high_3:Int} {r:Int×Stream} (hF:cB s_1 low_2 high_3=some r) :
  FnM Tryz.prog 19 [(.ref (aJ 0) 0 0),(vI low_2),(vI high_3)] [(.cells 2 [(vL eI s_1.L),(vI s_1.f_at)])] (vI r.1) [some (.cells 2 [(vL eI r.2.L),(vI r.2.f_at)])]:=by
 refine FnM.of_wH ⟨Tryz.prog,19,[],[]⟩ rfl Tryz.func19 rfl rfl (lb_ rfl) (by kernel_rfl) ?_
 unfold cB at hF
 refine ai (aa (vI 0) (ah (ak (ai (aa (vI high_3) (aa (vI low_2) (aa (vB (decide (high_3<low_2))) (ah ?_))))))))
 rcases aj hF with⟨hc_4,hF⟩|⟨hc_4,hF⟩
 ·refine aC rfl hc_4 (ai (aa (vI low_2) (aa (vI low_2) (ah ?_))))
  obtain rfl:=ae hF
  exact aA (F5 (.inr rfl) [(vI low_2)] _ [0] [aJ 0] ⟨rfl,trivial⟩ (.cons (mX rfl rfl) (.nil)) (by kernel_rfl) ⟨(by kernel_rfl),trivial⟩ (by decide) (by kernel_rfl))
 ·refine aB rfl hc_4 (ax (ai (aa (vI low_2) (aa (.ref (aJ 0) 0 0) (aa (vI high_3) (aa (vI low_2) (aa (vI (w64 (high_3-low_2))) (aa (vI (w64 ((w64 (high_3-low_2))+1))) ?_))))))))
  obtain ⟨r_5,hr_6,hF⟩:=bind_some hF
  refine eB 0 [0] il ft (o7 hr_6) rfl hb41 rfl (by kernel_rfl) (by kernel_rfl) (by kernel_rfl) (by kernel_rfl) (by kernel_rfl) (by kernel_rfl) (by kernel_rfl) (by decide) (by kernel_rfl) wz (vI r_5.1) (by kernel_rfl) ([((aJ 0),some (.cells 2 [(vL eI r_5.2.L),(vI r_5.2.f_at)]))]:Hp) (by kernel_rfl) (aa (vI (w64 (low_2+r_5.1))) (aa (vI (w64 (low_2+r_5.1))) (ah ?_)))
  obtain rfl:=ae hF
  exact aA (F5 (.inr rfl) [(vI (w64 (low_2+r_5.1)))] _ [0] [aJ 0] ⟨rfl,trivial⟩ (.cons (mX rfl rfl) (.nil)) (by kernel_rfl) ⟨(by kernel_rfl),trivial⟩ (by decide) (by kernel_rfl))
theorem iU {s_1:Stream} {r:Rect×Stream} (hF:eH s_1=some r) :
  FnM Tryz.prog 4 [(.ref (aJ 0) 0 0)] [(.cells 2 [(vL eI s_1.L),(vI s_1.f_at)])] (.d (.agg (Rect.enc r.1))) [some (.cells 2 [(vL eI r.2.L),(vI r.2.f_at)])]:=by
 refine FnM.of_wH ⟨Tryz.prog,12,[],[]⟩ rfl Tryz.func4 rfl rfl (lb_ rfl) (by kernel_rfl) ?_
 unfold eH at hF
 refine ai (bf 0 (.inl rfl) z27 rfl wz (λn_2=>ah (ai (aa (.ref (aJ 0) 0 0) ?_))))
 obtain ⟨r_3,hr_4,hF⟩:=bind_some hF
 refine eB 0 [0] il ft (di hr_4) rfl CX rfl (by kernel_rfl) (by kernel_rfl) (by kernel_rfl) (by kernel_rfl) (by kernel_rfl) (by kernel_rfl) (by kernel_rfl) (by decide) (by kernel_rfl) wz (vI r_3.1) (by kernel_rfl) ([((aJ 0),some (.cells 2 [(vL eI r_3.2.L),(vI r_3.2.f_at)])),(n_2,some (.cells 4 [(vI 0),(vI 0),(vI 0),(vI 0)]))]:Hp) (by kernel_rfl) (aa (.ref (aJ 0) 0 0) ?_)
 obtain ⟨r_6,hr_7,hF⟩:=bind_some hF
 refine eB 0 [0] il ft (di hr_7) rfl CX rfl (by kernel_rfl) (by kernel_rfl) (by kernel_rfl) (by kernel_rfl) (by kernel_rfl) (by kernel_rfl) (by kernel_rfl) (by decide) (by kernel_rfl) wz (vI r_6.1) (by kernel_rfl) ([((aJ 0),some (.cells 2 [(vL eI r_6.2.L),(vI r_6.2.f_at)])),(n_2,some (.cells 4 [(vI 0),(vI 0),(vI 0),(vI 0)]))]:Hp) (by kernel_rfl) (aa (.ref (aJ 0) 0 0) ?_)
 obtain ⟨r_9,hr_10,hF⟩:=bind_some hF
 refine eB 0 [0] il ft (di hr_10) rfl CX rfl (by kernel_rfl) (by kernel_rfl) (by kernel_rfl) (by kernel_rfl) (by kernel_rfl) (by kernel_rfl) (by kernel_rfl) (by decide) (by kernel_rfl) wz (vI r_9.1) (by kernel_rfl) ([((aJ 0),some (.cells 2 [(vL eI r_9.2.L),(vI r_9.2.f_at)])),(n_2,some (.cells 4 [(vI 0),(vI 0),(vI 0),(vI 0)]))]:Hp) (by kernel_rfl) (aa (.ref (aJ 0) 0 0) ?_)
 obtain ⟨r_12,hr_13,hF⟩:=bind_some hF
 refine eB 0 [0] il ft (di hr_13) rfl CX rfl (by kernel_rfl) (by kernel_rfl) (by kernel_rfl) (by kernel_rfl) (by kernel_rfl) (by kernel_rfl) (by kernel_rfl) (by decide) (by kernel_rfl) wz (vI r_12.1) (by kernel_rfl) ([((aJ 0),some (.cells 2 [(vL eI r_12.2.L),(vI r_12.2.f_at)])),(n_2,some (.cells 4 [(vI 0),(vI 0),(vI 0),(vI 0)]))]:Hp) (by kernel_rfl) (aI (.d (.agg (Rect.enc (⟨r_3.1,r_6.1,r_9.1,r_12.1⟩:Rect)))) wz (by kernel_rfl) (cz 0 il ft 1 eU rfl rfl [(vI r_3.1),(vI r_6.1),(vI r_9.1),(vI r_12.1)] rfl wz (ah ?_)))
 obtain rfl:=ae hF
 exact aA (F5 (.inr rfl) [(.d (.agg (Rect.enc (⟨r_3.1,r_6.1,r_9.1,r_12.1⟩:Rect))))] _ [0] [aJ 0] ⟨⟨1,_,_,_,_,_,_,_,rfl,rfl,eU,jN,rfl⟩,trivial⟩ (.cons (mX rfl rfl) (.nil)) (by kernel_rfl) ⟨(by kernel_rfl),trivial⟩ (by decide) (by kernel_rfl))
theorem jQ {s_1:Stream} {l_2:(List Int)} {r:Int×Stream} (hF:gG s_1 l_2=some r) :
  FnM Tryz.prog 20 [(.ref (aJ 0) 0 0),(vL eI l_2)] [(.cells 2 [(vL eI s_1.L),(vI s_1.f_at)])] (vI r.1) [some (.cells 2 [(vL eI r.2.L),(vI r.2.f_at)])]:=by
 refine FnM.of_wH ⟨Tryz.prog,12,[],[]⟩ rfl Tryz.func20 rfl rfl (lb_ rfl) (by kernel_rfl) ?_
 unfold gG at hF
 refine ai (aa (vI 0) (ah (ai (aa (vL eI l_2) (aa (.ref (aJ 0) 0 0) (aa (vL eI l_2) (bJ vF rfl wz ?_)))))))
 obtain ⟨r_3,hr_4,hF⟩:=bind_some hF
 refine eB 0 [0] il ft (o7 hr_4) rfl hb41 rfl (by kernel_rfl) (by kernel_rfl) (by kernel_rfl) (by kernel_rfl) (by kernel_rfl) (by kernel_rfl) (by kernel_rfl) (by decide) (by kernel_rfl) wz (vI r_3.1) (by kernel_rfl) ([((aJ 0),some (.cells 2 [(vL eI r_3.2.L),(vI r_3.2.f_at)]))]:Hp) (by kernel_rfl) ?_
 obtain ⟨y_6,hy_7,hF⟩:=bind_some hF
 refine dM o9 rfl rfl hy_7 rfl wz (bI sz3 ag3 rfl (vI y_6) rfl wz (aa (vI y_6) (ah ?_)))
 obtain rfl:=ae hF
 exact aA (F5 (.inr rfl) [(vI y_6)] _ [0] [aJ 0] ⟨rfl,trivial⟩ (.cons (mX rfl rfl) (.nil)) (by kernel_rfl) ⟨(by kernel_rfl),trivial⟩ (by decide) (by kernel_rfl))
theorem mJ {s_1:(List Screen)} {r:(List Screen)} (hF:dE s_1=some r) :
  FnM Tryz.prog 21 [(vL Screen.enc s_1)] [] (gV (aJ 0) 5 r) (([]:List Box).map some++gO 5 Screen.enc r):=by
 refine FnM.of_wH ⟨Tryz.prog,8,[],[]⟩ rfl Tryz.func21 rfl rfl (lb_ rfl) (by kernel_rfl) ?_
 unfold dE at hF
 refine ai (aa .nil (ah (ak (ai (aa (vL Screen.enc s_1) (h_nileq yK rfl wz (λb_2 hb_3=>ah ?_)))))))
 cases b_2 with
 | true =>
  refine aC rfl rfl ?_
  obtain rfl:=hb_3 rfl
  replace hF:=NK hF
  refine ai (aa .nil (ah (iV (λn_4 => ?_))))
  obtain rfl:=ae hF
  exact aA (O3 (outs:=([]:List Box)) (.inr rfl) 0 rfl rfl rfl (by kernel_rfl) (by kernel_rfl))
 | false =>
  refine aB rfl rfl (ax (ai (h_lit0 BZ ez30 rfl wz (aa (vL Screen.enc s_1) ?_))))
  obtain ⟨a_5,hz_6,hF⟩:=bind_some hF
  refine h_appn 0 (.inl rfl) el30 el30 rO z59 rfl (by decide) by59 (by decide) (λ_=>rfl) rfl rfl hz_6 wz (λn_7=>aa (gV n_7 5 a_5) (ah ?_))
  obtain rfl:=ae hF
  exact aA (O3 (outs:=([]:List Box)) (.inr rfl) 0 rfl rfl rfl (by kernel_rfl) (by kernel_rfl))
theorem tZ {s_1:Stream} {n_2:Int} {r:Bool×Stream} (hF:kz s_1 n_2=some r) :
  FnM Tryz.prog 22 [(.ref (aJ 0) 0 0),(vI n_2)] [(.cells 2 [(vL eI s_1.L),(vI s_1.f_at)])] (vB r.1) [some (.cells 2 [(vL eI r.2.L),(vI r.2.f_at)])]:=by
 refine FnM.of_wH ⟨Tryz.prog,9,[],[]⟩ rfl Tryz.func22 rfl rfl (lb_ rfl) (by kernel_rfl) ?_
 unfold kz at hF
 refine ai (aa (vB false) (ah (ai (aa (.ref (aJ 0) 0 0) (aa (vI n_2) ?_)))))
 obtain ⟨r_3,hr_4,hF⟩:=bind_some hF
 refine eB 0 [0] il ft (o7 hr_4) rfl hb41 rfl (by kernel_rfl) (by kernel_rfl) (by kernel_rfl) (by kernel_rfl) (by kernel_rfl) (by kernel_rfl) (by kernel_rfl) (by decide) (by kernel_rfl) wz (vI r_3.1) (by kernel_rfl) ([((aJ 0),some (.cells 2 [(vL eI r_3.2.L),(vI r_3.2.f_at)]))]:Hp) (by kernel_rfl) (aa (vB (r_3.1==0)) (aa (vB (r_3.1==0)) (ah ?_)))
 obtain rfl:=ae hF
 exact aA (F5 (.inr rfl) [(vB (r_3.1==0))] _ [0] [aJ 0] ⟨rfl,trivial⟩ (.cons (mX rfl rfl) (.nil)) (by kernel_rfl) ⟨(by kernel_rfl),trivial⟩ (by decide) (by kernel_rfl))
theorem rU {n_1:Int} {low_2:Int} {high_3:Int} {r:Bool} (hF:rY n_1 low_2 high_3=some r) :
  FnM Tryz.prog 72 [(vI n_1),(vI low_2),(vI high_3)] [] (vB r) []:=by
 refine FnM.of_wH ⟨Tryz.prog,15,[],[]⟩ rfl Tryz.func72 rfl rfl (lb_ rfl) (by kernel_rfl) ?_
 unfold rY at hF
 refine ai (aa (vB false) (ah (ak ?_)))
 obtain ⟨v_4,h_5,hF⟩:=bind_some hF
 refine aP [(6,(vB v_4))] [] ?_ ?_
 ·refine au (aa (vI low_2) (aa (vI n_1) (aa (vB (decide (low_2<=n_1))) ?_)))
  rcases aj h_5 with⟨hc_6,h_5⟩|⟨hc_6,h_5⟩
  ·refine aF rfl hc_6 wz (aI (vI n_1) wa rfl (aI (vI high_3) wa rfl (aI (vB (decide (n_1<=high_3))) wa rfl (aa (vB (decide (n_1<=high_3))) (aa (vB (decide (n_1<=high_3))) (ah ?_))))))
   obtain rfl:=ae h_5
   exact cu
  ·refine aF rfl hc_6 wz (af (af (af (aa (vB false) (aa (vB false) (ah ?_))))))
   obtain rfl:=ae h_5
   exact cu
 ·rintro ⟨⟩ _ sl_ H_ hp_ hq_
  refine aM _ hp_ hq_ ?_
  obtain rfl:=ae hF
  exact aA (aK [(vB v_4)] ⟨rfl,trivial⟩)
theorem jv {s_1:ByteArray} {c_2:Int} {r:Int} (hF:dS s_1 c_2=some r) :
  FnM Tryz.prog 114 [(vS s_1),(.d (.int .u8 c_2))] [] (vI r) []:=by
 refine FnM.of_wH ⟨Tryz.prog,8,[],[]⟩ rfl Tryz.func114 rfl rfl (lb_ rfl) (by kernel_rfl) ?_
 unfold dS at hF
 refine ai (aa (vI 0) (ah (ai (aa (vS s_1) (aa (.d (.int .u8 c_2)) (h_ext (ext_ixB (f:=136) Tryz.func136 rfl rfl (by kernel_rfl) (by kernel_rfl) _ _) rfl nb136 rfl wz (aa (vI (ixB s_1 c_2)) (ah ?_))))))))
 obtain rfl:=ae hF
 exact aA (aK [(vI (ixB s_1 c_2))] ⟨rfl,trivial⟩)
theorem xz {s_1:ByteArray} {c_2:Int} {r:Int} (hF:strings_IndexByte s_1 c_2=some r) :
  FnM Tryz.prog 93 [(vS s_1),(.d (.int .u8 c_2))] [] (vI r) []:=by
 refine FnM.of_wH ⟨Tryz.prog,8,[],[]⟩ rfl Tryz.func93 rfl rfl (lb_ rfl) (by kernel_rfl) ?_
 unfold strings_IndexByte at hF
 refine ai (aa (vI 0) (ah (ai (aa (vS s_1) (aa (.d (.int .u8 c_2)) ?_)))))
 obtain ⟨r_3,hr_4,hF⟩:=bind_some hF
 refine aD (jv hr_4) rfl hb114 rfl rfl rfl rfl wz (aa (vI r_3) (ah ?_))
 obtain rfl:=ae hF
 exact aA (aK [(vI r_3)] ⟨rfl,trivial⟩)
theorem Cz {s_1:ByteArray} {somev_2:ByteArray} {r:Bool} (hF:uS s_1 somev_2=some r) :
  FnM Tryz.prog 73 [(vS s_1),(vS somev_2)] [] (vB r) []:=by
 refine FnM.of_wH ⟨Tryz.prog,18,[],[]⟩ rfl Tryz.func73 rfl rfl (lb_ rfl) (by kernel_rfl) ?_
 unfold uS at hF
 refine ai (aa (vB false) (ah (ak (ai (aa (vS s_1) (mq un9 rfl wz (aa (vI 0) (ah ?_))))))))
 obtain ⟨o_11,hj_12,hF⟩:=bind_some hF
 obtain ⟨hn_7,hj_12⟩:=aR hj_12
 refine bL (λ(s_8:Unit)=>[]) (λ(s_8:Unit)=>[]) (λ(k_3:Nat)=>(λ(s_8:Unit)=>[(0,(vS s_1)),(1,(vS somev_2)),(7,(vI (s_1.size:Int))),(8,(vI (k_3:Int)))])) (λk x s=>ou s_1 somev_2 k x s) o_11 (List.range ((s_1.size:Int)).toNat) () hj_12 rfl (aG rfl) ?_ ?_
 ·rintro ⟨k_3,l_4,s_8⟩ ⟨hL_10,hD_6⟩
  dsimp only at hL_10 hD_6
  cases l_4 with
  | nil =>
   obtain rfl:=ae hL_10
   refine ai (aa (vB (decide ((k_3:Int)<(s_1.size:Int)))) (ah ?_))
   refine ak (aB rfl (rP hD_6) (aS ?_))
   exact aV (s_8) rfl rfl (aG rfl)
  | cons x_5 l_4 =>
   obtain ⟨c_,hc_9,hL_10⟩:=bind_some hL_10
   refine ai (aa (vB (decide ((k_3:Int)<(s_1.size:Int)))) (ah ?_))
   refine ak (aC rfl (pM hD_6) (ax ?_))
   unfold ou at hc_9
   refine ak (aL (ai (aa (vI (k_3:Int)) (aa (vI (k_3:Int)) (ah (ai (aa (vS somev_2) (aa (vS s_1) (aa (vI (k_3:Int)) ?_)))))))))
   obtain ⟨b_13,hy_14,hc_9⟩:=bind_some hc_9
   refine kS un9 rfl rfl hy_14 wz ?_
   obtain ⟨r_15,hr_16,hc_9⟩:=bind_some hc_9
   refine aD (xz hr_16) rfl hb93 rfl rfl rfl rfl wz (aa (vB (decide (r_15<0))) (ah ?_))
   rcases aj hc_9 with⟨hc_17,hc_9⟩|⟨hc_17,hc_9⟩
   ·refine aC rfl hc_17 (ai (aa (vB false) (ah ?_)))
    obtain rfl:=ae hc_9
    obtain rfl:=ae hL_10
    obtain rfl:=ae hF
    exact aA (aK [(vB false)] ⟨rfl,trivial⟩)
   ·refine aB rfl hc_17 (ax (au (dL (rT hD_6 hn_7) wz rfl (aa (vI ((k_3+1:Nat):Int)) (ah ?_)))))
    obtain rfl:=ae hc_9
    exact aU (k_3+1,l_4,()) ⟨hL_10,aN hD_6⟩ (ls_ _) rfl (aG rfl)
 ·rintro s_8 ho_ sl_ H_ hp_ hq_
  subst ho_
  refine aM _ hp_ hq_ (ai (aa (vB true) (ah ?_)))
  obtain rfl:=ae hF
  exact aA (aK [(vB true)] ⟨rfl,trivial⟩)
theorem Dx {s_1:ByteArray} {r:Bool} (hF:x8 s_1=some r) :
  FnM Tryz.prog 42 [(vS s_1)] [] (vB r) []:=by
 refine FnM.of_wH ⟨Tryz.prog,15,[],[]⟩ rfl Tryz.func42 rfl rfl (lb_ rfl) (by kernel_rfl) ?_
 unfold x8 at hF
 refine ai (aa (vB false) (ah (ak ?_)))
 obtain ⟨v_2,h_3,hF⟩:=bind_some hF
 refine aP [(2,(vB v_2))] [] ?_ ?_
 ·refine au (aa (vS s_1) (mq un9 rfl wz ?_))
  obtain ⟨r_4,hr_5,h_3⟩:=bind_some h_3
  refine aD (rU hr_5) rfl NJ rfl rfl rfl rfl wz ?_
  rcases aj h_3 with⟨hc_6,h_3⟩|⟨hc_6,h_3⟩
  ·refine aF rfl hc_6 wz (aI (vS s_1) wa rfl ?_)
   obtain ⟨y_7,hy_8,h_3⟩:=bind_some h_3
   refine xW un9 rfl rfl hy_8 wa ?_
   obtain ⟨r_9,hr_10,h_3⟩:=bind_some h_3
   refine aD (Cz hr_10) rfl hb73 rfl rfl rfl rfl wa (aa (vB r_9) ?_)
   rcases aj h_3 with⟨hc_11,h_3⟩|⟨hc_11,h_3⟩
   ·refine aF rfl hc_11 wz (aI (vS s_1) wa rfl ?_)
    obtain ⟨r_12,hr_13,h_3⟩:=bind_some h_3
    refine aD (Cz hr_13) rfl hb73 rfl rfl rfl rfl wa (aa (vB r_12) (aa (vB r_12) (ah ?_)))
    obtain rfl:=ae h_3
    exact cu
   ·refine aF rfl hc_11 wz (af (af (aa (vB false) (aa (vB false) (ah ?_)))))
    obtain rfl:=ae h_3
    exact cu
  ·refine aF rfl hc_6 wz (af (af (af (aa (vB false) (aa (vB false) (af (af (aa (vB false) (aa (vB false) (ah ?_))))))))))
   obtain rfl:=ae h_3
   exact cu
 ·rintro ⟨⟩ _ sl_ H_ hp_ hq_
  refine aM _ hp_ hq_ ?_
  obtain rfl:=ae hF
  exact aA (aK [(vB v_2)] ⟨rfl,trivial⟩)
theorem Cn {n_1:Int} {r:Bool} (hF:uL n_1=some r) :
  FnM Tryz.prog 43 [(vI n_1)] [] (vB r) []:=by
 refine FnM.of_wH ⟨Tryz.prog,5,[],[]⟩ rfl Tryz.func43 rfl rfl (lb_ rfl) (by kernel_rfl) ?_
 unfold uL at hF
 refine ai (aa (vB false) (ah (ai (aa (vI n_1) ?_))))
 obtain ⟨r_2,hr_3,hF⟩:=bind_some hF
 refine aD (rU hr_3) rfl NJ rfl rfl rfl rfl wz (aa (vB r_2) (ah ?_))
 obtain rfl:=ae hF
 exact aA (aK [(vB r_2)] ⟨rfl,trivial⟩)
theorem Bj {r_1:Rect} {r:Int} (hF:nH r_1=some r) :
  FnM Tryz.prog 44 [(.d (.agg (Rect.enc r_1)))] [] (vI r) []:=by
 refine FnM.of_wH ⟨Tryz.prog,31,[],[]⟩ rfl Tryz.func44 rfl rfl (lb_ rfl) (by kernel_rfl) ?_
 unfold nH at hF
 refine ai (dY 0 (.inl rfl) (Rect.v r_1) rfl rfl wz (λn_2=>aa (vI 0) (ah (ak (ak ?_)))))
 obtain ⟨v_3,h_4,hF⟩:=bind_some hF
 refine aP [(30,(vB v_3))] [(n_2,some (.cells 4 (Rect.v r_1)))] ?_ ?_
 ·refine au (ay ic rfl 0 rfl wz (av 0 0 il ft sz3 ag3 rfl rfl (vI r_1.X) rfl wz ?_))
  obtain ⟨r_5,hr_6,h_4⟩:=bind_some h_4
  refine aD (rU hr_6) rfl NJ rfl rfl rfl rfl wz (aa (vB (!r_5)) ?_)
  rcases aj h_4 with⟨hc_7,h_4⟩|⟨hc_7,h_4⟩
  ·refine aF rfl hc_7 wz (af (af (af (af (aa (vB true) (aa (vB true) (af (af (af (af (af (af (af (aa (vB true) (aa (vB true) (af (af (af (af (af (af (af (aa (vB true) ?_)))))))))))))))))))))))
   refine ah ?_
   obtain rfl:=ae h_4
   exact cu
  ·refine aF rfl hc_7 wz (ay gu rfl 1 rfl wa (av 0 0 il ft sz3 ag3 rfl rfl (vI r_1.Y) rfl wa ?_))
   obtain ⟨r_8,hr_9,h_4⟩:=bind_some h_4
   refine aD (rU hr_9) rfl NJ rfl rfl rfl rfl wa (aI (vB (!r_8)) wa rfl (aa (vB (!r_8)) ?_))
   rcases aj h_4 with⟨hc_10,h_4⟩|⟨hc_10,h_4⟩
   ·refine aF rfl hc_10 wz (af (af (af (af (af (af (af (aa (vB true) (aa (vB true) (af (af (af (af (af (af (af (aa (vB true) (ah ?_))))))))))))))))))
    obtain rfl:=ae h_4
    exact cu
   ·refine aF rfl hc_10 wz (ay mg rfl 2 rfl wa (av 0 0 il ft sz3 ag3 rfl rfl (vI r_1.W) rfl wa (ay ic rfl 0 rfl wa (av 0 0 il ft sz3 ag3 rfl rfl (vI r_1.X) rfl wa (aI (vI (w64 (100000-r_1.X))) wa rfl ?_)))))
    obtain ⟨r_11,hr_12,h_4⟩:=bind_some h_4
    refine aD (rU hr_12) rfl NJ rfl rfl rfl rfl wa (aI (vB (!r_11)) wa rfl (aa (vB (!r_11)) ?_))
    rcases aj h_4 with⟨hc_13,h_4⟩|⟨hc_13,h_4⟩
    ·refine aF rfl hc_13 wz (af (af (af (af (af (af (af (aa (vB true) (ah ?_)))))))))
     obtain rfl:=ae h_4
     exact cu
    ·refine aF rfl hc_13 wz (ay lQ rfl 3 rfl wa (av 0 0 il ft sz3 ag3 rfl rfl (vI r_1.H) rfl wa (ay gu rfl 1 rfl wa (av 0 0 il ft sz3 ag3 rfl rfl (vI r_1.Y) rfl wa (aI (vI (w64 (100000-r_1.Y))) wa rfl ?_)))))
     obtain ⟨r_14,hr_15,h_4⟩:=bind_some h_4
     refine aD (rU hr_15) rfl NJ rfl rfl rfl rfl wa (aI (vB (!r_14)) wa rfl (aa (vB (!r_14)) (ah ?_)))
     obtain rfl:=ae h_4
     exact cu
 ·rintro ⟨⟩ _ sl_ H_ hp_ hq_
  refine aM _ hp_ hq_ ?_
  rcases aj hF with⟨hc_16,hF⟩|⟨hc_16,hF⟩
  ·refine aC rfl hc_16 (ai (aa (vI 1) (ah ?_)))
   obtain rfl:=ae hF
   exact aA (aK [(vI 1)] ⟨rfl,trivial⟩)
  ·refine aB rfl hc_16 (ax (ai (aa (vI 0) (ah ?_))))
   obtain rfl:=ae hF
   exact aA (aK [(vI 0)] ⟨rfl,trivial⟩)
theorem FR {r_1:Rect} {wv_2:Int} {h_3:Int} {r:Bool} (hF:vM r_1 wv_2 h_3=some r) :
  FnM Tryz.prog 45 [(.d (.agg (Rect.enc r_1))),(vI wv_2),(vI h_3)] [] (vB r) []:=by
 refine FnM.of_wH ⟨Tryz.prog,33,[],[]⟩ rfl Tryz.func45 rfl rfl (lb_ rfl) (by kernel_rfl) ?_
 unfold vM at hF
 refine ai (dY 0 (.inl rfl) (Rect.v r_1) rfl rfl wz (λn_4=>aa (vB false) (ah (ak ?_))))
 obtain ⟨v_5,h_6,hF⟩:=bind_some hF
 refine aP [(6,(vB v_5))] [(n_4,some (.cells 4 (Rect.v r_1)))] ?_ ?_
 ·refine au (ay ic rfl 0 rfl wz (av 0 0 il ft sz3 ag3 rfl rfl (vI r_1.X) rfl wz (aa (vB (decide (r_1.X>=0))) ?_)))
  rcases aj h_6 with⟨hc_7,h_6⟩|⟨hc_7,h_6⟩
  ·refine aF rfl hc_7 wz (ay gu rfl 1 rfl wa (av 0 0 il ft sz3 ag3 rfl rfl (vI r_1.Y) rfl wa (aI (vB (decide (r_1.Y>=0))) wa rfl (aa (vB (decide (r_1.Y>=0))) ?_))))
   rcases aj h_6 with⟨hc_8,h_6⟩|⟨hc_8,h_6⟩
   ·refine aF rfl hc_8 wz (ay ic rfl 0 rfl wa (av 0 0 il ft sz3 ag3 rfl rfl (vI r_1.X) rfl wa (ay mg rfl 2 rfl wa (av 0 0 il ft sz3 ag3 rfl rfl (vI r_1.W) rfl wa (aI (vI (w64 (r_1.X+r_1.W))) wa rfl (aI (vI wv_2) wa rfl (aI (vB (decide ((w64 (r_1.X+r_1.W))<=wv_2))) wa rfl (aa (vB (decide ((w64 (r_1.X+r_1.W))<=wv_2))) ?_))))))))
    rcases aj h_6 with⟨hc_9,h_6⟩|⟨hc_9,h_6⟩
    ·refine aF rfl hc_9 wz (ay gu rfl 1 rfl wa (av 0 0 il ft sz3 ag3 rfl rfl (vI r_1.Y) rfl wa (ay lQ rfl 3 rfl wa (av 0 0 il ft sz3 ag3 rfl rfl (vI r_1.H) rfl wa (aI (vI (w64 (r_1.Y+r_1.H))) wa rfl (aI (vI h_3) wa rfl (aI (vB (decide ((w64 (r_1.Y+r_1.H))<=h_3))) wa rfl (aa (vB (decide ((w64 (r_1.Y+r_1.H))<=h_3))) (aa (vB (decide ((w64 (r_1.Y+r_1.H))<=h_3))) (ah ?_))))))))))
     obtain rfl:=ae h_6
     exact cu
    ·refine aF rfl hc_9 wz (af (af (af (af (af (af (af (aa (vB false) (aa (vB false) (ah ?_))))))))))
     obtain rfl:=ae h_6
     exact cu
   ·refine aF rfl hc_8 wz (af (af (af (af (af (af (af (aa (vB false) (aa (vB false) (af (af (af (af (af (af (af (aa (vB false) (aa (vB false) (ah ?_)))))))))))))))))))
    obtain rfl:=ae h_6
    exact cu
  ·refine aF rfl hc_7 wz (af (af (af (aa (vB false) (aa (vB false) (af (af (af (af (af (af (af (aa (vB false) (aa (vB false) (af (af (af (af (af (af (af (aa (vB false) (aa (vB false) ?_)))))))))))))))))))))))
   refine ah ?_
   obtain rfl:=ae h_6
   exact cu
 ·rintro ⟨⟩ _ sl_ H_ hp_ hq_
  refine aM _ hp_ hq_ ?_
  obtain rfl:=ae hF
  exact aA (aK [(vB v_5)] ⟨rfl,trivial⟩)
theorem FJ {a_1:Rect} {b_2:Rect} {r:Rect×Bool} (hF:zg a_1 b_2=some r) :
  FnM Tryz.prog 46 [(.d (.agg (Rect.enc a_1))),(.d (.agg (Rect.enc b_2)))] [] (.tup [(.d (.agg (Rect.enc r.1))),(vB r.2)]) []:=by
 refine FnM.of_wH ⟨Tryz.prog,58,[],[]⟩ rfl Tryz.func46 rfl rfl (lb_ rfl) (by kernel_rfl) ?_
 unfold zg at hF
 refine ai (dY 0 (.inl rfl) (Rect.v a_1) rfl rfl wz (λn_3=>dY 0 (.inl rfl) (Rect.v b_2) rfl rfl wz (λn_4=>bf 0 (.inl rfl) z27 rfl wz (λn_5=>aa (vB false) (ah (ak (bz (ay ic rfl 0 rfl wz (av 1 0 (.inr (by kernel_rfl)) (λ_ _ ag=>trivial) sz3 ag3 rfl rfl (vI a_1.X) rfl wz (ay ic rfl 0 rfl wz (av 3 1 (.inr (by kernel_rfl)) (λ_ _ ag=>⟨.inl ⟨rfl,rfl⟩,trivial⟩) sz3 ag3 rfl rfl (vI b_2.X) rfl wz (jV (vI (bW a_1.X b_2.X)) rfl (.inr rfl) wz (ay gu rfl 1 rfl wz (av 6 0 (.inr (by kernel_rfl)) (λ_ _ ag=>⟨.inl ⟨rfl,rfl⟩,⟨.inl ⟨rfl,rfl⟩,trivial⟩⟩) sz3 ag3 rfl rfl (vI a_1.Y) rfl wz (ay gu rfl 1 rfl wz (av 8 1 (.inr (by kernel_rfl)) (λ_ _ ag=>⟨.inl ⟨rfl,rfl⟩,⟨.inl ⟨rfl,rfl⟩,⟨.inl ⟨rfl,rfl⟩,trivial⟩⟩⟩) sz3 ag3 rfl rfl (vI b_2.Y) rfl wz (jV (vI (bW a_1.Y b_2.Y)) rfl (.inr rfl) wz (aa (vI (bW a_1.X b_2.X)) (aa (vI (bW a_1.Y b_2.Y)) (ah (ak (bz (ay ic rfl 0 rfl wz ?_)))))))))))))))))))))))
 refine av 1 0 (.inr (by kernel_rfl)) (λ_ _ ag=>trivial) sz3 ag3 rfl rfl (vI a_1.X) rfl wz (ay mg rfl 2 rfl wz (av 3 0 (.inr (by kernel_rfl)) (λ_ _ ag=>⟨.inl ⟨rfl,rfl⟩,trivial⟩) sz3 ag3 rfl rfl (vI a_1.W) rfl wz (aa (vI (w64 (a_1.X+a_1.W))) (ay ic rfl 0 rfl wz (av 6 1 (.inr (by kernel_rfl)) (λ_ _ ag=>⟨.inl ⟨rfl,rfl⟩,⟨.inl ⟨rfl,rfl⟩,trivial⟩⟩) sz3 ag3 rfl rfl (vI b_2.X) rfl wz (ay mg rfl 2 rfl wz (av 8 1 (.inr (by kernel_rfl)) (λ_ _ ag=>⟨.inl ⟨rfl,rfl⟩,⟨.inl ⟨rfl,rfl⟩,⟨.inl ⟨rfl,rfl⟩,trivial⟩⟩⟩) sz3 ag3 rfl rfl (vI b_2.W) rfl wz (aa (vI (w64 (b_2.X+b_2.W))) (jV (vI (fD (w64 (a_1.X+a_1.W)) (w64 (b_2.X+b_2.W)))) rfl (.inl rfl) wz (aa (vI (bW a_1.X b_2.X)) (aa (vI (w64 ((fD (w64 (a_1.X+a_1.W)) (w64 (b_2.X+b_2.W)))-(bW a_1.X b_2.X)))) (ay gu rfl 1 rfl wz (av 14 0 (.inr (by kernel_rfl)) (λ_ _ ag=>⟨.inl ⟨rfl,rfl⟩,⟨.inl ⟨rfl,rfl⟩,⟨.inl ⟨rfl,rfl⟩,⟨.inl ⟨rfl,rfl⟩,trivial⟩⟩⟩⟩) sz3 ag3 rfl rfl (vI a_1.Y) rfl wz (ay lQ rfl 3 rfl wz (av 16 0 (.inr (by kernel_rfl)) (λ_ _ ag=>⟨.inl ⟨rfl,rfl⟩,⟨.inl ⟨rfl,rfl⟩,⟨.inl ⟨rfl,rfl⟩,⟨.inl ⟨rfl,rfl⟩,⟨.inl ⟨rfl,rfl⟩,trivial⟩⟩⟩⟩⟩) sz3 ag3 rfl rfl (vI a_1.H) rfl wz (aa (vI (w64 (a_1.Y+a_1.H))) (ay gu rfl 1 rfl wz (av 19 1 (.inr (by kernel_rfl)) (λ_ _ ag=>⟨.inl ⟨rfl,rfl⟩,⟨.inl ⟨rfl,rfl⟩,⟨.inl ⟨rfl,rfl⟩,⟨.inl ⟨rfl,rfl⟩,⟨.inl ⟨rfl,rfl⟩,⟨.inl ⟨rfl,rfl⟩,trivial⟩⟩⟩⟩⟩⟩) sz3 ag3 rfl rfl (vI b_2.Y) rfl wz (ay lQ rfl 3 rfl wz (av 21 1 (.inr (by kernel_rfl)) (λ_ _ ag=>⟨.inl ⟨rfl,rfl⟩,⟨.inl ⟨rfl,rfl⟩,⟨.inl ⟨rfl,rfl⟩,⟨.inl ⟨rfl,rfl⟩,⟨.inl ⟨rfl,rfl⟩,⟨.inl ⟨rfl,rfl⟩,⟨.inl ⟨rfl,rfl⟩,trivial⟩⟩⟩⟩⟩⟩⟩) sz3 ag3 rfl rfl (vI b_2.H) rfl wz (aa (vI (w64 (b_2.Y+b_2.H))) (jV (vI (fD (w64 (a_1.Y+a_1.H)) (w64 (b_2.Y+b_2.H)))) rfl (.inl rfl) wz (aa (vI (bW a_1.Y b_2.Y)) ?_)))))))))))))))))))))))
 refine aa (vI (w64 ((fD (w64 (a_1.Y+a_1.H)) (w64 (b_2.Y+b_2.H)))-(bW a_1.Y b_2.Y)))) (aa (vI (w64 ((fD (w64 (a_1.X+a_1.W)) (w64 (b_2.X+b_2.W)))-(bW a_1.X b_2.X)))) (aa (vI (w64 ((fD (w64 (a_1.Y+a_1.H)) (w64 (b_2.Y+b_2.H)))-(bW a_1.Y b_2.Y)))) (ah (aM (H0:=([(n_3,some (.cells 4 (Rect.v a_1))),(n_4,some (.cells 4 (Rect.v b_2))),(n_5,some (.cells 4 [(vI 0),(vI 0),(vI 0),(vI 0)]))]:Hp)) ([(4,(.ref n_5 0 0)),(6,(vI (bW a_1.X b_2.X))),(7,(vI (bW a_1.Y b_2.Y))),(8,(vI (w64 ((fD (w64 (a_1.X+a_1.W)) (w64 (b_2.X+b_2.W)))-(bW a_1.X b_2.X))))),(9,(vI (w64 ((fD (w64 (a_1.Y+a_1.H)) (w64 (b_2.Y+b_2.H)))-(bW a_1.Y b_2.Y)))))]:SL_) (by kernel_rfl) (oF (by kernel_rfl)) (ak (ak ?_))))))
 obtain ⟨v_6,h_7,hF⟩:=bind_some hF
 refine aP [(4,(.ref n_5 0 0)),(6,(vI (bW a_1.X b_2.X))),(7,(vI (bW a_1.Y b_2.Y))),(8,(vI (w64 ((fD (w64 (a_1.X+a_1.W)) (w64 (b_2.X+b_2.W)))-(bW a_1.X b_2.X))))),(9,(vI (w64 ((fD (w64 (a_1.Y+a_1.H)) (w64 (b_2.Y+b_2.H)))-(bW a_1.Y b_2.Y))))),(51,(vB v_6))] [(n_3,some (.cells 4 (Rect.v a_1))),(n_4,some (.cells 4 (Rect.v b_2))),(n_5,some (.cells 4 [(vI 0),(vI 0),(vI 0),(vI 0)]))] ?_ ?_
 ·refine au (aa (vI (w64 ((fD (w64 (a_1.X+a_1.W)) (w64 (b_2.X+b_2.W)))-(bW a_1.X b_2.X)))) (aa (vB (decide ((w64 ((fD (w64 (a_1.X+a_1.W)) (w64 (b_2.X+b_2.W)))-(bW a_1.X b_2.X)))<=0))) ?_))
  rcases aj h_7 with⟨hc_8,h_7⟩|⟨hc_8,h_7⟩
  ·refine aF rfl hc_8 wz (af (af (aa (vB true) (ah ?_))))
   obtain rfl:=ae h_7
   exact cu
  ·refine aF rfl hc_8 wz (aI (vI (w64 ((fD (w64 (a_1.Y+a_1.H)) (w64 (b_2.Y+b_2.H)))-(bW a_1.Y b_2.Y)))) wa rfl (aI (vB (decide ((w64 ((fD (w64 (a_1.Y+a_1.H)) (w64 (b_2.Y+b_2.H)))-(bW a_1.Y b_2.Y)))<=0))) wa rfl (aa (vB (decide ((w64 ((fD (w64 (a_1.Y+a_1.H)) (w64 (b_2.Y+b_2.H)))-(bW a_1.Y b_2.Y)))<=0))) (ah ?_))))
   obtain rfl:=ae h_7
   exact cu
 ·rintro ⟨⟩ _ sl_ H_ hp_ hq_
  refine aM _ hp_ hq_ ?_
  rcases aj hF with⟨hc_9,hF⟩|⟨hc_9,hF⟩
  ·refine aC rfl hc_9 (ai (aI (.d (.agg (Rect.enc (⟨0,0,0,0⟩:Rect)))) wz (by kernel_rfl) (cz 0 il ft 2 eU rfl rfl [(vI 0),(vI 0),(vI 0),(vI 0)] rfl wz (aa (vB false) (ah ?_)))))
   obtain rfl:=ae hF
   exact aA (aK [(.d (.agg (Rect.enc (⟨0,0,0,0⟩:Rect)))),(vB false)] ⟨⟨2,_,_,_,_,_,_,_,rfl,rfl,eU,jN,rfl⟩,⟨rfl,trivial⟩⟩)
  ·refine aB rfl hc_9 (ax (ai (aa (vI (bW a_1.X b_2.X)) (aa (vI (bW a_1.Y b_2.Y)) (aa (vI (w64 ((fD (w64 (a_1.X+a_1.W)) (w64 (b_2.X+b_2.W)))-(bW a_1.X b_2.X)))) (aa (vI (w64 ((fD (w64 (a_1.Y+a_1.H)) (w64 (b_2.Y+b_2.H)))-(bW a_1.Y b_2.Y)))) (aI (.d (.agg (Rect.enc (⟨(bW a_1.X b_2.X),(bW a_1.Y b_2.Y),(w64 ((fD (w64 (a_1.X+a_1.W)) (w64 (b_2.X+b_2.W)))-(bW a_1.X b_2.X))),(w64 ((fD (w64 (a_1.Y+a_1.H)) (w64 (b_2.Y+b_2.H)))-(bW a_1.Y b_2.Y)))⟩:Rect)))) wz (by kernel_rfl) (cz 0 il ft 2 eU rfl rfl [(vI (bW a_1.X b_2.X)),(vI (bW a_1.Y b_2.Y)),(vI (w64 ((fD (w64 (a_1.X+a_1.W)) (w64 (b_2.X+b_2.W)))-(bW a_1.X b_2.X)))),(vI (w64 ((fD (w64 (a_1.Y+a_1.H)) (w64 (b_2.Y+b_2.H)))-(bW a_1.Y b_2.Y))))] rfl wz (aa (vB true) (ah ?_))))))))))
   obtain rfl:=ae hF
   exact aA (aK [(.d (.agg (Rect.enc (⟨(bW a_1.X b_2.X),(bW a_1.Y b_2.Y),(w64 ((fD (w64 (a_1.X+a_1.W)) (w64 (b_2.X+b_2.W)))-(bW a_1.X b_2.X))),(w64 ((fD (w64 (a_1.Y+a_1.H)) (w64 (b_2.Y+b_2.H)))-(bW a_1.Y b_2.Y)))⟩:Rect)))),(vB true)] ⟨⟨2,_,_,_,_,_,_,_,rfl,rfl,eU,jN,rfl⟩,⟨rfl,trivial⟩⟩)
theorem Ca {wv_1:Wall} {r:Int} (hF:nJ wv_1=some r) :
  FnM Tryz.prog 23 [(.d (.agg (Wall.enc wv_1)))] [] (vI r) []:=by
 refine FnM.of_wH ⟨Tryz.prog,96,[],[]⟩ rfl Tryz.func23 rfl rfl (lb_ rfl) (by kernel_rfl) ?_
 unfold nJ at hF
 refine ai (dY 0 (.inl rfl) (Wall.v wv_1) rfl rfl wz (λn_2=>aa (vI 0) (ah (ak (aL (ai (ay PK rfl 0 rfl wz (av 0 0 il ft sz9 ag9 rfl rfl (vS wv_1.Key) rfl wz ?_))))))))
 obtain ⟨r_3,hr_4,hF⟩:=bind_some hF
 refine aD (Dx hr_4) rfl hb42 rfl rfl rfl rfl wz (aa (vB (!r_3)) (aa (vB (!r_3)) (ah ?_)))
 rcases aj hF with⟨hc_5,hF⟩|⟨hc_5,hF⟩
 ·refine aC rfl hc_5 (ai (aa (vI 5) (ah ?_)))
  obtain rfl:=ae hF
  exact aA (aK [(vI 5)] ⟨rfl,trivial⟩)
 ·refine aB rfl hc_5 (ak ?_)
  obtain ⟨v_6,h_7,hF⟩:=bind_some hF
  refine aP [(1,(.ref n_2 0 0)),(18,(vB v_6))] [(n_2,some (.cells 4 (Wall.v wv_1)))] ?_ ?_
  ·refine au (ay xn rfl 1 rfl wz (av 0 0 il ft sz3 ag3 rfl rfl (vI wv_1.W) rfl wz ?_))
   obtain ⟨r_8,hr_9,h_7⟩:=bind_some h_7
   refine aD (Cn hr_9) rfl hb43 rfl rfl rfl rfl wz (aa (vB (!r_8)) ?_)
   rcases aj h_7 with⟨hc_10,h_7⟩|⟨hc_10,h_7⟩
   ·refine aF rfl hc_10 wz (af (af (af (af (aa (vB true) (aa (vB true) (ah ?_)))))))
    obtain rfl:=ae h_7
    exact cu
   ·refine aF rfl hc_10 wz (ay xm rfl 2 rfl wa (av 0 0 il ft sz3 ag3 rfl rfl (vI wv_1.H) rfl wa ?_))
    obtain ⟨r_11,hr_12,h_7⟩:=bind_some h_7
    refine aD (Cn hr_12) rfl hb43 rfl rfl rfl rfl wa (aI (vB (!r_11)) wa rfl (aa (vB (!r_11)) (aa (vB (!r_11)) (ah ?_))))
    obtain rfl:=ae h_7
    exact cu
  ·rintro ⟨⟩ _ sl_ H_ hp_ hq_
   refine aM _ hp_ hq_ ?_
   rcases aj hF with⟨hc_13,hF⟩|⟨hc_13,hF⟩
   ·refine aC rfl hc_13 (ai (aa (vI 1) (ah ?_)))
    obtain rfl:=ae hF
    exact aA (aK [(vI 1)] ⟨rfl,trivial⟩)
   ·refine aB rfl hc_13 (ai (ay nY rfl 3 rfl wz (av 0 0 il ft zC Am rfl rfl (vL Screen.enc wv_1.Screens) rfl wz (bJ yK rfl wz (aa (vB (decide ((wv_1.Screens.length:Int)>50))) (aa (vB (decide ((wv_1.Screens.length:Int)>50))) (ah ?_)))))))
    rcases aj hF with⟨hc_14,hF⟩|⟨hc_14,hF⟩
    ·refine aC rfl hc_14 (ai (aa (vI 2) (ah ?_)))
     obtain rfl:=ae hF
     exact aA (aK [(vI 2)] ⟨rfl,trivial⟩)
    ·refine aB rfl hc_14 (ax (ai (aa (vS (⟨#[]⟩:ByteArray)) (ah (ak (ai (ay nY rfl 3 rfl wz (av 0 0 il ft zC Am rfl rfl (vL Screen.enc wv_1.Screens) rfl wz (bJ yK rfl wz (aa (vI 0) (ah ?_)))))))))))
     obtain ⟨o_23,hj_24,hF⟩:=bind_some hF
     obtain ⟨hn_19,hj_24⟩:=aR hj_24
     refine bL (λ(s_20:ByteArray)=>[(1,(.ref n_2 0 0))]) (λ(s_20:ByteArray)=>[(n_2,some (.cells 4 (Wall.v wv_1)))]) (λ(k_15:Nat)=>(λ(s_20:ByteArray)=>[(1,(.ref n_2 0 0)),(3,(vS s_20)),(35,(vL Screen.enc wv_1.Screens)),(36,(vI (wv_1.Screens.length:Int))),(37,(vI (k_15:Int)))])) (λk x s=>kP wv_1 k x s) o_23 wv_1.Screens (⟨#[]⟩:ByteArray) hj_24 rfl (aG rfl) ?_ ?_
     ·rintro ⟨k_15,l_16,s_20⟩ ⟨hL_22,hD_18⟩
      dsimp only at hL_22 hD_18
      cases l_16 with
      | nil =>
       obtain rfl:=ae hL_22
       refine ai (aa (vB (decide ((k_15:Int)<(wv_1.Screens.length:Int)))) (ah ?_))
       refine ak (aB rfl (drop_nil hD_18) (aS ?_))
       exact aV (s_20) rfl rfl (aG rfl)
      | cons x_17 l_16 =>
       obtain ⟨c_,hc_21,hL_22⟩:=bind_some hL_22
       refine ai (aa (vB (decide ((k_15:Int)<(wv_1.Screens.length:Int)))) (ah ?_))
       refine ak (aC rfl (aW hD_18) (ax ?_))
       unfold kP at hc_21
       refine ak (aL (ai (dM BZ rfl rfl (bu hD_18) rfl wz (bI rO Fj rfl (.d (.agg (Screen.enc x_17))) rfl wz (bf 0 (.inl rfl) z59 rfl wz (λn_25=>cz 0 il ft 1 rO rfl rfl (Screen.v x_17) rfl wz (ah (ak (ai (ay zh rfl 0 rfl wz (av 0 1 il ft sz9 ag9 rfl rfl (vS x_17.Key) rfl wz ?_)))))))))))
       obtain ⟨r_26,hr_27,hc_21⟩:=bind_some hc_21
       refine aD (Dx hr_27) rfl hb42 rfl rfl rfl rfl wz (aa (vB (!r_26)) (ah ?_))
       rcases aj hc_21 with⟨hc_28,hc_21⟩|⟨hc_28,hc_21⟩
       ·refine aC rfl hc_28 (ai (aa (vI 5) (ah ?_)))
        obtain rfl:=ae hc_21
        obtain rfl:=ae hL_22
        obtain rfl:=ae hF
        exact aA (aK [(vI 5)] ⟨rfl,trivial⟩)
       ·refine aB rfl hc_28 (ax (ak (ai (ay nV rfl 1 rfl wz (av 0 1 il ft eU jN rfl rfl (.d (.agg (Rect.enc x_17.On))) rfl wz ?_)))))
        obtain ⟨r_29,hr_30,hc_21⟩:=bind_some hc_21
        refine aD (Bj hr_30) rfl hb44 rfl rfl rfl rfl wz (aa (vI r_29) (ah (ai (aa (vI r_29) (aa (vB (r_29 != 0)) (ah ?_))))))
        rcases aj hc_21 with⟨hc_31,hc_21⟩|⟨hc_31,hc_21⟩
        ·refine aC rfl hc_31 (ai (aa (vI r_29) (aa (vI r_29) (ah ?_))))
         obtain rfl:=ae hc_21
         obtain rfl:=ae hL_22
         obtain rfl:=ae hF
         exact aA (aK [(vI r_29)] ⟨rfl,trivial⟩)
        ·refine aB rfl hc_31 (ax (ak (aL (ai (ay nV rfl 1 rfl wz (av 0 1 il ft eU jN rfl rfl (.d (.agg (Rect.enc x_17.On))) rfl wz (ay xn rfl 1 rfl wz (av 0 0 il ft sz3 ag3 rfl rfl (vI wv_1.W) rfl wz (ay xm rfl 2 rfl wz (av 0 0 il ft sz3 ag3 rfl rfl (vI wv_1.H) rfl wz ?_))))))))))
         obtain ⟨r_32,hr_33,hc_21⟩:=bind_some hc_21
         refine aD (FR hr_33) rfl hb45 rfl rfl rfl rfl wz (aa (vB (!r_32)) (aa (vB (!r_32)) (ah ?_)))
         rcases aj hc_21 with⟨hc_34,hc_21⟩|⟨hc_34,hc_21⟩
         ·refine aC rfl hc_34 (ai (aa (vI 3) (ah ?_)))
          obtain rfl:=ae hc_21
          obtain rfl:=ae hL_22
          obtain rfl:=ae hF
          exact aA (aK [(vI 3)] ⟨rfl,trivial⟩)
         ·refine aB rfl hc_34 (ai (ay zh rfl 0 rfl wz (av 0 1 il ft sz9 ag9 rfl rfl (vS x_17.Key) rfl wz (aa (vS s_20) (aa (vB (sLe x_17.Key s_20)) (aa (vB (sLe x_17.Key s_20)) (ah ?_)))))))
          rcases aj hc_21 with⟨hc_35,hc_21⟩|⟨hc_35,hc_21⟩
          ·refine aC rfl hc_35 (ai (aa (vI 7) (ah ?_)))
           obtain rfl:=ae hc_21
           obtain rfl:=ae hL_22
           obtain rfl:=ae hF
           exact aA (aK [(vI 7)] ⟨rfl,trivial⟩)
          ·refine aB rfl hc_35 (ax (au (ay zh rfl 0 rfl wz (av 0 1 il ft sz9 ag9 rfl rfl (vS x_17.Key) rfl wz (aa (vS x_17.Key) (ah (aM (H0:=([(n_2,some (.cells 4 (Wall.v wv_1))),(n_25,some (.cells 5 (Screen.v x_17)))]:Hp)) ([(1,(.ref n_2 0 0)),(3,(vS x_17.Key)),(35,(vL Screen.enc wv_1.Screens)),(36,(vI (wv_1.Screens.length:Int))),(37,(vI (k_15:Int)))]:SL_) (by kernel_rfl) (oF (by kernel_rfl)) (au (dL (aZ hD_18 hn_19) wz rfl (aa (vI ((k_15+1:Nat):Int)) (ah ?_)))))))))))
           obtain rfl:=ae hc_21
           exact aU (k_15+1,l_16,x_17.Key) ⟨hL_22,aN hD_18⟩ (ls_ _) rfl (aG rfl)
     ·rintro s_20 ho_ sl_ H_ hp_ hq_
      subst ho_
      refine aM _ hp_ hq_ (ak (ai (ay nY rfl 3 rfl wz (av 0 0 il ft zC Am rfl rfl (vL Screen.enc wv_1.Screens) rfl wz (bJ yK rfl wz (aa (vI 0) (ah ?_)))))))
      obtain ⟨o_44,hj_45,hF⟩:=bind_some hF
      obtain ⟨hn_40,hj_45⟩:=aR hj_45
      refine bL (λ(s_41:Unit)=>[]) (λ(s_41:Unit)=>[(n_2,some (.cells 4 (Wall.v wv_1)))]) (λ(k_36:Nat)=>(λ(s_41:Unit)=>[(1,(.ref n_2 0 0)),(69,(vL Screen.enc wv_1.Screens)),(70,(vI (wv_1.Screens.length:Int))),(71,(vI (k_36:Int)))])) (λk x s=>mO wv_1 k x s) o_44 wv_1.Screens () hj_45 rfl (aG rfl) ?_ ?_
      ·rintro ⟨k_36,l_37,s_41⟩ ⟨hL_43,hD_39⟩
       dsimp only at hL_43 hD_39
       cases l_37 with
       | nil =>
        obtain rfl:=ae hL_43
        refine ai (aa (vB (decide ((k_36:Int)<(wv_1.Screens.length:Int)))) (ah ?_))
        refine ak (aB rfl (drop_nil hD_39) (aS ?_))
        exact aV (s_41) rfl rfl (aG rfl)
       | cons x_38 l_37 =>
        obtain ⟨c_,hc_42,hL_43⟩:=bind_some hL_43
        refine ai (aa (vB (decide ((k_36:Int)<(wv_1.Screens.length:Int)))) (ah ?_))
        refine ak (aC rfl (aW hD_39) (ax ?_))
        unfold mO at hc_42
        refine ak (aL (ai (aa (vI (k_36:Int)) (dM BZ rfl rfl (bu hD_39) rfl wz (bI rO Fj rfl (.d (.agg (Screen.enc x_38))) rfl wz (bf 0 (.inl rfl) z59 rfl wz (λn_46=>aa (vI (k_36:Int)) (cz 0 il ft 1 rO rfl rfl (Screen.v x_38) rfl wz (ah (ai (ay nY rfl 3 rfl wz (av 0 0 il ft zC Am rfl rfl (vL Screen.enc wv_1.Screens) rfl wz (aa (vI (k_36:Int)) ?_)))))))))))))
        obtain ⟨y_47,hy_48,hc_42⟩:=bind_some hc_42
        refine wQ yK rO (λ_=>rfl) rfl rfl hy_48 wz (bJ yK rfl wz (aa (vI 0) (ah ?_)))
        obtain ⟨o_57,hj_58,hc_42⟩:=bind_some hc_42
        obtain ⟨hn_53,hj_58⟩:=aR hj_58
        refine bL (λ(s_54:Unit)=>[(1,(.ref n_2 0 0)),(69,(vL Screen.enc wv_1.Screens)),(70,(vI (wv_1.Screens.length:Int))),(71,(vI (k_36:Int)))]) (λ(s_54:Unit)=>[(n_2,some (.cells 4 (Wall.v wv_1))),(n_46,some (.cells 5 (Screen.v x_38)))]) (λ(k_49:Nat)=>(λ(s_54:Unit)=>[(1,(.ref n_2 0 0)),(8,(.ref n_46 0 0)),(69,(vL Screen.enc wv_1.Screens)),(70,(vI (wv_1.Screens.length:Int))),(71,(vI (k_36:Int))),(79,(vL Screen.enc y_47)),(80,(vI (y_47.length:Int))),(81,(vI (k_49:Int)))])) (λk x s=>pO x_38 k x s) o_57 y_47 () hj_58 rfl (aG rfl) ?_ ?_
        ·rintro ⟨k_49,l_50,s_54⟩ ⟨hL_56,hD_52⟩
         dsimp only at hL_56 hD_52
         cases l_50 with
         | nil =>
          obtain rfl:=ae hL_56
          refine ai (aa (vB (decide ((k_49:Int)<(y_47.length:Int)))) (ah ?_))
          refine ak (aB rfl (drop_nil hD_52) (aS ?_))
          exact aV (s_54) rfl rfl (aG rfl)
         | cons x_51 l_50 =>
          obtain ⟨c_,hc_55,hL_56⟩:=bind_some hL_56
          refine ai (aa (vB (decide ((k_49:Int)<(y_47.length:Int)))) (ah ?_))
          refine ak (aC rfl (aW hD_52) (ax ?_))
          unfold pO at hc_55
          refine ak (aL (ai (dM BZ rfl rfl (bu hD_52) rfl wz (bI rO Fj rfl (.d (.agg (Screen.enc x_51))) rfl wz (bf 0 (.inl rfl) z59 rfl wz (λn_59=>cz 0 il ft 2 rO rfl rfl (Screen.v x_51) rfl wz (ah (ai (ay nV rfl 1 rfl wz (av 0 1 il ft eU jN rfl rfl (.d (.agg (Rect.enc x_38.On))) rfl wz (ay nV rfl 1 rfl wz (av 0 2 il ft eU jN rfl rfl (.d (.agg (Rect.enc x_51.On))) rfl wz ?_))))))))))))
          obtain ⟨r_60,hr_61,hc_55⟩:=bind_some hc_55
          refine aD (FJ hr_61) rfl hb46 rfl rfl rfl rfl wz (aa (.tup [(.d (.agg (Rect.enc r_60.1))),(vB r_60.2)]) (aa (.d (.agg (Rect.enc r_60.1))) (aa (vB r_60.2) (bf 0 (.inl rfl) z27 rfl wz (λn_62=>cz 0 il ft 3 eU rfl rfl (Rect.v r_60.1) rfl wz (aa (vB r_60.2) (ah (ai (aa (vB r_60.2) (ah ?_))))))))))
          rcases aj hc_55 with⟨hc_63,hc_55⟩|⟨hc_63,hc_55⟩
          ·refine aC rfl hc_63 (ai (aa (vI 13) (ah ?_)))
           obtain rfl:=ae hc_55
           obtain rfl:=ae hL_56
           obtain rfl:=ae hc_42
           obtain rfl:=ae hL_43
           obtain rfl:=ae hF
           exact aA (aK [(vI 13)] ⟨rfl,trivial⟩)
          ·refine aB rfl hc_63 (ax (au (dL (aZ hD_52 hn_53) wz rfl (aa (vI ((k_49+1:Nat):Int)) (ah ?_)))))
           obtain rfl:=ae hc_55
           exact aU (k_49+1,l_50,()) ⟨hL_56,aN hD_52⟩ (ls_ _) rfl (aG rfl)
        ·rintro s_54 ho_ sl_ H_ hp_ hq_
         subst ho_
         refine aM _ hp_ hq_ (au (dL (aZ hD_39 hn_40) wz rfl (aa (vI ((k_36+1:Nat):Int)) (ah ?_))))
         obtain rfl:=ae hc_42
         exact aU (k_36+1,l_37,()) ⟨hL_43,aN hD_39⟩ (ls_ _) rfl (aG rfl)
      ·rintro s_41 ho_ sl_ H_ hp_ hq_
       subst ho_
       refine aM _ hp_ hq_ (ai (aa (vI 0) (ah ?_)))
       obtain rfl:=ae hF
       exact aA (aK [(vI 0)] ⟨rfl,trivial⟩)
theorem o8 {s_1:Stream} {r:Wall×Stream} (hF:gL s_1=some r) :
  FnM Tryz.prog 5 [(.ref (aJ 0) 0 0)] [(.cells 2 [(vL eI s_1.L),(vI s_1.f_at)])] (.d (.agg (Wall.enc r.1))) [some (.cells 2 [(vL eI r.2.L),(vI r.2.f_at)])]:=by
 refine FnM.of_wH ⟨Tryz.prog,73,[],[]⟩ rfl Tryz.func5 rfl rfl (lb_ rfl) (by kernel_rfl) ?_
 unfold gL at hF
 refine ai (bf 0 (.inl rfl) z32 rfl wz (λn_2=>ah (ai (aa (.ref (aJ 0) 0 0) (fI (([10,20,24,100]:List Int).map eI) o9 D8 rfl rfl rfl rfl rfl wz ?_)))))
 obtain ⟨r_3,hr_4,hF⟩:=bind_some hF
 refine eB 0 [0] il ft (jQ hr_4) rfl Oh rfl (by kernel_rfl) (by kernel_rfl) (by kernel_rfl) (by kernel_rfl) (by kernel_rfl) (by kernel_rfl) (by kernel_rfl) (by decide) (by kernel_rfl) wz (vI r_3.1) (by kernel_rfl) ([((aJ 0),some (.cells 2 [(vL eI r_3.2.L),(vI r_3.2.f_at)])),(n_2,some (.cells 4 [(vS (⟨#[]⟩:ByteArray)),(vI 0),(vI 0),.nil]))]:Hp) (by kernel_rfl) (aa (.ref (aJ 0) 0 0) (fI (([6,10,30]:List Int).map eI) o9 D8 rfl rfl rfl rfl rfl wz ?_))
 obtain ⟨r_6,hr_7,hF⟩:=bind_some hF
 refine eB 0 [0] il ft (jQ hr_7) rfl Oh rfl (by kernel_rfl) (by kernel_rfl) (by kernel_rfl) (by kernel_rfl) (by kernel_rfl) (by kernel_rfl) (by kernel_rfl) (by decide) (by kernel_rfl) wz (vI r_6.1) (by kernel_rfl) ([((aJ 0),some (.cells 2 [(vL eI r_6.2.L),(vI r_6.2.f_at)])),(n_2,some (.cells 4 [(vS (⟨#[]⟩:ByteArray)),(vI 0),(vI 0),.nil]))]:Hp) (by kernel_rfl) (aI (.agg [(vS (⟨#[119]⟩:ByteArray)),(vI r_3.1),(vI r_6.1),.nil]) wz (by kernel_rfl) (bf 0 (.inl rfl) z32 rfl wz (λn_9=>cz 0 il ft 2 xC rfl rfl [(vS (⟨#[119]⟩:ByteArray)),(vI r_3.1),(vI r_6.1),.nil] rfl wz (ah (ak (ai (fI (([(⟨#[115,97]⟩:ByteArray),(⟨#[115,98]⟩:ByteArray),(⟨#[115,99]⟩:ByteArray),(⟨#[115,100]⟩:ByteArray)]:List ByteArray).map eS) Jj ez65 rfl rfl rfl rfl rfl wz (bJ Jh rfl wz (aa (vI 0) (ah (wH_coc0 2 [(vS (⟨#[119]⟩:ByteArray)),(vI r_3.1),(vI r_6.1),(vL Screen.enc ([]:List Screen))] rfl (λS=>nS (rfl) (nS (rfl) (nS (rfl) (nS (rfl) (rfl))))) ?_)))))))))))
 obtain ⟨o_18,hj_19,hF⟩:=bind_some hF
 obtain ⟨hn_14,hj_19⟩:=aR hj_19
 refine bL (λ(s_15:(List Int)×Int×(List Screen))=>[(2,(.ref n_2 0 0)),(3,(.ref n_9 0 0))]) (λ(s_15:(List Int)×Int×(List Screen))=>[((aJ 0),some (.cells 2 [(vL eI s_15.1),(vI s_15.2.1)])),(n_2,some (.cells 4 [(vS (⟨#[]⟩:ByteArray)),(vI 0),(vI 0),.nil])),(n_9,some (.cells 4 [(vS (⟨#[119]⟩:ByteArray)),(vI r_3.1),(vI r_6.1),(vL Screen.enc s_15.2.2)]))]) (λ(k_10:Nat)=>(λ(s_15:(List Int)×Int×(List Screen))=>[(0,(.ref (aJ 0) 0 0)),(2,(.ref n_2 0 0)),(3,(.ref n_9 0 0)),(16,(vL eS ([(⟨#[115,97]⟩:ByteArray),(⟨#[115,98]⟩:ByteArray),(⟨#[115,99]⟩:ByteArray),(⟨#[115,100]⟩:ByteArray)]:List ByteArray))),(17,(vI (([(⟨#[115,97]⟩:ByteArray),(⟨#[115,98]⟩:ByteArray),(⟨#[115,99]⟩:ByteArray),(⟨#[115,100]⟩:ByteArray)]:List ByteArray).length:Int))),(18,(vI (k_10:Int)))])) (λk x s=>gy r_3 r_6 k x s) o_18 ([(⟨#[115,97]⟩:ByteArray),(⟨#[115,98]⟩:ByteArray),(⟨#[115,99]⟩:ByteArray),(⟨#[115,100]⟩:ByteArray)]:List ByteArray) (r_6.2.L,r_6.2.f_at,([]:List Screen)) hj_19 rfl (aG rfl) ?_ ?_
 ·rintro ⟨k_10,l_11,s_15⟩ ⟨hL_17,hD_13⟩
  dsimp only at hL_17 hD_13
  cases l_11 with
  | nil =>
   obtain rfl:=ae hL_17
   refine ai (aa (vB (decide ((k_10:Int)<(([(⟨#[115,97]⟩:ByteArray),(⟨#[115,98]⟩:ByteArray),(⟨#[115,99]⟩:ByteArray),(⟨#[115,100]⟩:ByteArray)]:List ByteArray).length:Int)))) (ah ?_))
   refine ak (aB rfl (drop_nil hD_13) (aS ?_))
   exact aV (s_15) rfl rfl (aG rfl)
  | cons x_12 l_11 =>
   obtain ⟨c_,hc_16,hL_17⟩:=bind_some hL_17
   refine ai (aa (vB (decide ((k_10:Int)<(([(⟨#[115,97]⟩:ByteArray),(⟨#[115,98]⟩:ByteArray),(⟨#[115,99]⟩:ByteArray),(⟨#[115,100]⟩:ByteArray)]:List ByteArray).length:Int)))) (ah ?_))
   refine ak (aC rfl (aW hD_13) (ax ?_))
   unfold gy at hc_16
   refine ak (aL (ai (dM Jj rfl rfl (bu hD_13) rfl wz (bI sz9 ag9 rfl (vS x_12) rfl wz (aa (vS x_12) (ah (ak (bz (aa (vS x_12) (aa (.ref (aJ 0) 0 0) (ay xn rfl 1 rfl wz (av 3 2 (.inr (by kernel_rfl)) (λ_ _ ag=>trivial) sz3 ag3 rfl rfl (vI r_3.1) rfl wz (aa (vI (w64 (r_3.1-1))) ?_)))))))))))))
   obtain ⟨r_20,hr_21,hc_16⟩:=bind_some hc_16
   refine eB 5 [0] (.inr (by kernel_rfl)) (λ_ _ ag=>by exact⟨.inr (.inr (by kernel_rfl)),trivial⟩) (di hr_21) rfl CX rfl (by kernel_rfl) (by kernel_rfl) (by kernel_rfl) (by kernel_rfl) (by kernel_rfl) (by kernel_rfl) (by kernel_rfl) (by decide) (by kernel_rfl) wz (vI r_20.1) (by kernel_rfl) ([((aJ 0),some (.cells 2 [(vL eI r_20.2.L),(vI r_20.2.f_at)])),(n_2,some (.cells 4 [(vS (⟨#[]⟩:ByteArray)),(vI 0),(vI 0),.nil])),(n_9,some (.cells 4 [(vS (⟨#[119]⟩:ByteArray)),(vI r_3.1),(vI r_6.1),(vL Screen.enc s_15.2.2)]))]:Hp) (by kernel_rfl) (aa (.ref (aJ 0) 0 0) (ay xm rfl 2 rfl wz (av 8 2 (.inr (by kernel_rfl)) (λ_ _ ag=>⟨.inl ⟨rfl,rfl⟩,⟨.inr (.inl (Kw (Dy ag (i:=2) (j:=0) rfl rfl (by decide)))),trivial⟩⟩) sz3 ag3 rfl rfl (vI r_6.1) rfl wz (aa (vI (w64 (r_6.1-1))) ?_))))
   obtain ⟨r_23,hr_24,hc_16⟩:=bind_some hc_16
   refine eB 10 [0] (.inr (by kernel_rfl)) (λ_ _ ag=>by exact⟨.inr (.inr (by kernel_rfl)),⟨.inr (.inr (by kernel_rfl)),⟨.inr (.inr (by kernel_rfl)),trivial⟩⟩⟩) (di hr_24) rfl CX rfl (by kernel_rfl) (by kernel_rfl) (by kernel_rfl) (by kernel_rfl) (by kernel_rfl) (by kernel_rfl) (by kernel_rfl) (by decide) (by kernel_rfl) wz (vI r_23.1) (by kernel_rfl) ([((aJ 0),some (.cells 2 [(vL eI r_23.2.L),(vI r_23.2.f_at)])),(n_2,some (.cells 4 [(vS (⟨#[]⟩:ByteArray)),(vI 0),(vI 0),.nil])),(n_9,some (.cells 4 [(vS (⟨#[119]⟩:ByteArray)),(vI r_3.1),(vI r_6.1),(vL Screen.enc s_15.2.2)]))]:Hp) (by kernel_rfl) (aI (.d (.agg (Rect.enc (⟨r_20.1,r_23.1,0,0⟩:Rect)))) wz (by kernel_rfl) (aI (.d (.agg (Screen.enc (⟨x_12,(⟨r_20.1,r_23.1,0,0⟩:Rect)⟩:Screen)))) wz (by kernel_rfl) (bf 13 (.inr (by kernel_rfl)) z59 rfl wz (λn_26=>cz 14 (.inr (by kernel_rfl)) (λ_ _ ag=>⟨.inr (.inr (by kernel_rfl)),⟨.inr (.inr (by kernel_rfl)),⟨.inr (.inr (by kernel_rfl)),⟨.inr (.inr (by kernel_rfl)),⟨.inr (.inr (by kernel_rfl)),trivial⟩⟩⟩⟩⟩) 3 rO rfl rfl [(vS x_12),(vI r_20.1),(vI r_23.1),(vI 0),(vI 0)] rfl wz (ah (ak (bz (aa (.ref (aJ 0) 0 0) (ay xn rfl 1 rfl wz (av 2 2 (.inr (by kernel_rfl)) (λ_ _ ag=>trivial) sz3 ag3 rfl rfl (vI r_3.1) rfl wz (ay nV rfl 1 rfl wz (ay ic rfl 1 rfl wz (av 5 3 (.inr (by kernel_rfl)) (λ_ _ ag=>⟨.inl ⟨rfl,rfl⟩,trivial⟩) sz3 ag3 rfl rfl (vI r_20.1) rfl wz (aa (vI (w64 (r_3.1-r_20.1))) ?_))))))))))))))
   obtain ⟨r_27,hr_28,hc_16⟩:=bind_some hc_16
   refine eB 7 [0] (.inr (by kernel_rfl)) (λ_ _ ag=>by exact⟨.inr (.inr (by kernel_rfl)),⟨.inr (.inr (by kernel_rfl)),trivial⟩⟩) (di hr_28) rfl CX rfl (by kernel_rfl) (by kernel_rfl) (by kernel_rfl) (by kernel_rfl) (by kernel_rfl) (by kernel_rfl) (by kernel_rfl) (by decide) (by kernel_rfl) wz (vI r_27.1) (by kernel_rfl) ([((aJ 0),some (.cells 2 [(vL eI r_27.2.L),(vI r_27.2.f_at)])),(n_2,some (.cells 4 [(vS (⟨#[]⟩:ByteArray)),(vI 0),(vI 0),.nil])),(n_9,some (.cells 4 [(vS (⟨#[119]⟩:ByteArray)),(vI r_3.1),(vI r_6.1),(vL Screen.enc s_15.2.2)])),(n_26,some (.cells 5 [(vS x_12),(vI r_20.1),(vI r_23.1),(vI 0),(vI 0)]))]:Hp) (by kernel_rfl) (aa (.ref (aJ 0) 0 0) (ay xm rfl 2 rfl wz (av 10 2 (.inr (by kernel_rfl)) (λ_ _ ag=>⟨.inl ⟨rfl,rfl⟩,⟨.inl ⟨rfl,rfl⟩,⟨.inr (.inl (Kw (Dy ag (i:=2) (j:=0) rfl rfl (by decide)))),trivial⟩⟩⟩) sz3 ag3 rfl rfl (vI r_6.1) rfl wz (ay nV rfl 1 rfl wz (ay gu rfl 2 rfl wz (av 13 3 (.inr (by kernel_rfl)) (λ_ _ ag=>⟨.inl ⟨rfl,rfl⟩,⟨.inl ⟨rfl,rfl⟩,⟨.inr (.inl (Kw (Dy ag (i:=3) (j:=0) rfl rfl (by decide)))),⟨.inl ⟨rfl,rfl⟩,trivial⟩⟩⟩⟩) sz3 ag3 rfl rfl (vI r_23.1) rfl wz (aa (vI (w64 (r_6.1-r_23.1))) ?_)))))))
   obtain ⟨r_30,hr_31,hc_16⟩:=bind_some hc_16
   refine eB 15 [0] (.inr (by kernel_rfl)) (λ_ _ ag=>by exact⟨.inr (.inr (by kernel_rfl)),⟨.inr (.inr (by kernel_rfl)),⟨.inr (.inr (by kernel_rfl)),⟨.inr (.inr (by kernel_rfl)),⟨.inr (.inr (by kernel_rfl)),trivial⟩⟩⟩⟩⟩) (di hr_31) rfl CX rfl (by kernel_rfl) (by kernel_rfl) (by kernel_rfl) (by kernel_rfl) (by kernel_rfl) (by kernel_rfl) (by kernel_rfl) (by decide) (by kernel_rfl) wz (vI r_30.1) (by kernel_rfl) ([((aJ 0),some (.cells 2 [(vL eI r_30.2.L),(vI r_30.2.f_at)])),(n_2,some (.cells 4 [(vS (⟨#[]⟩:ByteArray)),(vI 0),(vI 0),.nil])),(n_9,some (.cells 4 [(vS (⟨#[119]⟩:ByteArray)),(vI r_3.1),(vI r_6.1),(vL Screen.enc s_15.2.2)])),(n_26,some (.cells 5 [(vS x_12),(vI r_20.1),(vI r_23.1),(vI 0),(vI 0)]))]:Hp) (by kernel_rfl) (ay nV rfl 1 rfl wz (ay mg rfl 3 rfl wz (cz 18 (.inr (by kernel_rfl)) (λ_ _ ag=>⟨.inr (.inr (by kernel_rfl)),⟨.inr (.inr (by kernel_rfl)),⟨.inr (.inr (by kernel_rfl)),⟨.inr (.inr (by kernel_rfl)),⟨.inr (.inr (by kernel_rfl)),⟨.inr (.inr (by kernel_rfl)),trivial⟩⟩⟩⟩⟩⟩) 3 sz3 rfl rfl [(vS x_12),(vI r_20.1),(vI r_23.1),(vI r_27.1),(vI 0)] rfl wz (ay nV rfl 1 rfl wz (ay lQ rfl 4 rfl wz (cz 21 (.inr (by kernel_rfl)) (λ_ _ ag=>⟨.inr (.inr (by kernel_rfl)),⟨.inr (.inr (by kernel_rfl)),⟨.inr (.inr (by kernel_rfl)),⟨.inr (.inr (by kernel_rfl)),⟨.inr (.inr (by kernel_rfl)),⟨.inr (.inr (by kernel_rfl)),⟨.inr (.inr (by kernel_rfl)),trivial⟩⟩⟩⟩⟩⟩⟩) 3 sz3 rfl rfl [(vS x_12),(vI r_20.1),(vI r_23.1),(vI r_27.1),(vI r_30.1)] rfl wz (ah (aM (H0:=([((aJ 0),some (.cells 2 [(vL eI r_30.2.L),(vI r_30.2.f_at)])),(n_2,some (.cells 4 [(vS (⟨#[]⟩:ByteArray)),(vI 0),(vI 0),.nil])),(n_9,some (.cells 4 [(vS (⟨#[119]⟩:ByteArray)),(vI r_3.1),(vI r_6.1),(vL Screen.enc s_15.2.2)])),(n_26,some (.cells 5 [(vS x_12),(vI r_20.1),(vI r_23.1),(vI r_27.1),(vI r_30.1)]))]:Hp)) ([(0,(.ref (aJ 0) 0 0)),(2,(.ref n_2 0 0)),(3,(.ref n_9 0 0)),(6,(.ref n_26 0 0)),(16,(vL eS ([(⟨#[115,97]⟩:ByteArray),(⟨#[115,98]⟩:ByteArray),(⟨#[115,99]⟩:ByteArray),(⟨#[115,100]⟩:ByteArray)]:List ByteArray))),(17,(vI (([(⟨#[115,97]⟩:ByteArray),(⟨#[115,98]⟩:ByteArray),(⟨#[115,99]⟩:ByteArray),(⟨#[115,100]⟩:ByteArray)]:List ByteArray).length:Int))),(18,(vI (k_10:Int)))]:SL_) (by kernel_rfl) (oF (by kernel_rfl)) (ak (bz (ay nY rfl 3 rfl wz (av 1 2 (.inr (by kernel_rfl)) (λ_ _ ag=>trivial) zC Am rfl rfl (vL Screen.enc s_15.2.2) rfl wz ?_))))))))))))
   obtain ⟨r_33,hr_34,hc_16⟩:=bind_some hc_16
   refine JJ 2 (.inr (by kernel_rfl)) (mJ hr_34) rfl hb21 (by kernel_rfl) (by kernel_rfl) (by kernel_rfl) wz (λn_35=>av 3 3 (.inr (by kernel_rfl)) (λ_ _ ag=>⟨.inl ⟨rfl,rfl⟩,⟨.inr (.inl (Kw (Dy ag (i:=3) (j:=4) rfl rfl (by decide)))),trivial⟩⟩) rO Fj rfl rfl (.d (.agg (Screen.enc (⟨x_12,(⟨r_20.1,r_23.1,r_27.1,r_30.1⟩:Rect)⟩:Screen)))) rfl wz (fI (([(⟨x_12,(⟨r_20.1,r_23.1,r_27.1,r_30.1⟩:Rect)⟩:Screen)]:List Screen).map Screen.enc) BZ ez30 rfl rfl rfl rfl rfl wz ?_))
   obtain ⟨a_36,hz_37,hc_16⟩:=bind_some hc_16
   refine kH 5 (.inr (by kernel_rfl)) (λ_ _ ag=>⟨.inr (.inr (by kernel_rfl)),⟨.inr (.inr (by kernel_rfl)),⟨.inr (.inr (by kernel_rfl)),trivial⟩⟩⟩) (i:=4) el30 el30 rO z59 rfl (by decide) by59 (by decide) (λ_=>rfl) rfl rfl rfl hz_37 wz (λn_38=>aa (gV n_38 5 a_36) (ah (ai (av 0 2 il ft xC EA rfl rfl (.d (.agg (Wall.enc (⟨(⟨#[119]⟩:ByteArray),r_3.1,r_6.1,s_15.2.2⟩:Wall)))) rfl wz (bf 0 (.inl rfl) z32 rfl wz (λn_39=>cz 0 il ft 5 xC rfl rfl [(vS (⟨#[119]⟩:ByteArray)),(vI r_3.1),(vI r_6.1),(vL Screen.enc s_15.2.2)] rfl wz (ah (ai (aa (.ref (aJ 0) 0 0) ?_)))))))))
   obtain ⟨r_40,hr_41,hc_16⟩:=bind_some hc_16
   refine eB 0 [0] il ft (tZ hr_41) rfl hb22 rfl (by kernel_rfl) (by kernel_rfl) (by kernel_rfl) (by kernel_rfl) (by kernel_rfl) (by kernel_rfl) (by kernel_rfl) (by decide) (by kernel_rfl) wz (vB r_40.1) (by kernel_rfl) ([((aJ 0),some (.cells 2 [(vL eI r_40.2.L),(vI r_40.2.f_at)])),(n_2,some (.cells 4 [(vS (⟨#[]⟩:ByteArray)),(vI 0),(vI 0),.nil])),(n_9,some (.cells 4 [(vS (⟨#[119]⟩:ByteArray)),(vI r_3.1),(vI r_6.1),(vL Screen.enc s_15.2.2)])),(n_26,some (.cells 5 [(vS x_12),(vI r_20.1),(vI r_23.1),(vI r_27.1),(vI r_30.1)])),(n_38,gB 5 Screen.enc a_36),(n_39,some (.cells 4 [(vS (⟨#[119]⟩:ByteArray)),(vI r_3.1),(vI r_6.1),(vL Screen.enc s_15.2.2)]))]:Hp) (by kernel_rfl) (aa (vB (!r_40.1)) (ah ?_))
   obtain ⟨v_43,h_44,hc_16⟩:=bind_some hc_16
   refine aP [(0,(.ref (aJ 0) 0 0)),(2,(.ref n_2 0 0)),(3,(.ref n_9 0 0)),(16,(vL eS ([(⟨#[115,97]⟩:ByteArray),(⟨#[115,98]⟩:ByteArray),(⟨#[115,99]⟩:ByteArray),(⟨#[115,100]⟩:ByteArray)]:List ByteArray))),(17,(vI (([(⟨#[115,97]⟩:ByteArray),(⟨#[115,98]⟩:ByteArray),(⟨#[115,99]⟩:ByteArray),(⟨#[115,100]⟩:ByteArray)]:List ByteArray).length:Int))),(18,(vI (k_10:Int)))] [((aJ 0),some (.cells 2 [(vL eI r_40.2.L),(vI r_40.2.f_at)])),(n_2,some (.cells 4 [(vS (⟨#[]⟩:ByteArray)),(vI 0),(vI 0),.nil])),(n_9,some (.cells 4 [(vS (⟨#[119]⟩:ByteArray)),(vI r_3.1),(vI r_6.1),(vL Screen.enc v_43.1)])),(n_26,some (.cells 5 [(vS x_12),(vI r_20.1),(vI r_23.1),(vI r_27.1),(vI r_30.1)])),(n_39,some (.cells 4 [(vS (⟨#[119]⟩:ByteArray)),(vI r_3.1),(vI r_6.1),(vL Screen.enc v_43.2)]))] ?_ ?_
   ·rcases aj h_44 with⟨hc_45,h_44⟩|⟨hc_45,h_44⟩
    ·refine aC rfl hc_45 (ai (aa (gV n_38 5 a_36) (ay nY rfl 3 rfl wz (cz 0 il ft 5 zC rfl rfl [(vS (⟨#[119]⟩:ByteArray)),(vI r_3.1),(vI r_6.1),(gV n_38 5 a_36)] (stC_g rfl) wz (ah (ak (jc 4 rfl (fF 7 4 rfl rfl (fF 60 4 rfl rfl (fF 65 4 rfl rfl (Pg 4 5 [(vS (⟨#[119]⟩:ByteArray)),(vI r_3.1),(vI r_6.1),(vL Screen.enc a_36)] rfl rfl (λS hS=>nS (rfl) (nS (rfl) (nS (rfl) (nS (hS) (rfl))))) (au (av 0 5 il ft xC EA rfl rfl (.d (.agg (Wall.enc (⟨(⟨#[119]⟩:ByteArray),r_3.1,r_6.1,a_36⟩:Wall)))) rfl wz ?_)))))))))))))
     obtain ⟨r_46,hr_47,h_44⟩:=bind_some h_44
     refine aD (Ca hr_47) rfl hb23 rfl rfl rfl rfl wz (aa (vB (r_46==0)) (ah ?_))
     rcases aj h_44 with⟨hc_48,h_44⟩|⟨hc_48,h_44⟩
     ·refine aC rfl hc_48 (au (av 0 5 il ft xC EA rfl rfl (.d (.agg (Wall.enc (⟨(⟨#[119]⟩:ByteArray),r_3.1,r_6.1,a_36⟩:Wall)))) rfl wz (cz 0 il ft 2 xC rfl rfl [(vS (⟨#[119]⟩:ByteArray)),(vI r_3.1),(vI r_6.1),(vL Screen.enc a_36)] rfl wz (ah ?_))))
      obtain rfl:=ae h_44
      exact aV () trivial rfl (LA [0,1,2,3,5] (by decide) rfl)
     ·refine aB rfl hc_48 (ax ?_)
      obtain rfl:=ae h_44
      exact aV () trivial rfl (LA [0,1,2,3,5] (by decide) rfl)
    ·refine aB rfl hc_45 (ax ?_)
     obtain rfl:=ae h_44
     exact aV () trivial rfl (LA [0,1,2,3,5] (by decide) rfl)
   ·rintro ⟨⟩ _ sl_ H_ hp_ hq_
    refine aM _ hp_ hq_ (au (dL (aZ hD_13 hn_14) wz rfl (aa (vI ((k_10+1:Nat):Int)) (ah ?_))))
    obtain rfl:=ae hc_16
    exact aU (k_10+1,l_11,(r_40.2.L,r_40.2.f_at,v_43.1)) ⟨hL_17,aN hD_13⟩ (ls_ _) rfl (aG rfl)
 ·rintro s_15 ho_ sl_ H_ hp_ hq_
  subst ho_
  refine aM _ hp_ hq_ (ai (av 0 2 il ft xC EA rfl rfl (.d (.agg (Wall.enc (⟨(⟨#[119]⟩:ByteArray),r_3.1,r_6.1,s_15.2.2⟩:Wall)))) rfl wz (cz 0 il ft 1 xC rfl rfl [(vS (⟨#[119]⟩:ByteArray)),(vI r_3.1),(vI r_6.1),(vL Screen.enc s_15.2.2)] rfl wz (ah ?_))))
  obtain rfl:=ae hF
  exact aA (F5 (.inr rfl) [(.d (.agg (Wall.enc (⟨(⟨#[119]⟩:ByteArray),r_3.1,r_6.1,s_15.2.2⟩:Wall))))] _ [0] [aJ 0] ⟨⟨1,_,_,_,_,_,_,_,rfl,rfl,xC,EA,rfl⟩,trivial⟩ (.cons (mX rfl rfl) (.nil)) (by kernel_rfl) ⟨(by kernel_rfl),trivial⟩ (by decide) (by kernel_rfl))
theorem nG {s_1:Stream} {r:Layout×Stream} (hF:fJ s_1=some r) :
  FnM Tryz.prog 6 [(.ref (aJ 0) 0 0)] [(.cells 2 [(vL eI s_1.L),(vI s_1.f_at)])] (.d (.agg (Layout.enc r.1))) [some (.cells 2 [(vL eI r.2.L),(vI r.2.f_at)])]:=by
 refine FnM.of_wH ⟨Tryz.prog,66,[],[]⟩ rfl Tryz.func6 rfl rfl (lb_ rfl) (by kernel_rfl) ?_
 unfold fJ at hF
 refine ai (bf 0 (.inl rfl) z36 rfl wz (λn_2=>ah (ai (aa (.ref (aJ 0) 0 0) (fI (([5,8,10,16]:List Int).map eI) o9 D8 rfl rfl rfl rfl rfl wz ?_)))))
 obtain ⟨r_3,hr_4,hF⟩:=bind_some hF
 refine eB 0 [0] il ft (jQ hr_4) rfl Oh rfl (by kernel_rfl) (by kernel_rfl) (by kernel_rfl) (by kernel_rfl) (by kernel_rfl) (by kernel_rfl) (by kernel_rfl) (by decide) (by kernel_rfl) wz (vI r_3.1) (by kernel_rfl) ([((aJ 0),some (.cells 2 [(vL eI r_3.2.L),(vI r_3.2.f_at)])),(n_2,some (.cells 4 [(vS (⟨#[]⟩:ByteArray)),(vI 0),(vI 0),.nil]))]:Hp) (by kernel_rfl) (aa (.ref (aJ 0) 0 0) (fI (([4,6,9]:List Int).map eI) o9 D8 rfl rfl rfl rfl rfl wz ?_))
 obtain ⟨r_6,hr_7,hF⟩:=bind_some hF
 refine eB 0 [0] il ft (jQ hr_7) rfl Oh rfl (by kernel_rfl) (by kernel_rfl) (by kernel_rfl) (by kernel_rfl) (by kernel_rfl) (by kernel_rfl) (by kernel_rfl) (by decide) (by kernel_rfl) wz (vI r_6.1) (by kernel_rfl) ([((aJ 0),some (.cells 2 [(vL eI r_6.2.L),(vI r_6.2.f_at)])),(n_2,some (.cells 4 [(vS (⟨#[]⟩:ByteArray)),(vI 0),(vI 0),.nil]))]:Hp) (by kernel_rfl) (aI (.agg [(vS (⟨#[108]⟩:ByteArray)),(vI r_3.1),(vI r_6.1),.nil]) wz (by kernel_rfl) (bf 0 (.inl rfl) z36 rfl wz (λn_9=>cz 0 il ft 2 xe rfl rfl [(vS (⟨#[108]⟩:ByteArray)),(vI r_3.1),(vI r_6.1),.nil] rfl wz (ah (ak (ai (fI (([(⟨#[122,97]⟩:ByteArray),(⟨#[122,98]⟩:ByteArray),(⟨#[122,99]⟩:ByteArray),(⟨#[122,100]⟩:ByteArray)]:List ByteArray).map eS) Jj ez65 rfl rfl rfl rfl rfl wz (bJ Jh rfl wz (aa (vI 0) (ah (iV (λn_16 => ?_))))))))))))
 obtain ⟨o_21,hj_22,hF⟩:=bind_some hF
 obtain ⟨hn_14,hj_22⟩:=aR hj_22
 refine fK (σ:=(List Zone)×(List Int)×Int) (N:=Nm) (λp=>(λ(s_15:(List Zone)×(List Int)×Int) (n_18:Nm)=>([(2,(.ref n_2 0 0)),(3,(.ref n_9 0 0))]:SL_)) p.1 p.2) (λp=>(λ(s_15:(List Zone)×(List Int)×Int) (n_18:Nm)=>([((aJ 0),some (.cells 2 [(vL eI s_15.2.1),(vI s_15.2.2)])),(n_2,some (.cells 4 [(vS (⟨#[]⟩:ByteArray)),(vI 0),(vI 0),.nil])),(n_9,some (.cells 4 [(vS (⟨#[108]⟩:ByteArray)),(vI r_3.1),(vI r_6.1),(gV n_18 6 s_15.1)])),(n_18,gB 6 Zone.enc s_15.1)]:Hp)) p.1 p.2) (λ(k_10:Nat)=>(λp=>(λ(s_15:(List Zone)×(List Int)×Int) (n_18:Nm)=>([(0,(.ref (aJ 0) 0 0)),(2,(.ref n_2 0 0)),(3,(.ref n_9 0 0)),(14,(vL eS ([(⟨#[122,97]⟩:ByteArray),(⟨#[122,98]⟩:ByteArray),(⟨#[122,99]⟩:ByteArray),(⟨#[122,100]⟩:ByteArray)]:List ByteArray))),(15,(vI (([(⟨#[122,97]⟩:ByteArray),(⟨#[122,98]⟩:ByteArray),(⟨#[122,99]⟩:ByteArray),(⟨#[122,100]⟩:ByteArray)]:List ByteArray).length:Int))),(16,(vI (k_10:Int)))]:SL_)) p.1 p.2)) (λk x s=>fO r_3 r_6 k x s) o_21 ([(⟨#[122,97]⟩:ByteArray),(⟨#[122,98]⟩:ByteArray),(⟨#[122,99]⟩:ByteArray),(⟨#[122,100]⟩:ByteArray)]:List ByteArray) ((([]:List Zone),r_6.2.L,r_6.2.f_at),n_16) hj_22 rfl (aG rfl) ?_ ?_
 ·rintro ⟨k_10,l_11,s_15,n_18⟩ ⟨hL_20,hD_13⟩
  dsimp only at hL_20 hD_13
  cases l_11 with
  | nil =>
   obtain rfl:=ae hL_20
   refine ai (aa (vB (decide ((k_10:Int)<(([(⟨#[122,97]⟩:ByteArray),(⟨#[122,98]⟩:ByteArray),(⟨#[122,99]⟩:ByteArray),(⟨#[122,100]⟩:ByteArray)]:List ByteArray).length:Int)))) (ah ?_))
   refine ak (aB rfl (drop_nil hD_13) (aS ?_))
   exact aV (s_15,n_18) rfl rfl (aG rfl)
  | cons x_12 l_11 =>
   obtain ⟨c_,hc_19,hL_20⟩:=bind_some hL_20
   refine ai (aa (vB (decide ((k_10:Int)<(([(⟨#[122,97]⟩:ByteArray),(⟨#[122,98]⟩:ByteArray),(⟨#[122,99]⟩:ByteArray),(⟨#[122,100]⟩:ByteArray)]:List ByteArray).length:Int)))) (ah ?_))
   refine ak (aC rfl (aW hD_13) (ax ?_))
   unfold fO at hc_19
   refine ak (aL (ai (dM Jj rfl rfl (bu hD_13) rfl wz (bI sz9 ag9 rfl (vS x_12) rfl wz (aa (vS x_12) (ah (ak (ai (aa (.ref (aJ 0) 0 0) ?_)))))))))
   obtain ⟨r_23,hr_24,hc_19⟩:=bind_some hc_19
   refine eB 0 [0] il ft (tZ hr_24) rfl hb22 rfl (by kernel_rfl) (by kernel_rfl) (by kernel_rfl) (by kernel_rfl) (by kernel_rfl) (by kernel_rfl) (by kernel_rfl) (by decide) (by kernel_rfl) wz (vB r_23.1) (by kernel_rfl) ([((aJ 0),some (.cells 2 [(vL eI r_23.2.L),(vI r_23.2.f_at)])),(n_2,some (.cells 4 [(vS (⟨#[]⟩:ByteArray)),(vI 0),(vI 0),.nil])),(n_9,some (.cells 4 [(vS (⟨#[108]⟩:ByteArray)),(vI r_3.1),(vI r_6.1),(gV n_18 6 s_15.1)])),(n_18,gB 6 Zone.enc s_15.1)]:Hp) (by kernel_rfl) (ah ?_)
   rcases aj hc_19 with⟨hc_26,hc_19⟩|⟨hc_26,hc_19⟩
   ·refine aC rfl hc_26 (aS (au (dL (aZ hD_13 hn_14) wz rfl (aa (vI ((k_10+1:Nat):Int)) (ah ?_)))))
    obtain rfl:=ae hc_19
    exact aU (k_10+1,l_11,(s_15.1,r_23.2.L,r_23.2.f_at),n_18) ⟨hL_20,aN hD_13⟩ (ls_ _) rfl (aG rfl)
   ·refine aB rfl hc_26 (ax (ak (bz (aa (vS x_12) (aa (.ref (aJ 0) 0 0) (ay zq rfl 1 rfl wz (av 3 2 (.inr (by kernel_rfl)) (λ_ _ ag=>trivial) sz3 ag3 rfl rfl (vI r_3.1) rfl wz (aa (vI (w64 (r_3.1-1))) ?_))))))))
    obtain ⟨r_27,hr_28,hc_19⟩:=bind_some hc_19
    refine eB 5 [0] (.inr (by kernel_rfl)) (λ_ _ ag=>by exact⟨.inr (.inr (by kernel_rfl)),trivial⟩) (di hr_28) rfl CX rfl (by kernel_rfl) (by kernel_rfl) (by kernel_rfl) (by kernel_rfl) (by kernel_rfl) (by kernel_rfl) (by kernel_rfl) (by decide) (by kernel_rfl) wz (vI r_27.1) (by kernel_rfl) ([((aJ 0),some (.cells 2 [(vL eI r_27.2.L),(vI r_27.2.f_at)])),(n_2,some (.cells 4 [(vS (⟨#[]⟩:ByteArray)),(vI 0),(vI 0),.nil])),(n_9,some (.cells 4 [(vS (⟨#[108]⟩:ByteArray)),(vI r_3.1),(vI r_6.1),(gV n_18 6 s_15.1)])),(n_18,gB 6 Zone.enc s_15.1)]:Hp) (by kernel_rfl) (aa (.ref (aJ 0) 0 0) (ay zQ rfl 2 rfl wz (av 8 2 (.inr (by kernel_rfl)) (λ_ _ ag=>⟨.inl ⟨rfl,rfl⟩,⟨.inr (.inl (Kw (Dy ag (i:=2) (j:=0) rfl rfl (by decide)))),trivial⟩⟩) sz3 ag3 rfl rfl (vI r_6.1) rfl wz (aa (vI (w64 (r_6.1-1))) ?_))))
    obtain ⟨r_30,hr_31,hc_19⟩:=bind_some hc_19
    refine eB 10 [0] (.inr (by kernel_rfl)) (λ_ _ ag=>by exact⟨.inr (.inr (by kernel_rfl)),⟨.inr (.inr (by kernel_rfl)),⟨.inr (.inr (by kernel_rfl)),trivial⟩⟩⟩) (di hr_31) rfl CX rfl (by kernel_rfl) (by kernel_rfl) (by kernel_rfl) (by kernel_rfl) (by kernel_rfl) (by kernel_rfl) (by kernel_rfl) (by decide) (by kernel_rfl) wz (vI r_30.1) (by kernel_rfl) ([((aJ 0),some (.cells 2 [(vL eI r_30.2.L),(vI r_30.2.f_at)])),(n_2,some (.cells 4 [(vS (⟨#[]⟩:ByteArray)),(vI 0),(vI 0),.nil])),(n_9,some (.cells 4 [(vS (⟨#[108]⟩:ByteArray)),(vI r_3.1),(vI r_6.1),(gV n_18 6 s_15.1)])),(n_18,gB 6 Zone.enc s_15.1)]:Hp) (by kernel_rfl) (aI (.d (.agg (Rect.enc (⟨r_27.1,r_30.1,0,0⟩:Rect)))) wz (by kernel_rfl) (aa (.ref (aJ 0) 0 0) (fI (([0,0,1,2]:List Int).map eI) o9 D8 rfl rfl rfl rfl rfl wz ?_)))
    obtain ⟨r_33,hr_34,hc_19⟩:=bind_some hc_19
    refine eB 14 [0] (.inr (by kernel_rfl)) (λ_ _ ag=>by exact⟨.inr (.inr (by kernel_rfl)),⟨.inr (.inr (by kernel_rfl)),⟨.inr (.inr (by kernel_rfl)),⟨.inr (.inr (by kernel_rfl)),trivial⟩⟩⟩⟩) (jQ hr_34) rfl Oh rfl (by kernel_rfl) (by kernel_rfl) (by kernel_rfl) (by kernel_rfl) (by kernel_rfl) (by kernel_rfl) (by kernel_rfl) (by decide) (by kernel_rfl) wz (vI r_33.1) (by kernel_rfl) ([((aJ 0),some (.cells 2 [(vL eI r_33.2.L),(vI r_33.2.f_at)])),(n_2,some (.cells 4 [(vS (⟨#[]⟩:ByteArray)),(vI 0),(vI 0),.nil])),(n_9,some (.cells 4 [(vS (⟨#[108]⟩:ByteArray)),(vI r_3.1),(vI r_6.1),(gV n_18 6 s_15.1)])),(n_18,gB 6 Zone.enc s_15.1)]:Hp) (by kernel_rfl) (aI (.d (.agg (Zone.enc (⟨x_12,(⟨r_27.1,r_30.1,0,0⟩:Rect),r_33.1⟩:Zone)))) wz (by kernel_rfl) (bf 16 (.inr (by kernel_rfl)) z70 rfl wz (λn_36=>cz 17 (.inr (by kernel_rfl)) (λ_ _ ag=>⟨.inr (.inr (by kernel_rfl)),⟨.inr (.inr (by kernel_rfl)),⟨.inr (.inr (by kernel_rfl)),⟨.inr (.inr (by kernel_rfl)),⟨.inr (.inr (by kernel_rfl)),⟨.inr (.inr (by kernel_rfl)),trivial⟩⟩⟩⟩⟩⟩) 4 BS rfl rfl [(vS x_12),(vI r_27.1),(vI r_30.1),(vI 0),(vI 0),(vI r_33.1)] rfl wz (ah (ak (bz (aa (.ref (aJ 0) 0 0) (ay zq rfl 1 rfl wz (av 2 2 (.inr (by kernel_rfl)) (λ_ _ ag=>trivial) sz3 ag3 rfl rfl (vI r_3.1) rfl wz (ay xI rfl 1 rfl wz (ay ic rfl 1 rfl wz (av 5 4 (.inr (by kernel_rfl)) (λ_ _ ag=>⟨.inl ⟨rfl,rfl⟩,trivial⟩) sz3 ag3 rfl rfl (vI r_27.1) rfl wz (aa (vI (w64 (r_3.1-r_27.1))) ?_)))))))))))))
    obtain ⟨r_37,hr_38,hc_19⟩:=bind_some hc_19
    refine eB 7 [0] (.inr (by kernel_rfl)) (λ_ _ ag=>by exact⟨.inr (.inr (by kernel_rfl)),⟨.inr (.inr (by kernel_rfl)),trivial⟩⟩) (di hr_38) rfl CX rfl (by kernel_rfl) (by kernel_rfl) (by kernel_rfl) (by kernel_rfl) (by kernel_rfl) (by kernel_rfl) (by kernel_rfl) (by decide) (by kernel_rfl) wz (vI r_37.1) (by kernel_rfl) ([((aJ 0),some (.cells 2 [(vL eI r_37.2.L),(vI r_37.2.f_at)])),(n_2,some (.cells 4 [(vS (⟨#[]⟩:ByteArray)),(vI 0),(vI 0),.nil])),(n_9,some (.cells 4 [(vS (⟨#[108]⟩:ByteArray)),(vI r_3.1),(vI r_6.1),(gV n_18 6 s_15.1)])),(n_18,gB 6 Zone.enc s_15.1),(n_36,some (.cells 6 [(vS x_12),(vI r_27.1),(vI r_30.1),(vI 0),(vI 0),(vI r_33.1)]))]:Hp) (by kernel_rfl) (aa (.ref (aJ 0) 0 0) (ay zQ rfl 2 rfl wz (av 10 2 (.inr (by kernel_rfl)) (λ_ _ ag=>⟨.inl ⟨rfl,rfl⟩,⟨.inl ⟨rfl,rfl⟩,⟨.inr (.inl (Kw (Dy ag (i:=2) (j:=0) rfl rfl (by decide)))),trivial⟩⟩⟩) sz3 ag3 rfl rfl (vI r_6.1) rfl wz (ay xI rfl 1 rfl wz (ay gu rfl 2 rfl wz (av 13 4 (.inr (by kernel_rfl)) (λ_ _ ag=>⟨.inl ⟨rfl,rfl⟩,⟨.inl ⟨rfl,rfl⟩,⟨.inr (.inl (Kw (Dy ag (i:=4) (j:=0) rfl rfl (by decide)))),⟨.inl ⟨rfl,rfl⟩,trivial⟩⟩⟩⟩) sz3 ag3 rfl rfl (vI r_30.1) rfl wz (aa (vI (w64 (r_6.1-r_30.1))) ?_)))))))
    obtain ⟨r_40,hr_41,hc_19⟩:=bind_some hc_19
    refine eB 15 [0] (.inr (by kernel_rfl)) (λ_ _ ag=>by exact⟨.inr (.inr (by kernel_rfl)),⟨.inr (.inr (by kernel_rfl)),⟨.inr (.inr (by kernel_rfl)),⟨.inr (.inr (by kernel_rfl)),⟨.inr (.inr (by kernel_rfl)),trivial⟩⟩⟩⟩⟩) (di hr_41) rfl CX rfl (by kernel_rfl) (by kernel_rfl) (by kernel_rfl) (by kernel_rfl) (by kernel_rfl) (by kernel_rfl) (by kernel_rfl) (by decide) (by kernel_rfl) wz (vI r_40.1) (by kernel_rfl) ([((aJ 0),some (.cells 2 [(vL eI r_40.2.L),(vI r_40.2.f_at)])),(n_2,some (.cells 4 [(vS (⟨#[]⟩:ByteArray)),(vI 0),(vI 0),.nil])),(n_9,some (.cells 4 [(vS (⟨#[108]⟩:ByteArray)),(vI r_3.1),(vI r_6.1),(gV n_18 6 s_15.1)])),(n_18,gB 6 Zone.enc s_15.1),(n_36,some (.cells 6 [(vS x_12),(vI r_27.1),(vI r_30.1),(vI 0),(vI 0),(vI r_33.1)]))]:Hp) (by kernel_rfl) (ay xI rfl 1 rfl wz (ay mg rfl 3 rfl wz (cz 18 (.inr (by kernel_rfl)) (λ_ _ ag=>⟨.inr (.inr (by kernel_rfl)),⟨.inr (.inr (by kernel_rfl)),⟨.inr (.inr (by kernel_rfl)),⟨.inr (.inr (by kernel_rfl)),⟨.inr (.inr (by kernel_rfl)),⟨.inr (.inr (by kernel_rfl)),trivial⟩⟩⟩⟩⟩⟩) 4 sz3 rfl rfl [(vS x_12),(vI r_27.1),(vI r_30.1),(vI r_37.1),(vI 0),(vI r_33.1)] rfl wz (ay xI rfl 1 rfl wz (ay lQ rfl 4 rfl wz (cz 21 (.inr (by kernel_rfl)) (λ_ _ ag=>⟨.inr (.inr (by kernel_rfl)),⟨.inr (.inr (by kernel_rfl)),⟨.inr (.inr (by kernel_rfl)),⟨.inr (.inr (by kernel_rfl)),⟨.inr (.inr (by kernel_rfl)),⟨.inr (.inr (by kernel_rfl)),⟨.inr (.inr (by kernel_rfl)),trivial⟩⟩⟩⟩⟩⟩⟩) 4 sz3 rfl rfl [(vS x_12),(vI r_27.1),(vI r_30.1),(vI r_37.1),(vI r_40.1),(vI r_33.1)] rfl wz (ah (aM (H0:=([((aJ 0),some (.cells 2 [(vL eI r_40.2.L),(vI r_40.2.f_at)])),(n_2,some (.cells 4 [(vS (⟨#[]⟩:ByteArray)),(vI 0),(vI 0),.nil])),(n_9,some (.cells 4 [(vS (⟨#[108]⟩:ByteArray)),(vI r_3.1),(vI r_6.1),(gV n_18 6 s_15.1)])),(n_18,gB 6 Zone.enc s_15.1),(n_36,some (.cells 6 [(vS x_12),(vI r_27.1),(vI r_30.1),(vI r_37.1),(vI r_40.1),(vI r_33.1)]))]:Hp)) ([(0,(.ref (aJ 0) 0 0)),(2,(.ref n_2 0 0)),(3,(.ref n_9 0 0)),(6,(.ref n_36 0 0)),(14,(vL eS ([(⟨#[122,97]⟩:ByteArray),(⟨#[122,98]⟩:ByteArray),(⟨#[122,99]⟩:ByteArray),(⟨#[122,100]⟩:ByteArray)]:List ByteArray))),(15,(vI (([(⟨#[122,97]⟩:ByteArray),(⟨#[122,98]⟩:ByteArray),(⟨#[122,99]⟩:ByteArray),(⟨#[122,100]⟩:ByteArray)]:List ByteArray).length:Int))),(16,(vI (k_10:Int)))]:SL_) (by kernel_rfl) (oF (by kernel_rfl)) (au (ay qU rfl 3 rfl wz (av 0 2 il ft CO Dw rfl rfl (gV n_18 6 s_15.1) rfl wz (av 0 4 il ft BS Lu rfl rfl (.d (.agg (Zone.enc (⟨x_12,(⟨r_27.1,r_30.1,r_37.1,r_40.1⟩:Rect),r_33.1⟩:Zone)))) rfl wz (fI (([(⟨x_12,(⟨r_27.1,r_30.1,r_37.1,r_40.1⟩:Rect),r_33.1⟩:Zone)]:List Zone).map Zone.enc) A8 ez34 rfl rfl rfl rfl rfl wz ?_)))))))))))))
    obtain ⟨a_43,hz_44,hc_19⟩:=bind_some hc_19
    refine kH 0 il ft (i:=3) el34 el34 BS z70 rfl (by decide) by70 (by decide) (λ_=>rfl) rfl rfl rfl hz_44 wz (λn_45=>ay qU rfl 3 rfl wz (cz 0 il ft 2 CO rfl rfl [(vS (⟨#[108]⟩:ByteArray)),(vI r_3.1),(vI r_6.1),(gV n_45 6 a_43)] (stC_g rfl) wz (ah (au (dL (aZ hD_13 hn_14) wz rfl (aa (vI ((k_10+1:Nat):Int)) (ah ?_)))))))
    obtain rfl:=ae hc_19
    exact aU (k_10+1,l_11,(a_43,r_40.2.L,r_40.2.f_at),n_45) ⟨hL_20,aN hD_13⟩ (ls_ _) rfl (aG rfl)
 ·rintro ⟨s_15,n_18⟩ ho_ sl_ H_ hp_ hq_
  subst ho_
  refine aM _ hp_ hq_ (ak (jc 3 rfl (Pg 3 2 [(vS (⟨#[108]⟩:ByteArray)),(vI r_3.1),(vI r_6.1),(vL Zone.enc s_15.1)] rfl rfl (λS hS=>nS (rfl) (nS (rfl) (nS (rfl) (nS (hS) (rfl))))) (au (av 0 2 il ft xe BD rfl rfl (.d (.agg (Layout.enc (⟨(⟨#[108]⟩:ByteArray),r_3.1,r_6.1,s_15.1⟩:Layout)))) rfl wz (cz 0 il ft 1 xe rfl rfl [(vS (⟨#[108]⟩:ByteArray)),(vI r_3.1),(vI r_6.1),(vL Zone.enc s_15.1)] rfl wz (ah ?_)))))))
  obtain rfl:=ae hF
  exact aA (F5 (.inr rfl) [(.d (.agg (Layout.enc (⟨(⟨#[108]⟩:ByteArray),r_3.1,r_6.1,s_15.1⟩:Layout))))] _ [0] [aJ 0] ⟨⟨1,_,_,_,_,_,_,_,rfl,rfl,xe,BD,rfl⟩,trivial⟩ (.cons (mX rfl rfl) (.nil)) (by kernel_rfl) ⟨(by kernel_rfl),trivial⟩ (by decide) (by kernel_rfl))
theorem bv {n_1:Int} {low_2:Int} {high_3:Int} {r:Bool} (hF:aQ n_1 low_2 high_3=some r) :
  FnM Tryz.prog 57 [(vI n_1),(vI low_2),(vI high_3)] [] (vB r) []:=by
 refine FnM.of_wH ⟨Tryz.prog,15,[],[]⟩ rfl Tryz.func57 rfl rfl (lb_ rfl) (by kernel_rfl) ?_
 unfold aQ at hF
 refine ai (aa (vB false) (ah (ak ?_)))
 obtain ⟨v_4,h_5,hF⟩:=bind_some hF
 refine aP [(6,(vB v_4))] [] ?_ ?_
 ·refine au (aa (vI n_1) (aa (vI low_2) (aa (vB (decide (n_1<low_2))) ?_)))
  rcases aj h_5 with⟨hc_6,h_5⟩|⟨hc_6,h_5⟩
  ·refine aF rfl hc_6 wz (af (af (af (aa (vB true) (aa (vB true) (ah ?_))))))
   obtain rfl:=ae h_5
   exact cu
  ·refine aF rfl hc_6 wz (aI (vI n_1) wa rfl (aI (vI high_3) wa rfl (aI (vB (decide (n_1>high_3))) wa rfl (aa (vB (decide (n_1>high_3))) (aa (vB (decide (n_1>high_3))) (ah ?_))))))
   obtain rfl:=ae h_5
   exact cu
 ·rintro ⟨⟩ _ sl_ H_ hp_ hq_
  refine aM _ hp_ hq_ ?_
  obtain rfl:=ae hF
  exact aA (aK [(vB v_4)] ⟨rfl,trivial⟩)
theorem j5 {r_1:Rect} {r:Int} (hF:fV r_1=some r) :
  FnM Tryz.prog 47 [(.d (.agg (Rect.enc r_1)))] [] (vI r) []:=by
 refine FnM.of_wH ⟨Tryz.prog,25,[],[]⟩ rfl Tryz.func47 rfl rfl (lb_ rfl) (by kernel_rfl) ?_
 unfold fV at hF
 refine ai (dY 0 (.inl rfl) (Rect.v r_1) rfl rfl wz (λn_2=>aa (vI 0) (ah (ak (ak ?_)))))
 obtain ⟨v_3,h_4,hF⟩:=bind_some hF
 refine aP [(1,(.ref n_2 0 0)),(10,(vB v_3))] [(n_2,some (.cells 4 (Rect.v r_1)))] ?_ ?_
 ·refine au (ay ic rfl 0 rfl wz (av 0 0 il ft sz3 ag3 rfl rfl (vI r_1.X) rfl wz ?_))
  obtain ⟨r_5,hr_6,h_4⟩:=bind_some h_4
  refine aD (bv hr_6) rfl qV rfl rfl rfl rfl wz ?_
  rcases aj h_4 with⟨hc_7,h_4⟩|⟨hc_7,h_4⟩
  ·refine aF rfl hc_7 wz (af (af (af (aa (vB true) (ah ?_)))))
   obtain rfl:=ae h_4
   exact cu
  ·refine aF rfl hc_7 wz (ay gu rfl 1 rfl wa (av 0 0 il ft sz3 ag3 rfl rfl (vI r_1.Y) rfl wa ?_))
   obtain ⟨r_8,hr_9,h_4⟩:=bind_some h_4
   refine aD (bv hr_9) rfl qV rfl rfl rfl rfl wa (aa (vB r_8) (ah ?_))
   obtain rfl:=ae h_4
   exact cu
 ·rintro ⟨⟩ _ sl_ H_ hp_ hq_
  refine aM _ hp_ hq_ ?_
  rcases aj hF with⟨hc_10,hF⟩|⟨hc_10,hF⟩
  ·refine aC rfl hc_10 (ai (aa (vI 1) (ah ?_)))
   obtain rfl:=ae hF
   exact aA (aK [(vI 1)] ⟨rfl,trivial⟩)
  ·refine aB rfl hc_10 (ax (ak (ak ?_)))
   obtain ⟨v_11,h_12,hF⟩:=bind_some hF
   refine aP [(24,(vB v_11))] [(n_2,some (.cells 4 (Rect.v r_1)))] ?_ ?_
   ·refine au (ay mg rfl 2 rfl wz (av 0 0 il ft sz3 ag3 rfl rfl (vI r_1.W) rfl wz (ay ic rfl 0 rfl wz (av 0 0 il ft sz3 ag3 rfl rfl (vI r_1.X) rfl wz (aa (vI (w64 (100000-r_1.X))) ?_)))))
    obtain ⟨r_13,hr_14,h_12⟩:=bind_some h_12
    refine aD (bv hr_14) rfl qV rfl rfl rfl rfl wz ?_
    rcases aj h_12 with⟨hc_15,h_12⟩|⟨hc_15,h_12⟩
    ·refine aF rfl hc_15 wz (af (af (af (af (af (af (aa (vB true) (ah ?_))))))))
     obtain rfl:=ae h_12
     exact cu
    ·refine aF rfl hc_15 wz (ay lQ rfl 3 rfl wa (av 0 0 il ft sz3 ag3 rfl rfl (vI r_1.H) rfl wa (ay gu rfl 1 rfl wa (av 0 0 il ft sz3 ag3 rfl rfl (vI r_1.Y) rfl wa (aI (vI (w64 (100000-r_1.Y))) wa rfl ?_)))))
     obtain ⟨r_16,hr_17,h_12⟩:=bind_some h_12
     refine aD (bv hr_17) rfl qV rfl rfl rfl rfl wa (aa (vB r_16) (ah ?_))
     obtain rfl:=ae h_12
     exact cu
   ·rintro ⟨⟩ _ sl_ H_ hp_ hq_
    refine aM _ hp_ hq_ ?_
    rcases aj hF with⟨hc_18,hF⟩|⟨hc_18,hF⟩
    ·refine aC rfl hc_18 (ai (aa (vI 1) (ah ?_)))
     obtain rfl:=ae hF
     exact aA (aK [(vI 1)] ⟨rfl,trivial⟩)
    ·refine aB rfl hc_18 (ax (ai (aa (vI 0) (ah ?_))))
     obtain rfl:=ae hF
     exact aA (aK [(vI 0)] ⟨rfl,trivial⟩)
theorem mG {l_1:(List Rect)} {r:Int} (hF:dX l_1=some r) :
  FnM Tryz.prog 24 [(vL Rect.enc l_1)] [] (vI r) []:=by
 refine FnM.of_wH ⟨Tryz.prog,21,[],[]⟩ rfl Tryz.func24 rfl rfl (lb_ rfl) (by kernel_rfl) ?_
 unfold dX at hF
 refine ai (aa (vI 0) (ah (ak (ai (aa (vL Rect.enc l_1) (bJ uC rfl wz (aa (vB (decide ((l_1.length:Int)>2000))) (ah ?_))))))))
 rcases aj hF with⟨hc_2,hF⟩|⟨hc_2,hF⟩
 ·refine aC rfl hc_2 (ai (aa (vI 2) (ah ?_)))
  obtain rfl:=ae hF
  exact aA (aK [(vI 2)] ⟨rfl,trivial⟩)
 ·refine aB rfl hc_2 (ax (ak (ai (aa (vL Rect.enc l_1) (bJ uC rfl wz (aa (vI 0) (ah ?_)))))))
  obtain ⟨o_11,hj_12,hF⟩:=bind_some hF
  obtain ⟨hn_7,hj_12⟩:=aR hj_12
  refine bL (λ(s_8:Unit)=>[]) (λ(s_8:Unit)=>[]) (λ(k_3:Nat)=>(λ(s_8:Unit)=>[(9,(vL Rect.enc l_1)),(10,(vI (l_1.length:Int))),(11,(vI (k_3:Int)))])) (λk x s=>gp k x s) o_11 l_1 () hj_12 rfl (aG rfl) ?_ ?_
  ·rintro ⟨k_3,l_4,s_8⟩ ⟨hL_10,hD_6⟩
   dsimp only at hL_10 hD_6
   cases l_4 with
   | nil =>
    obtain rfl:=ae hL_10
    refine ai (aa (vB (decide ((k_3:Int)<(l_1.length:Int)))) (ah ?_))
    refine ak (aB rfl (drop_nil hD_6) (aS ?_))
    exact aV (s_8) rfl rfl (aG rfl)
   | cons x_5 l_4 =>
    obtain ⟨c_,hc_9,hL_10⟩:=bind_some hL_10
    refine ai (aa (vB (decide ((k_3:Int)<(l_1.length:Int)))) (ah ?_))
    refine ak (aC rfl (aW hD_6) (ax ?_))
    unfold gp at hc_9
    refine ak (aL (ai (dM tO rfl rfl (bu hD_6) rfl wz (bI eU jN rfl (.d (.agg (Rect.enc x_5))) rfl wz (bf 0 (.inl rfl) z27 rfl wz (λn_13=>cz 0 il ft 0 eU rfl rfl (Rect.v x_5) rfl wz (ah (ai (av 0 0 il ft eU jN rfl rfl (.d (.agg (Rect.enc x_5))) rfl wz ?_)))))))))
    obtain ⟨r_14,hr_15,hc_9⟩:=bind_some hc_9
    refine aD (j5 hr_15) rfl hb47 rfl rfl rfl rfl wz (aa (vI r_14) (ah (ai (aa (vI r_14) (aa (vB (r_14 != 0)) (ah ?_))))))
    rcases aj hc_9 with⟨hc_16,hc_9⟩|⟨hc_16,hc_9⟩
    ·refine aC rfl hc_16 (ai (aa (vI r_14) (aa (vI r_14) (ah ?_))))
     obtain rfl:=ae hc_9
     obtain rfl:=ae hL_10
     obtain rfl:=ae hF
     exact aA (aK [(vI r_14)] ⟨rfl,trivial⟩)
    ·refine aB rfl hc_16 (ax (au (dL (aZ hD_6 hn_7) wz rfl (aa (vI ((k_3+1:Nat):Int)) (ah ?_)))))
     obtain rfl:=ae hc_9
     exact aU (k_3+1,l_4,()) ⟨hL_10,aN hD_6⟩ (ls_ _) rfl (aG rfl)
  ·rintro s_8 ho_ sl_ H_ hp_ hq_
   subst ho_
   refine aM _ hp_ hq_ (ai (aa (vI 0) (ah ?_)))
   obtain rfl:=ae hF
   exact aA (aK [(vI 0)] ⟨rfl,trivial⟩)
theorem nU {n_1:Int} {r:Bool} (hF:dN n_1=some r) :
  FnM Tryz.prog 74 [.nil,(vI n_1)] [] (kV r (aJ 0) 4 ([]:List Rect)) (kO r 4):=by
 refine FnM.of_wH ⟨Tryz.prog,27,[],[]⟩ rfl Tryz.func74 rfl rfl (lb_ rfl) (by kernel_rfl) ?_
 unfold dN at hF
 refine ai (aa .nil (ah (ak (ai (aa (vI n_1) (aa (vB (decide (n_1<0))) (ah ?_)))))))
 rcases aj hF with⟨hc_2,hF⟩|⟨hc_2,hF⟩
 ·refine aC rfl hc_2 (au ?_)
  cases hF
 ·refine aB rfl hc_2 (ax (ak (ai (aa (vI n_1) (aa .nil (Pd Cb rfl wz (aa .nil (Pf uC rfl wz (aa (vI (w64 (0-0))) (aa (vI (w64 (n_1-(w64 (0-0))))) (aa (vI (w64 (n_1-(w64 (0-0))))) (ah (ai (aa (vI (w64 (n_1-(w64 (0-0))))) (aa (vB (decide ((w64 (n_1-(w64 (0-0))))>0))) (ah ?_))))))))))))))))
  rcases aj hF with⟨hc_3,hF⟩|⟨hc_3,hF⟩
  ·refine aC rfl hc_3 (au (aa .nil (aa .nil (Pd Cb rfl wz (aI .nil wz (by kernel_rfl) (aa (vI (w64 (n_1-(w64 (0-0))))) ?_))))))
   obtain ⟨_,hz_5,hF⟩:=bind_some hF
   refine h_appz (enc:=Rect.enc) 0 (.inl rfl) Cb (by kernel_rfl) eU z27 rfl (by decide) M8 rfl rfl hz_5 wz (λn_4=>aa .nil (Pf uC rfl wz (h_cutm (m:=0) uC eU rfl rfl rfl (Nat.zero_le _) wz (aa (.vs n_4 4 0 0) (ah (ai (aa (.vs n_4 4 0 0) (aa (.vs n_4 4 0 0) (ah ?_)))))))))
   obtain rfl:=ae hF
   exact aA (finK (.inr rfl) 0 rfl rfl)
  ·refine aB rfl hc_3 (ax (ai (aa .nil (aa .nil (ah ?_)))))
   obtain rfl:=ae hF
   exact aA (finK0 (.inr rfl) rfl)
theorem jh {slices_1:(List (List Rect))} {r:(List Rect)} (hF:dw slices_1=some r) :
  FnM Tryz.prog 48 [(vL (eL Rect.enc) slices_1)] [] (vL Rect.enc r) []:=by
 refine FnM.of_wH ⟨Tryz.prog,36,[],[]⟩ rfl Tryz.func48 rfl rfl (lb_ rfl) (by kernel_rfl) ?_
 unfold dw at hF
 refine ai (aa .nil (ah (ai (aa (vI 0) (ah (ak (ai (aa (vL (eL Rect.enc) slices_1) (bJ un137 rfl wz (aa (vI 0) (ah ?_)))))))))))
 obtain ⟨o_10,hj_11,hF⟩:=bind_some hF
 obtain ⟨hn_6,hj_11⟩:=aR hj_11
 refine bL (λ(s_7:Int)=>[(0,(vL (eL Rect.enc) slices_1)),(3,(vI s_7))]) (λ(s_7:Int)=>[]) (λ(k_2:Nat)=>(λ(s_7:Int)=>[(0,(vL (eL Rect.enc) slices_1)),(3,(vI s_7)),(9,(vL (eL Rect.enc) slices_1)),(10,(vI (slices_1.length:Int))),(11,(vI (k_2:Int)))])) (λk x s=>dF k x s) o_10 slices_1 0 hj_11 rfl (aG rfl) ?_ ?_
 ·rintro ⟨k_2,l_3,s_7⟩ ⟨hL_9,hD_5⟩
  dsimp only at hL_9 hD_5
  cases l_3 with
  | nil =>
   obtain rfl:=ae hL_9
   refine ai (aa (vB (decide ((k_2:Int)<(slices_1.length:Int)))) (ah ?_))
   refine ak (aB rfl (drop_nil hD_5) (aS ?_))
   exact aV (s_7) rfl rfl (aG rfl)
  | cons x_4 l_3 =>
   obtain ⟨c_,hc_8,hL_9⟩:=bind_some hL_9
   refine ai (aa (vB (decide ((k_2:Int)<(slices_1.length:Int)))) (ah ?_))
   refine ak (aC rfl (aW hD_5) (ax ?_))
   unfold dF at hc_8
   refine ak (aL (ai (dM MN rfl rfl (bu hD_5) rfl wz (bI Lh KU rfl (vL Rect.enc x_4) rfl wz (aa (vL Rect.enc x_4) (ah (ai (aa (vI s_7) (aa (vL Rect.enc x_4) (bJ uC rfl wz (aa (vI (w64 (s_7+(x_4.length:Int)))) (aa (vI (w64 (s_7+(x_4.length:Int)))) (ah (ai (aa (vI (w64 (s_7+(x_4.length:Int)))) (aa (vB (decide ((w64 (s_7+(x_4.length:Int)))<0))) (ah ?_)))))))))))))))))
   obtain ⟨v_12,h_13,hc_8⟩:=bind_some hc_8
   refine aP [(0,(vL (eL Rect.enc) slices_1)),(3,(vI (w64 (s_7+(x_4.length:Int))))),(9,(vL (eL Rect.enc) slices_1)),(10,(vI (slices_1.length:Int))),(11,(vI (k_2:Int)))] [] ?_ ?_
   ·rcases aj h_13 with⟨hc_14,h_13⟩|⟨hc_14,h_13⟩
    ·refine aC rfl hc_14 (au ?_)
     cases h_13
    ·refine aB rfl hc_14 (ax ?_)
     obtain rfl:=ae h_13
     exact cu
   ·rintro ⟨⟩ _ sl_ H_ hp_ hq_
    refine aM _ hp_ hq_ (au (dL (aZ hD_5 hn_6) wz rfl (aa (vI ((k_2+1:Nat):Int)) (ah ?_))))
    obtain rfl:=ae hc_8
    exact aU (k_2+1,l_3,(w64 (s_7+(x_4.length:Int)))) ⟨hL_9,aN hD_5⟩ (ls_ _) rfl (aG rfl)
 ·rintro s_7 ho_ sl_ H_ hp_ hq_
  subst ho_
  refine aM _ hp_ hq_ (ai (aa (vI s_7) ?_))
  obtain ⟨b_15,hr_16,hF⟩:=bind_some hF
  refine h_callk (enc:=Rect.enc) (nU hr_16) rfl hb74 (by kernel_rfl) rfl (by kernel_rfl) wz (λn_17=>aa (kV b_15 n_17 4 ([]:List Rect)) (ah (ak (ai (aa (vL (eL Rect.enc) slices_1) (bJ un137 rfl wz (aa (vI 0) (ah ?_))))))))
  obtain ⟨o_28,hj_29,hF⟩:=bind_some hF
  obtain ⟨hn_22,hj_29⟩:=aR hj_29
  refine fK (σ:=(List Rect)) (N:=Nm) (λp=>(λ(s_23:List Rect) (n_25:Nm)=>([(6,(kV b_15 n_25 4 s_23))]:SL_)) p.1 p.2) (λp=>(λ(s_23:List Rect) (n_25:Nm)=>([(n_25,kB b_15 4 Rect.enc s_23)]:Hp)) p.1 p.2) (λ(k_18:Nat)=>(λp=>(λ(s_23:List Rect) (n_25:Nm)=>([(6,(kV b_15 n_25 4 s_23)),(25,(vL (eL Rect.enc) slices_1)),(26,(vI (slices_1.length:Int))),(27,(vI (k_18:Int)))]:SL_)) p.1 p.2)) (λk x s=>dH k x s) o_28 slices_1 (([]:List Rect),n_17) hj_29 rfl (aG rfl) ?_ ?_
  ·rintro ⟨k_18,l_19,s_23,n_25⟩ ⟨hL_27,hD_21⟩
   dsimp only at hL_27 hD_21
   cases l_19 with
   | nil =>
    obtain rfl:=ae hL_27
    refine ai (aa (vB (decide ((k_18:Int)<(slices_1.length:Int)))) (ah ?_))
    refine ak (aB rfl (drop_nil hD_21) (aS ?_))
    exact aV (s_23,n_25) rfl rfl (aG rfl)
   | cons x_20 l_19 =>
    obtain ⟨c_,hc_26,hL_27⟩:=bind_some hL_27
    refine ai (aa (vB (decide ((k_18:Int)<(slices_1.length:Int)))) (ah ?_))
    refine ak (aC rfl (aW hD_21) (ax ?_))
    unfold dH at hc_26
    refine ak (aL (ai (dM MN rfl rfl (bu hD_21) rfl wz (bI Lh KU rfl (vL Rect.enc x_20) rfl wz (aa (vL Rect.enc x_20) (ah (au (aa (kV b_15 n_25 4 s_23) (aa (vL Rect.enc x_20) ?_)))))))))
    obtain ⟨a_30,hz_31,hc_26⟩:=bind_some hc_26
    refine h_appk 0 il ft (i:=0) Cb Cb eU z27 rfl (by decide) M8 (by decide) (λ_=>rfl) rfl rfl rfl hz_31 wz (λn_32=>aa (kV b_15 n_32 4 a_30) (ah (au (dL (aZ hD_21 hn_22) wz rfl (aa (vI ((k_18+1:Nat):Int)) (ah ?_))))))
    obtain rfl:=ae hc_26
    exact aU (k_18+1,l_19,a_30,n_32) ⟨hL_27,aN hD_21⟩ (ls_ _) rfl (aG rfl)
  ·rintro ⟨s_23,n_25⟩ ho_ sl_ H_ hp_ hq_
   subst ho_
   refine aM _ hp_ hq_ (ai (aa (kV b_15 n_25 4 s_23) (aa (kV b_15 n_25 4 s_23) (ah (Pj 0 rfl (K7 2 0 rfl rfl (K7 6 0 rfl rfl (K7 35 0 rfl rfl ?_))))))))
   obtain rfl:=ae hF
   exact aA (aK [(vL Rect.enc s_23)] ⟨rfl,trivial⟩)
theorem mZ {x r:(List Int)} (hF:dK x=some r) :
  FnM Tryz.prog 49 [(dV (aJ 0) 1 x)] (([]:List Box)++gI 1 eI x) (.tup []) (([]:List Box).map some++gT x (gB 1 eI r)) :=
 Ov Tryz.slices_Sort_int Tryz.slices_Sort_int_none hF
end Go.Proofs.YtnkgapmhkhcanaaGreatDoor.Law

