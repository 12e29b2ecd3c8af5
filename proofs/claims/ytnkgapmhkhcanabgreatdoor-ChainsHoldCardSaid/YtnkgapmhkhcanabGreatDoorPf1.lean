/-
 The machine computes these plain functions (written by a program of ours).
-/
import Derived.Test.YtnkgapmhkhcanabGreatDoorFacts
import Derived.Test.YtnkgapmhkhcanabGreatDoorDefs
import Derived.Test.YtnkgapmhkhcanabGreatDoorShelf
open Go Go.Eng Go.Proofs
namespace Go.Proofs.YtnkgapmhkhcanabGreatDoor.Law
set_option maxRecDepth 100000
set_option linter.unusedVariables false
set_option maxHeartbeats 1000000
theorem xc {x_1:Int} {n_2:Int} {r:Int} (hF:rz x_1 n_2=some r) :
  FnM Tryz.prog 24 [(vI x_1),(vI n_2)] [] (vI r) []:=by
 refine FnM.of_wH ⟨Tryz.prog,16,[],[]⟩ rfl Tryz.func24 rfl rfl (lb_ rfl) (by kernel_rfl) ?_
 unfold rz at hF
 refine ai (aa (vI 0) (ah (ak (ai (aa (vI n_2) (aa (vB (decide (n_2<1))) (ah ?_)))))))
 rcases aj hF with⟨hc_3,hF⟩|⟨hc_3,hF⟩
 ·refine aA rfl hc_3 (ai (aa (vI 0) (ah ?_)))
  obtain rfl:=ae hF
  exact ay (aK [(vI 0)] ⟨rfl,trivial⟩)
 ·refine ax rfl hc_3 (av (ai (aa (vI x_1) (aa (vI n_2) ?_))))
  obtain ⟨q_4,hz_5,hF⟩:=bind_some hF
  refine M0 rfl rfl hz_5 wz (aa (vI q_4) (ah (ak (ai (aa (vI q_4) (aa (vB (decide (q_4<0))) (ah ?_)))))))
  obtain ⟨v_6,h_7,hF⟩:=bind_some hF
  refine aM [(0,(vI v_6))] [] ?_ ?_
  ·rcases aj h_7 with⟨hc_8,h_7⟩|⟨hc_8,h_7⟩
   ·refine aA rfl hc_8 (au (aa (vI q_4) (aa (vI n_2) (aa (vI (w64 (q_4+n_2))) (aa (vI (w64 (q_4+n_2))) (ah ?_))))))
    obtain rfl:=ae h_7
    exact cu
   ·refine ax rfl hc_8 (av ?_)
    obtain rfl:=ae h_7
    exact cu
  ·rintro ⟨⟩ _ sl_ H_ hp_ hq_
   refine aO _ hp_ hq_ (ai (aa (vI v_6) (aa (vI v_6) (ah ?_))))
   obtain rfl:=ae hF
   exact ay (aK [(vI v_6)] ⟨rfl,trivial⟩)
theorem nJ {s_1:Stream} {n_2:Int} {r:Int×Stream} (hF:iB s_1 n_2=some r) :
  FnM Tryz.prog 11 [(.ref (aD 0) 0 0),(vI n_2)] [(.cells 2 [(vL eI s_1.L),(vI s_1.f_at)])] (vI r.1) [some (.cells 2 [(vL eI r.2.L),(vI r.2.f_at)])]:=by
 refine FnM.of_wH ⟨Tryz.prog,64,[],[]⟩ rfl Tryz.func11 rfl rfl (lb_ rfl) (by kernel_rfl) ?_
 unfold iB at hF
 refine ai (aa (vI 0) (ah (ai (aa (.ref (aD 0) 0 0) (aa (.ref (aD 0) 0 0) (aJ Cv rfl 1 rfl wz (aH 0 0 il ft sz3 ag3 rfl rfl (vI s_1.f_at) rfl wz (aa (vI (w64 (s_1.f_at+1))) (aa (.ref (aD 0) 0 0) (aJ Cv rfl 1 rfl wz (gP 0 il ft 0 sz3 rfl rfl [(vL eI s_1.L),(vI (w64 (s_1.f_at+1)))] rfl wz (ah (ak (ai (aa (.ref (aD 0) 0 0) (aa (.ref (aD 0) 0 0) (aJ FT rfl 0 rfl wz (aH 0 0 il ft L8 Mm rfl rfl (vL eI s_1.L) rfl wz (bG uF rfl wz (aa (vB ((s_1.L.length:Int)==0)) (ah ?_)))))))))))))))))))))
 rcases aj hF with⟨hc_3,hF⟩|⟨hc_3,hF⟩
 ·refine aA rfl hc_3 (ai (aa (.ref (aD 0) 0 0) (aa (.ref (aD 0) 0 0) (aJ Cv rfl 1 rfl wz (aH 0 0 il ft sz3 ag3 rfl rfl (vI (w64 (s_1.f_at+1))) rfl wz (aa (vI (w64 ((w64 (s_1.f_at+1))*7919))) (aa (vI n_2) ?_)))))))
  obtain ⟨r_4,hr_5,hF⟩:=bind_some hF
  refine aB (xc hr_5) rfl hb24 rfl rfl rfl rfl wz (aa (vI r_4) (ah ?_))
  obtain rfl:=ae hF
  exact ay (LA (.inr rfl) [(vI r_4)] _ [0] [aD 0] ⟨rfl,trivial⟩ (.cons (qP rfl rfl) (.nil)) (by kernel_rfl) ⟨(by kernel_rfl),trivial⟩ (by decide) (by kernel_rfl))
 ·refine ax rfl hc_3 (av (ak (aZ (aa (.ref (aD 0) 0 0) (aa (.ref (aD 0) 0 0) (aJ Cv rfl 1 rfl wz (aH 3 0 (.inr (by kernel_rfl)) (λ_ _ ag=>trivial) sz3 ag3 rfl rfl (vI (w64 (s_1.f_at+1))) rfl wz (aa (vI (w64 ((w64 (s_1.f_at+1))-1))) (aa (.ref (aD 0) 0 0) (aa (.ref (aD 0) 0 0) (aJ FT rfl 0 rfl wz (aH 8 0 (.inr (by kernel_rfl)) (λ_ _ ag=>⟨.inl ⟨rfl,rfl⟩,trivial⟩) L8 Mm rfl rfl (vL eI s_1.L) rfl wz (bG uF rfl wz ?_)))))))))))))
  obtain ⟨q_6,hz_7,hF⟩:=bind_some hF
  refine M0 rfl rfl hz_7 wz (aa (vI q_6) (ah (ak (aZ (aa (.ref (aD 0) 0 0) (aa (.ref (aD 0) 0 0) (aJ Cv rfl 1 rfl wz (aH 3 0 (.inr (by kernel_rfl)) (λ_ _ ag=>trivial) sz3 ag3 rfl rfl (vI (w64 (s_1.f_at+1))) rfl wz (aa (vI (w64 ((w64 (s_1.f_at+1))-1))) (aa (.ref (aD 0) 0 0) (aa (.ref (aD 0) 0 0) (aJ FT rfl 0 rfl wz (aH 8 0 (.inr (by kernel_rfl)) (λ_ _ ag=>⟨.inl ⟨rfl,rfl⟩,trivial⟩) L8 Mm rfl rfl (vL eI s_1.L) rfl wz (bG uF rfl wz ?_))))))))))))))
  obtain ⟨q_8,hz_9,hF⟩:=bind_some hF
  refine Kv rfl rfl hz_9 wz (aa (vI q_8) (ah (aO (H0:=([((aD 0),some (.cells 2 [(vL eI s_1.L),(vI (w64 (s_1.f_at+1)))]))]:Hp)) ([(0,(.ref (aD 0) 0 0)),(1,(vI n_2)),(5,(vI q_6)),(6,(vI q_8))]:SL_) (by kernel_rfl) (Am (by kernel_rfl)) (ai (aa (.ref (aD 0) 0 0) (aa (.ref (aD 0) 0 0) (aJ FT rfl 0 rfl wz (aH 0 0 il ft L8 Mm rfl rfl (vL eI s_1.L) rfl wz (aa (vI q_6) ?_)))))))))
  obtain ⟨y_10,hy_11,hF⟩:=bind_some hF
  refine dB qV rfl rfl hy_11 rfl wz (bA sz3 ag3 rfl (vI y_10) rfl wz ?_)
  obtain ⟨r_12,hr_13,hF⟩:=bind_some hF
  refine aB (xc hr_13) rfl hb24 rfl rfl rfl rfl wz (aa (vI q_8) (aa (vI q_6) (aa (vI (w64 (7919+q_6))) (aa (vI (w64 (q_8*(w64 (7919+q_6))))) (aa (vI (w64 (r_12+(w64 (q_8*(w64 (7919+q_6))))))) (aa (vI n_2) ?_))))))
  obtain ⟨r_14,hr_15,hF⟩:=bind_some hF
  refine aB (xc hr_15) rfl hb24 rfl rfl rfl rfl wz (aa (vI r_14) (ah ?_))
  obtain rfl:=ae hF
  exact ay (LA (.inr rfl) [(vI r_14)] _ [0] [aD 0] ⟨rfl,trivial⟩ (.cons (qP rfl rfl) (.nil)) (by kernel_rfl) ⟨(by kernel_rfl),trivial⟩ (by decide) (by kernel_rfl))
theorem rR {s_1:Stream} {low_2:Int} {high_3:Int} {r:Int×Stream} (hF:iT s_1 low_2 high_3=some r) :
  FnM Tryz.prog 4 [(.ref (aD 0) 0 0),(vI low_2),(vI high_3)] [(.cells 2 [(vL eI s_1.L),(vI s_1.f_at)])] (vI r.1) [some (.cells 2 [(vL eI r.2.L),(vI r.2.f_at)])]:=by
 refine FnM.of_wH ⟨Tryz.prog,19,[],[]⟩ rfl Tryz.func4 rfl rfl (lb_ rfl) (by kernel_rfl) ?_
 unfold iT at hF
 refine ai (aa (vI 0) (ah (ak (ai (aa (vI high_3) (aa (vI low_2) (aa (vB (decide (high_3<low_2))) (ah ?_))))))))
 rcases aj hF with⟨hc_4,hF⟩|⟨hc_4,hF⟩
 ·refine aA rfl hc_4 (ai (aa (vI low_2) (aa (vI low_2) (ah ?_))))
  obtain rfl:=ae hF
  exact ay (LA (.inr rfl) [(vI low_2)] _ [0] [aD 0] ⟨rfl,trivial⟩ (.cons (qP rfl rfl) (.nil)) (by kernel_rfl) ⟨(by kernel_rfl),trivial⟩ (by decide) (by kernel_rfl))
 ·refine ax rfl hc_4 (av (ai (aa (vI low_2) (aa (.ref (aD 0) 0 0) (aa (vI high_3) (aa (vI low_2) (aa (vI (w64 (high_3-low_2))) (aa (vI (w64 ((w64 (high_3-low_2))+1))) ?_))))))))
  obtain ⟨r_5,hr_6,hF⟩:=bind_some hF
  refine uS 0 [0] il ft (nJ hr_6) rfl hb11 rfl (by kernel_rfl) (by kernel_rfl) (by kernel_rfl) (by kernel_rfl) (by kernel_rfl) (by kernel_rfl) (by kernel_rfl) (by decide) (by kernel_rfl) wz (vI r_5.1) (by kernel_rfl) ([((aD 0),some (.cells 2 [(vL eI r_5.2.L),(vI r_5.2.f_at)]))]:Hp) (by kernel_rfl) (aa (vI (w64 (low_2+r_5.1))) (aa (vI (w64 (low_2+r_5.1))) (ah ?_)))
  obtain rfl:=ae hF
  exact ay (LA (.inr rfl) [(vI (w64 (low_2+r_5.1)))] _ [0] [aD 0] ⟨rfl,trivial⟩ (.cons (qP rfl rfl) (.nil)) (by kernel_rfl) ⟨(by kernel_rfl),trivial⟩ (by decide) (by kernel_rfl))
theorem zm {s_1:Stream} {l_2:(List ByteArray)} {r:ByteArray×Stream} (hF:kN s_1 l_2=some r) :
  FnM Tryz.prog 5 [(.ref (aD 0) 0 0),(vL eS l_2)] [(.cells 2 [(vL eI s_1.L),(vI s_1.f_at)])] (vS r.1) [some (.cells 2 [(vL eI r.2.L),(vI r.2.f_at)])]:=by
 refine FnM.of_wH ⟨Tryz.prog,12,[],[]⟩ rfl Tryz.func5 rfl rfl (lb_ rfl) (by kernel_rfl) ?_
 unfold kN at hF
 refine ai (aa (vS (⟨#[]⟩:ByteArray)) (ah (ai (aa (vL eS l_2) (aa (.ref (aD 0) 0 0) (aa (vL eS l_2) (bG AU rfl wz ?_)))))))
 obtain ⟨r_3,hr_4,hF⟩:=bind_some hF
 refine uS 0 [0] il ft (nJ hr_4) rfl hb11 rfl (by kernel_rfl) (by kernel_rfl) (by kernel_rfl) (by kernel_rfl) (by kernel_rfl) (by kernel_rfl) (by kernel_rfl) (by decide) (by kernel_rfl) wz (vI r_3.1) (by kernel_rfl) ([((aD 0),some (.cells 2 [(vL eI r_3.2.L),(vI r_3.2.f_at)]))]:Hp) (by kernel_rfl) ?_
 obtain ⟨y_6,hy_7,hF⟩:=bind_some hF
 refine dB yT rfl rfl hy_7 rfl wz (bA sz9 ag9 rfl (vS y_6) rfl wz (aa (vS y_6) (ah ?_)))
 obtain rfl:=ae hF
 exact ay (LA (.inr rfl) [(vS y_6)] _ [0] [aD 0] ⟨rfl,trivial⟩ (.cons (qP rfl rfl) (.nil)) (by kernel_rfl) ⟨(by kernel_rfl),trivial⟩ (by decide) (by kernel_rfl))
theorem wh {x0:ByteArray} {x1:ByteArray} {r:ByteArray} (hF:lq x0 x1=some r) :
  FnM Tryz.prog 42 [(vS x0),(vS x1)] [] (vS r) [] :=
 OT rfl Tryz.strings_Trim_ascii  hF
theorem vU {s_1:ByteArray} {r:Bool} (hF:lI s_1=some r) :
  FnM Tryz.prog 22 [(vS s_1)] [] (vB r) []:=by
 refine FnM.of_wH ⟨Tryz.prog,11,[],[]⟩ rfl Tryz.func22 rfl rfl (lb_ rfl) (by kernel_rfl) ?_
 unfold lI at hF
 refine ai (aa (vB false) (ah (ak ?_)))
 obtain ⟨v_2,h_3,hF⟩:=bind_some hF
 refine aM [(2,(vB v_2))] [] ?_ ?_
 ·refine au (aa (vS s_1) (nD un9 rfl wz (aa (vB ((s_1.size:Int)==16)) ?_)))
  rcases aj h_3 with⟨hc_4,h_3⟩|⟨hc_4,h_3⟩
  ·refine aC rfl hc_4 wz (aG (vS s_1) wa rfl ?_)
   obtain ⟨r_5,hr_6,h_3⟩:=bind_some h_3
   refine aB (wh hr_6) rfl hb42 rfl rfl rfl rfl wa (aG (vB (sEq r_5 (⟨#[]⟩:ByteArray))) wa rfl (aa (vB (sEq r_5 (⟨#[]⟩:ByteArray))) (aa (vB (sEq r_5 (⟨#[]⟩:ByteArray))) (ah ?_))))
   obtain rfl:=ae h_3
   exact cu
  ·refine aC rfl hc_4 wz (af (af (af (aa (vB false) (aa (vB false) (ah ?_))))))
   obtain rfl:=ae h_3
   exact cu
 ·rintro ⟨⟩ _ sl_ H_ hp_ hq_
  refine aO _ hp_ hq_ ?_
  obtain rfl:=ae hF
  exact ay (aK [(vB v_2)] ⟨rfl,trivial⟩)
theorem yU {last_1:ByteArray} {r:Int} (hF:jV last_1=some r) :
  FnM Tryz.prog 19 [(vS last_1)] [] (vI r) []:=by
 refine FnM.of_wH ⟨Tryz.prog,10,[],[]⟩ rfl Tryz.func19 rfl rfl (lb_ rfl) (by kernel_rfl) ?_
 unfold jV at hF
 refine ai (aa (vI 0) (ah (ak (ak ?_))))
 obtain ⟨v_2,h_3,hF⟩:=bind_some hF
 refine aM [(9,(vB v_2))] [] ?_ ?_
 ·refine au (aa (vS last_1) (aa (vB (sNe last_1 (⟨#[]⟩:ByteArray))) ?_))
  rcases aj h_3 with⟨hc_4,h_3⟩|⟨hc_4,h_3⟩
  ·refine aC rfl hc_4 wz (aG (vS last_1) wa rfl ?_)
   obtain ⟨r_5,hr_6,h_3⟩:=bind_some h_3
   refine aB (vU hr_6) rfl hb22 rfl rfl rfl rfl wa (aG (vB (!r_5)) wa rfl (aa (vB (!r_5)) (ah ?_)))
   obtain rfl:=ae h_3
   exact cu
  ·refine aC rfl hc_4 wz (af (af (af (aa (vB false) (ah ?_)))))
   obtain rfl:=ae h_3
   exact cu
 ·rintro ⟨⟩ _ sl_ H_ hp_ hq_
  refine aO _ hp_ hq_ ?_
  rcases aj hF with⟨hc_7,hF⟩|⟨hc_7,hF⟩
  ·refine aA rfl hc_7 (ai (aa (vI 3) (ah ?_)))
   obtain rfl:=ae hF
   exact ay (aK [(vI 3)] ⟨rfl,trivial⟩)
  ·refine ax rfl hc_7 (av (ai (aa (vI 0) (ah ?_))))
   obtain rfl:=ae hF
   exact ay (aK [(vI 0)] ⟨rfl,trivial⟩)
theorem eD {s_1:ByteArray} {r:Bool} (hF:dY s_1=some r) :
  FnM Tryz.prog 39 [(vS s_1)] [] (vB r) []:=by
 refine FnM.of_wH ⟨Tryz.prog,48,[],[]⟩ rfl Tryz.func39 rfl rfl (lb_ rfl) (by kernel_rfl) ?_
 unfold dY at hF
 refine ai (aa (vB false) (ah (ak (ai (aa (vI 0) (ah ?_))))))
 obtain ⟨o_10,hj_11,hF⟩:=bind_some hF
 obtain ⟨nq_33,hj_11⟩:=cB hj_11
 refine dJ (λ(s_7:Int)=>[(0,(vS s_1))]) (λ(s_7:Int)=>[]) (λ(k_2:Nat)=>(λ(s_7:Int)=>[(0,(vS s_1)),(3,(vI s_7))])) (λs=>je s_1 s) o_10 nq_33 0 hj_11 rfl (aI rfl) ?_ ?_
 ·rintro ⟨k_2,s_7⟩ hL_9
  dsimp only at hL_9
  cases k_2 with
  | zero=>cases hL_9
  | succ k_2 =>
   obtain ⟨c_,hc_8,hL_9⟩:=bind_some hL_9
   unfold je at hc_8
   refine ak (ai (aa (vI s_7) (aa (vS s_1) (nD un9 rfl wz (aa (vB (decide (s_7<(s_1.size:Int)))) (ah ?_))))))
   rcases aj hc_8 with⟨hc_12,hc_8⟩|⟨hc_12,hc_8⟩
   ·refine aA rfl hc_12 (av (ak (aN (ai (aa (vS s_1) (aa (vI s_7) ?_))))))
    obtain ⟨b_13,hy_14,hc_8⟩:=bind_some hc_8
    refine qg un9 rfl rfl hy_14 wz (aa (.d (.int .u8 (b_13.toNat:Int))) (ah (ak ?_)))
    obtain ⟨v_15,h_16,hc_8⟩:=bind_some hc_8
    refine aM [(0,(vS s_1)),(3,(vI s_7)),(40,(vB v_15))] [] ?_ ?_
    ·refine au (aa (.d (.int .u8 (b_13.toNat:Int))) (aa (vB (decide ((b_13.toNat:Int)>=97))) ?_))
     rcases aj h_16 with⟨hc_17,h_16⟩|⟨hc_17,h_16⟩
     ·refine aC rfl hc_17 wz (aG (.d (.int .u8 (b_13.toNat:Int))) wa rfl (aG (vB (decide ((b_13.toNat:Int)<=122))) wa rfl (aa (vB (decide ((b_13.toNat:Int)<=122))) ?_)))
      rcases aj h_16 with⟨hc_18,h_16⟩|⟨hc_18,h_16⟩
      ·refine aC rfl hc_18 wz (af (af (af (bQ (wn rfl rfl) (bQ (wn rfl rfl) (bQ (wn rfl rfl) (bQ (wn rfl rfl) (bQ (wn rfl rfl) (bQ (wn rfl rfl) (bQ (wn rfl rfl) (bQ (wn rfl rfl) (bQ (wn rfl rfl) (bQ (wn rfl rfl) (bQ (wn rfl rfl) (bQ (wn rfl rfl) (bQ (wn rfl rfl) (bQ (wn rfl rfl) (af (aa (vB true) (aa (vB false) (ah ?_)))))))))))))))))))))
       obtain rfl:=ae h_16
       exact cu
      ·refine aC rfl hc_18 wz (aG (vI s_7) wa rfl (aG (vB (decide (s_7>0))) wa rfl ?_))
       rcases aj h_16 with⟨hc_19,h_16⟩|⟨hc_19,h_16⟩
       ·refine aC rfl hc_19 wa (aG (.d (.int .u8 (b_13.toNat:Int))) wa rfl (aG (vB (decide ((b_13.toNat:Int)>=48))) wa rfl ?_))
        rcases aj h_16 with⟨hc_20,h_16⟩|⟨hc_20,h_16⟩
        ·refine aC rfl hc_20 wa (aG (.d (.int .u8 (b_13.toNat:Int))) wa rfl (aG (vB (decide ((b_13.toNat:Int)<=57))) wa rfl (aG (vB (decide ((b_13.toNat:Int)<=57))) wa rfl ?_)))
         rcases aj h_16 with⟨hc_21,h_16⟩|⟨hc_21,h_16⟩
         ·refine aC rfl hc_21 wa (af (af (aG (vB true) wa rfl (aG (vB true) wa rfl (af (af (aG (vB true) wa rfl (aG (vB true) wa rfl (aa (vB true) (aa (vB false) (ah ?_)))))))))))
          obtain rfl:=ae h_16
          exact cu
         ·refine aC rfl hc_21 wa (aG (.d (.int .u8 (b_13.toNat:Int))) wa rfl (aG (vB ((b_13.toNat:Int)==45)) wa rfl (aG (vB ((b_13.toNat:Int)==45)) wa rfl ?_)))
          rcases aj h_16 with⟨hc_22,h_16⟩|⟨hc_22,h_16⟩
          ·refine aC rfl hc_22 wa (af (af (aG (vB true) wa rfl (aG (vB true) wa rfl (aa (vB true) (aa (vB false) (ah ?_)))))))
           obtain rfl:=ae h_16
           exact cu
          ·refine aC rfl hc_22 wa (aG (.d (.int .u8 (b_13.toNat:Int))) wa rfl (aG (vB ((b_13.toNat:Int)==95)) wa rfl (aG (vB ((b_13.toNat:Int)==95)) wa rfl (aG (vB ((b_13.toNat:Int)==95)) wa rfl (aa (vB ((b_13.toNat:Int)==95)) (aa (vB (!((b_13.toNat:Int)==95))) (ah ?_)))))))
           obtain rfl:=ae h_16
           exact cu
        ·refine aC rfl hc_20 wa (af (af (aG (vB false) wa rfl (aG (vB false) wa rfl (aG (.d (.int .u8 (b_13.toNat:Int))) wa rfl (aG (vB ((b_13.toNat:Int)==45)) wa rfl (aG (vB ((b_13.toNat:Int)==45)) wa rfl ?_)))))))
         rcases aj h_16 with⟨hc_23,h_16⟩|⟨hc_23,h_16⟩
         ·refine aC rfl hc_23 wa (af (af (aG (vB true) wa rfl (aG (vB true) wa rfl (aa (vB true) (aa (vB false) (ah ?_)))))))
          obtain rfl:=ae h_16
          exact cu
         ·refine aC rfl hc_23 wa (aG (.d (.int .u8 (b_13.toNat:Int))) wa rfl (aG (vB ((b_13.toNat:Int)==95)) wa rfl (aG (vB ((b_13.toNat:Int)==95)) wa rfl (aG (vB ((b_13.toNat:Int)==95)) wa rfl (aa (vB ((b_13.toNat:Int)==95)) (aa (vB (!((b_13.toNat:Int)==95))) (ah ?_)))))))
          obtain rfl:=ae h_16
          exact cu
       ·refine aC rfl hc_19 wa (af (af (af (bQ (wn rfl rfl) (bQ (wn rfl rfl) (af (af (bQ (wn rfl rfl) (bQ (wn rfl rfl) (af (af (bQ (wn rfl rfl) (bQ (wn rfl rfl) (af (aG (vB false) wa rfl (aa (vB false) (aa (vB true) (ah ?_))))))))))))))))))
        obtain rfl:=ae h_16
        exact cu
     ·refine aC rfl hc_17 wz (af (af (aa (vB false) (aa (vB false) (aG (vI s_7) wa rfl (aG (vB (decide (s_7>0))) wa rfl ?_))))))
      rcases aj h_16 with⟨hc_24,h_16⟩|⟨hc_24,h_16⟩
      ·refine aC rfl hc_24 wa (aG (.d (.int .u8 (b_13.toNat:Int))) wa rfl (aG (vB (decide ((b_13.toNat:Int)>=48))) wa rfl ?_))
       rcases aj h_16 with⟨hc_25,h_16⟩|⟨hc_25,h_16⟩
       ·refine aC rfl hc_25 wa (aG (.d (.int .u8 (b_13.toNat:Int))) wa rfl (aG (vB (decide ((b_13.toNat:Int)<=57))) wa rfl (aG (vB (decide ((b_13.toNat:Int)<=57))) wa rfl ?_)))
        rcases aj h_16 with⟨hc_26,h_16⟩|⟨hc_26,h_16⟩
        ·refine aC rfl hc_26 wa (af (af (aG (vB true) wa rfl (aG (vB true) wa rfl (af (af (aG (vB true) wa rfl (aG (vB true) wa rfl (aa (vB true) (aa (vB false) (ah ?_)))))))))))
         obtain rfl:=ae h_16
         exact cu
        ·refine aC rfl hc_26 wa (aG (.d (.int .u8 (b_13.toNat:Int))) wa rfl (aG (vB ((b_13.toNat:Int)==45)) wa rfl (aG (vB ((b_13.toNat:Int)==45)) wa rfl ?_)))
         rcases aj h_16 with⟨hc_27,h_16⟩|⟨hc_27,h_16⟩
         ·refine aC rfl hc_27 wa (af (af (aG (vB true) wa rfl (aG (vB true) wa rfl (aa (vB true) (aa (vB false) (ah ?_)))))))
          obtain rfl:=ae h_16
          exact cu
         ·refine aC rfl hc_27 wa (aG (.d (.int .u8 (b_13.toNat:Int))) wa rfl (aG (vB ((b_13.toNat:Int)==95)) wa rfl (aG (vB ((b_13.toNat:Int)==95)) wa rfl (aG (vB ((b_13.toNat:Int)==95)) wa rfl (aa (vB ((b_13.toNat:Int)==95)) (aa (vB (!((b_13.toNat:Int)==95))) (ah ?_)))))))
          obtain rfl:=ae h_16
          exact cu
       ·refine aC rfl hc_25 wa (af (af (aG (vB false) wa rfl (aG (vB false) wa rfl (aG (.d (.int .u8 (b_13.toNat:Int))) wa rfl (aG (vB ((b_13.toNat:Int)==45)) wa rfl (aG (vB ((b_13.toNat:Int)==45)) wa rfl ?_)))))))
        rcases aj h_16 with⟨hc_28,h_16⟩|⟨hc_28,h_16⟩
        ·refine aC rfl hc_28 wa (af (af (aG (vB true) wa rfl (aG (vB true) wa rfl (aa (vB true) (aa (vB false) (ah ?_)))))))
         obtain rfl:=ae h_16
         exact cu
        ·refine aC rfl hc_28 wa (aG (.d (.int .u8 (b_13.toNat:Int))) wa rfl (aG (vB ((b_13.toNat:Int)==95)) wa rfl (aG (vB ((b_13.toNat:Int)==95)) wa rfl (aG (vB ((b_13.toNat:Int)==95)) wa rfl (aa (vB ((b_13.toNat:Int)==95)) (aa (vB (!((b_13.toNat:Int)==95))) (ah ?_)))))))
         obtain rfl:=ae h_16
         exact cu
      ·refine aC rfl hc_24 wa (af (af (af (bQ (wn rfl rfl) (bQ (wn rfl rfl) (af (af (bQ (wn rfl rfl) (bQ (wn rfl rfl) (af (af (bQ (wn rfl rfl) (bQ (wn rfl rfl) (af (aG (vB false) wa rfl (aa (vB false) (aa (vB true) (ah ?_))))))))))))))))))
       obtain rfl:=ae h_16
       exact cu
    ·rintro ⟨⟩ _ sl_ H_ hp_ hq_
     refine aO _ hp_ hq_ ?_
     rcases aj hc_8 with⟨hc_29,hc_8⟩|⟨hc_29,hc_8⟩
     ·refine aA rfl hc_29 (ai (aa (vB false) (ah ?_)))
      obtain rfl:=ae hc_8
      obtain rfl:=ae hL_9
      obtain rfl:=ae hF
      exact ay (aK [(vB false)] ⟨rfl,trivial⟩)
     ·refine ax rfl hc_29 (av (au (aa (vI s_7) (aa (vI (w64 (s_7+1))) (aa (vI (w64 (s_7+1))) (ah ?_))))))
      obtain rfl:=ae hc_8
      exact aS (k_2,(w64 (s_7+1))) hL_9 (ls_ _) rfl (aI rfl)
   ·refine ax rfl hc_12 (aV ?_)
    obtain rfl:=ae hc_8
    obtain rfl:=ae hL_9
    exact aU (s_7) rfl rfl (aI rfl)
 ·rintro s_7 ho_ sl_ H_ hp_ hq_
  subst ho_
  refine aO _ hp_ hq_ (ak ?_)
  obtain ⟨v_30,h_31,hF⟩:=bind_some hF
  refine aM [(2,(vB v_30))] [] ?_ ?_
  ·refine au (aa (vS s_1) (aa (vB (sNe s_1 (⟨#[]⟩:ByteArray))) ?_))
   rcases aj h_31 with⟨hc_32,h_31⟩|⟨hc_32,h_31⟩
   ·refine aC rfl hc_32 wz (aG (vS s_1) wa rfl (nD un9 rfl wa (aG (vB (decide ((s_1.size:Int)<=40))) wa rfl (aa (vB (decide ((s_1.size:Int)<=40))) (aa (vB (decide ((s_1.size:Int)<=40))) (ah ?_))))))
    obtain rfl:=ae h_31
    exact cu
   ·refine aC rfl hc_32 wz (af (af (af (aa (vB false) (aa (vB false) (ah ?_))))))
    obtain rfl:=ae h_31
    exact cu
  ·rintro ⟨⟩ _ sl_ H_ hp_ hq_
   refine aO _ hp_ hq_ ?_
   obtain rfl:=ae hF
   exact ay (aK [(vB v_30)] ⟨rfl,trivial⟩)
theorem aW {n_1:Int} {low_2:Int} {high_3:Int} {r:Bool} (hF:aP n_1 low_2 high_3=some r) :
  FnM Tryz.prog 40 [(vI n_1),(vI low_2),(vI high_3)] [] (vB r) []:=by
 refine FnM.of_wH ⟨Tryz.prog,15,[],[]⟩ rfl Tryz.func40 rfl rfl (lb_ rfl) (by kernel_rfl) ?_
 unfold aP at hF
 refine ai (aa (vB false) (ah (ak ?_)))
 obtain ⟨v_4,h_5,hF⟩:=bind_some hF
 refine aM [(6,(vB v_4))] [] ?_ ?_
 ·refine au (aa (vI n_1) (aa (vI low_2) (aa (vB (decide (n_1<low_2))) ?_)))
  rcases aj h_5 with⟨hc_6,h_5⟩|⟨hc_6,h_5⟩
  ·refine aC rfl hc_6 wz (af (af (af (aa (vB true) (aa (vB true) (ah ?_))))))
   obtain rfl:=ae h_5
   exact cu
  ·refine aC rfl hc_6 wz (aG (vI n_1) wa rfl (aG (vI high_3) wa rfl (aG (vB (decide (n_1>high_3))) wa rfl (aa (vB (decide (n_1>high_3))) (aa (vB (decide (n_1>high_3))) (ah ?_))))))
   obtain rfl:=ae h_5
   exact cu
 ·rintro ⟨⟩ _ sl_ H_ hp_ hq_
  refine aO _ hp_ hq_ ?_
  obtain rfl:=ae hF
  exact ay (aK [(vB v_4)] ⟨rfl,trivial⟩)
theorem sw {l_1:Log_} {r:Int} (hF:jA l_1=some r) :
  FnM Tryz.prog 20 [(.d (.agg (Log_.enc l_1)))] [] (vI r) []:=by
 refine FnM.of_wH ⟨Tryz.prog,26,[],[]⟩ rfl Tryz.func20 rfl rfl (lb_ rfl) (by kernel_rfl) ?_
 unfold jA at hF
 refine ai (gZ 0 (.inl rfl) (Log_.v l_1) rfl rfl wz (λn_2=>aa (vI 0) (ah (ak (ak ?_)))))
 obtain ⟨v_3,h_4,hF⟩:=bind_some hF
 refine aM [(1,(.ref n_2 0 0)),(12,(vB v_3))] [(n_2,some (.cells 6 (Log_.v l_1)))] ?_ ?_
 ·refine au (aJ rD rfl 0 rfl wz (aH 0 0 il ft sz9 ag9 rfl rfl (vS l_1.Player) rfl wz ?_))
  obtain ⟨r_5,hr_6,h_4⟩:=bind_some h_4
  refine aB (eD hr_6) rfl AQ rfl rfl rfl rfl wz (aa (vB (!r_5)) ?_)
  rcases aj h_4 with⟨hc_7,h_4⟩|⟨hc_7,h_4⟩
  ·refine aC rfl hc_7 wz (af (af (af (af (aa (vB true) (ah ?_))))))
   obtain rfl:=ae h_4
   exact cu
  ·refine aC rfl hc_7 wz (aJ NG rfl 1 rfl wa (aH 0 0 il ft sz9 ag9 rfl rfl (vS l_1.Item) rfl wa ?_))
   obtain ⟨r_8,hr_9,h_4⟩:=bind_some h_4
   refine aB (eD hr_9) rfl AQ rfl rfl rfl rfl wa (aG (vB (!r_8)) wa rfl (aa (vB (!r_8)) (ah ?_)))
   obtain rfl:=ae h_4
   exact cu
 ·rintro ⟨⟩ _ sl_ H_ hp_ hq_
  refine aO _ hp_ hq_ ?_
  rcases aj hF with⟨hc_10,hF⟩|⟨hc_10,hF⟩
  ·refine aA rfl hc_10 (ai (aa (vI 5) (ah ?_)))
   obtain rfl:=ae hF
   exact ay (aK [(vI 5)] ⟨rfl,trivial⟩)
  ·refine ax rfl hc_10 (av (ak (ak ?_)))
   obtain ⟨v_11,h_12,hF⟩:=bind_some hF
   refine aM [(25,(vB v_11))] [(n_2,some (.cells 6 (Log_.v l_1)))] ?_ ?_
   ·refine au (aJ qy rfl 2 rfl wz (aH 0 0 il ft sz3 ag3 rfl rfl (vI l_1.No) rfl wz ?_))
    obtain ⟨r_13,hr_14,h_12⟩:=bind_some h_12
    refine aB (aW hr_14) rfl pU rfl rfl rfl rfl wz ?_
    rcases aj h_12 with⟨hc_15,h_12⟩|⟨hc_15,h_12⟩
    ·refine aC rfl hc_15 wz (af (af (af (aa (vB true) (aa (vB true) (af (af (af (aa (vB true) (ah ?_))))))))))
     obtain rfl:=ae h_12
     exact cu
    ·refine aC rfl hc_15 wz (aJ NB rfl 3 rfl wa (aH 0 0 il ft sz3 ag3 rfl rfl (vI l_1.Clock) rfl wa ?_))
     obtain ⟨r_16,hr_17,h_12⟩:=bind_some h_12
     refine aB (aW hr_17) rfl pU rfl rfl rfl rfl wa (aa (vB r_16) ?_)
     rcases aj h_12 with⟨hc_18,h_12⟩|⟨hc_18,h_12⟩
     ·refine aC rfl hc_18 wz (af (af (af (aa (vB true) (ah ?_)))))
      obtain rfl:=ae h_12
      exact cu
     ·refine aC rfl hc_18 wz (aJ Gm rfl 4 rfl wa (aH 0 0 il ft sz3 ag3 rfl rfl (vI l_1.Long) rfl wa ?_))
      obtain ⟨r_19,hr_20,h_12⟩:=bind_some h_12
      refine aB (aW hr_20) rfl pU rfl rfl rfl rfl wa (aa (vB r_19) (ah ?_))
      obtain rfl:=ae h_12
      exact cu
   ·rintro ⟨⟩ _ sl_ H_ hp_ hq_
    refine aO _ hp_ hq_ ?_
    rcases aj hF with⟨hc_21,hF⟩|⟨hc_21,hF⟩
    ·refine aA rfl hc_21 (ai (aa (vI 1) (ah ?_)))
     obtain rfl:=ae hF
     exact ay (aK [(vI 1)] ⟨rfl,trivial⟩)
    ·refine ax rfl hc_21 (av (ai (aa (vI 0) (ah ?_))))
     obtain rfl:=ae hF
     exact ay (aK [(vI 0)] ⟨rfl,trivial⟩)
theorem qw {x0:Int} {r:ByteArray} (hF:strconv_Itoa x0=some r) :
  FnM Tryz.prog 49 [(vI x0)] [] (vS r) [] :=
 itoa_ok Tryz.strconv_Itoa Jn hF
theorem ym {l_1:Log_} {r:ByteArray} (hF:ow l_1=some r) :
  FnM Tryz.prog 29 [(.d (.agg (Log_.enc l_1)))] [] (vS r) []:=by
 refine FnM.of_wH ⟨Tryz.prog,24,[],[]⟩ rfl Tryz.func29 rfl rfl (lb_ rfl) (by kernel_rfl) ?_
 unfold ow at hF
 refine ai (gZ 0 (.inl rfl) (Log_.v l_1) rfl rfl wz (λn_2=>aa (vS (⟨#[]⟩:ByteArray)) (ah (ak (aZ (aJ rD rfl 0 rfl wz (aH 1 0 (.inr (by kernel_rfl)) (λ_ _ ag=>trivial) sz9 ag9 rfl rfl (vS l_1.Player) rfl wz ?_)))))))
 obtain ⟨s_3,hz_4,hF⟩:=bind_some hF
 refine sj rfl rfl hz_4 wz (aJ NG rfl 1 rfl wz (aH 4 0 (.inr (by kernel_rfl)) (λ_ _ ag=>⟨.inl ⟨rfl,rfl⟩,trivial⟩) sz9 ag9 rfl rfl (vS l_1.Item) rfl wz ?_))
 obtain ⟨s_5,hz_6,hF⟩:=bind_some hF
 refine sj rfl rfl hz_6 wz ?_
 obtain ⟨s_7,hz_8,hF⟩:=bind_some hF
 refine sj rfl rfl hz_8 wz (aJ qy rfl 2 rfl wz (aH 8 0 (.inr (by kernel_rfl)) (λ_ _ ag=>⟨.inl ⟨rfl,rfl⟩,⟨.inl ⟨rfl,rfl⟩,trivial⟩⟩) sz3 ag3 rfl rfl (vI l_1.No) rfl wz ?_))
 obtain ⟨r_9,hr_10,hF⟩:=bind_some hF
 refine aB (qw hr_10) rfl hb49 rfl rfl rfl rfl wz ?_
 obtain ⟨s_11,hz_12,hF⟩:=bind_some hF
 refine sj rfl rfl hz_12 wz ?_
 obtain ⟨s_13,hz_14,hF⟩:=bind_some hF
 refine sj rfl rfl hz_14 wz (aJ NB rfl 3 rfl wz (aH 13 0 (.inr (by kernel_rfl)) (λ_ _ ag=>⟨.inl ⟨rfl,rfl⟩,⟨.inl ⟨rfl,rfl⟩,⟨.inl ⟨rfl,rfl⟩,trivial⟩⟩⟩) sz3 ag3 rfl rfl (vI l_1.Clock) rfl wz ?_))
 obtain ⟨r_15,hr_16,hF⟩:=bind_some hF
 refine aB (qw hr_16) rfl hb49 rfl rfl rfl rfl wz ?_
 obtain ⟨s_17,hz_18,hF⟩:=bind_some hF
 refine sj rfl rfl hz_18 wz ?_
 obtain ⟨s_19,hz_20,hF⟩:=bind_some hF
 refine sj rfl rfl hz_20 wz (aJ Gm rfl 4 rfl wz (aH 18 0 (.inr (by kernel_rfl)) (λ_ _ ag=>⟨.inl ⟨rfl,rfl⟩,⟨.inl ⟨rfl,rfl⟩,⟨.inl ⟨rfl,rfl⟩,⟨.inl ⟨rfl,rfl⟩,trivial⟩⟩⟩⟩) sz3 ag3 rfl rfl (vI l_1.Long) rfl wz ?_))
 obtain ⟨r_21,hr_22,hF⟩:=bind_some hF
 refine aB (qw hr_22) rfl hb49 rfl rfl rfl rfl wz ?_
 obtain ⟨s_23,hz_24,hF⟩:=bind_some hF
 refine sj rfl rfl hz_24 wz (aa (vS s_23) (ah ?_))
 obtain rfl:=ae hF
 exact ay (aK [(vS s_23)] ⟨rfl,trivial⟩)
theorem nO {x_1:Int} {r:Bool} (hF:eY x_1=some r) :
  FnM Tryz.prog 173 [(vI x_1)] [] (vB r) []:=by
 refine FnM.of_wH ⟨Tryz.prog,8,[],[]⟩ rfl Tryz.func173 rfl rfl (lb_ rfl) (by kernel_rfl) ?_
 unfold eY at hF
 refine ai (aa (vB false) (ah (ai (aa (vI x_1) (aa (vI x_1) (aa (vI (w64 (x_1-1))) (aa (vI (Aj .i64 x_1 (w64 (x_1-1)))) (aa (vB ((Aj .i64 x_1 (w64 (x_1-1)))==0)) (aa (vB ((Aj .i64 x_1 (w64 (x_1-1)))==0)) (ah ?_))))))))))
 obtain rfl:=ae hF
 exact ay (aK [(vB ((Aj .i64 x_1 (w64 (x_1-1)))==0))] ⟨rfl,trivial⟩)
theorem rP {x0:Int} {r:Int} (hF:jq x0=some r) :
  FnM Tryz.prog 174 [(.d (.int .u64 x0))] [] (vI r) [] :=
 tz_ok db_g Tryz.bits_TrailingZeros laid_db hF
theorem oM {dst_1:(List Int)} {u_2:Int} {base_3:Int} {neg_4:Bool} {append_5:Bool} {r:(List Int)×ByteArray} (hF:dM dst_1 u_2 base_3 neg_4 append_5=some r) :
  FnM Tryz.prog 138 [(vL (eK .u8) dst_1),(.d (.int .u64 u_2)),(vI base_3),(vB neg_4),(vB append_5)] [] (.tup [(vL (eK .u8) r.1),(vS r.2)]) []:=by
 refine FnM.of_wH ⟨Tryz.prog,102,[],[]⟩ rfl Tryz.func138 rfl rfl (lb_ rfl) (by kernel_rfl) ?_
 unfold dM at hF
 refine ai (aa .nil (aa (vS (⟨#[]⟩:ByteArray)) (ah (ak (ak ?_)))))
 obtain ⟨v_6,h_7,hF⟩:=bind_some hF
 refine aM [(0,(vL (eK .u8) dst_1)),(1,(.d (.int .u64 u_2))),(2,(vI base_3)),(3,(vB neg_4)),(4,(vB append_5)),(10,.nil),(11,(vS (⟨#[]⟩:ByteArray))),(28,(vB v_6))] [] ?_ ?_
 ·refine au (aa (vI base_3) (aa (vB (decide (base_3<2))) ?_))
  rcases aj h_7 with⟨hc_8,h_7⟩|⟨hc_8,h_7⟩
  ·refine aC rfl hc_8 wz (af (af (aa (vB true) (aa (vB true) (af (af (aa (vB true) (ah ?_))))))))
   obtain rfl:=ae h_7
   exact cu
  ·refine aC rfl hc_8 wz (aG (vI base_3) wa rfl (aG (vB (base_3==10)) wa rfl (aa (vB (base_3==10)) ?_)))
   rcases aj h_7 with⟨hc_9,h_7⟩|⟨hc_9,h_7⟩
   ·refine aC rfl hc_9 wz (af (af (aa (vB true) (ah ?_))))
    obtain rfl:=ae h_7
    exact cu
   ·refine aC rfl hc_9 wz (aG (vI base_3) wa rfl (aG (vB (decide (base_3>36))) wa rfl (aa (vB (decide (base_3>36))) (ah ?_))))
    obtain rfl:=ae h_7
    exact cu
 ·rintro ⟨⟩ _ sl_ H_ hp_ hq_
  refine aO _ hp_ hq_ ?_
  obtain ⟨v_10,h_11,hF⟩:=bind_some hF
  refine aM [(0,(vL (eK .u8) dst_1)),(1,(.d (.int .u64 u_2))),(2,(vI base_3)),(3,(vB neg_4)),(4,(vB append_5)),(10,.nil),(11,(vS (⟨#[]⟩:ByteArray)))] [] ?_ ?_
  ·rcases aj h_11 with⟨hc_12,h_11⟩|⟨hc_12,h_11⟩
   ·refine aA rfl hc_12 (au ?_)
    cases h_11
   ·refine ax rfl hc_12 (av ?_)
    obtain rfl:=ae h_11
    exact cu
  ·rintro ⟨⟩ _ sl_ H_ hp_ hq_
   refine aO _ hp_ hq_ (ai (IU (List.replicate 65 (0:Int)) 0 (.inl rfl) z228 (by kernel_rfl) (by kernel_rfl) A8 wz (λn_13=>ah (ai (aa (vI 65) (ah (ak (ai (aa (vB neg_4) (ah ?_))))))))))
   obtain ⟨v_14,h_15,hF⟩:=bind_some hF
   refine aM [(0,(vL (eK .u8) dst_1)),(1,(.d (.int .u64 v_14))),(2,(vI base_3)),(3,(vB neg_4)),(4,(vB append_5)),(10,.nil),(11,(vS (⟨#[]⟩:ByteArray))),(12,(.ref n_13 0 0)),(13,(vI 65))] [(n_13,some (bV 1 (eK .u8) (List.replicate 65 (0:Int))))] ?_ ?_
   ·rcases aj h_15 with⟨hc_16,h_15⟩|⟨hc_16,h_15⟩
    ·refine aA rfl hc_16 (au (aa (.d (.int .u64 u_2)) (aa (.d (.int .u64 (IntKind.u64.wrap (0-u_2)))) (aa (.d (.int .u64 (IntKind.u64.wrap (0-u_2)))) (ah ?_)))))
     obtain rfl:=ae h_15
     exact cu
    ·refine ax rfl hc_16 (av ?_)
     obtain rfl:=ae h_15
     exact cu
   ·rintro ⟨⟩ _ sl_ H_ hp_ hq_
    refine aO _ hp_ hq_ (ak (ai (aa (vI base_3) ?_)))
    obtain ⟨r_17,hr_18,hF⟩:=bind_some hF
    refine aB (nO hr_18) rfl hb173 rfl rfl rfl rfl wz (ah ?_)
    obtain ⟨v_19,h_20,hF⟩:=bind_some hF
    refine aM [(0,(vL (eK .u8) dst_1)),(3,(vB neg_4)),(4,(vB append_5)),(10,.nil),(11,(vS (⟨#[]⟩:ByteArray))),(12,(.ref n_13 0 0)),(13,(vI v_19.2))] [(n_13,some (bV 1 (eK .u8) v_19.1))] ?_ ?_
    ·rcases aj h_20 with⟨hc_21,h_20⟩|⟨hc_21,h_20⟩
     ·refine aA rfl hc_21 (ai (aa (vI base_3) (qd un3 EU rfl wz ?_)))
      obtain ⟨r_22,hr_23,h_20⟩:=bind_some h_20
      refine aB (rP hr_23) rfl hb174 rfl rfl rfl rfl wz (qd un3 EU rfl wz (aa (.d (.int .u64 (IntKind.u64.wrap r_22))) (ah (ai (aa (vI base_3) (qd un3 GX rfl wz (aa (.d (.int .u64 (IntKind.u64.wrap base_3))) (ah (ai (aa (vI base_3) (qd un3 EU rfl wz (aa (.d (.int .u64 (IntKind.u64.wrap ((IntKind.u64.wrap base_3)-1)))) (aa (.d (.int .u64 (IntKind.u64.wrap ((IntKind.u64.wrap base_3)-1)))) (ah (ak ?_)))))))))))))))
      obtain ⟨o_32,hj_33,h_20⟩:=bind_some h_20
      obtain ⟨nq_47,hj_33⟩:=cB hj_33
      refine dJ (λ(s_29:(List Int)×Int×Int)=>[(0,(vL (eK .u8) dst_1)),(1,(.d (.int .u64 s_29.2.1))),(3,(vB neg_4)),(4,(vB append_5)),(10,.nil),(11,(vS (⟨#[]⟩:ByteArray))),(12,(.ref n_13 0 0)),(13,(vI s_29.2.2))]) (λ(s_29:(List Int)×Int×Int)=>[(n_13,some (bV 1 (eK .u8) s_29.1))]) (λ(k_24:Nat)=>(λ(s_29:(List Int)×Int×Int)=>[(0,(vL (eK .u8) dst_1)),(1,(.d (.int .u64 s_29.2.1))),(3,(vB neg_4)),(4,(vB append_5)),(10,.nil),(11,(vS (⟨#[]⟩:ByteArray))),(12,(.ref n_13 0 0)),(13,(vI s_29.2.2)),(14,(.d (.int .u64 (IntKind.u64.wrap r_22)))),(15,(.d (.int .u64 (IntKind.u64.wrap base_3)))),(16,(.d (.int .u64 (IntKind.u64.wrap ((IntKind.u64.wrap base_3)-1)))))])) (λs=>bC base_3 r_22 s) o_32 nq_47 ((List.replicate 65 (0:Int)),v_14,65) hj_33 rfl (aI rfl) ?_ ?_
      ·rintro ⟨k_24,s_29⟩ hL_31
       dsimp only at hL_31
       cases k_24 with
       | zero=>cases hL_31
       | succ k_24 =>
        obtain ⟨c_,hc_30,hL_31⟩:=bind_some hL_31
        unfold bC at hc_30
        refine ak (ai (aa (.d (.int .u64 s_29.2.1)) (aa (.d (.int .u64 (IntKind.u64.wrap base_3))) (aa (vB (decide (s_29.2.1>=(IntKind.u64.wrap base_3)))) (ah ?_)))))
        rcases aj hc_30 with⟨hc_34,hc_30⟩|⟨hc_34,hc_30⟩
        ·refine aA rfl hc_34 (av (aN (ai (aa (vI s_29.2.2) (aa (vI (w64 (s_29.2.2-1))) (aa (vI (w64 (s_29.2.2-1))) (ah (ai (aa (vI (w64 (s_29.2.2-1))) (aa (.d (.int .u64 s_29.2.1)) (aa (.d (.int .u64 (IntKind.u64.wrap ((IntKind.u64.wrap base_3)-1)))) (aa (.d (.int .u64 (Aj .u64 s_29.2.1 (IntKind.u64.wrap ((IntKind.u64.wrap base_3)-1))))) ?_))))))))))))
         obtain ⟨b_35,hy_36,hc_30⟩:=bind_some hc_30
         refine qg un9 rfl rfl hy_36 wz ?_
         obtain ⟨_,hi_37,hc_30⟩:=bind_some hc_30
         refine HY 0 0 il ft A8 rfl rfl rfl (wO hi_37) (q9 hi_37) wz ?_
         obtain ⟨e_38,hy_39,hc_30⟩:=bind_some hc_30
         refine Bl 0 il ft 0 sz5 rfl rfl hy_39 (b_35.toNat:Int) rfl wz (ah (au (aa (.d (.int .u64 s_29.2.1)) (aa (.d (.int .u64 (IntKind.u64.wrap r_22))) ?_))))
         obtain ⟨q_40,hz_41,hc_30⟩:=bind_some hc_30
         refine H6 rfl rfl hz_41 wz (aa (.d (.int .u64 q_40)) (ah ?_))
         obtain rfl:=ae hc_30
         exact aS (k_24,((s_29.1.set ((w64 (s_29.2.2-1))).toNat (b_35.toNat:Int)),q_40,(w64 (s_29.2.2-1)))) hL_31 (ls_ _) rfl (aI rfl)
        ·refine ax rfl hc_34 (aV ?_)
         obtain rfl:=ae hc_30
         obtain rfl:=ae hL_31
         exact aU ((s_29.1,s_29.2.1,s_29.2.2)) rfl rfl (aI rfl)
      ·rintro s_29 ho_ sl_ H_ hp_ hq_
       subst ho_
       refine aO _ hp_ hq_ (ai (aa (vI s_29.2.2) (aa (vI (w64 (s_29.2.2-1))) (aa (vI (w64 (s_29.2.2-1))) (ah (au (aa (vI (w64 (s_29.2.2-1))) (aa (.d (.int .u64 s_29.2.1)) ?_))))))))
       obtain ⟨b_42,hy_43,h_20⟩:=bind_some h_20
       refine qg un9 rfl rfl hy_43 wz ?_
       obtain ⟨_,hi_44,h_20⟩:=bind_some h_20
       refine HY 0 0 il ft A8 rfl rfl rfl (wO hi_44) (q9 hi_44) wz ?_
       obtain ⟨e_45,hy_46,h_20⟩:=bind_some h_20
       refine Bl 0 il ft 0 sz5 rfl rfl hy_46 (b_42.toNat:Int) rfl wz (ah ?_)
       obtain rfl:=ae h_20
       exact cu
     ·refine ax rfl hc_21 (ai (aa (vI base_3) (qd un3 GX rfl wz (aa (.d (.int .u64 (IntKind.u64.wrap base_3))) (ah (ak ?_))))))
      obtain ⟨o_56,hj_57,h_20⟩:=bind_some h_20
      obtain ⟨nq_71,hj_57⟩:=cB hj_57
      refine dJ (λ(s_53:(List Int)×Int×Int)=>[(0,(vL (eK .u8) dst_1)),(1,(.d (.int .u64 s_53.2.1))),(3,(vB neg_4)),(4,(vB append_5)),(10,.nil),(11,(vS (⟨#[]⟩:ByteArray))),(12,(.ref n_13 0 0)),(13,(vI s_53.2.2))]) (λ(s_53:(List Int)×Int×Int)=>[(n_13,some (bV 1 (eK .u8) s_53.1))]) (λ(k_48:Nat)=>(λ(s_53:(List Int)×Int×Int)=>[(0,(vL (eK .u8) dst_1)),(1,(.d (.int .u64 s_53.2.1))),(3,(vB neg_4)),(4,(vB append_5)),(10,.nil),(11,(vS (⟨#[]⟩:ByteArray))),(12,(.ref n_13 0 0)),(13,(vI s_53.2.2)),(17,(.d (.int .u64 (IntKind.u64.wrap base_3))))])) (λs=>gm base_3 s) o_56 nq_71 ((List.replicate 65 (0:Int)),v_14,65) hj_57 rfl (aI rfl) ?_ ?_
      ·rintro ⟨k_48,s_53⟩ hL_55
       dsimp only at hL_55
       cases k_48 with
       | zero=>cases hL_55
       | succ k_48 =>
        obtain ⟨c_,hc_54,hL_55⟩:=bind_some hL_55
        unfold gm at hc_54
        refine ak (ai (aa (.d (.int .u64 s_53.2.1)) (aa (.d (.int .u64 (IntKind.u64.wrap base_3))) (aa (vB (decide (s_53.2.1>=(IntKind.u64.wrap base_3)))) (ah ?_)))))
        rcases aj hc_54 with⟨hc_58,hc_54⟩|⟨hc_58,hc_54⟩
        ·refine aA rfl hc_58 (av (aN (ai (aa (vI s_53.2.2) (aa (vI (w64 (s_53.2.2-1))) (aa (vI (w64 (s_53.2.2-1))) (ah (ai (aa (.d (.int .u64 s_53.2.1)) (aa (.d (.int .u64 (IntKind.u64.wrap base_3))) ?_))))))))))
         obtain ⟨q_59,hz_60,hc_54⟩:=bind_some hc_54
         refine Kv rfl rfl hz_60 wz (aa (.d (.int .u64 q_59)) (ah (ai (aa (vI (w64 (s_53.2.2-1))) (aa (.d (.int .u64 s_53.2.1)) (aa (.d (.int .u64 q_59)) (aa (.d (.int .u64 (IntKind.u64.wrap base_3))) (aa (.d (.int .u64 (IntKind.u64.wrap (q_59*(IntKind.u64.wrap base_3))))) (aa (.d (.int .u64 (IntKind.u64.wrap (s_53.2.1-(IntKind.u64.wrap (q_59*(IntKind.u64.wrap base_3))))))) ?_)))))))))
         obtain ⟨b_61,hy_62,hc_54⟩:=bind_some hc_54
         refine qg un9 rfl rfl hy_62 wz ?_
         obtain ⟨_,hi_63,hc_54⟩:=bind_some hc_54
         refine HY 0 0 il ft A8 rfl rfl rfl (wO hi_63) (q9 hi_63) wz ?_
         obtain ⟨e_64,hy_65,hc_54⟩:=bind_some hc_54
         refine Bl 0 il ft 0 sz5 rfl rfl hy_65 (b_61.toNat:Int) rfl wz (ah (au (aa (.d (.int .u64 q_59)) (aa (.d (.int .u64 q_59)) (ah ?_)))))
         obtain rfl:=ae hc_54
         exact aS (k_48,((s_53.1.set ((w64 (s_53.2.2-1))).toNat (b_61.toNat:Int)),q_59,(w64 (s_53.2.2-1)))) hL_55 (ls_ _) rfl (aI rfl)
        ·refine ax rfl hc_58 (aV ?_)
         obtain rfl:=ae hc_54
         obtain rfl:=ae hL_55
         exact aU ((s_53.1,s_53.2.1,s_53.2.2)) rfl rfl (aI rfl)
      ·rintro s_53 ho_ sl_ H_ hp_ hq_
       subst ho_
       refine aO _ hp_ hq_ (ai (aa (vI s_53.2.2) (aa (vI (w64 (s_53.2.2-1))) (aa (vI (w64 (s_53.2.2-1))) (ah (au (aa (vI (w64 (s_53.2.2-1))) (aa (.d (.int .u64 s_53.2.1)) ?_))))))))
       obtain ⟨b_66,hy_67,h_20⟩:=bind_some h_20
       refine qg un9 rfl rfl hy_67 wz ?_
       obtain ⟨_,hi_68,h_20⟩:=bind_some h_20
       refine HY 0 0 il ft A8 rfl rfl rfl (wO hi_68) (q9 hi_68) wz ?_
       obtain ⟨e_69,hy_70,h_20⟩:=bind_some h_20
       refine Bl 0 il ft 0 sz5 rfl rfl hy_70 (b_66.toNat:Int) rfl wz (ah ?_)
       obtain rfl:=ae h_20
       exact cu
    ·rintro ⟨⟩ _ sl_ H_ hp_ hq_
     refine aO _ hp_ hq_ (ak (ai (aa (vB neg_4) (ah ?_))))
     obtain ⟨v_72,h_73,hF⟩:=bind_some hF
     refine aM [(0,(vL (eK .u8) dst_1)),(4,(vB append_5)),(10,.nil),(11,(vS (⟨#[]⟩:ByteArray))),(12,(.ref n_13 0 0)),(13,(vI v_72.2))] [(n_13,some (bV 1 (eK .u8) v_72.1))] ?_ ?_
     ·rcases aj h_73 with⟨hc_74,h_73⟩|⟨hc_74,h_73⟩
      ·refine aA rfl hc_74 (ai (aa (vI v_19.2) (aa (vI (w64 (v_19.2-1))) (aa (vI (w64 (v_19.2-1))) (ah (au (aa (vI (w64 (v_19.2-1))) ?_)))))))
       obtain ⟨_,hi_75,h_73⟩:=bind_some h_73
       refine HY 0 0 il ft A8 rfl rfl rfl (wO hi_75) (q9 hi_75) wz ?_
       obtain ⟨e_76,hy_77,h_73⟩:=bind_some h_73
       refine Bl 0 il ft 0 sz5 rfl rfl hy_77 45 rfl wz (ah ?_)
       obtain rfl:=ae h_73
       exact cu
      ·refine ax rfl hc_74 (av ?_)
       obtain rfl:=ae h_73
       exact cu
     ·rintro ⟨⟩ _ sl_ H_ hp_ hq_
      refine aO _ hp_ hq_ (ak (ai (aa (vB append_5) (ah ?_))))
      rcases aj hF with⟨hc_78,hF⟩|⟨hc_78,hF⟩
      ·refine aA rfl hc_78 (ai (aa (vL (eK .u8) dst_1) (aa (vI v_72.2) ?_)))
       obtain ⟨_,hn_79,hF⟩:=bind_some hF
       obtain ⟨_,hr_80,hF⟩:=bind_some hF
       refine H8 0 0 il ft A8 rfl rfl rfl hn_79 hr_80 wz ?_
       cases hF
      ·refine ax rfl hc_78 (av (ai (aa (vI v_72.2) ?_)))
       obtain ⟨_,hn_81,hF⟩:=bind_some hF
       obtain ⟨_,hr_82,hF⟩:=bind_some hF
       refine H8 0 0 il ft A8 rfl rfl rfl hn_81 hr_82 wz (h_convp 0 0 il ft un61 un9 un5 rfl rfl (nV hr_82) wz (aa (vS (Go.strOfNums (yJ v_72.1 ((v_72.2).toNat) (((v_72.1.length:Int)).toNat-(v_72.2).toNat)))) (ah ?_)))
       obtain rfl:=ae hF
       exact ay (aK [.nil,(vS (Go.strOfNums (yJ v_72.1 ((v_72.2).toNat) (((v_72.1.length:Int)).toNat-(v_72.2).toNat))))] ⟨rfl,⟨rfl,trivial⟩⟩)
theorem ou {i_1:Int} {base_2:Int} {r:ByteArray} (hF:fH i_1 base_2=some r) :
  FnM Tryz.prog 104 [(.d (.int .u64 i_1)),(vI base_2)] [] (vS r) []:=by
 refine FnM.of_wH ⟨Tryz.prog,32,[],[]⟩ rfl Tryz.func104 rfl rfl (lb_ rfl) (by kernel_rfl) ?_
 unfold fH at hF
 refine ai (aa (vS (⟨#[]⟩:ByteArray)) (ah (ak (ai (aa (vI base_2) (aa (vB (base_2==10)) (ah ?_)))))))
 rcases aj hF with⟨hc_3,hF⟩|⟨hc_3,hF⟩
 ·refine aA rfl hc_3 (ak (ai (aa (.d (.int .u64 i_1)) (aa (vB (decide (i_1<100))) (ah ?_)))))
  rcases aj hF with⟨hc_4,hF⟩|⟨hc_4,hF⟩
  ·refine aA rfl hc_4 (ai (aa (.d (.int .u64 i_1)) (qd GX un3 rfl wz ?_)))
   cases hF
  ·refine ax rfl hc_4 (av (ai (IU (List.replicate 24 (0:Int)) 0 (.inl rfl) z197 (by kernel_rfl) (by kernel_rfl) ab197 wz (λn_5=>ah (ai (aa (.d (.int .u64 i_1)) ?_))))))
   cases hF
 ·refine ax rfl hc_3 (av (ai (aa (.d (.int .u64 i_1)) (aa (vI base_2) ?_))))
  obtain ⟨r_6,hr_7,hF⟩:=bind_some hF
  refine aB (oM hr_7) rfl hb138 rfl rfl rfl rfl wz (aa (.tup [(vL (eK .u8) r_6.1),(vS r_6.2)]) (aa (vL (eK .u8) r_6.1) (aa (vS r_6.2) (aa (vL (eK .u8) r_6.1) (aa (vS r_6.2) (ah (ai (aa (vS r_6.2) (aa (vS r_6.2) (ah ?_))))))))))
  obtain rfl:=ae hF
  exact ay (aK [(vS r_6.2)] ⟨rfl,trivial⟩)
theorem wy {i_1:Int} {base_2:Int} {r:ByteArray} (hF:iM i_1 base_2=some r) :
  FnM Tryz.prog 66 [(.d (.int .u64 i_1)),(vI base_2)] [] (vS r) []:=by
 refine FnM.of_wH ⟨Tryz.prog,8,[],[]⟩ rfl Tryz.func66 rfl rfl (lb_ rfl) (by kernel_rfl) ?_
 unfold iM at hF
 refine ai (aa (vS (⟨#[]⟩:ByteArray)) (ah (ai (aa (.d (.int .u64 i_1)) (aa (vI base_2) ?_)))))
 obtain ⟨r_3,hr_4,hF⟩:=bind_some hF
 refine aB (ou hr_4) rfl hb104 rfl rfl rfl rfl wz (aa (vS r_3) (ah ?_))
 obtain rfl:=ae hF
 exact ay (aK [(vS r_3)] ⟨rfl,trivial⟩)
theorem zu {x0:ByteArray} {x1:Int} {r:ByteArray} (hF:strings_Repeat x0 x1=some r) :
  FnM Tryz.prog 67 [(vS x0),(vI x1)] [] (vS r) [] :=
 Mw rfl Tryz.strings_Repeat  hF
theorem Ea {s_1:ByteArray} {r:ByteArray} (hF:oC s_1=some r) :
  FnM Tryz.prog 41 [(vS s_1)] [] (vS r) []:=by
 refine FnM.of_wH ⟨Tryz.prog,27,[],[]⟩ rfl Tryz.func41 rfl rfl (lb_ rfl) (by kernel_rfl) ?_
 unfold oC at hF
 refine ai (aa (vS (⟨#[]⟩:ByteArray)) (ah (ai (aa (.d (.int .u64 14695981039346656037)) (ah (ak (ai (aa (vS s_1) (nD un9 rfl wz (aa (vI 0) (ah ?_)))))))))))
 obtain ⟨o_10,hj_11,hF⟩:=bind_some hF
 obtain ⟨hn_6,hj_11⟩:=bg hj_11
 refine cK (λ(s_7:Int)=>[(3,(.d (.int .u64 s_7)))]) (λ(s_7:Int)=>[]) (λ(k_2:Nat)=>(λ(s_7:Int)=>[(0,(vS s_1)),(3,(.d (.int .u64 s_7))),(7,(vI (s_1.size:Int))),(8,(vI (k_2:Int)))])) (λk x s=>l9 s_1 k x s) o_10 (List.range ((s_1.size:Int)).toNat) 14695981039346656037 hj_11 rfl (aI rfl) ?_ ?_
 ·rintro ⟨k_2,l_3,s_7⟩ ⟨hL_9,hD_5⟩
  dsimp only at hL_9 hD_5
  cases l_3 with
  | nil =>
   obtain rfl:=ae hL_9
   refine ai (aa (vB (decide ((k_2:Int)<(s_1.size:Int)))) (ah ?_))
   refine ak (ax rfl (xO hD_5) (aV ?_))
   exact aU (s_7) rfl rfl (aI rfl)
  | cons x_4 l_3 =>
   obtain ⟨c_,hc_8,hL_9⟩:=bind_some hL_9
   refine ai (aa (vB (decide ((k_2:Int)<(s_1.size:Int)))) (ah ?_))
   refine ak (aA rfl (vE hD_5) (av ?_))
   unfold l9 at hc_8
   refine ak (aN (ai (aa (vI (k_2:Int)) (aa (vI (k_2:Int)) (ah (au (aa (.d (.int .u64 s_7)) (aa (vS s_1) (aa (vI (k_2:Int)) ?_)))))))))
   obtain ⟨b_12,hy_13,hc_8⟩:=bind_some hc_8
   refine qg un9 rfl rfl hy_13 wz (qd un5 GX rfl wz (aa (.d (.int .u64 (FX .u64 s_7 (IntKind.u64.wrap (b_12.toNat:Int))))) (aa (.d (.int .u64 (IntKind.u64.wrap ((FX .u64 s_7 (IntKind.u64.wrap (b_12.toNat:Int)))*1099511628211)))) (aa (.d (.int .u64 (IntKind.u64.wrap ((FX .u64 s_7 (IntKind.u64.wrap (b_12.toNat:Int)))*1099511628211)))) (ah (au (fq (xN hD_5 hn_6) wz rfl (aa (vI ((k_2+1:Nat):Int)) (ah ?_)))))))))
   obtain rfl:=ae hc_8
   exact aS (k_2+1,l_3,(IntKind.u64.wrap ((FX .u64 s_7 (IntKind.u64.wrap (b_12.toNat:Int)))*1099511628211))) ⟨hL_9,aR hD_5⟩ (ls_ _) rfl (aI rfl)
 ·rintro s_7 ho_ sl_ H_ hp_ hq_
  subst ho_
  refine aO _ hp_ hq_ (ai (aa (.d (.int .u64 s_7)) ?_))
  obtain ⟨r_14,hr_15,hF⟩:=bind_some hF
  refine aB (wy hr_15) rfl hb66 rfl rfl rfl rfl wz (aa (vS r_14) (ah (ai (aa (vS r_14) (nD un9 rfl wz (aa (vI (w64 (16-(r_14.size:Int)))) ?_))))))
  obtain ⟨r_16,hr_17,hF⟩:=bind_some hF
  refine aB (zu hr_17) rfl hb67 rfl rfl rfl rfl wz (aa (vS r_14) ?_)
  obtain ⟨s_18,hz_19,hF⟩:=bind_some hF
  refine sj rfl rfl hz_19 wz (aa (vS s_18) (ah ?_))
  obtain rfl:=ae hF
  exact ay (aK [(vS s_18)] ⟨rfl,trivial⟩)
theorem uO {last_1:ByteArray} {l_2:Log_} {r:ByteArray} (hF:oq last_1 l_2=some r) :
  FnM Tryz.prog 21 [(vS last_1),(.d (.agg (Log_.enc l_2)))] [] (vS r) []:=by
 refine FnM.of_wH ⟨Tryz.prog,11,[],[]⟩ rfl Tryz.func21 rfl rfl (lb_ rfl) (by kernel_rfl) ?_
 unfold oq at hF
 refine ai (gZ 0 (.inl rfl) (Log_.v l_2) rfl rfl wz (λn_3=>aa (vS (⟨#[]⟩:ByteArray)) (ah (ai (aa (vS last_1) ?_)))))
 obtain ⟨s_4,hz_5,hF⟩:=bind_some hF
 refine sj rfl rfl hz_5 wz (aH 0 0 il ft fT ni rfl rfl (.d (.agg (Log_.enc l_2))) rfl wz ?_)
 obtain ⟨r_6,hr_7,hF⟩:=bind_some hF
 refine aB (ym hr_7) rfl hb29 rfl rfl rfl rfl wz ?_
 obtain ⟨s_8,hz_9,hF⟩:=bind_some hF
 refine sj rfl rfl hz_9 wz ?_
 obtain ⟨r_10,hr_11,hF⟩:=bind_some hF
 refine aB (Ea hr_11) rfl hb41 rfl rfl rfl rfl wz (aa (vS r_10) (ah ?_))
 obtain rfl:=ae hF
 exact ay (aK [(vS r_10)] ⟨rfl,trivial⟩)
theorem jf {s_1:(List Log_)} {r:(List Log_)} (hF:bJ s_1=some r) :
  FnM Tryz.prog 12 [(vL Log_.enc s_1)] [] (gV (aD 0) 6 r) (([]:List Box).map some++gO 6 Log_.enc r):=by
 refine FnM.of_wH ⟨Tryz.prog,8,[],[]⟩ rfl Tryz.func12 rfl rfl (lb_ rfl) (by kernel_rfl) ?_
 unfold bJ at hF
 refine ai (aa .nil (ah (ak (ai (aa (vL Log_.enc s_1) (h_nileq lX rfl wz (λb_2 hb_3=>ah ?_)))))))
 cases b_2 with
 | true =>
  refine aA rfl rfl ?_
  obtain rfl:=hb_3 rfl
  replace hF:=Li hF
  refine ai (aa .nil (ah (oJ (λn_4 => ?_))))
  obtain rfl:=ae hF
  exact ay (M8 (outs:=([]:List Box)) (.inr rfl) 0 rfl rfl rfl (by kernel_rfl) (by kernel_rfl))
 | false =>
  refine ax rfl rfl (av (ai (h_lit0 kG ez26 rfl wz (aa (vL Log_.enc s_1) ?_))))
  obtain ⟨a_5,hz_6,hF⟩:=bind_some hF
  refine h_appn 0 (.inl rfl) zw zw fT z30 rfl (by decide) Lm (by decide) (λ_=>rfl) rfl rfl hz_6 wz (λn_7=>aa (gV n_7 6 a_5) (ah ?_))
  obtain rfl:=ae hF
  exact ay (M8 (outs:=([]:List Box)) (.inr rfl) 0 rfl rfl rfl (by kernel_rfl) (by kernel_rfl))
theorem Cq {last_1:ByteArray} {l_2:(List Log_)} {r:(List Log_)×Int} (hF:pF last_1 l_2=some r) :
  FnM Tryz.prog 6 [(vS last_1),(vL Log_.enc l_2)] [] (.tup [(vL Log_.enc r.1),(vI r.2)]) []:=by
 refine FnM.of_wH ⟨Tryz.prog,68,[],[]⟩ rfl Tryz.func6 rfl rfl (lb_ rfl) (by kernel_rfl) ?_
 unfold pF at hF
 refine ai (aa .nil (aa (vI 0) (ah (ak (ai (aa (vS last_1) ?_))))))
 obtain ⟨r_3,hr_4,hF⟩:=bind_some hF
 refine aB (yU hr_4) rfl hb19 rfl rfl rfl rfl wz (aa (vI r_3) (ah (ai (aa (vI r_3) (aa (vB (r_3 != 0)) (ah ?_))))))
 rcases aj hF with⟨hc_5,hF⟩|⟨hc_5,hF⟩
 ·refine aA rfl hc_5 (ai (aa (vI r_3) (aa .nil (aa (vI r_3) (ah ?_)))))
  obtain rfl:=ae hF
  exact ay (aK [.nil,(vI r_3)] ⟨rfl,⟨rfl,trivial⟩⟩)
 ·refine ax rfl hc_5 (av (ak (ai (aa (vL Log_.enc l_2) (bG lX rfl wz (aa (vB (decide ((l_2.length:Int)>2000))) (ah ?_)))))))
  rcases aj hF with⟨hc_6,hF⟩|⟨hc_6,hF⟩
  ·refine aA rfl hc_6 (ai (aa .nil (aa (vI 2) (ah ?_))))
   obtain rfl:=ae hF
   exact ay (aK [.nil,(vI 2)] ⟨rfl,⟨rfl,trivial⟩⟩)
  ·refine ax rfl hc_6 (av (ai (aa (vL Log_.enc l_2) ?_)))
   obtain ⟨r_7,hr_8,hF⟩:=bind_some hF
   refine BS [] (jf hr_8) rfl hb12 rfl (by kernel_rfl) (by kernel_rfl) (by kernel_rfl) (by kernel_rfl) (by kernel_rfl) rfl (by decide) (by kernel_rfl) wz ([]:Hp) (λ_=>by kernel_rfl) (λn_10=>aa (gV n_10 6 r_7) (ah (ak (ai (aa (vL Log_.enc l_2) (bG lX rfl wz (aa (vI 0) (ah ?_))))))))
   obtain ⟨o_19,hj_20,hF⟩:=bind_some hF
   obtain ⟨hn_15,hj_20⟩:=bg hj_20
   refine cK (λ(s_16:(List Log_)×ByteArray)=>[(7,(gV n_10 6 s_16.1))]) (λ(s_16:(List Log_)×ByteArray)=>[(n_10,gB 6 Log_.enc s_16.1)]) (λ(k_11:Nat)=>(λ(s_16:(List Log_)×ByteArray)=>[(0,(vS s_16.2)),(1,(vL Log_.enc l_2)),(7,(gV n_10 6 s_16.1)),(21,(vL Log_.enc l_2)),(22,(vI (l_2.length:Int))),(23,(vI (k_11:Int)))])) (λk x s=>jw l_2 k x s) o_19 l_2 (r_7,last_1) hj_20 rfl (aI rfl) ?_ ?_
   ·rintro ⟨k_11,l_12,s_16⟩ ⟨hL_18,hD_14⟩
    dsimp only at hL_18 hD_14
    cases l_12 with
    | nil =>
     obtain rfl:=ae hL_18
     refine ai (aa (vB (decide ((k_11:Int)<(l_2.length:Int)))) (ah ?_))
     refine ak (ax rfl (drop_nil hD_14) (aV ?_))
     exact aU (s_16) rfl rfl (aI rfl)
    | cons x_13 l_12 =>
     obtain ⟨c_,hc_17,hL_18⟩:=bind_some hL_18
     refine ai (aa (vB (decide ((k_11:Int)<(l_2.length:Int)))) (ah ?_))
     refine ak (aA rfl (bz hD_14) (av ?_))
     unfold jw at hc_17
     refine ak (aN (ai (aa (vI (k_11:Int)) (dB kG rfl rfl (bK hD_14) rfl wz (bA fT ni rfl (.d (.agg (Log_.enc x_13))) rfl wz (dK 0 (.inl rfl) z30 rfl wz (λn_21=>aa (vI (k_11:Int)) (gP 0 il ft 1 fT rfl rfl (Log_.v x_13) rfl wz (ah (ak (ai (aH 0 1 il ft fT ni rfl rfl (.d (.agg (Log_.enc x_13))) rfl wz ?_))))))))))))
     obtain ⟨r_22,hr_23,hc_17⟩:=bind_some hc_17
     refine aB (sw hr_23) rfl hb20 rfl rfl rfl rfl wz (aa (vI r_22) (ah (ai (aa (vI r_22) (aa (vB (r_22 != 0)) (ah ?_))))))
     rcases aj hc_17 with⟨hc_24,hc_17⟩|⟨hc_24,hc_17⟩
     ·refine aA rfl hc_24 (ai (aa (vI r_22) (aa .nil (aa (vI r_22) (ah ?_)))))
      obtain rfl:=ae hc_17
      obtain rfl:=ae hL_18
      obtain rfl:=ae hF
      exact ay (aK [.nil,(vI r_22)] ⟨rfl,⟨rfl,trivial⟩⟩)
     ·refine ax rfl hc_24 (av (ak (ak ?_)))
      obtain ⟨v_25,h_26,hc_17⟩:=bind_some hc_17
      refine aM [(0,(vS s_16.2)),(1,(vL Log_.enc l_2)),(7,(gV n_10 6 s_16.1)),(8,(vI (k_11:Int))),(9,(.ref n_21 0 0)),(21,(vL Log_.enc l_2)),(22,(vI (l_2.length:Int))),(23,(vI (k_11:Int))),(43,(vB v_25))] [(n_10,gB 6 Log_.enc s_16.1),(n_21,some (.cells 6 (Log_.v x_13)))] ?_ ?_
      ·refine aZ (aa (vI (k_11:Int)) (aa (vB (decide ((k_11:Int)>0))) ?_))
       rcases aj h_26 with⟨hc_27,h_26⟩|⟨hc_27,h_26⟩
       ·refine aC rfl hc_27 wz (aJ rD rfl 0 rfl wa (aH 4 1 (.inr (by kernel_rfl)) (λ_ _ ag=>trivial) sz9 ag9 rfl rfl (vS x_13.Player) rfl wa (aG (vL Log_.enc l_2) wa rfl ?_)))
        obtain ⟨y_28,hy_29,h_26⟩:=bind_some h_26
        refine dB kG rfl rfl hy_29 rfl wa (lK rD rfl [.str y_28.Player,.str y_28.Item,.int .i64 y_28.No,.int .i64 y_28.Clock,.int .i64 y_28.Long,.str y_28.Sum] rfl rfl wa (bA sz9 ag9 rfl (vS y_28.Player) rfl wa (aG (vB (sNe x_13.Player y_28.Player)) wa rfl (aa (vB (sNe x_13.Player y_28.Player)) (ah ?_)))))
        obtain rfl:=ae h_26
        exact cu
       ·refine aC rfl hc_27 wz (af (af (af (af (af (af (af (aa (vB false) (ah ?_)))))))))
        obtain rfl:=ae h_26
        exact cu
      ·rintro ⟨⟩ _ sl_ H_ hp_ hq_
       refine aO _ hp_ hq_ ?_
       rcases aj hc_17 with⟨hc_30,hc_17⟩|⟨hc_30,hc_17⟩
       ·refine aA rfl hc_30 (ai (aa .nil (aa (vI 13) (ah ?_))))
        obtain rfl:=ae hc_17
        obtain rfl:=ae hL_18
        obtain rfl:=ae hF
        exact ay (aK [.nil,(vI 13)] ⟨rfl,⟨rfl,trivial⟩⟩)
       ·refine ax rfl hc_30 (av (ak (ak ?_)))
        obtain ⟨v_31,h_32,hc_17⟩:=bind_some hc_17
        refine aM [(0,(vS s_16.2)),(1,(vL Log_.enc l_2)),(7,(gV n_10 6 s_16.1)),(8,(vI (k_11:Int))),(9,(.ref n_21 0 0)),(21,(vL Log_.enc l_2)),(22,(vI (l_2.length:Int))),(23,(vI (k_11:Int))),(57,(vB v_31))] [(n_10,gB 6 Log_.enc s_16.1),(n_21,some (.cells 6 (Log_.v x_13)))] ?_ ?_
        ·refine aZ (aa (vI (k_11:Int)) (aa (vB (decide ((k_11:Int)>0))) ?_))
         rcases aj h_32 with⟨hc_33,h_32⟩|⟨hc_33,h_32⟩
         ·refine aC rfl hc_33 wz (aJ qy rfl 2 rfl wa (aH 4 1 (.inr (by kernel_rfl)) (λ_ _ ag=>trivial) sz3 ag3 rfl rfl (vI x_13.No) rfl wa (aG (vL Log_.enc l_2) wa rfl (aG (vI (k_11:Int)) wa rfl (aG (vI (w64 ((k_11:Int)-1))) wa rfl ?_)))))
          obtain ⟨y_34,hy_35,h_32⟩:=bind_some h_32
          refine dB kG rfl rfl hy_35 rfl wa (lK qy rfl [.int .i64 y_34.No,.int .i64 y_34.Clock,.int .i64 y_34.Long,.str y_34.Sum] rfl rfl wa (bA sz3 ag3 rfl (vI y_34.No) rfl wa (aG (vI (w64 (y_34.No+1))) wa rfl (aG (vB (x_13.No != (w64 (y_34.No+1)))) wa rfl (aa (vB (x_13.No != (w64 (y_34.No+1)))) (ah ?_))))))
          obtain rfl:=ae h_32
          exact cu
         ·refine aC rfl hc_33 wz (af (af (af (af (af (af (af (af (af (af (aa (vB false) (ah ?_))))))))))))
          obtain rfl:=ae h_32
          exact cu
        ·rintro ⟨⟩ _ sl_ H_ hp_ hq_
         refine aO _ hp_ hq_ ?_
         rcases aj hc_17 with⟨hc_36,hc_17⟩|⟨hc_36,hc_17⟩
         ·refine aA rfl hc_36 (ai (aa .nil (aa (vI 16) (ah ?_))))
          obtain rfl:=ae hc_17
          obtain rfl:=ae hL_18
          obtain rfl:=ae hF
          exact ay (aK [.nil,(vI 16)] ⟨rfl,⟨rfl,trivial⟩⟩)
         ·refine ax rfl hc_36 (av (ai (aa (vS s_16.2) (aH 0 1 il ft fT ni rfl rfl (.d (.agg (Log_.enc x_13))) rfl wz ?_))))
          obtain ⟨r_37,hr_38,hc_17⟩:=bind_some hc_17
          refine aB (uO hr_38) rfl hb21 rfl rfl rfl rfl wz (aa (vS r_37) (ah (au (aa (gV n_10 6 s_16.1) (aa (vI (k_11:Int)) (aa (vS r_37) ?_))))))
          obtain ⟨_,hi_39,hc_17⟩:=bind_some hc_17
          refine xw kG rfl rfl (jO hi_39) (gL hi_39) wz (aJ Av rfl 5 rfl wz ?_)
          obtain ⟨e_40,hy_41,hc_17⟩:=bind_some hc_17
          refine wN 0 il ft 0 sz9 rfl rfl hy_41 (⟨e_40.Player,e_40.Item,e_40.No,e_40.Clock,e_40.Long,r_37⟩:Log_) rfl wz (eO (v':=(gV n_10 6 (s_16.1.set (0+((k_11:Int)).toNat) (⟨e_40.Player,e_40.Item,e_40.No,e_40.Clock,e_40.Long,r_37⟩:Log_)))) 7 rfl (j6 (by simp)) (eO (v':=(gV n_10 6 (s_16.1.set (0+((k_11:Int)).toNat) (⟨e_40.Player,e_40.Item,e_40.No,e_40.Clock,e_40.Long,r_37⟩:Log_)))) 61 rfl (j6 (by simp)) (ah (au (fq (bH hD_14 hn_15) wz rfl (aa (vI ((k_11+1:Nat):Int)) (ah ?_)))))))
          obtain rfl:=ae hc_17
          exact aS (k_11+1,l_12,((s_16.1.set (0+((k_11:Int)).toNat) (⟨e_40.Player,e_40.Item,e_40.No,e_40.Clock,e_40.Long,r_37⟩:Log_)),r_37)) ⟨hL_18,aR hD_14⟩ (ls_ _) rfl (aI rfl)
   ·rintro s_16 ho_ sl_ H_ hp_ hq_
    subst ho_
    refine aO _ hp_ hq_ (ai (aa (gV n_10 6 s_16.1) (aa (gV n_10 6 s_16.1) (aa (vI 0) (ah (gG 0 rfl (eT 4 0 rfl rfl (eT 7 0 rfl rfl (eT 67 0 rfl rfl ?_)))))))))
    obtain rfl:=ae hF
    exact ay (aK [(vL Log_.enc s_16.1),(vI 0)] ⟨rfl,⟨rfl,trivial⟩⟩)
theorem nz {a_1:ByteArray} {b_2:ByteArray} {r:Int} (hF:gp a_1 b_2=some r) :
  FnM Tryz.prog 75 [(vS a_1),(vS b_2)] [] (vI r) []:=by
 refine FnM.of_wH ⟨Tryz.prog,8,[],[]⟩ rfl Tryz.func75 rfl rfl (lb_ rfl) (by kernel_rfl) ?_
 unfold gp at hF
 refine ai (aa (vI 0) (ah (ai (aa (vS a_1) (aa (vS b_2) (h_ext (Oq (f:=112) Tryz.func112 rfl rfl (by kernel_rfl) (by kernel_rfl) _ _) rfl nb112 rfl wz (aa (vI (BG a_1 b_2)) (ah ?_))))))))
 obtain rfl:=ae hF
 exact ay (aK [(vI (BG a_1 b_2))] ⟨rfl,trivial⟩)
theorem mU {a_1:ByteArray} {b_2:ByteArray} {r:Int} (hF:strings_Compare a_1 b_2=some r) :
  FnM Tryz.prog 44 [(vS a_1),(vS b_2)] [] (vI r) []:=by
 refine FnM.of_wH ⟨Tryz.prog,8,[],[]⟩ rfl Tryz.func44 rfl rfl (lb_ rfl) (by kernel_rfl) ?_
 unfold strings_Compare at hF
 refine ai (aa (vI 0) (ah (ai (aa (vS a_1) (aa (vS b_2) ?_)))))
 obtain ⟨r_3,hr_4,hF⟩:=bind_some hF
 refine aB (nz hr_4) rfl hb75 rfl rfl rfl rfl wz (aa (vI r_3) (ah ?_))
 obtain rfl:=ae hF
 exact ay (aK [(vI r_3)] ⟨rfl,trivial⟩)
theorem ll {x_1:Int} {r:Bool} (hF:cmp_isNaN_int x_1=some r) :
  FnM Tryz.prog 76 [(vI x_1)] [] (vB r) []:=by
 refine FnM.of_wH ⟨Tryz.prog,6,[],[]⟩ rfl Tryz.func76 rfl rfl (lb_ rfl) (by kernel_rfl) ?_
 unfold cmp_isNaN_int at hF
 refine ai (aa (vB false) (ah (ai (aa (vI x_1) (aa (vI x_1) (aa (vB (x_1 != x_1)) (aa (vB (x_1 != x_1)) (ah ?_))))))))
 obtain rfl:=ae hF
 exact ay (aK [(vB (x_1 != x_1))] ⟨rfl,trivial⟩)
theorem mE {x_1:Int} {y_2:Int} {r:Int} (hF:cmp_Compare_int x_1 y_2=some r) :
  FnM Tryz.prog 45 [(vI x_1),(vI y_2)] [] (vI r) []:=by
 refine FnM.of_wH ⟨Tryz.prog,20,[],[]⟩ rfl Tryz.func45 rfl rfl (lb_ rfl) (by kernel_rfl) ?_
 unfold cmp_Compare_int at hF
 refine ai (aa (vI 0) (ah (ai (aa (vI x_1) ?_))))
 obtain ⟨r_3,hr_4,hF⟩:=bind_some hF
 refine aB (ll hr_4) rfl hb76 rfl rfl rfl rfl wz (aa (vB r_3) (ah (ai (aa (vI y_2) ?_))))
 obtain ⟨r_5,hr_6,hF⟩:=bind_some hF
 refine aB (ll hr_6) rfl hb76 rfl rfl rfl rfl wz (aa (vB r_5) (ah (ak (ai (aa (vB r_3) (ah ?_))))))
 rcases aj hF with⟨hc_7,hF⟩|⟨hc_7,hF⟩
 ·refine aA rfl hc_7 (ak (ai (aa (vB r_5) (ah ?_))))
  rcases aj hF with⟨hc_8,hF⟩|⟨hc_8,hF⟩
  ·refine aA rfl hc_8 (ai (aa (vI 0) (ah ?_)))
   obtain rfl:=ae hF
   exact ay (aK [(vI 0)] ⟨rfl,trivial⟩)
  ·refine ax rfl hc_8 (av (ai (aa (vI (-1)) (ah ?_))))
   obtain rfl:=ae hF
   exact ay (aK [(vI (-1))] ⟨rfl,trivial⟩)
 ·refine ax rfl hc_7 (av (ak (ai (aa (vB r_5) (ah ?_)))))
  rcases aj hF with⟨hc_9,hF⟩|⟨hc_9,hF⟩
  ·refine aA rfl hc_9 (ai (aa (vI 1) (ah ?_)))
   obtain rfl:=ae hF
   exact ay (aK [(vI 1)] ⟨rfl,trivial⟩)
  ·refine ax rfl hc_9 (av (ak (ai (aa (vI x_1) (aa (vI y_2) (aa (vB (decide (x_1<y_2))) (ah ?_)))))))
   rcases aj hF with⟨hc_10,hF⟩|⟨hc_10,hF⟩
   ·refine aA rfl hc_10 (ai (aa (vI (-1)) (ah ?_)))
    obtain rfl:=ae hF
    exact ay (aK [(vI (-1))] ⟨rfl,trivial⟩)
   ·refine ax rfl hc_10 (av (ak (ai (aa (vI x_1) (aa (vI y_2) (aa (vB (decide (x_1>y_2))) (ah ?_)))))))
    rcases aj hF with⟨hc_11,hF⟩|⟨hc_11,hF⟩
    ·refine aA rfl hc_11 (ai (aa (vI 1) (ah ?_)))
     obtain rfl:=ae hF
     exact ay (aK [(vI 1)] ⟨rfl,trivial⟩)
    ·refine ax rfl hc_11 (av (ai (aa (vI 0) (ah ?_))))
     obtain rfl:=ae hF
     exact ay (aK [(vI 0)] ⟨rfl,trivial⟩)
theorem sO {vals_1:(List Int)} {r:Int} (hF:mM vals_1=some r) :
  FnM Tryz.prog 43 [(vL eI vals_1)] [] (vI r) []:=by
 refine FnM.of_wH ⟨Tryz.prog,18,[],[]⟩ rfl Tryz.func43 rfl rfl (lb_ rfl) (by kernel_rfl) ?_
 unfold mM at hF
 refine ai (aa (vI 0) (ah (ai (aa (vI 0) (ah (ak (ai (aa (vL eI vals_1) (bG uF rfl wz (aa (vI 0) (ah ?_)))))))))))
 obtain ⟨o_10,hj_11,hF⟩:=bind_some hF
 obtain ⟨hn_6,hj_11⟩:=bg hj_11
 refine cK (λ(s_7:Unit)=>[(3,(vI 0))]) (λ(s_7:Unit)=>[]) (λ(k_2:Nat)=>(λ(s_7:Unit)=>[(3,(vI 0)),(6,(vL eI vals_1)),(7,(vI (vals_1.length:Int))),(8,(vI (k_2:Int)))])) (λk x s=>pg k x s) o_10 vals_1 () hj_11 rfl (aI rfl) ?_ ?_
 ·rintro ⟨k_2,l_3,s_7⟩ ⟨hL_9,hD_5⟩
  dsimp only at hL_9 hD_5
  cases l_3 with
  | nil =>
   obtain rfl:=ae hL_9
   refine ai (aa (vB (decide ((k_2:Int)<(vals_1.length:Int)))) (ah ?_))
   refine ak (ax rfl (drop_nil hD_5) (aV ?_))
   exact aU (s_7) rfl rfl (aI rfl)
  | cons x_4 l_3 =>
   obtain ⟨c_,hc_8,hL_9⟩:=bind_some hL_9
   refine ai (aa (vB (decide ((k_2:Int)<(vals_1.length:Int)))) (ah ?_))
   refine ak (aA rfl (bz hD_5) (av ?_))
   unfold pg at hc_8
   refine ak (aN (ai (dB qV rfl rfl (bK hD_5) rfl wz (bA sz3 ag3 rfl (vI x_4) rfl wz (aa (vI x_4) (ah (ai (aa (vI x_4) (aa (vI 0) (aa (vB (x_4 != 0)) (ah ?_)))))))))))
   rcases aj hc_8 with⟨hc_12,hc_8⟩|⟨hc_12,hc_8⟩
   ·refine aA rfl hc_12 (ai (aa (vI x_4) (aa (vI x_4) (ah ?_))))
    obtain rfl:=ae hc_8
    obtain rfl:=ae hL_9
    obtain rfl:=ae hF
    exact ay (aK [(vI x_4)] ⟨rfl,trivial⟩)
   ·refine ax rfl hc_12 (av (au (fq (bH hD_5 hn_6) wz rfl (aa (vI ((k_2+1:Nat):Int)) (ah ?_)))))
    obtain rfl:=ae hc_8
    exact aS (k_2+1,l_3,()) ⟨hL_9,aR hD_5⟩ (ls_ _) rfl (aI rfl)
 ·rintro s_7 ho_ sl_ H_ hp_ hq_
  subst ho_
  refine aO _ hp_ hq_ (ai (aa (vI 0) (aa (vI 0) (ah ?_))))
  obtain rfl:=ae hF
  exact ay (aK [(vI 0)] ⟨rfl,trivial⟩)
theorem kZ {a_1:Log_} {b_2:Log_} {r:Int} (hF:eZ a_1 b_2=some r) :
  FnM Tryz.prog 23 [(.d (.agg (Log_.enc a_1))),(.d (.agg (Log_.enc b_2)))] [] (vI r) []:=by
 refine FnM.of_wH ⟨Tryz.prog,17,[],[]⟩ rfl Tryz.func23 rfl rfl (lb_ rfl) (by kernel_rfl) ?_
 unfold eZ at hF
 refine ai (gZ 0 (.inl rfl) (Log_.v a_1) rfl rfl wz (λn_3=>gZ 0 (.inl rfl) (Log_.v b_2) rfl rfl wz (λn_4=>aa (vI 0) (ah (ak (aZ (aJ rD rfl 0 rfl wz (aH 1 0 (.inr (by kernel_rfl)) (λ_ _ ag=>trivial) sz9 ag9 rfl rfl (vS a_1.Player) rfl wz (aJ rD rfl 0 rfl wz (aH 3 1 (.inr (by kernel_rfl)) (λ_ _ ag=>⟨.inl ⟨rfl,rfl⟩,trivial⟩) sz9 ag9 rfl rfl (vS b_2.Player) rfl wz ?_))))))))))
 obtain ⟨r_5,hr_6,hF⟩:=bind_some hF
 refine aB (mU hr_6) rfl hb44 rfl rfl rfl rfl wz (aJ qy rfl 2 rfl wz (aH 6 0 (.inr (by kernel_rfl)) (λ_ _ ag=>⟨.inl ⟨rfl,rfl⟩,⟨.inl ⟨rfl,rfl⟩,trivial⟩⟩) sz3 ag3 rfl rfl (vI a_1.No) rfl wz (aJ qy rfl 2 rfl wz (aH 8 1 (.inr (by kernel_rfl)) (λ_ _ ag=>⟨.inl ⟨rfl,rfl⟩,⟨.inl ⟨rfl,rfl⟩,⟨.inl ⟨rfl,rfl⟩,trivial⟩⟩⟩) sz3 ag3 rfl rfl (vI b_2.No) rfl wz ?_))))
 obtain ⟨r_7,hr_8,hF⟩:=bind_some hF
 refine aB (mE hr_8) rfl hb45 rfl rfl rfl rfl wz (iK (([r_5,r_7]:List Int).map eI) qV J2 rfl rfl rfl rfl rfl wz ?_)
 obtain ⟨r_9,hr_10,hF⟩:=bind_some hF
 refine aB (sO hr_10) rfl hb43 rfl rfl rfl rfl wz (aa (vI r_9) (ah ?_))
 obtain rfl:=ae hF
 exact ay (aK [(vI r_9)] ⟨rfl,trivial⟩)
theorem fZ {l_1:(List Log_)} {r:Int} (hF:bW l_1=some r) :
  FnM Tryz.prog 10 [(vL Log_.enc l_1)] [] (vI r) []:=by
 refine FnM.of_wH ⟨Tryz.prog,38,[],[]⟩ rfl Tryz.func10 rfl rfl (lb_ rfl) (by kernel_rfl) ?_
 unfold bW at hF
 refine ai (aa (vI 0) (ah (ak (ai (aa (vL Log_.enc l_1) (bG lX rfl wz (aa (vB (decide ((l_1.length:Int)>2000))) (ah ?_))))))))
 rcases aj hF with⟨hc_2,hF⟩|⟨hc_2,hF⟩
 ·refine aA rfl hc_2 (ai (aa (vI 2) (ah ?_)))
  obtain rfl:=ae hF
  exact ay (aK [(vI 2)] ⟨rfl,trivial⟩)
 ·refine ax rfl hc_2 (av (ak (ai (aa (vL Log_.enc l_1) (bG lX rfl wz (aa (vI 0) (ah ?_)))))))
  obtain ⟨o_11,hj_12,hF⟩:=bind_some hF
  obtain ⟨hn_7,hj_12⟩:=bg hj_12
  refine cK (λ(s_8:Unit)=>[]) (λ(s_8:Unit)=>[]) (λ(k_3:Nat)=>(λ(s_8:Unit)=>[(0,(vL Log_.enc l_1)),(9,(vL Log_.enc l_1)),(10,(vI (l_1.length:Int))),(11,(vI (k_3:Int)))])) (λk x s=>jR l_1 k x s) o_11 l_1 () hj_12 rfl (aI rfl) ?_ ?_
  ·rintro ⟨k_3,l_4,s_8⟩ ⟨hL_10,hD_6⟩
   dsimp only at hL_10 hD_6
   cases l_4 with
   | nil =>
    obtain rfl:=ae hL_10
    refine ai (aa (vB (decide ((k_3:Int)<(l_1.length:Int)))) (ah ?_))
    refine ak (ax rfl (drop_nil hD_6) (aV ?_))
    exact aU (s_8) rfl rfl (aI rfl)
   | cons x_5 l_4 =>
    obtain ⟨c_,hc_9,hL_10⟩:=bind_some hL_10
    refine ai (aa (vB (decide ((k_3:Int)<(l_1.length:Int)))) (ah ?_))
    refine ak (aA rfl (bz hD_6) (av ?_))
    unfold jR at hc_9
    refine ak (aN (ai (aa (vI (k_3:Int)) (dB kG rfl rfl (bK hD_6) rfl wz (bA fT ni rfl (.d (.agg (Log_.enc x_5))) rfl wz (dK 0 (.inl rfl) z30 rfl wz (λn_13=>aa (vI (k_3:Int)) (gP 0 il ft 0 fT rfl rfl (Log_.v x_5) rfl wz (ah (ak (ai (aH 0 0 il ft fT ni rfl rfl (.d (.agg (Log_.enc x_5))) rfl wz ?_))))))))))))
    obtain ⟨r_14,hr_15,hc_9⟩:=bind_some hc_9
    refine aB (sw hr_15) rfl hb20 rfl rfl rfl rfl wz (aa (vI r_14) (ah (ai (aa (vI r_14) (aa (vB (r_14 != 0)) (ah ?_))))))
    rcases aj hc_9 with⟨hc_16,hc_9⟩|⟨hc_16,hc_9⟩
    ·refine aA rfl hc_16 (ai (aa (vI r_14) (aa (vI r_14) (ah ?_))))
     obtain rfl:=ae hc_9
     obtain rfl:=ae hL_10
     obtain rfl:=ae hF
     exact ay (aK [(vI r_14)] ⟨rfl,trivial⟩)
    ·refine ax rfl hc_16 (av (ak (ai (aJ Av rfl 5 rfl wz (aH 0 0 il ft sz9 ag9 rfl rfl (vS x_5.Sum) rfl wz ?_)))))
     obtain ⟨r_17,hr_18,hc_9⟩:=bind_some hc_9
     refine aB (vU hr_18) rfl hb22 rfl rfl rfl rfl wz (aa (vB (!r_17)) (ah ?_))
     rcases aj hc_9 with⟨hc_19,hc_9⟩|⟨hc_19,hc_9⟩
     ·refine aA rfl hc_19 (ai (aa (vI 3) (ah ?_)))
      obtain rfl:=ae hc_9
      obtain rfl:=ae hL_10
      obtain rfl:=ae hF
      exact ay (aK [(vI 3)] ⟨rfl,trivial⟩)
     ·refine ax rfl hc_19 (av (ak ?_))
      obtain ⟨v_20,h_21,hc_9⟩:=bind_some hc_9
      refine aM [(0,(vL Log_.enc l_1)),(9,(vL Log_.enc l_1)),(10,(vI (l_1.length:Int))),(11,(vI (k_3:Int))),(36,(vB v_20))] [(n_13,some (.cells 6 (Log_.v x_5)))] ?_ ?_
      ·refine aZ (aa (vI (k_3:Int)) (aa (vB (decide ((k_3:Int)>0))) ?_))
       rcases aj h_21 with⟨hc_22,h_21⟩|⟨hc_22,h_21⟩
       ·refine aC rfl hc_22 wz (aG (vL Log_.enc l_1) wa rfl (aG (vI (k_3:Int)) wa rfl (aG (vI (w64 ((k_3:Int)-1))) wa rfl ?_)))
        obtain ⟨y_23,hy_24,h_21⟩:=bind_some h_21
        refine dB kG rfl rfl hy_24 rfl wa (bA fT ni rfl (.d (.agg (Log_.enc y_23))) rfl wa (aH 8 0 (.inr (by kernel_rfl)) (λ_ _ ag=>trivial) fT ni rfl rfl (.d (.agg (Log_.enc x_5))) rfl wa ?_))
        obtain ⟨r_25,hr_26,h_21⟩:=bind_some h_21
        refine aB (kZ hr_26) rfl hb23 rfl rfl rfl rfl wa (aG (vB (decide (r_25>=0))) wa rfl (aa (vB (decide (r_25>=0))) (ah ?_)))
        obtain rfl:=ae h_21
        exact cu
       ·refine aC rfl hc_22 wz (af (af (af (af (af (af (af (af (aa (vB false) (ah ?_))))))))))
        obtain rfl:=ae h_21
        exact cu
      ·rintro ⟨⟩ _ sl_ H_ hp_ hq_
       refine aO _ hp_ hq_ ?_
       rcases aj hc_9 with⟨hc_27,hc_9⟩|⟨hc_27,hc_9⟩
       ·refine aA rfl hc_27 (ai (aa (vI 7) (ah ?_)))
        obtain rfl:=ae hc_9
        obtain rfl:=ae hL_10
        obtain rfl:=ae hF
        exact ay (aK [(vI 7)] ⟨rfl,trivial⟩)
       ·refine ax rfl hc_27 (av (au (fq (bH hD_6 hn_7) wz rfl (aa (vI ((k_3+1:Nat):Int)) (ah ?_)))))
        obtain rfl:=ae hc_9
        exact aS (k_3+1,l_4,()) ⟨hL_10,aR hD_6⟩ (ls_ _) rfl (aI rfl)
  ·rintro s_8 ho_ sl_ H_ hp_ hq_
   subst ho_
   refine aO _ hp_ hq_ (ai (aa (vI 0) (ah ?_)))
   obtain rfl:=ae hF
   exact ay (aK [(vI 0)] ⟨rfl,trivial⟩)
theorem vZ {l_1:(List Log_)} {r:(List Int)×Int} (hF:jS l_1=some r) :
  FnM Tryz.prog 7 [(vL Log_.enc l_1)] [] (.tup [(vL eI r.1),(vI r.2)]) []:=by
 refine FnM.of_wH ⟨Tryz.prog,69,[],[]⟩ rfl Tryz.func7 rfl rfl (lb_ rfl) (by kernel_rfl) ?_
 unfold jS at hF
 refine ai (aa .nil (aa (vI 0) (ah (ak (ai (aa (vL Log_.enc l_1) ?_))))))
 obtain ⟨r_2,hr_3,hF⟩:=bind_some hF
 refine aB (fZ hr_3) rfl Lv rfl rfl rfl rfl wz (aa (vI r_2) (ah (ai (aa (vI r_2) (aa (vB (r_2 != 0)) (ah ?_))))))
 rcases aj hF with⟨hc_4,hF⟩|⟨hc_4,hF⟩
 ·refine aA rfl hc_4 (ai (aa (vI r_2) (aa .nil (aa (vI r_2) (ah ?_)))))
  obtain rfl:=ae hF
  exact ay (aK [.nil,(vI r_2)] ⟨rfl,⟨rfl,trivial⟩⟩)
 ·refine ax rfl hc_4 (av (ai (aa .nil (ah (ak (ai (aa (vL Log_.enc l_1) (bG lX rfl wz (aa (vI 0) (ah (oJ (λn_11 => ?_))))))))))))
  obtain ⟨o_16,hj_17,hF⟩:=bind_some hF
  obtain ⟨hn_9,hj_17⟩:=bg hj_17
  refine jc (σ:=(List Int)) (N:=Nm) (λp=>(λ(s_10:List Int) (n_13:Nm)=>([(5,(gV n_13 1 s_10))]:SL_)) p.1 p.2) (λp=>(λ(s_10:List Int) (n_13:Nm)=>([(n_13,gB 1 eI s_10)]:Hp)) p.1 p.2) (λ(k_5:Nat)=>(λp=>(λ(s_10:List Int) (n_13:Nm)=>([(0,(vL Log_.enc l_1)),(5,(gV n_13 1 s_10)),(14,(vL Log_.enc l_1)),(15,(vI (l_1.length:Int))),(16,(vI (k_5:Int)))]:SL_)) p.1 p.2)) (λk x s=>iU l_1 k x s) o_16 l_1 (([]:List Int),n_11) hj_17 rfl (aI rfl) ?_ ?_
  ·rintro ⟨k_5,l_6,s_10,n_13⟩ ⟨hL_15,hD_8⟩
   dsimp only at hL_15 hD_8
   cases l_6 with
   | nil =>
    obtain rfl:=ae hL_15
    refine ai (aa (vB (decide ((k_5:Int)<(l_1.length:Int)))) (ah ?_))
    refine ak (ax rfl (drop_nil hD_8) (aV ?_))
    exact aU (s_10,n_13) rfl rfl (aI rfl)
   | cons x_7 l_6 =>
    obtain ⟨c_,hc_14,hL_15⟩:=bind_some hL_15
    refine ai (aa (vB (decide ((k_5:Int)<(l_1.length:Int)))) (ah ?_))
    refine ak (aA rfl (bz hD_8) (av ?_))
    unfold iU at hc_14
    refine ak (aN (ai (aa (vI (k_5:Int)) (dB kG rfl rfl (bK hD_8) rfl wz (bA fT ni rfl (.d (.agg (Log_.enc x_7))) rfl wz (dK 0 (.inl rfl) z30 rfl wz (λn_18=>aa (vI (k_5:Int)) (gP 0 il ft 1 fT rfl rfl (Log_.v x_7) rfl wz (ah (ai (aa (vS (⟨#[]⟩:ByteArray)) (ah (ak (aN (ak ?_)))))))))))))))
    obtain ⟨v_19,h_20,hc_14⟩:=bind_some hc_14
    refine aM [(0,(vL Log_.enc l_1)),(5,(gV n_13 1 s_10)),(6,(vI (k_5:Int))),(7,(.ref n_18 0 0)),(8,(vS (⟨#[]⟩:ByteArray))),(14,(vL Log_.enc l_1)),(15,(vI (l_1.length:Int))),(16,(vI (k_5:Int))),(21,(vB v_19))] [(n_13,gB 1 eI s_10),(n_18,some (.cells 6 (Log_.v x_7)))] ?_ ?_
    ·refine aZ (aa (vI (k_5:Int)) (aa (vB (decide ((k_5:Int)>0))) ?_))
     rcases aj h_20 with⟨hc_21,h_20⟩|⟨hc_21,h_20⟩
     ·refine aC rfl hc_21 wz (aG (vL Log_.enc l_1) wa rfl (aG (vI (k_5:Int)) wa rfl (aG (vI (w64 ((k_5:Int)-1))) wa rfl ?_)))
      obtain ⟨y_22,hy_23,h_20⟩:=bind_some h_20
      refine dB kG rfl rfl hy_23 rfl wa (lK rD rfl [.str y_22.Player,.str y_22.Item,.int .i64 y_22.No,.int .i64 y_22.Clock,.int .i64 y_22.Long,.str y_22.Sum] rfl rfl wa (bA sz9 ag9 rfl (vS y_22.Player) rfl wa (aJ rD rfl 0 rfl wa (aH 10 1 (.inr (by kernel_rfl)) (λ_ _ ag=>trivial) sz9 ag9 rfl rfl (vS x_7.Player) rfl wa (aG (vB (sEq y_22.Player x_7.Player)) wa rfl (aa (vB (sEq y_22.Player x_7.Player)) ?_))))))
      rcases aj h_20 with⟨hc_24,h_20⟩|⟨hc_24,h_20⟩
      ·refine aC rfl hc_24 wz (aG (vL Log_.enc l_1) wa rfl (aG (vI (k_5:Int)) wa rfl (aG (vI (w64 ((k_5:Int)-1))) wa rfl ?_)))
       obtain ⟨y_25,hy_26,h_20⟩:=bind_some h_20
       refine dB kG rfl rfl hy_26 rfl wa (lK qy rfl [.int .i64 y_25.No,.int .i64 y_25.Clock,.int .i64 y_25.Long,.str y_25.Sum] rfl rfl wa (bA sz3 ag3 rfl (vI y_25.No) rfl wa (aJ qy rfl 2 rfl wa (aH 21 1 (.inr (by kernel_rfl)) (λ_ _ ag=>⟨.inl ⟨rfl,rfl⟩,trivial⟩) sz3 ag3 rfl rfl (vI x_7.No) rfl wa (aG (vI (w64 (x_7.No-1))) wa rfl (aG (vB (y_25.No==(w64 (x_7.No-1)))) wa rfl (aa (vB (y_25.No==(w64 (x_7.No-1)))) (aa (vB (y_25.No==(w64 (x_7.No-1)))) (ah ?_)))))))))
       obtain rfl:=ae h_20
       exact cu
      ·refine aC rfl hc_24 wz (af (af (af (af (af (af (af (af (af (af (aa (vB false) (aa (vB false) (ah ?_)))))))))))))
       obtain rfl:=ae h_20
       exact cu
     ·refine aC rfl hc_21 wz (af (af (af (af (af (af (af (af (af (aa (vB false) (aa (vB false) (af (af (af (af (af (af (af (af (af (af (aa (vB false) (aa (vB false) ?_)))))))))))))))))))))))
      refine ah ?_
      obtain rfl:=ae h_20
      exact cu
    ·rintro ⟨⟩ _ sl_ H_ hp_ hq_
     refine aO _ hp_ hq_ ?_
     rcases aj hc_14 with⟨hc_27,hc_14⟩|⟨hc_27,hc_14⟩
     ·refine aA rfl hc_27 (au (aa (vL Log_.enc l_1) (aa (vI (k_5:Int)) (aa (vI (w64 ((k_5:Int)-1))) ?_))))
      obtain ⟨y_28,hy_29,hc_14⟩:=bind_some hc_14
      refine dB kG rfl rfl hy_29 rfl wz (lK Av rfl [.str y_28.Sum] rfl rfl wz (bA sz9 ag9 rfl (vS y_28.Sum) rfl wz (aa (vS y_28.Sum) (ah (ak (aZ (aa (vS y_28.Sum) (aH 1 1 (.inr (by kernel_rfl)) (λ_ _ ag=>trivial) fT ni rfl rfl (.d (.agg (Log_.enc x_7))) rfl wz ?_))))))))
      obtain ⟨r_30,hr_31,hc_14⟩:=bind_some hc_14
      refine aB (uO hr_31) rfl hb21 rfl rfl rfl rfl wz (aJ Av rfl 5 rfl wz (aH 4 1 (.inr (by kernel_rfl)) (λ_ _ ag=>⟨.inl ⟨rfl,rfl⟩,trivial⟩) sz9 ag9 rfl rfl (vS x_7.Sum) rfl wz (aa (vB (sNe r_30 x_7.Sum)) (ah ?_))))
      obtain ⟨v_32,h_33,hc_14⟩:=bind_some hc_14
      refine kv (β:=Nm) (λ(n_34:Nm)=>([(0,(vL Log_.enc l_1)),(5,(gV n_34 1 v_32)),(14,(vL Log_.enc l_1)),(15,(vI (l_1.length:Int))),(16,(vI (k_5:Int)))]:SL_)) (λ(n_34:Nm)=>([(n_34,gB 1 eI v_32),(n_18,some (.cells 6 (Log_.v x_7)))]:Hp)) (λ_=>True) ?_ ?_
      ·rcases aj h_33 with⟨hc_35,h_33⟩|⟨hc_35,h_33⟩
       ·refine aA rfl hc_35 (au (aa (gV n_13 1 s_10) (aa (vI (k_5:Int)) (iK (([(k_5:Int)]:List Int).map eI) qV J2 rfl rfl rfl rfl rfl wz ?_))))
        obtain ⟨a_36,hz_37,h_33⟩:=bind_some h_33
        refine mQ 0 il ft (i:=0) IZ IZ sz3 z3 rfl (by decide) by3 (by decide) (λ_=>rfl) rfl rfl rfl hz_37 wz (λn_38=>aa (gV n_38 1 a_36) (ah ?_))
        obtain rfl:=ae h_33
        exact aU n_38 trivial rfl (aI rfl)
       ·refine ax rfl hc_35 (av ?_)
        obtain rfl:=ae h_33
        exact aU n_13 trivial rfl (aI rfl)
      ·rintro n_34 _ sl_ H_ hp_ hq_
       refine aO _ hp_ hq_ (au (fq (bH hD_8 hn_9) wz rfl (aa (vI ((k_5+1:Nat):Int)) (ah ?_))))
       obtain rfl:=ae hc_14
       exact aS (k_5+1,l_6,v_32,n_34) ⟨hL_15,aR hD_8⟩ (ls_ _) rfl (aI rfl)
     ·refine ax rfl hc_27 (ai (aJ qy rfl 2 rfl wz (aH 0 1 il ft sz3 ag3 rfl rfl (vI x_7.No) rfl wz (aa (vB (x_7.No != 1)) (aa (vB (x_7.No != 1)) (ah ?_))))))
      rcases aj hc_14 with⟨hc_39,hc_14⟩|⟨hc_39,hc_14⟩
      ·refine aA rfl hc_39 (aV (au (fq (bH hD_8 hn_9) wz rfl (aa (vI ((k_5+1:Nat):Int)) (ah ?_)))))
       obtain rfl:=ae hc_14
       exact aS (k_5+1,l_6,s_10,n_13) ⟨hL_15,aR hD_8⟩ (ls_ _) rfl (aI rfl)
      ·refine ax rfl hc_39 (av (ak (aZ (aa (vS (⟨#[]⟩:ByteArray)) (aH 1 1 (.inr (by kernel_rfl)) (λ_ _ ag=>trivial) fT ni rfl rfl (.d (.agg (Log_.enc x_7))) rfl wz ?_)))))
       obtain ⟨r_40,hr_41,hc_14⟩:=bind_some hc_14
       refine aB (uO hr_41) rfl hb21 rfl rfl rfl rfl wz (aJ Av rfl 5 rfl wz (aH 4 1 (.inr (by kernel_rfl)) (λ_ _ ag=>⟨.inl ⟨rfl,rfl⟩,trivial⟩) sz9 ag9 rfl rfl (vS x_7.Sum) rfl wz (aa (vB (sNe r_40 x_7.Sum)) (ah ?_))))
       obtain ⟨v_42,h_43,hc_14⟩:=bind_some hc_14
       refine kv (β:=Nm) (λ(n_44:Nm)=>([(0,(vL Log_.enc l_1)),(5,(gV n_44 1 v_42)),(14,(vL Log_.enc l_1)),(15,(vI (l_1.length:Int))),(16,(vI (k_5:Int)))]:SL_)) (λ(n_44:Nm)=>([(n_44,gB 1 eI v_42),(n_18,some (.cells 6 (Log_.v x_7)))]:Hp)) (λ_=>True) ?_ ?_
       ·rcases aj h_43 with⟨hc_45,h_43⟩|⟨hc_45,h_43⟩
        ·refine aA rfl hc_45 (au (aa (gV n_13 1 s_10) (aa (vI (k_5:Int)) (iK (([(k_5:Int)]:List Int).map eI) qV J2 rfl rfl rfl rfl rfl wz ?_))))
         obtain ⟨a_46,hz_47,h_43⟩:=bind_some h_43
         refine mQ 0 il ft (i:=0) IZ IZ sz3 z3 rfl (by decide) by3 (by decide) (λ_=>rfl) rfl rfl rfl hz_47 wz (λn_48=>aa (gV n_48 1 a_46) (ah ?_))
         obtain rfl:=ae h_43
         exact aU n_48 trivial rfl (aI rfl)
        ·refine ax rfl hc_45 (av ?_)
         obtain rfl:=ae h_43
         exact aU n_13 trivial rfl (aI rfl)
       ·rintro n_44 _ sl_ H_ hp_ hq_
        refine aO _ hp_ hq_ (au (fq (bH hD_8 hn_9) wz rfl (aa (vI ((k_5+1:Nat):Int)) (ah ?_))))
        obtain rfl:=ae hc_14
        exact aS (k_5+1,l_6,v_42,n_44) ⟨hL_15,aR hD_8⟩ (ls_ _) rfl (aI rfl)
  ·rintro ⟨s_10,n_13⟩ ho_ sl_ H_ hp_ hq_
   subst ho_
   refine aO _ hp_ hq_ (ai (aa (gV n_13 1 s_10) (aa (gV n_13 1 s_10) (aa (vI 0) (ah (gG 0 rfl (eT 2 0 rfl rfl (eT 5 0 rfl rfl (eT 68 0 rfl rfl ?_)))))))))
   obtain rfl:=ae hF
   exact ay (aK [(vL eI s_10),(vI 0)] ⟨rfl,⟨rfl,trivial⟩⟩)
end Go.Proofs.YtnkgapmhkhcanabGreatDoor.Law

