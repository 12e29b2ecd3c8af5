/-
 The machine computes these plain functions (written by a program of ours).
-/
import Derived.Test.YthcdokkcamcnmaaGreatDoorFacts
import Derived.Test.YthcdokkcamcnmaaGreatDoorDefs
import Derived.Test.YthcdokkcamcnmaaGreatDoorPf1
open Go Go.Eng Go.Proofs
namespace Go.Proofs.YthcdokkcamcnmaaGreatDoor.Law
set_option maxRecDepth 100000
set_option linter.unusedVariables false
set_option maxHeartbeats 1000000
theorem zA {s_1:Stream} {r:Window×Stream} (hF:lS s_1=some r) :
  FnM Tryz.prog 6 [(.ref (av 0) 0 0)] [(.cells 2 [(vL eI s_1.L),(vI s_1.f_at)])] (.d (.agg (Window.enc r.1))) [some (.cells 2 [(vL eI r.2.L),(vI r.2.f_at)])]:=by
 refine FnM.of_wH ⟨Tryz.prog,31,[],[]⟩ rfl Tryz.func6 rfl rfl (lb_ rfl) (by kernel_rfl) ?_
 unfold lS at hF
 refine aj (bR 0 (.inl rfl) z33 rfl wz (λn_2=>af (aj (aa (.ref (av 0) 0 0) (dU (([0,0,1,36000000,86400000]:List Int).map eI) iW qA rfl rfl rfl rfl rfl wz ?_)))))
 obtain ⟨r_3,hr_4,hF⟩:=bind_some hF
 refine bA 0 [0] il ft (dw hr_4) rfl BV rfl (by kernel_rfl) (by kernel_rfl) (by kernel_rfl) (by kernel_rfl) (by kernel_rfl) (by kernel_rfl) (by kernel_rfl) (by decide) (by kernel_rfl) wz (vI r_3.1) (by kernel_rfl) ([((av 0),some (.cells 2 [(vL eI r_3.2.L),(vI r_3.2.f_at)])),(n_2,some (.cells 2 [(vI 0),(vI 0)]))]:Hp) (by kernel_rfl) (aa (.ref (av 0) 0 0) (dU (([1,42000000,86400000,259200000,777600000]:List Int).map eI) iW qA rfl rfl rfl rfl rfl wz ?_))
 obtain ⟨r_6,hr_7,hF⟩:=bind_some hF
 refine bA 0 [0] il ft (dw hr_7) rfl BV rfl (by kernel_rfl) (by kernel_rfl) (by kernel_rfl) (by kernel_rfl) (by kernel_rfl) (by kernel_rfl) (by kernel_rfl) (by decide) (by kernel_rfl) wz (vI r_6.1) (by kernel_rfl) ([((av 0),some (.cells 2 [(vL eI r_6.2.L),(vI r_6.2.f_at)])),(n_2,some (.cells 2 [(vI 0),(vI 0)]))]:Hp) (by kernel_rfl) (aK (.d (.agg (Window.enc (⟨r_3.1,r_6.1⟩:Window)))) wz (by kernel_rfl) (bR 0 (.inl rfl) z33 rfl wz (λn_9=>eH 0 il ft 2 eX rfl rfl [(vI r_3.1),(vI r_6.1)] rfl wz (af (au (au ?_))))))
 obtain ⟨v_10,h_11,hF⟩:=bind_some hF
 refine aQ [(0,(.ref (av 0) 0 0)),(2,(.ref n_2 0 0)),(3,(.ref n_9 0 0)),(20,(vB v_10.1))] [((av 0),some (.cells 2 [(vL eI v_10.2.1),(vI v_10.2.2)])),(n_2,some (.cells 2 [(vI 0),(vI 0)])),(n_9,some (.cells 2 [(vI r_3.1),(vI r_6.1)]))] ?_ ?_
 ·refine ax (aI gm rfl 0 rfl wz (aA 0 2 il ft sz3 ag3 rfl rfl (vI r_3.1) rfl wz (aI gN rfl 1 rfl wz (aA 0 2 il ft sz3 ag3 rfl rfl (vI r_6.1) rfl wz (aa (vB (decide (r_3.1>r_6.1))) ?_)))))
  rcases ak h_11 with⟨hc_12,h_11⟩|⟨hc_12,h_11⟩
  ·refine aH rfl hc_12 wz (aK (.ref (av 0) 0 0) wa rfl ?_)
   obtain ⟨r_13,hr_14,h_11⟩:=bind_some h_11
   refine bA 0 [0] il ft (fC hr_14) rfl GU rfl (by kernel_rfl) (by kernel_rfl) (by kernel_rfl) (by kernel_rfl) (by kernel_rfl) (by kernel_rfl) (by kernel_rfl) (by decide) (by kernel_rfl) wa (vB r_13.1) (by kernel_rfl) ([((av 0),some (.cells 2 [(vL eI r_13.2.L),(vI r_13.2.f_at)])),(n_2,some (.cells 2 [(vI 0),(vI 0)])),(n_9,some (.cells 2 [(vI r_3.1),(vI r_6.1)]))]:Hp) (by kernel_rfl) (aK (vB (!r_13.1)) wa rfl (aa (vB (!r_13.1)) (af ?_)))
   obtain rfl:=ae h_11
   exact cu
  ·refine aH rfl hc_12 wz (ah (ah (ah (aa (vB false) (af ?_)))))
   obtain rfl:=ae h_11
   exact cu
 ·rintro ⟨⟩ _ sl_ H_ hp_ hq_
  refine aO _ hp_ hq_ ?_
  obtain ⟨v_16,h_17,hF⟩:=bind_some hF
  refine aQ [(0,(.ref (av 0) 0 0)),(2,(.ref n_2 0 0)),(3,(.ref n_9 0 0))] [((av 0),some (.cells 2 [(vL eI v_10.2.1),(vI v_10.2.2)])),(n_2,some (.cells 2 [(vI 0),(vI 0)])),(n_9,some (.cells 2 [(vI v_16),(vI r_6.1)]))] ?_ ?_
  ·rcases ak h_17 with⟨hc_18,h_17⟩|⟨hc_18,h_17⟩
   ·refine aD rfl hc_18 (ax (aI gm rfl 0 rfl wz (eH 0 il ft 2 sz3 rfl rfl [(vI 0),(vI r_6.1)] rfl wz (af ?_))))
    obtain rfl:=ae h_17
    exact cu
   ·refine aB rfl hc_18 (ay ?_)
    obtain rfl:=ae h_17
    exact cu
  ·rintro ⟨⟩ _ sl_ H_ hp_ hq_
   refine aO _ hp_ hq_ (au (aj (aa (.ref (av 0) 0 0) ?_)))
   obtain ⟨r_19,hr_20,hF⟩:=bind_some hF
   refine bA 0 [0] il ft (fC hr_20) rfl GU rfl (by kernel_rfl) (by kernel_rfl) (by kernel_rfl) (by kernel_rfl) (by kernel_rfl) (by kernel_rfl) (by kernel_rfl) (by decide) (by kernel_rfl) wz (vB r_19.1) (by kernel_rfl) ([((av 0),some (.cells 2 [(vL eI r_19.2.L),(vI r_19.2.f_at)])),(n_2,some (.cells 2 [(vI 0),(vI 0)])),(n_9,some (.cells 2 [(vI v_16),(vI r_6.1)]))]:Hp) (by kernel_rfl) (af ?_)
   obtain ⟨v_22,h_23,hF⟩:=bind_some hF
   refine aQ [(2,(.ref n_2 0 0)),(3,(.ref n_9 0 0))] [((av 0),some (.cells 2 [(vL eI v_22.1),(vI v_22.2.1)])),(n_2,some (.cells 2 [(vI 0),(vI 0)])),(n_9,some (.cells 2 [(vI v_22.2.2.1),(vI v_22.2.2.2)]))] ?_ ?_
   ·rcases ak h_23 with⟨hc_24,h_23⟩|⟨hc_24,h_23⟩
    ·refine aD rfl hc_24 (ax (aa (.ref (av 0) 0 0) ?_))
     obtain ⟨r_25,hr_26,h_23⟩:=bind_some h_23
     refine bA 0 [0] il ft (fu hr_26) rfl Eo rfl (by kernel_rfl) (by kernel_rfl) (by kernel_rfl) (by kernel_rfl) (by kernel_rfl) (by kernel_rfl) (by kernel_rfl) (by decide) (by kernel_rfl) wz (vI r_25.1) (by kernel_rfl) ([((av 0),some (.cells 2 [(vL eI r_25.2.L),(vI r_25.2.f_at)])),(n_2,some (.cells 2 [(vI 0),(vI 0)])),(n_9,some (.cells 2 [(vI v_16),(vI r_6.1)]))]:Hp) (by kernel_rfl) (aa (.ref (av 0) 0 0) (dU (([345686400000,345686400001,34646400000,34560000000,(-1)]:List Int).map eI) iW qA rfl rfl rfl rfl rfl wz ?_))
     obtain ⟨r_28,hr_29,h_23⟩:=bind_some h_23
     refine bA 0 [0] il ft (dw hr_29) rfl BV rfl (by kernel_rfl) (by kernel_rfl) (by kernel_rfl) (by kernel_rfl) (by kernel_rfl) (by kernel_rfl) (by kernel_rfl) (by decide) (by kernel_rfl) wz (vI r_28.1) (by kernel_rfl) ([((av 0),some (.cells 2 [(vL eI r_28.2.L),(vI r_28.2.f_at)])),(n_2,some (.cells 2 [(vI 0),(vI 0)])),(n_9,some (.cells 2 [(vI v_16),(vI r_6.1)]))]:Hp) (by kernel_rfl) (aK (.d (.agg (Window.enc (⟨r_25.1,r_28.1⟩:Window)))) wz (by kernel_rfl) (eH 0 il ft 2 eX rfl rfl [(vI r_25.1),(vI r_28.1)] rfl wz (af ?_)))
     obtain rfl:=ae h_23
     exact cu
    ·refine aB rfl hc_24 (ay ?_)
     obtain rfl:=ae h_23
     exact cu
   ·rintro ⟨⟩ _ sl_ H_ hp_ hq_
    refine aO _ hp_ hq_ (aj (aA 0 2 il ft eX iT rfl rfl (.d (.agg (Window.enc (⟨v_22.2.2.1,v_22.2.2.2⟩:Window)))) rfl wz (eH 0 il ft 1 eX rfl rfl [(vI v_22.2.2.1),(vI v_22.2.2.2)] rfl wz (af ?_))))
    obtain rfl:=ae hF
    exact aC (qB (.inr rfl) [(.d (.agg (Window.enc (⟨v_22.2.2.1,v_22.2.2.2⟩:Window))))] _ [0] [av 0] ⟨⟨1,_,_,_,_,_,_,_,rfl,rfl,eX,iT,rfl⟩,trivial⟩ (.cons (iq rfl rfl) (.nil)) (by kernel_rfl) ⟨(by kernel_rfl),trivial⟩ (by decide) (by kernel_rfl))
theorem oP {s_1:ByteArray} {r:Bool} (hF:mr s_1=some r) :
  FnM Tryz.prog 90 [(vS s_1)] [] (vB r) []:=by
 refine FnM.of_wH ⟨Tryz.prog,48,[],[]⟩ rfl Tryz.func90 rfl rfl (lb_ rfl) (by kernel_rfl) ?_
 unfold mr at hF
 refine aj (aa (vB false) (af (au (aj (aa (vI 0) (af ?_))))))
 obtain ⟨o_10,hj_11,hF⟩:=bind_some hF
 obtain ⟨nq_33,hj_11⟩:=dZ hj_11
 refine jh (λ(s_7:Int)=>[(0,(vS s_1))]) (λ(s_7:Int)=>[]) (λ(k_2:Nat)=>(λ(s_7:Int)=>[(0,(vS s_1)),(3,(vI s_7))])) (λs=>kP s_1 s) o_10 nq_33 0 hj_11 rfl (aJ rfl) ?_ ?_
 ·rintro ⟨k_2,s_7⟩ hL_9
  dsimp only at hL_9
  cases k_2 with
  | zero=>cases hL_9
  | succ k_2 =>
   obtain ⟨c_,hc_8,hL_9⟩:=bind_some hL_9
   unfold kP at hc_8
   refine au (aj (aa (vI s_7) (aa (vS s_1) (F8 un9 rfl wz (aa (vB (decide (s_7<(s_1.size:Int)))) (af ?_))))))
   rcases ak hc_8 with⟨hc_12,hc_8⟩|⟨hc_12,hc_8⟩
   ·refine aD rfl hc_12 (ay (au (aN (aj (aa (vS s_1) (aa (vI s_7) ?_))))))
    obtain ⟨b_13,hy_14,hc_8⟩:=bind_some hc_8
    refine JR un9 rfl rfl hy_14 wz (aa (.d (.int .u8 (b_13.toNat:Int))) (af (au ?_)))
    obtain ⟨v_15,h_16,hc_8⟩:=bind_some hc_8
    refine aQ [(0,(vS s_1)),(3,(vI s_7)),(40,(vB v_15))] [] ?_ ?_
    ·refine ax (aa (.d (.int .u8 (b_13.toNat:Int))) (aa (vB (decide ((b_13.toNat:Int)>=97))) ?_))
     rcases ak h_16 with⟨hc_17,h_16⟩|⟨hc_17,h_16⟩
     ·refine aH rfl hc_17 wz (aK (.d (.int .u8 (b_13.toNat:Int))) wa rfl (aK (vB (decide ((b_13.toNat:Int)<=122))) wa rfl (aa (vB (decide ((b_13.toNat:Int)<=122))) ?_)))
      rcases ak h_16 with⟨hc_18,h_16⟩|⟨hc_18,h_16⟩
      ·refine aH rfl hc_18 wz (ah (ah (ah (cO (wn rfl rfl) (cO (wn rfl rfl) (cO (wn rfl rfl) (cO (wn rfl rfl) (cO (wn rfl rfl) (cO (wn rfl rfl) (cO (wn rfl rfl) (cO (wn rfl rfl) (cO (wn rfl rfl) (cO (wn rfl rfl) (cO (wn rfl rfl) (cO (wn rfl rfl) (cO (wn rfl rfl) (cO (wn rfl rfl) (ah (aa (vB true) (aa (vB false) (af ?_)))))))))))))))))))))
       obtain rfl:=ae h_16
       exact cu
      ·refine aH rfl hc_18 wz (aK (vI s_7) wa rfl (aK (vB (decide (s_7>0))) wa rfl ?_))
       rcases ak h_16 with⟨hc_19,h_16⟩|⟨hc_19,h_16⟩
       ·refine aH rfl hc_19 wa (aK (.d (.int .u8 (b_13.toNat:Int))) wa rfl (aK (vB (decide ((b_13.toNat:Int)>=48))) wa rfl ?_))
        rcases ak h_16 with⟨hc_20,h_16⟩|⟨hc_20,h_16⟩
        ·refine aH rfl hc_20 wa (aK (.d (.int .u8 (b_13.toNat:Int))) wa rfl (aK (vB (decide ((b_13.toNat:Int)<=57))) wa rfl (aK (vB (decide ((b_13.toNat:Int)<=57))) wa rfl ?_)))
         rcases ak h_16 with⟨hc_21,h_16⟩|⟨hc_21,h_16⟩
         ·refine aH rfl hc_21 wa (ah (ah (aK (vB true) wa rfl (aK (vB true) wa rfl (ah (ah (aK (vB true) wa rfl (aK (vB true) wa rfl (aa (vB true) (aa (vB false) (af ?_)))))))))))
          obtain rfl:=ae h_16
          exact cu
         ·refine aH rfl hc_21 wa (aK (.d (.int .u8 (b_13.toNat:Int))) wa rfl (aK (vB ((b_13.toNat:Int)==45)) wa rfl (aK (vB ((b_13.toNat:Int)==45)) wa rfl ?_)))
          rcases ak h_16 with⟨hc_22,h_16⟩|⟨hc_22,h_16⟩
          ·refine aH rfl hc_22 wa (ah (ah (aK (vB true) wa rfl (aK (vB true) wa rfl (aa (vB true) (aa (vB false) (af ?_)))))))
           obtain rfl:=ae h_16
           exact cu
          ·refine aH rfl hc_22 wa (aK (.d (.int .u8 (b_13.toNat:Int))) wa rfl (aK (vB ((b_13.toNat:Int)==95)) wa rfl (aK (vB ((b_13.toNat:Int)==95)) wa rfl (aK (vB ((b_13.toNat:Int)==95)) wa rfl (aa (vB ((b_13.toNat:Int)==95)) (aa (vB (!((b_13.toNat:Int)==95))) (af ?_)))))))
           obtain rfl:=ae h_16
           exact cu
        ·refine aH rfl hc_20 wa (ah (ah (aK (vB false) wa rfl (aK (vB false) wa rfl (aK (.d (.int .u8 (b_13.toNat:Int))) wa rfl (aK (vB ((b_13.toNat:Int)==45)) wa rfl (aK (vB ((b_13.toNat:Int)==45)) wa rfl ?_)))))))
         rcases ak h_16 with⟨hc_23,h_16⟩|⟨hc_23,h_16⟩
         ·refine aH rfl hc_23 wa (ah (ah (aK (vB true) wa rfl (aK (vB true) wa rfl (aa (vB true) (aa (vB false) (af ?_)))))))
          obtain rfl:=ae h_16
          exact cu
         ·refine aH rfl hc_23 wa (aK (.d (.int .u8 (b_13.toNat:Int))) wa rfl (aK (vB ((b_13.toNat:Int)==95)) wa rfl (aK (vB ((b_13.toNat:Int)==95)) wa rfl (aK (vB ((b_13.toNat:Int)==95)) wa rfl (aa (vB ((b_13.toNat:Int)==95)) (aa (vB (!((b_13.toNat:Int)==95))) (af ?_)))))))
          obtain rfl:=ae h_16
          exact cu
       ·refine aH rfl hc_19 wa (ah (ah (ah (cO (wn rfl rfl) (cO (wn rfl rfl) (ah (ah (cO (wn rfl rfl) (cO (wn rfl rfl) (ah (ah (cO (wn rfl rfl) (cO (wn rfl rfl) (ah (aK (vB false) wa rfl (aa (vB false) (aa (vB true) (af ?_))))))))))))))))))
        obtain rfl:=ae h_16
        exact cu
     ·refine aH rfl hc_17 wz (ah (ah (aa (vB false) (aa (vB false) (aK (vI s_7) wa rfl (aK (vB (decide (s_7>0))) wa rfl ?_))))))
      rcases ak h_16 with⟨hc_24,h_16⟩|⟨hc_24,h_16⟩
      ·refine aH rfl hc_24 wa (aK (.d (.int .u8 (b_13.toNat:Int))) wa rfl (aK (vB (decide ((b_13.toNat:Int)>=48))) wa rfl ?_))
       rcases ak h_16 with⟨hc_25,h_16⟩|⟨hc_25,h_16⟩
       ·refine aH rfl hc_25 wa (aK (.d (.int .u8 (b_13.toNat:Int))) wa rfl (aK (vB (decide ((b_13.toNat:Int)<=57))) wa rfl (aK (vB (decide ((b_13.toNat:Int)<=57))) wa rfl ?_)))
        rcases ak h_16 with⟨hc_26,h_16⟩|⟨hc_26,h_16⟩
        ·refine aH rfl hc_26 wa (ah (ah (aK (vB true) wa rfl (aK (vB true) wa rfl (ah (ah (aK (vB true) wa rfl (aK (vB true) wa rfl (aa (vB true) (aa (vB false) (af ?_)))))))))))
         obtain rfl:=ae h_16
         exact cu
        ·refine aH rfl hc_26 wa (aK (.d (.int .u8 (b_13.toNat:Int))) wa rfl (aK (vB ((b_13.toNat:Int)==45)) wa rfl (aK (vB ((b_13.toNat:Int)==45)) wa rfl ?_)))
         rcases ak h_16 with⟨hc_27,h_16⟩|⟨hc_27,h_16⟩
         ·refine aH rfl hc_27 wa (ah (ah (aK (vB true) wa rfl (aK (vB true) wa rfl (aa (vB true) (aa (vB false) (af ?_)))))))
          obtain rfl:=ae h_16
          exact cu
         ·refine aH rfl hc_27 wa (aK (.d (.int .u8 (b_13.toNat:Int))) wa rfl (aK (vB ((b_13.toNat:Int)==95)) wa rfl (aK (vB ((b_13.toNat:Int)==95)) wa rfl (aK (vB ((b_13.toNat:Int)==95)) wa rfl (aa (vB ((b_13.toNat:Int)==95)) (aa (vB (!((b_13.toNat:Int)==95))) (af ?_)))))))
          obtain rfl:=ae h_16
          exact cu
       ·refine aH rfl hc_25 wa (ah (ah (aK (vB false) wa rfl (aK (vB false) wa rfl (aK (.d (.int .u8 (b_13.toNat:Int))) wa rfl (aK (vB ((b_13.toNat:Int)==45)) wa rfl (aK (vB ((b_13.toNat:Int)==45)) wa rfl ?_)))))))
        rcases ak h_16 with⟨hc_28,h_16⟩|⟨hc_28,h_16⟩
        ·refine aH rfl hc_28 wa (ah (ah (aK (vB true) wa rfl (aK (vB true) wa rfl (aa (vB true) (aa (vB false) (af ?_)))))))
         obtain rfl:=ae h_16
         exact cu
        ·refine aH rfl hc_28 wa (aK (.d (.int .u8 (b_13.toNat:Int))) wa rfl (aK (vB ((b_13.toNat:Int)==95)) wa rfl (aK (vB ((b_13.toNat:Int)==95)) wa rfl (aK (vB ((b_13.toNat:Int)==95)) wa rfl (aa (vB ((b_13.toNat:Int)==95)) (aa (vB (!((b_13.toNat:Int)==95))) (af ?_)))))))
         obtain rfl:=ae h_16
         exact cu
      ·refine aH rfl hc_24 wa (ah (ah (ah (cO (wn rfl rfl) (cO (wn rfl rfl) (ah (ah (cO (wn rfl rfl) (cO (wn rfl rfl) (ah (ah (cO (wn rfl rfl) (cO (wn rfl rfl) (ah (aK (vB false) wa rfl (aa (vB false) (aa (vB true) (af ?_))))))))))))))))))
       obtain rfl:=ae h_16
       exact cu
    ·rintro ⟨⟩ _ sl_ H_ hp_ hq_
     refine aO _ hp_ hq_ ?_
     rcases ak hc_8 with⟨hc_29,hc_8⟩|⟨hc_29,hc_8⟩
     ·refine aD rfl hc_29 (aj (aa (vB false) (af ?_)))
      obtain rfl:=ae hc_8
      obtain rfl:=ae hL_9
      obtain rfl:=ae hF
      exact aC (aL [(vB false)] ⟨rfl,trivial⟩)
     ·refine aB rfl hc_29 (ay (ax (aa (vI s_7) (aa (vI (w64 (s_7+1))) (aa (vI (w64 (s_7+1))) (af ?_))))))
      obtain rfl:=ae hc_8
      exact aS (k_2,(w64 (s_7+1))) hL_9 (ls_ _) rfl (aJ rfl)
   ·refine aB rfl hc_12 (aU ?_)
    obtain rfl:=ae hc_8
    obtain rfl:=ae hL_9
    exact aV (s_7) rfl rfl (aJ rfl)
 ·rintro s_7 ho_ sl_ H_ hp_ hq_
  subst ho_
  refine aO _ hp_ hq_ (au ?_)
  obtain ⟨v_30,h_31,hF⟩:=bind_some hF
  refine aQ [(2,(vB v_30))] [] ?_ ?_
  ·refine ax (aa (vS s_1) (aa (vB (sNe s_1 (⟨#[]⟩:ByteArray))) ?_))
   rcases ak h_31 with⟨hc_32,h_31⟩|⟨hc_32,h_31⟩
   ·refine aH rfl hc_32 wz (aK (vS s_1) wa rfl (F8 un9 rfl wa (aK (vB (decide ((s_1.size:Int)<=40))) wa rfl (aa (vB (decide ((s_1.size:Int)<=40))) (aa (vB (decide ((s_1.size:Int)<=40))) (af ?_))))))
    obtain rfl:=ae h_31
    exact cu
   ·refine aH rfl hc_32 wz (ah (ah (ah (aa (vB false) (aa (vB false) (af ?_))))))
    obtain rfl:=ae h_31
    exact cu
  ·rintro ⟨⟩ _ sl_ H_ hp_ hq_
   refine aO _ hp_ hq_ ?_
   obtain rfl:=ae hF
   exact aC (aL [(vB v_30)] ⟨rfl,trivial⟩)
theorem fO {n_1:Int} {low_2:Int} {high_3:Int} {r:Bool} (hF:fQ n_1 low_2 high_3=some r) :
  FnM Tryz.prog 75 [(vI n_1),(vI low_2),(vI high_3)] [] (vB r) []:=by
 refine FnM.of_wH ⟨Tryz.prog,15,[],[]⟩ rfl Tryz.func75 rfl rfl (lb_ rfl) (by kernel_rfl) ?_
 unfold fQ at hF
 refine aj (aa (vB false) (af (au ?_)))
 obtain ⟨v_4,h_5,hF⟩:=bind_some hF
 refine aQ [(6,(vB v_4))] [] ?_ ?_
 ·refine ax (aa (vI n_1) (aa (vI low_2) (aa (vB (decide (n_1<low_2))) ?_)))
  rcases ak h_5 with⟨hc_6,h_5⟩|⟨hc_6,h_5⟩
  ·refine aH rfl hc_6 wz (ah (ah (ah (aa (vB true) (aa (vB true) (af ?_))))))
   obtain rfl:=ae h_5
   exact cu
  ·refine aH rfl hc_6 wz (aK (vI n_1) wa rfl (aK (vI high_3) wa rfl (aK (vB (decide (n_1>high_3))) wa rfl (aa (vB (decide (n_1>high_3))) (aa (vB (decide (n_1>high_3))) (af ?_))))))
   obtain rfl:=ae h_5
   exact cu
 ·rintro ⟨⟩ _ sl_ H_ hp_ hq_
  refine aO _ hp_ hq_ ?_
  obtain rfl:=ae hF
  exact aC (aL [(vB v_4)] ⟨rfl,trivial⟩)
theorem GV {n_1:Int} {r:Bool} (hF:tK n_1=some r) :
  FnM Tryz.prog 165 [(vI n_1)] [] (vB r) []:=by
 refine FnM.of_wH ⟨Tryz.prog,9,[],[]⟩ rfl Tryz.func165 rfl rfl (lb_ rfl) (by kernel_rfl) ?_
 unfold tK at hF
 refine aj (aa (vB false) (af (au ?_)))
 obtain ⟨v_2,h_3,hF⟩:=bind_some hF
 refine aQ [(2,(vB v_2))] [] ?_ ?_
 ·refine ax (aa (vI n_1) (aa (vB (decide (n_1>=0))) ?_))
  rcases ak h_3 with⟨hc_4,h_3⟩|⟨hc_4,h_3⟩
  ·refine aH rfl hc_4 wz (aK (vI n_1) wa rfl (aK (vB (decide (n_1<=4000))) wa rfl (aa (vB (decide (n_1<=4000))) (aa (vB (decide (n_1<=4000))) (af ?_)))))
   obtain rfl:=ae h_3
   exact cu
  ·refine aH rfl hc_4 wz (ah (ah (aa (vB false) (aa (vB false) (af ?_)))))
   obtain rfl:=ae h_3
   exact cu
 ·rintro ⟨⟩ _ sl_ H_ hp_ hq_
  refine aO _ hp_ hq_ ?_
  obtain rfl:=ae hF
  exact aC (aL [(vB v_2)] ⟨rfl,trivial⟩)
theorem tT {l_1:(List Int)} {r:Int} (hF:jb l_1=some r) :
  FnM Tryz.prog 122 [(vL eI l_1)] [] (vI r) []:=by
 refine FnM.of_wH ⟨Tryz.prog,30,[],[]⟩ rfl Tryz.func122 rfl rfl (lb_ rfl) (by kernel_rfl) ?_
 unfold jb at hF
 refine aj (aa (vI 0) (af (au (aj (aa (vL eI l_1) (bN qc rfl wz (aa (vB (decide ((l_1.length:Int)>100))) (af ?_))))))))
 rcases ak hF with⟨hc_2,hF⟩|⟨hc_2,hF⟩
 ·refine aD rfl hc_2 (aj (aa (vI 2) (af ?_)))
  obtain rfl:=ae hF
  exact aC (aL [(vI 2)] ⟨rfl,trivial⟩)
 ·refine aB rfl hc_2 (ay (au (aj (aa (vL eI l_1) (bN qc rfl wz (aa (vI 0) (af ?_)))))))
  obtain ⟨o_11,hj_12,hF⟩:=bind_some hF
  obtain ⟨hn_7,hj_12⟩:=bf hj_12
  refine cK (λ(s_8:Unit)=>[]) (λ(s_8:Unit)=>[]) (λ(k_3:Nat)=>(λ(s_8:Unit)=>[(0,(vL eI l_1)),(8,(vL eI l_1)),(9,(vI (l_1.length:Int))),(10,(vI (k_3:Int)))])) (λk x s=>ji l_1 k x s) o_11 l_1 () hj_12 rfl (aJ rfl) ?_ ?_
  ·rintro ⟨k_3,l_4,s_8⟩ ⟨hL_10,hD_6⟩
   dsimp only at hL_10 hD_6
   cases l_4 with
   | nil =>
    obtain rfl:=ae hL_10
    refine aj (aa (vB (decide ((k_3:Int)<(l_1.length:Int)))) (af ?_))
    refine au (aB rfl (drop_nil hD_6) (aU ?_))
    exact aV (s_8) rfl rfl (aJ rfl)
   | cons x_5 l_4 =>
    obtain ⟨c_,hc_9,hL_10⟩:=bind_some hL_10
    refine aj (aa (vB (decide ((k_3:Int)<(l_1.length:Int)))) (af ?_))
    refine au (aD rfl (bz hD_6) (ay ?_))
    unfold ji at hc_9
    refine au (aN (aj (aa (vI (k_3:Int)) (eU iW rfl rfl (bH hD_6) rfl wz (bI sz3 ag3 rfl (vI x_5) rfl wz (aa (vI (k_3:Int)) (aa (vI x_5) (af (au (aj (aa (vI x_5) ?_)))))))))))
    obtain ⟨r_13,hr_14,hc_9⟩:=bind_some hc_9
    refine aF (GV hr_14) rfl hb165 rfl rfl rfl rfl wz (aa (vB (!r_13)) (af ?_))
    rcases ak hc_9 with⟨hc_15,hc_9⟩|⟨hc_15,hc_9⟩
    ·refine aD rfl hc_15 (aj (aa (vI 1) (af ?_)))
     obtain rfl:=ae hc_9
     obtain rfl:=ae hL_10
     obtain rfl:=ae hF
     exact aC (aL [(vI 1)] ⟨rfl,trivial⟩)
    ·refine aB rfl hc_15 (ay (au ?_))
     obtain ⟨v_16,h_17,hc_9⟩:=bind_some hc_9
     refine aQ [(0,(vL eI l_1)),(8,(vL eI l_1)),(9,(vI (l_1.length:Int))),(10,(vI (k_3:Int))),(28,(vB v_16))] [] ?_ ?_
     ·refine ax (aa (vI (k_3:Int)) (aa (vB (decide ((k_3:Int)>0))) ?_))
      rcases ak h_17 with⟨hc_18,h_17⟩|⟨hc_18,h_17⟩
      ·refine aH rfl hc_18 wz (aK (vI x_5) wa rfl (aK (vL eI l_1) wa rfl (aK (vI (k_3:Int)) wa rfl (aK (vI (w64 ((k_3:Int)-1))) wa rfl ?_))))
       obtain ⟨y_19,hy_20,h_17⟩:=bind_some h_17
       refine eU iW rfl rfl hy_20 rfl wa (bI sz3 ag3 rfl (vI y_19) rfl wa (aK (vB (decide (x_5<=y_19))) wa rfl (aa (vB (decide (x_5<=y_19))) (af ?_))))
       obtain rfl:=ae h_17
       exact cu
      ·refine aH rfl hc_18 wz (ah (ah (ah (ah (ah (ah (ah (aa (vB false) (af ?_)))))))))
       obtain rfl:=ae h_17
       exact cu
     ·rintro ⟨⟩ _ sl_ H_ hp_ hq_
      refine aO _ hp_ hq_ ?_
      rcases ak hc_9 with⟨hc_21,hc_9⟩|⟨hc_21,hc_9⟩
      ·refine aD rfl hc_21 (aj (aa (vI 7) (af ?_)))
       obtain rfl:=ae hc_9
       obtain rfl:=ae hL_10
       obtain rfl:=ae hF
       exact aC (aL [(vI 7)] ⟨rfl,trivial⟩)
      ·refine aB rfl hc_21 (ay (ax (fJ (bE hD_6 hn_7) wz rfl (aa (vI ((k_3+1:Nat):Int)) (af ?_)))))
       obtain rfl:=ae hc_9
       exact aS (k_3+1,l_4,()) ⟨hL_10,aR hD_6⟩ (ls_ _) rfl (aJ rfl)
  ·rintro s_8 ho_ sl_ H_ hp_ hq_
   subst ho_
   refine aO _ hp_ hq_ (aj (aa (vI 0) (af ?_)))
   obtain rfl:=ae hF
   exact aC (aL [(vI 0)] ⟨rfl,trivial⟩)
theorem yQ {l_1:(List ByteArray)} {r:Int} (hF:nH l_1=some r) :
  FnM Tryz.prog 123 [(vL eS l_1)] [] (vI r) []:=by
 refine FnM.of_wH ⟨Tryz.prog,27,[],[]⟩ rfl Tryz.func123 rfl rfl (lb_ rfl) (by kernel_rfl) ?_
 unfold nH at hF
 refine aj (aa (vI 0) (af (au (aj (aa (vL eS l_1) (bN xI rfl wz (aa (vI 0) (af ?_))))))))
 obtain ⟨o_10,hj_11,hF⟩:=bind_some hF
 obtain ⟨hn_6,hj_11⟩:=bf hj_11
 refine cK (λ(s_7:Unit)=>[]) (λ(s_7:Unit)=>[]) (λ(k_2:Nat)=>(λ(s_7:Unit)=>[(0,(vL eS l_1)),(5,(vL eS l_1)),(6,(vI (l_1.length:Int))),(7,(vI (k_2:Int)))])) (λk x s=>kN l_1 k x s) o_10 l_1 () hj_11 rfl (aJ rfl) ?_ ?_
 ·rintro ⟨k_2,l_3,s_7⟩ ⟨hL_9,hD_5⟩
  dsimp only at hL_9 hD_5
  cases l_3 with
  | nil =>
   obtain rfl:=ae hL_9
   refine aj (aa (vB (decide ((k_2:Int)<(l_1.length:Int)))) (af ?_))
   refine au (aB rfl (drop_nil hD_5) (aU ?_))
   exact aV (s_7) rfl rfl (aJ rfl)
  | cons x_4 l_3 =>
   obtain ⟨c_,hc_8,hL_9⟩:=bind_some hL_9
   refine aj (aa (vB (decide ((k_2:Int)<(l_1.length:Int)))) (af ?_))
   refine au (aD rfl (bz hD_5) (ay ?_))
   unfold kN at hc_8
   refine au (aN (aj (aa (vI (k_2:Int)) (eU mQ rfl rfl (bH hD_5) rfl wz (bI sz9 ag9 rfl (vS x_4) rfl wz (aa (vI (k_2:Int)) (aa (vS x_4) (af (au (aj (aa (vS x_4) ?_)))))))))))
   obtain ⟨r_12,hr_13,hc_8⟩:=bind_some hc_8
   refine aF (oP hr_13) rfl M7 rfl rfl rfl rfl wz (aa (vB (!r_12)) (af ?_))
   rcases ak hc_8 with⟨hc_14,hc_8⟩|⟨hc_14,hc_8⟩
   ·refine aD rfl hc_14 (aj (aa (vI 5) (af ?_)))
    obtain rfl:=ae hc_8
    obtain rfl:=ae hL_9
    obtain rfl:=ae hF
    exact aC (aL [(vI 5)] ⟨rfl,trivial⟩)
   ·refine aB rfl hc_14 (ay (au ?_))
    obtain ⟨v_15,h_16,hc_8⟩:=bind_some hc_8
    refine aQ [(0,(vL eS l_1)),(5,(vL eS l_1)),(6,(vI (l_1.length:Int))),(7,(vI (k_2:Int))),(25,(vB v_15))] [] ?_ ?_
    ·refine ax (aa (vI (k_2:Int)) (aa (vB (decide ((k_2:Int)>0))) ?_))
     rcases ak h_16 with⟨hc_17,h_16⟩|⟨hc_17,h_16⟩
     ·refine aH rfl hc_17 wz (aK (vS x_4) wa rfl (aK (vL eS l_1) wa rfl (aK (vI (k_2:Int)) wa rfl (aK (vI (w64 ((k_2:Int)-1))) wa rfl ?_))))
      obtain ⟨y_18,hy_19,h_16⟩:=bind_some h_16
      refine eU mQ rfl rfl hy_19 rfl wa (bI sz9 ag9 rfl (vS y_18) rfl wa (aK (vB (sLe x_4 y_18)) wa rfl (aa (vB (sLe x_4 y_18)) (af ?_))))
      obtain rfl:=ae h_16
      exact cu
     ·refine aH rfl hc_17 wz (ah (ah (ah (ah (ah (ah (ah (aa (vB false) (af ?_)))))))))
      obtain rfl:=ae h_16
      exact cu
    ·rintro ⟨⟩ _ sl_ H_ hp_ hq_
     refine aO _ hp_ hq_ ?_
     rcases ak hc_8 with⟨hc_20,hc_8⟩|⟨hc_20,hc_8⟩
     ·refine aD rfl hc_20 (aj (aa (vI 7) (af ?_)))
      obtain rfl:=ae hc_8
      obtain rfl:=ae hL_9
      obtain rfl:=ae hF
      exact aC (aL [(vI 7)] ⟨rfl,trivial⟩)
     ·refine aB rfl hc_20 (ay (ax (fJ (bE hD_5 hn_6) wz rfl (aa (vI ((k_2+1:Nat):Int)) (af ?_)))))
      obtain rfl:=ae hc_8
      exact aS (k_2+1,l_3,()) ⟨hL_9,aR hD_5⟩ (ls_ _) rfl (aJ rfl)
 ·rintro s_7 ho_ sl_ H_ hp_ hq_
  subst ho_
  refine aO _ hp_ hq_ (aj (aa (vI 0) (af ?_)))
  obtain rfl:=ae hF
  exact aC (aL [(vI 0)] ⟨rfl,trivial⟩)
theorem oW {l_1:(List ByteArray)} {r:Int} (hF:iO l_1=some r) :
  FnM Tryz.prog 91 [(vL eS l_1)] [] (vI r) []:=by
 refine FnM.of_wH ⟨Tryz.prog,8,[],[]⟩ rfl Tryz.func91 rfl rfl (lb_ rfl) (by kernel_rfl) ?_
 unfold iO at hF
 refine aj (aa (vI 0) (af (au (aj (aa (vL eS l_1) (bN xI rfl wz (aa (vB (decide ((l_1.length:Int)>20))) (af ?_))))))))
 rcases ak hF with⟨hc_2,hF⟩|⟨hc_2,hF⟩
 ·refine aD rfl hc_2 (aj (aa (vI 2) (af ?_)))
  obtain rfl:=ae hF
  exact aC (aL [(vI 2)] ⟨rfl,trivial⟩)
 ·refine aB rfl hc_2 (ay (aj (aa (vL eS l_1) ?_)))
  obtain ⟨r_3,hr_4,hF⟩:=bind_some hF
  refine aF (yQ hr_4) rfl hb123 rfl rfl rfl rfl wz (aa (vI r_3) (af ?_))
  obtain rfl:=ae hF
  exact aC (aL [(vI r_3)] ⟨rfl,trivial⟩)
theorem uZ {e_1:Entry} {r:Int} (hF:jm e_1=some r) :
  FnM Tryz.prog 89 [(.d (.agg (Entry.enc e_1)))] [] (vI r) []:=by
 refine FnM.of_wH ⟨Tryz.prog,61,[],[]⟩ rfl Tryz.func89 rfl rfl (lb_ rfl) (by kernel_rfl) ?_
 unfold jm at hF
 refine aj (bZ 0 (.inl rfl) (Entry.v e_1) rfl rfl wz (λn_2=>aa (vI 0) (af (au (au ?_)))))
 obtain ⟨v_3,h_4,hF⟩:=bind_some hF
 refine aQ [(1,(.ref n_2 0 0)),(13,(vB v_3))] [(n_2,some (.cells 13 (Entry.v e_1)))] ?_ ?_
 ·refine ax (aI kg rfl 0 rfl wz (aA 0 0 il ft sz9 ag9 rfl rfl (vS e_1.Key) rfl wz ?_))
  obtain ⟨r_5,hr_6,h_4⟩:=bind_some h_4
  refine aF (oP hr_6) rfl M7 rfl rfl rfl rfl wz (aa (vB (!r_5)) ?_)
  rcases ak h_4 with⟨hc_7,h_4⟩|⟨hc_7,h_4⟩
  ·refine aH rfl hc_7 wz (ah (ah (ah (ah (aa (vB true) (af ?_))))))
   obtain rfl:=ae h_4
   exact cu
  ·refine aH rfl hc_7 wz (aI Eb rfl 1 rfl wa (aA 0 0 il ft sz9 ag9 rfl rfl (vS e_1.Item) rfl wa ?_))
   obtain ⟨r_8,hr_9,h_4⟩:=bind_some h_4
   refine aF (oP hr_9) rfl M7 rfl rfl rfl rfl wa (aK (vB (!r_8)) wa rfl (aa (vB (!r_8)) (af ?_)))
   obtain rfl:=ae h_4
   exact cu
 ·rintro ⟨⟩ _ sl_ H_ hp_ hq_
  refine aO _ hp_ hq_ ?_
  rcases ak hF with⟨hc_10,hF⟩|⟨hc_10,hF⟩
  ·refine aD rfl hc_10 (aj (aa (vI 5) (af ?_)))
   obtain rfl:=ae hF
   exact aC (aL [(vI 5)] ⟨rfl,trivial⟩)
  ·refine aB rfl hc_10 (ay (au (au ?_)))
   obtain ⟨v_11,h_12,hF⟩:=bind_some hF
   refine aQ [(1,(.ref n_2 0 0)),(38,(vB v_11))] [(n_2,some (.cells 13 (Entry.v e_1)))] ?_ ?_
   ·refine ax (aI Oq rfl 2 rfl wz (aA 0 0 il ft sz3 ag3 rfl rfl (vI e_1.Version) rfl wz ?_))
    obtain ⟨r_13,hr_14,h_12⟩:=bind_some h_12
    refine aF (fO hr_14) rfl DV rfl rfl rfl rfl wz ?_
    rcases ak h_12 with⟨hc_15,h_12⟩|⟨hc_15,h_12⟩
    ·refine aH rfl hc_15 wz (ah (ah (ah (ah (ah (aa (vB true) (aa (vB true) (ah (ah (ah (aa (vB true) (aa (vB true) (ah (ah (ah (aa (vB true) (aa (vB true) (ah (ah (ah (aa (vB true) (af ?_))))))))))))))))))))))
     obtain rfl:=ae h_12
     exact cu
    ·refine aH rfl hc_15 wz (aI rf rfl 3 rfl wa (aA 0 0 il ft sz3 ag3 rfl rfl (vI e_1.First) rfl wa (aI ru rfl 4 rfl wa (aA 0 0 il ft sz3 ag3 rfl rfl (vI e_1.Last) rfl wa ?_))))
     obtain ⟨r_16,hr_17,h_12⟩:=bind_some h_12
     refine aF (fO hr_17) rfl DV rfl rfl rfl rfl wa (aa (vB r_16) ?_)
     rcases ak h_12 with⟨hc_18,h_12⟩|⟨hc_18,h_12⟩
     ·refine aH rfl hc_18 wz (ah (ah (ah (aa (vB true) (aa (vB true) (ah (ah (ah (aa (vB true) (aa (vB true) (ah (ah (ah (aa (vB true) (af ?_)))))))))))))))
      obtain rfl:=ae h_12
      exact cu
     ·refine aH rfl hc_18 wz (aI ru rfl 4 rfl wa (aA 0 0 il ft sz3 ag3 rfl rfl (vI e_1.Last) rfl wa (aK (vB (decide (e_1.Last>4000))) wa rfl (aa (vB (decide (e_1.Last>4000))) ?_))))
      rcases ak h_12 with⟨hc_19,h_12⟩|⟨hc_19,h_12⟩
      ·refine aH rfl hc_19 wz (ah (ah (ah (aa (vB true) (aa (vB true) (ah (ah (ah (aa (vB true) (af ?_))))))))))
       obtain rfl:=ae h_12
       exact cu
      ·refine aH rfl hc_19 wz (aI Ec rfl 5 rfl wa (aA 0 0 il ft sz3 ag3 rfl rfl (vI e_1.Every) rfl wa ?_))
       obtain ⟨r_20,hr_21,h_12⟩:=bind_some h_12
       refine aF (fO hr_21) rfl DV rfl rfl rfl rfl wa (aa (vB r_20) ?_)
       rcases ak h_12 with⟨hc_22,h_12⟩|⟨hc_22,h_12⟩
       ·refine aH rfl hc_22 wz (ah (ah (ah (aa (vB true) (af ?_)))))
        obtain rfl:=ae h_12
        exact cu
       ·refine aH rfl hc_22 wz (aI Ef rfl 6 rfl wa (aA 0 0 il ft sz3 ag3 rfl rfl (vI e_1.Days) rfl wa ?_))
        obtain ⟨r_23,hr_24,h_12⟩:=bind_some h_12
        refine aF (fO hr_24) rfl DV rfl rfl rfl rfl wa (aa (vB r_23) (af ?_))
        obtain rfl:=ae h_12
        exact cu
   ·rintro ⟨⟩ _ sl_ H_ hp_ hq_
    refine aO _ hp_ hq_ ?_
    rcases ak hF with⟨hc_25,hF⟩|⟨hc_25,hF⟩
    ·refine aD rfl hc_25 (aj (aa (vI 1) (af ?_)))
     obtain rfl:=ae hF
     exact aC (aL [(vI 1)] ⟨rfl,trivial⟩)
    ·refine aB rfl hc_25 (ay (au (aj (aI sZ rfl 7 rfl wz (aA 0 0 il ft sV vM rfl rfl (vL eI e_1.Except) rfl wz ?_)))))
     obtain ⟨r_26,hr_27,hF⟩:=bind_some hF
     refine aF (tT hr_27) rfl hb122 rfl rfl rfl rfl wz (aa (vI r_26) (af (aj (aa (vI r_26) (aa (vB (r_26 != 0)) (af ?_))))))
     rcases ak hF with⟨hc_28,hF⟩|⟨hc_28,hF⟩
     ·refine aD rfl hc_28 (aj (aa (vI r_26) (aa (vI r_26) (af ?_))))
      obtain rfl:=ae hF
      exact aC (aL [(vI r_26)] ⟨rfl,trivial⟩)
     ·refine aB rfl hc_28 (ay (au (au ?_)))
      obtain ⟨v_29,h_30,hF⟩:=bind_some hF
      refine aQ [(1,(.ref n_2 0 0)),(57,(vB v_29))] [(n_2,some (.cells 13 (Entry.v e_1)))] ?_ ?_
      ·refine ax (aI yH rfl 8 rfl wz (aA 0 0 il ft sz3 ag3 rfl rfl (vI e_1.From) rfl wz ?_))
       obtain ⟨r_31,hr_32,h_30⟩:=bind_some h_30
       refine aF (fO hr_32) rfl DV rfl rfl rfl rfl wz ?_
       rcases ak h_30 with⟨hc_33,h_30⟩|⟨hc_33,h_30⟩
       ·refine aH rfl hc_33 wz (ah (ah (ah (aa (vB true) (aa (vB true) (ah (ah (ah (aa (vB true) (af ?_))))))))))
        obtain rfl:=ae h_30
        exact cu
       ·refine aH rfl hc_33 wz (aI CZ rfl 9 rfl wa (aA 0 0 il ft sz3 ag3 rfl rfl (vI e_1.To) rfl wa ?_))
        obtain ⟨r_34,hr_35,h_30⟩:=bind_some h_30
        refine aF (fO hr_35) rfl DV rfl rfl rfl rfl wa (aa (vB r_34) ?_)
        rcases ak h_30 with⟨hc_36,h_30⟩|⟨hc_36,h_30⟩
        ·refine aH rfl hc_36 wz (ah (ah (ah (aa (vB true) (af ?_)))))
         obtain rfl:=ae h_30
         exact cu
        ·refine aH rfl hc_36 wz (aI ve rfl 10 rfl wa (aA 0 0 il ft sz3 ag3 rfl rfl (vI e_1.Prio) rfl wa ?_))
         obtain ⟨r_37,hr_38,h_30⟩:=bind_some h_30
         refine aF (fO hr_38) rfl DV rfl rfl rfl rfl wa (aa (vB r_37) (af ?_))
         obtain rfl:=ae h_30
         exact cu
      ·rintro ⟨⟩ _ sl_ H_ hp_ hq_
       refine aO _ hp_ hq_ ?_
       rcases ak hF with⟨hc_39,hF⟩|⟨hc_39,hF⟩
       ·refine aD rfl hc_39 (aj (aa (vI 1) (af ?_)))
        obtain rfl:=ae hF
        exact aC (aL [(vI 1)] ⟨rfl,trivial⟩)
       ·refine aB rfl hc_39 (ay (aj (aI uV rfl 11 rfl wz (aA 0 0 il ft zS BP rfl rfl (vL eS e_1.Tags) rfl wz ?_))))
        obtain ⟨r_40,hr_41,hF⟩:=bind_some hF
        refine aF (oW hr_41) rfl hb91 rfl rfl rfl rfl wz (aa (vI r_40) (af ?_))
        obtain rfl:=ae hF
        exact aC (aL [(vI r_40)] ⟨rfl,trivial⟩)
theorem ng {l_1:(List Entry)} {r:Int} (hF:dW l_1=some r) :
  FnM Tryz.prog 56 [(vL Entry.enc l_1)] [] (vI r) []:=by
 refine FnM.of_wH ⟨Tryz.prog,35,[],[]⟩ rfl Tryz.func56 rfl rfl (lb_ rfl) (by kernel_rfl) ?_
 unfold dW at hF
 refine aj (aa (vI 0) (af (au (aj (aa (vL Entry.enc l_1) (bN yB rfl wz (aa (vB (decide ((l_1.length:Int)>200))) (af ?_))))))))
 rcases ak hF with⟨hc_2,hF⟩|⟨hc_2,hF⟩
 ·refine aD rfl hc_2 (aj (aa (vI 2) (af ?_)))
  obtain rfl:=ae hF
  exact aC (aL [(vI 2)] ⟨rfl,trivial⟩)
 ·refine aB rfl hc_2 (ay (au (aj (aa (vL Entry.enc l_1) (bN yB rfl wz (aa (vI 0) (af ?_)))))))
  obtain ⟨o_11,hj_12,hF⟩:=bind_some hF
  obtain ⟨hn_7,hj_12⟩:=bf hj_12
  refine cK (λ(s_8:Unit)=>[]) (λ(s_8:Unit)=>[]) (λ(k_3:Nat)=>(λ(s_8:Unit)=>[(0,(vL Entry.enc l_1)),(9,(vL Entry.enc l_1)),(10,(vI (l_1.length:Int))),(11,(vI (k_3:Int)))])) (λk x s=>gL l_1 k x s) o_11 l_1 () hj_12 rfl (aJ rfl) ?_ ?_
  ·rintro ⟨k_3,l_4,s_8⟩ ⟨hL_10,hD_6⟩
   dsimp only at hL_10 hD_6
   cases l_4 with
   | nil =>
    obtain rfl:=ae hL_10
    refine aj (aa (vB (decide ((k_3:Int)<(l_1.length:Int)))) (af ?_))
    refine au (aB rfl (drop_nil hD_6) (aU ?_))
    exact aV (s_8) rfl rfl (aJ rfl)
   | cons x_5 l_4 =>
    obtain ⟨c_,hc_9,hL_10⟩:=bind_some hL_10
    refine aj (aa (vB (decide ((k_3:Int)<(l_1.length:Int)))) (af ?_))
    refine au (aD rfl (bz hD_6) (ay ?_))
    unfold gL at hc_9
    refine au (aN (aj (aa (vI (k_3:Int)) (eU qh rfl rfl (bH hD_6) rfl wz (bI iZ kK rfl (.d (.agg (Entry.enc x_5))) rfl wz (bR 0 (.inl rfl) z68 rfl wz (λn_13=>aa (vI (k_3:Int)) (eH 0 il ft 0 iZ rfl rfl (Entry.v x_5) rfl wz (af (au (aj (aA 0 0 il ft iZ kK rfl rfl (.d (.agg (Entry.enc x_5))) rfl wz ?_))))))))))))
    obtain ⟨r_14,hr_15,hc_9⟩:=bind_some hc_9
    refine aF (uZ hr_15) rfl hb89 rfl rfl rfl rfl wz (aa (vI r_14) (af (aj (aa (vI r_14) (aa (vB (r_14 != 0)) (af ?_))))))
    rcases ak hc_9 with⟨hc_16,hc_9⟩|⟨hc_16,hc_9⟩
    ·refine aD rfl hc_16 (aj (aa (vI r_14) (aa (vI r_14) (af ?_))))
     obtain rfl:=ae hc_9
     obtain rfl:=ae hL_10
     obtain rfl:=ae hF
     exact aC (aL [(vI r_14)] ⟨rfl,trivial⟩)
    ·refine aB rfl hc_16 (ay (au ?_))
     obtain ⟨v_17,h_18,hc_9⟩:=bind_some hc_9
     refine aQ [(0,(vL Entry.enc l_1)),(9,(vL Entry.enc l_1)),(10,(vI (l_1.length:Int))),(11,(vI (k_3:Int))),(33,(vB v_17))] [(n_13,some (.cells 13 (Entry.v x_5)))] ?_ ?_
     ·refine dA (aa (vI (k_3:Int)) (aa (vB (decide ((k_3:Int)>0))) ?_))
      rcases ak h_18 with⟨hc_19,h_18⟩|⟨hc_19,h_18⟩
      ·refine aH rfl hc_19 wz (aI kg rfl 0 rfl wa (aA 4 0 (.inr (by kernel_rfl)) (λ_ _ ag=>trivial) sz9 ag9 rfl rfl (vS x_5.Key) rfl wa (aK (vL Entry.enc l_1) wa rfl (aK (vI (k_3:Int)) wa rfl (aK (vI (w64 ((k_3:Int)-1))) wa rfl ?_)))))
       obtain ⟨y_20,hy_21,h_18⟩:=bind_some h_18
       refine eU qh rfl rfl hy_21 rfl wa (yg kg rfl (Entry.enc y_20) rfl rfl wa (bI sz9 ag9 rfl (vS y_20.Key) rfl wa (aK (vB (sLe x_5.Key y_20.Key)) wa rfl (aa (vB (sLe x_5.Key y_20.Key)) (af ?_)))))
       obtain rfl:=ae h_18
       exact cu
      ·refine aH rfl hc_19 wz (ah (ah (ah (ah (ah (ah (ah (ah (ah (aa (vB false) (af ?_)))))))))))
       obtain rfl:=ae h_18
       exact cu
     ·rintro ⟨⟩ _ sl_ H_ hp_ hq_
      refine aO _ hp_ hq_ ?_
      rcases ak hc_9 with⟨hc_22,hc_9⟩|⟨hc_22,hc_9⟩
      ·refine aD rfl hc_22 (aj (aa (vI 7) (af ?_)))
       obtain rfl:=ae hc_9
       obtain rfl:=ae hL_10
       obtain rfl:=ae hF
       exact aC (aL [(vI 7)] ⟨rfl,trivial⟩)
      ·refine aB rfl hc_22 (ay (ax (fJ (bE hD_6 hn_7) wz rfl (aa (vI ((k_3+1:Nat):Int)) (af ?_)))))
       obtain rfl:=ae hc_9
       exact aS (k_3+1,l_4,()) ⟨hL_10,aR hD_6⟩ (ls_ _) rfl (aJ rfl)
  ·rintro s_8 ho_ sl_ H_ hp_ hq_
   subst ho_
   refine aO _ hp_ hq_ (aj (aa (vI 0) (af ?_)))
   obtain rfl:=ae hF
   exact aC (aL [(vI 0)] ⟨rfl,trivial⟩)
theorem ug {p_1:Player} {r:Int} (hF:ja p_1=some r) :
  FnM Tryz.prog 57 [(.d (.agg (Player.enc p_1)))] [] (vI r) []:=by
 refine FnM.of_wH ⟨Tryz.prog,19,[],[]⟩ rfl Tryz.func57 rfl rfl (lb_ rfl) (by kernel_rfl) ?_
 unfold ja at hF
 refine aj (bZ 0 (.inl rfl) (Player.v p_1) rfl rfl wz (λn_2=>aa (vI 0) (af (au (au ?_)))))
 obtain ⟨v_3,h_4,hF⟩:=bind_some hF
 refine aQ [(1,(.ref n_2 0 0)),(12,(vB v_3))] [(n_2,some (.cells 4 (Player.v p_1)))] ?_ ?_
 ·refine ax (aI MP rfl 0 rfl wz (aA 0 0 il ft sz9 ag9 rfl rfl (vS p_1.Key) rfl wz ?_))
  obtain ⟨r_5,hr_6,h_4⟩:=bind_some h_4
  refine aF (oP hr_6) rfl M7 rfl rfl rfl rfl wz (aa (vB (!r_5)) ?_)
  rcases ak h_4 with⟨hc_7,h_4⟩|⟨hc_7,h_4⟩
  ·refine aH rfl hc_7 wz (ah (ah (ah (ah (aa (vB true) (af ?_))))))
   obtain rfl:=ae h_4
   exact cu
  ·refine aH rfl hc_7 wz (aI NN rfl 1 rfl wa (aA 0 0 il ft sz9 ag9 rfl rfl (vS p_1.Screen) rfl wa ?_))
   obtain ⟨r_8,hr_9,h_4⟩:=bind_some h_4
   refine aF (oP hr_9) rfl M7 rfl rfl rfl rfl wa (aK (vB (!r_8)) wa rfl (aa (vB (!r_8)) (af ?_)))
   obtain rfl:=ae h_4
   exact cu
 ·rintro ⟨⟩ _ sl_ H_ hp_ hq_
  refine aO _ hp_ hq_ ?_
  rcases ak hF with⟨hc_10,hF⟩|⟨hc_10,hF⟩
  ·refine aD rfl hc_10 (aj (aa (vI 5) (af ?_)))
   obtain rfl:=ae hF
   exact aC (aL [(vI 5)] ⟨rfl,trivial⟩)
  ·refine aB rfl hc_10 (ay (au (aj (aI uX rfl 2 rfl wz (aA 0 0 il ft sz3 ag3 rfl rfl (vI p_1.Zone) rfl wz ?_)))))
   obtain ⟨r_11,hr_12,hF⟩:=bind_some hF
   refine aF (fO hr_12) rfl DV rfl rfl rfl rfl wz (af ?_)
   rcases ak hF with⟨hc_13,hF⟩|⟨hc_13,hF⟩
   ·refine aD rfl hc_13 (aj (aa (vI 1) (af ?_)))
    obtain rfl:=ae hF
    exact aC (aL [(vI 1)] ⟨rfl,trivial⟩)
   ·refine aB rfl hc_13 (ay (aj (aI Gp rfl 3 rfl wz (aA 0 0 il ft zS BP rfl rfl (vL eS p_1.Tags) rfl wz ?_))))
    obtain ⟨r_14,hr_15,hF⟩:=bind_some hF
    refine aF (oW hr_15) rfl hb91 rfl rfl rfl rfl wz (aa (vI r_14) (af ?_))
    obtain rfl:=ae hF
    exact aC (aL [(vI r_14)] ⟨rfl,trivial⟩)
theorem nP {wv_1:Window} {r:Int} (hF:gP wv_1=some r) :
  FnM Tryz.prog 58 [(.d (.agg (Window.enc wv_1)))] [] (vI r) []:=by
 refine FnM.of_wH ⟨Tryz.prog,19,[],[]⟩ rfl Tryz.func58 rfl rfl (lb_ rfl) (by kernel_rfl) ?_
 unfold gP at hF
 refine aj (bZ 0 (.inl rfl) [(vI wv_1.From),(vI wv_1.To)] rfl rfl wz (λn_2=>aa (vI 0) (af (au (au ?_)))))
 obtain ⟨v_3,h_4,hF⟩:=bind_some hF
 refine aQ [(1,(.ref n_2 0 0)),(12,(vB v_3))] [(n_2,some (.cells 2 [(vI wv_1.From),(vI wv_1.To)]))] ?_ ?_
 ·refine ax (aI gm rfl 0 rfl wz (aA 0 0 il ft sz3 ag3 rfl rfl (vI wv_1.From) rfl wz (aI gN rfl 1 rfl wz (aA 0 0 il ft sz3 ag3 rfl rfl (vI wv_1.To) rfl wz ?_))))
  obtain ⟨r_5,hr_6,h_4⟩:=bind_some h_4
  refine aF (fO hr_6) rfl DV rfl rfl rfl rfl wz ?_
  rcases ak h_4 with⟨hc_7,h_4⟩|⟨hc_7,h_4⟩
  ·refine aH rfl hc_7 wz (ah (ah (ah (aa (vB true) (af ?_)))))
   obtain rfl:=ae h_4
   exact cu
  ·refine aH rfl hc_7 wz (aI gN rfl 1 rfl wa (aA 0 0 il ft sz3 ag3 rfl rfl (vI wv_1.To) rfl wa (aK (vB (decide (wv_1.To>345686400000))) wa rfl (aa (vB (decide (wv_1.To>345686400000))) (af ?_)))))
   obtain rfl:=ae h_4
   exact cu
 ·rintro ⟨⟩ _ sl_ H_ hp_ hq_
  refine aO _ hp_ hq_ ?_
  rcases ak hF with⟨hc_8,hF⟩|⟨hc_8,hF⟩
  ·refine aD rfl hc_8 (aj (aa (vI 1) (af ?_)))
   obtain rfl:=ae hF
   exact aC (aL [(vI 1)] ⟨rfl,trivial⟩)
  ·refine aB rfl hc_8 (ay (au (aj (aI gN rfl 1 rfl wz (aA 0 0 il ft sz3 ag3 rfl rfl (vI wv_1.To) rfl wz (aI gm rfl 0 rfl wz (aA 0 0 il ft sz3 ag3 rfl rfl (vI wv_1.From) rfl wz (aa (vI (w64 (wv_1.To-wv_1.From))) (aa (vB (decide ((w64 (wv_1.To-wv_1.From))>34560000000))) (af ?_))))))))))
   rcases ak hF with⟨hc_9,hF⟩|⟨hc_9,hF⟩
   ·refine aD rfl hc_9 (aj (aa (vI 2) (af ?_)))
    obtain rfl:=ae hF
    exact aC (aL [(vI 2)] ⟨rfl,trivial⟩)
   ·refine aB rfl hc_9 (ay (aj (aa (vI 0) (af ?_))))
    obtain rfl:=ae hF
    exact aC (aL [(vI 0)] ⟨rfl,trivial⟩)
theorem jF {l_1:(List Entry)} {p_2:Player} {wv_3:Window} {r:Int} (hF:dR l_1 p_2 wv_3=some r) :
  FnM Tryz.prog 32 [(vL Entry.enc l_1),(.d (.agg (Player.enc p_2))),(.d (.agg (Window.enc wv_3)))] [] (vI r) []:=by
 refine FnM.of_wH ⟨Tryz.prog,21,[],[]⟩ rfl Tryz.func32 rfl rfl (lb_ rfl) (by kernel_rfl) ?_
 unfold dR at hF
 refine aj (bZ 0 (.inl rfl) (Player.v p_2) rfl rfl wz (λn_4=>bZ 0 (.inl rfl) [(vI wv_3.From),(vI wv_3.To)] rfl rfl wz (λn_5=>aa (vI 0) (af (au (aj (aa (vL Entry.enc l_1) ?_)))))))
 obtain ⟨r_6,hr_7,hF⟩:=bind_some hF
 refine aF (ng hr_7) rfl hb56 rfl rfl rfl rfl wz (aa (vI r_6) (af (aj (aa (vI r_6) (aa (vB (r_6 != 0)) (af ?_))))))
 rcases ak hF with⟨hc_8,hF⟩|⟨hc_8,hF⟩
 ·refine aD rfl hc_8 (aj (aa (vI r_6) (aa (vI r_6) (af ?_))))
  obtain rfl:=ae hF
  exact aC (aL [(vI r_6)] ⟨rfl,trivial⟩)
 ·refine aB rfl hc_8 (ay (au (aj (aA 0 0 il ft kQ mO rfl rfl (.d (.agg (Player.enc p_2))) rfl wz ?_))))
  obtain ⟨r_9,hr_10,hF⟩:=bind_some hF
  refine aF (ug hr_10) rfl hb57 rfl rfl rfl rfl wz (aa (vI r_9) (af (aj (aa (vI r_9) (aa (vB (r_9 != 0)) (af ?_))))))
  rcases ak hF with⟨hc_11,hF⟩|⟨hc_11,hF⟩
  ·refine aD rfl hc_11 (aj (aa (vI r_9) (aa (vI r_9) (af ?_))))
   obtain rfl:=ae hF
   exact aC (aL [(vI r_9)] ⟨rfl,trivial⟩)
  ·refine aB rfl hc_11 (ay (aj (aA 0 1 il ft eX iT rfl rfl (.d (.agg (Window.enc wv_3))) rfl wz ?_)))
   obtain ⟨r_12,hr_13,hF⟩:=bind_some hF
   refine aF (nP hr_13) rfl hb58 rfl rfl rfl rfl wz (aa (vI r_12) (af ?_))
   obtain rfl:=ae hF
   exact aC (aL [(vI r_12)] ⟨rfl,trivial⟩)
theorem qw {x_1:ByteArray} {r:Bool} (hF:cmp_isNaN_string x_1=some r) :
  FnM Tryz.prog 169 [(vS x_1)] [] (vB r) []:=by
 refine FnM.of_wH ⟨Tryz.prog,6,[],[]⟩ rfl Tryz.func169 rfl rfl (lb_ rfl) (by kernel_rfl) ?_
 unfold cmp_isNaN_string at hF
 refine aj (aa (vB false) (af (aj (aa (vS x_1) (aa (vS x_1) (aa (vB (sNe x_1 x_1)) (aa (vB (sNe x_1 x_1)) (af ?_))))))))
 obtain rfl:=ae hF
 exact aC (aL [(vB (sNe x_1 x_1))] ⟨rfl,trivial⟩)
theorem yX {x_1:ByteArray} {y_2:ByteArray} {r:Bool} (hF:cmp_Less_string x_1 y_2=some r) :
  FnM Tryz.prog 132 [(vS x_1),(vS y_2)] [] (vB r) []:=by
 refine FnM.of_wH ⟨Tryz.prog,17,[],[]⟩ rfl Tryz.func132 rfl rfl (lb_ rfl) (by kernel_rfl) ?_
 unfold cmp_Less_string at hF
 refine aj (aa (vB false) (af (au ?_)))
 obtain ⟨v_3,h_4,hF⟩:=bind_some hF
 refine aQ [(4,(vB v_3))] [] ?_ ?_
 ·refine ax (aa (vS x_1) ?_)
  obtain ⟨r_5,hr_6,h_4⟩:=bind_some h_4
  refine aF (qw hr_6) rfl hb169 rfl rfl rfl rfl wz ?_
  rcases ak h_4 with⟨hc_7,h_4⟩|⟨hc_7,h_4⟩
  ·refine aH rfl hc_7 wz (aK (vS y_2) wa rfl ?_)
   obtain ⟨r_8,hr_9,h_4⟩:=bind_some h_4
   refine aF (qw hr_9) rfl hb169 rfl rfl rfl rfl wa (aK (vB (!r_8)) wa rfl (aa (vB (!r_8)) ?_))
   rcases ak h_4 with⟨hc_10,h_4⟩|⟨hc_10,h_4⟩
   ·refine aH rfl hc_10 wz (ah (ah (ah (aa (vB true) (aa (vB true) (af ?_))))))
    obtain rfl:=ae h_4
    exact cu
   ·refine aH rfl hc_10 wz (aK (vS x_1) wa rfl (aK (vS y_2) wa rfl (aK (vB (sLt x_1 y_2)) wa rfl (aa (vB (sLt x_1 y_2)) (aa (vB (sLt x_1 y_2)) (af ?_))))))
    obtain rfl:=ae h_4
    exact cu
  ·refine aH rfl hc_7 wz (ah (ah (ah (aa (vB false) (aa (vB false) (aK (vS x_1) wa rfl (aK (vS y_2) wa rfl (aK (vB (sLt x_1 y_2)) wa rfl (aa (vB (sLt x_1 y_2)) (aa (vB (sLt x_1 y_2)) (af ?_)))))))))))
   obtain rfl:=ae h_4
   exact cu
 ·rintro ⟨⟩ _ sl_ H_ hp_ hq_
  refine aO _ hp_ hq_ ?_
  obtain rfl:=ae hF
  exact aC (aL [(vB v_3)] ⟨rfl,trivial⟩)
theorem oF {x_1:ByteArray} {r:Bool} (hF:slices_isNaN_string x_1=some r) :
  FnM Tryz.prog 133 [(vS x_1)] [] (vB r) []:=by
 refine FnM.of_wH ⟨Tryz.prog,6,[],[]⟩ rfl Tryz.func133 rfl rfl (lb_ rfl) (by kernel_rfl) ?_
 unfold slices_isNaN_string at hF
 refine aj (aa (vB false) (af (aj (aa (vS x_1) (aa (vS x_1) (aa (vB (sNe x_1 x_1)) (aa (vB (sNe x_1 x_1)) (af ?_))))))))
 obtain rfl:=ae hF
 exact aC (aL [(vB (sNe x_1 x_1))] ⟨rfl,trivial⟩)
theorem mU {x_1:(List ByteArray)} {target_2:ByteArray} {r:Int×Bool} (hF:dD x_1 target_2=some r) :
  FnM Tryz.prog 96 [(vL eS x_1),(vS target_2)] [] (.tup [(vI r.1),(vB r.2)]) []:=by
 refine FnM.of_wH ⟨Tryz.prog,54,[],[]⟩ rfl Tryz.func96 rfl rfl (lb_ rfl) (by kernel_rfl) ?_
 unfold dD at hF
 refine aj (aa (vI 0) (aa (vB false) (af (aj (aa (vL eS x_1) (bN xI rfl wz (aa (vI (x_1.length:Int)) (af (aj (aa (vI (x_1.length:Int)) (aa (vI 0) (aa (vI (x_1.length:Int)) (af (au ?_))))))))))))))
 obtain ⟨o_11,hj_12,hF⟩:=bind_some hF
 obtain ⟨nq_34,hj_12⟩:=dZ hj_12
 refine jh (λ(s_8:Int×Int)=>[(0,(vL eS x_1)),(1,(vS target_2)),(6,(vI (x_1.length:Int))),(7,(vI s_8.1))]) (λ(s_8:Int×Int)=>[]) (λ(k_3:Nat)=>(λ(s_8:Int×Int)=>[(0,(vL eS x_1)),(1,(vS target_2)),(6,(vI (x_1.length:Int))),(7,(vI s_8.1)),(8,(vI s_8.2))])) (λs=>aW x_1 target_2 s) o_11 nq_34 (0,(x_1.length:Int)) hj_12 rfl (aJ rfl) ?_ ?_
 ·rintro ⟨k_3,s_8⟩ hL_10
  dsimp only at hL_10
  cases k_3 with
  | zero=>cases hL_10
  | succ k_3 =>
   obtain ⟨c_,hc_9,hL_10⟩:=bind_some hL_10
   unfold aW at hc_9
   refine au (aj (aa (vI s_8.1) (aa (vI s_8.2) (aa (vB (decide (s_8.1<s_8.2))) (af ?_)))))
   rcases ak hc_9 with⟨hc_13,hc_9⟩|⟨hc_13,hc_9⟩
   ·refine aD rfl hc_13 (ay (aN (aj (aa (vI s_8.1) (aa (vI s_8.2) (aa (vI (w64 (s_8.1+s_8.2))) (wT un3 Fh rfl wz ?_)))))))
    obtain ⟨q_14,hz_15,hc_9⟩:=bind_some hc_9
    refine Fv rfl rfl hz_15 wz (wT Fh un3 rfl wz (aa (vI (w64 q_14)) (af (aj (aa (vL eS x_1) (aa (vI (w64 q_14)) ?_))))))
    obtain ⟨y_16,hy_17,hc_9⟩:=bind_some hc_9
    refine eU mQ rfl rfl hy_17 rfl wz (bI sz9 ag9 rfl (vS y_16) rfl wz (aa (vS target_2) ?_))
    obtain ⟨r_18,hr_19,hc_9⟩:=bind_some hc_9
    refine aF (yX hr_19) rfl hb132 rfl rfl rfl rfl wz (af ?_)
    rcases ak hc_9 with⟨hc_20,hc_9⟩|⟨hc_20,hc_9⟩
    ·refine aD rfl hc_20 (ax (aa (vI (w64 q_14)) (aa (vI (w64 ((w64 q_14)+1))) (aa (vI (w64 ((w64 q_14)+1))) (af ?_)))))
     obtain rfl:=ae hc_9
     exact aS (k_3,((w64 ((w64 q_14)+1)),s_8.2)) hL_10 (ls_ _) rfl (aJ rfl)
    ·refine aB rfl hc_20 (ax (aa (vI (w64 q_14)) (aa (vI (w64 q_14)) (af ?_))))
     obtain rfl:=ae hc_9
     exact aS (k_3,(s_8.1,(w64 q_14))) hL_10 (ls_ _) rfl (aJ rfl)
   ·refine aB rfl hc_13 (aU ?_)
    obtain rfl:=ae hc_9
    obtain rfl:=ae hL_10
    exact aV ((s_8.1,s_8.2)) rfl rfl (aJ rfl)
 ·rintro s_8 ho_ sl_ H_ hp_ hq_
  subst ho_
  refine aO _ hp_ hq_ (au ?_)
  obtain ⟨v_21,h_22,hF⟩:=bind_some hF
  refine aQ [(4,(vI s_8.1)),(5,(vB v_21))] [] ?_ ?_
  ·refine ax (aa (vI s_8.1) (aa (vI s_8.1) (aa (vI (x_1.length:Int)) (aa (vB (decide (s_8.1<(x_1.length:Int)))) ?_))))
   rcases ak h_22 with⟨hc_23,h_22⟩|⟨hc_23,h_22⟩
   ·refine aH rfl hc_23 wz (aK (vL eS x_1) wa rfl (aK (vI s_8.1) wa rfl ?_))
    obtain ⟨y_24,hy_25,h_22⟩:=bind_some h_22
    refine eU mQ rfl rfl hy_25 rfl wa (bI sz9 ag9 rfl (vS y_24) rfl wa (aK (vS target_2) wa rfl (aK (vB (sEq y_24 target_2)) wa rfl ?_)))
    rcases ak h_22 with⟨hc_26,h_22⟩|⟨hc_26,h_22⟩
    ·refine aH rfl hc_26 wa (ah (ah (ah (ah (ah (ah (cO (wn rfl rfl) (cO (wn rfl rfl) (ah (aK (vB true) wa rfl (aa (vB true) (aa (vI s_8.1) (aa (vB true) (af ?_))))))))))))))
     obtain rfl:=ae h_22
     exact cu
    ·refine aH rfl hc_26 wa (aK (vL eS x_1) wa rfl (aK (vI s_8.1) wa rfl ?_))
     obtain ⟨y_27,hy_28,h_22⟩:=bind_some h_22
     refine eU mQ rfl rfl hy_28 rfl wa (bI sz9 ag9 rfl (vS y_27) rfl wa ?_)
     obtain ⟨r_29,hr_30,h_22⟩:=bind_some h_22
     refine aF (oF hr_30) rfl hb133 rfl rfl rfl rfl wa ?_
     rcases ak h_22 with⟨hc_31,h_22⟩|⟨hc_31,h_22⟩
     ·refine aH rfl hc_31 wa (aK (vS target_2) wa rfl ?_)
      obtain ⟨r_32,hr_33,h_22⟩:=bind_some h_22
      refine aF (oF hr_33) rfl hb133 rfl rfl rfl rfl wa (aK (vB r_32) wa rfl (aK (vB r_32) wa rfl (aa (vB r_32) (aa (vI s_8.1) (aa (vB r_32) (af ?_))))))
      obtain rfl:=ae h_22
      exact cu
     ·refine aH rfl hc_31 wa (ah (ah (aK (vB false) wa rfl (aK (vB false) wa rfl (aa (vB false) (aa (vI s_8.1) (aa (vB false) (af ?_))))))))
      obtain rfl:=ae h_22
      exact cu
   ·refine aH rfl hc_23 wz (ah (ah (ah (ah (ah (ah (ah (cO (wn rfl rfl) (cO (wn rfl rfl) (cO (wn rfl rfl) (cO (wn rfl rfl) (cO (wn rfl rfl) (cO (wn rfl rfl) (cO (wn rfl rfl) (cO (wn rfl rfl) (cO (wn rfl rfl) (ah (aa (vB false) (aa (vI s_8.1) (aa (vB false) (af ?_)))))))))))))))))))))
    obtain rfl:=ae h_22
    exact cu
  ·rintro ⟨⟩ _ sl_ H_ hp_ hq_
   refine aO _ hp_ hq_ ?_
   obtain rfl:=ae hF
   exact aC (aL [(vI s_8.1),(vB v_21)] ⟨rfl,⟨rfl,trivial⟩⟩)
theorem tV {e_1:Entry} {p_2:Player} {r:Bool} (hF:nu e_1 p_2=some r) :
  FnM Tryz.prog 67 [(.d (.agg (Entry.enc e_1))),(.d (.agg (Player.enc p_2)))] [] (vB r) []:=by
 refine FnM.of_wH ⟨Tryz.prog,26,[],[]⟩ rfl Tryz.func67 rfl rfl (lb_ rfl) (by kernel_rfl) ?_
 unfold nu at hF
 refine aj (bZ 0 (.inl rfl) (Entry.v e_1) rfl rfl wz (λn_3=>bZ 0 (.inl rfl) (Player.v p_2) rfl rfl wz (λn_4=>aa (vB false) (af (au (aj (aI uV rfl 11 rfl wz (aA 0 0 il ft zS BP rfl rfl (vL eS e_1.Tags) rfl wz (bN xI rfl wz (aa (vI 0) (af ?_)))))))))))
 obtain ⟨o_13,hj_14,hF⟩:=bind_some hF
 obtain ⟨hn_9,hj_14⟩:=bf hj_14
 refine cK (λ(s_10:Unit)=>[]) (λ(s_10:Unit)=>[(n_3,some (.cells 13 (Entry.v e_1))),(n_4,some (.cells 4 (Player.v p_2)))]) (λ(k_5:Nat)=>(λ(s_10:Unit)=>[(3,(.ref n_4 0 0)),(10,(vL eS e_1.Tags)),(11,(vI (e_1.Tags.length:Int))),(12,(vI (k_5:Int)))])) (λk x s=>jy p_2 k x s) o_13 e_1.Tags () hj_14 rfl (aJ rfl) ?_ ?_
 ·rintro ⟨k_5,l_6,s_10⟩ ⟨hL_12,hD_8⟩
  dsimp only at hL_12 hD_8
  cases l_6 with
  | nil =>
   obtain rfl:=ae hL_12
   refine aj (aa (vB (decide ((k_5:Int)<(e_1.Tags.length:Int)))) (af ?_))
   refine au (aB rfl (drop_nil hD_8) (aU ?_))
   exact aV (s_10) rfl rfl (aJ rfl)
  | cons x_7 l_6 =>
   obtain ⟨c_,hc_11,hL_12⟩:=bind_some hL_12
   refine aj (aa (vB (decide ((k_5:Int)<(e_1.Tags.length:Int)))) (af ?_))
   refine au (aD rfl (bz hD_8) (ay ?_))
   unfold jy at hc_11
   refine au (aN (aj (eU mQ rfl rfl (bH hD_8) rfl wz (bI sz9 ag9 rfl (vS x_7) rfl wz (aa (vS x_7) (af (aj (aI Gp rfl 3 rfl wz (aA 0 1 il ft zS BP rfl rfl (vL eS p_2.Tags) rfl wz (aa (vS x_7) ?_))))))))))
   obtain ⟨r_15,hr_16,hc_11⟩:=bind_some hc_11
   refine aF (mU hr_16) rfl hb96 rfl rfl rfl rfl wz (aa (.tup [(vI r_15.1),(vB r_15.2)]) (aa (vI r_15.1) (aa (vB r_15.2) (aa (vI r_15.1) (aa (vB r_15.2) (af (aj (aa (vB r_15.2) (aa (vB (!r_15.2)) (af ?_))))))))))
   rcases ak hc_11 with⟨hc_17,hc_11⟩|⟨hc_17,hc_11⟩
   ·refine aD rfl hc_17 (aj (aa (vB false) (af ?_)))
    obtain rfl:=ae hc_11
    obtain rfl:=ae hL_12
    obtain rfl:=ae hF
    exact aC (aL [(vB false)] ⟨rfl,trivial⟩)
   ·refine aB rfl hc_17 (ay (ax (fJ (bE hD_8 hn_9) wz rfl (aa (vI ((k_5+1:Nat):Int)) (af ?_)))))
    obtain rfl:=ae hc_11
    exact aS (k_5+1,l_6,()) ⟨hL_12,aR hD_8⟩ (ls_ _) rfl (aJ rfl)
 ·rintro s_10 ho_ sl_ H_ hp_ hq_
  subst ho_
  refine aO _ hp_ hq_ (aj (aa (vB true) (af ?_)))
  obtain rfl:=ae hF
  exact aC (aL [(vB true)] ⟨rfl,trivial⟩)
section
variable [dM:DM]
theorem mK {x_1:Int} {r:Bool} (hF:cmp_isNaN_int x_1=some r) :
  FnM Tryz.prog 93 [(vI x_1)] [] (vB r) []:=by
 refine FnM.of_wH ⟨Tryz.prog,6,[],[]⟩ rfl Tryz.func93 rfl rfl (lb_ rfl) (by kernel_rfl) ?_
 unfold cmp_isNaN_int at hF
 refine aj (aa (vB false) (af (aj (aa (vI x_1) (aa (vI x_1) (aa (vB (x_1 != x_1)) (aa (vB (x_1 != x_1)) (af ?_))))))))
 obtain rfl:=ae hF
 exact aC (aL [(vB (x_1 != x_1))] ⟨rfl,trivial⟩)
end
theorem BR {x_1:Int} {y_2:Int} {r:Bool} (hF:cmp_Less_int x_1 y_2=some r) :
  FnM Tryz.prog 154 [(vI x_1),(vI y_2)] [] (vB r) []:=by
 refine FnM.of_wH ⟨Tryz.prog,17,[],[]⟩ rfl Tryz.func154 rfl rfl (lb_ rfl) (by kernel_rfl) ?_
 unfold cmp_Less_int at hF
 refine aj (aa (vB false) (af (au ?_)))
 obtain ⟨v_3,h_4,hF⟩:=bind_some hF
 refine aQ [(4,(vB v_3))] [] ?_ ?_
 ·refine ax (aa (vI x_1) ?_)
  obtain ⟨r_5,hr_6,h_4⟩:=bind_some h_4
  refine aF (mK hr_6) rfl hb93 rfl rfl rfl rfl wz ?_
  rcases ak h_4 with⟨hc_7,h_4⟩|⟨hc_7,h_4⟩
  ·refine aH rfl hc_7 wz (aK (vI y_2) wa rfl ?_)
   obtain ⟨r_8,hr_9,h_4⟩:=bind_some h_4
   refine aF (mK hr_9) rfl hb93 rfl rfl rfl rfl wa (aK (vB (!r_8)) wa rfl (aa (vB (!r_8)) ?_))
   rcases ak h_4 with⟨hc_10,h_4⟩|⟨hc_10,h_4⟩
   ·refine aH rfl hc_10 wz (ah (ah (ah (aa (vB true) (aa (vB true) (af ?_))))))
    obtain rfl:=ae h_4
    exact cu
   ·refine aH rfl hc_10 wz (aK (vI x_1) wa rfl (aK (vI y_2) wa rfl (aK (vB (decide (x_1<y_2))) wa rfl (aa (vB (decide (x_1<y_2))) (aa (vB (decide (x_1<y_2))) (af ?_))))))
    obtain rfl:=ae h_4
    exact cu
  ·refine aH rfl hc_7 wz (ah (ah (ah (aa (vB false) (aa (vB false) (aK (vI x_1) wa rfl (aK (vI y_2) wa rfl (aK (vB (decide (x_1<y_2))) wa rfl (aa (vB (decide (x_1<y_2))) (aa (vB (decide (x_1<y_2))) (af ?_)))))))))))
   obtain rfl:=ae h_4
   exact cu
 ·rintro ⟨⟩ _ sl_ H_ hp_ hq_
  refine aO _ hp_ hq_ ?_
  obtain rfl:=ae hF
  exact aC (aL [(vB v_3)] ⟨rfl,trivial⟩)
theorem qp {x_1:Int} {r:Bool} (hF:jA x_1=some r) :
  FnM Tryz.prog 170 [(vI x_1)] [] (vB r) []:=by
 refine FnM.of_wH ⟨Tryz.prog,6,[],[]⟩ rfl Tryz.func170 rfl rfl (lb_ rfl) (by kernel_rfl) ?_
 unfold jA at hF
 refine aj (aa (vB false) (af (aj (aa (vI x_1) (aa (vI x_1) (aa (vB (x_1 != x_1)) (aa (vB (x_1 != x_1)) (af ?_))))))))
 obtain rfl:=ae hF
 exact aC (aL [(vB (x_1 != x_1))] ⟨rfl,trivial⟩)
theorem o8 {x_1:(List Int)} {target_2:Int} {r:Int×Bool} (hF:fB x_1 target_2=some r) :
  FnM Tryz.prog 134 [(vL eI x_1),(vI target_2)] [] (.tup [(vI r.1),(vB r.2)]) []:=by
 refine FnM.of_wH ⟨Tryz.prog,54,[],[]⟩ rfl Tryz.func134 rfl rfl (lb_ rfl) (by kernel_rfl) ?_
 unfold fB at hF
 refine aj (aa (vI 0) (aa (vB false) (af (aj (aa (vL eI x_1) (bN qc rfl wz (aa (vI (x_1.length:Int)) (af (aj (aa (vI (x_1.length:Int)) (aa (vI 0) (aa (vI (x_1.length:Int)) (af (au ?_))))))))))))))
 obtain ⟨o_11,hj_12,hF⟩:=bind_some hF
 obtain ⟨nq_34,hj_12⟩:=dZ hj_12
 refine jh (λ(s_8:Int×Int)=>[(0,(vL eI x_1)),(1,(vI target_2)),(6,(vI (x_1.length:Int))),(7,(vI s_8.1))]) (λ(s_8:Int×Int)=>[]) (λ(k_3:Nat)=>(λ(s_8:Int×Int)=>[(0,(vL eI x_1)),(1,(vI target_2)),(6,(vI (x_1.length:Int))),(7,(vI s_8.1)),(8,(vI s_8.2))])) (λs=>bC x_1 target_2 s) o_11 nq_34 (0,(x_1.length:Int)) hj_12 rfl (aJ rfl) ?_ ?_
 ·rintro ⟨k_3,s_8⟩ hL_10
  dsimp only at hL_10
  cases k_3 with
  | zero=>cases hL_10
  | succ k_3 =>
   obtain ⟨c_,hc_9,hL_10⟩:=bind_some hL_10
   unfold bC at hc_9
   refine au (aj (aa (vI s_8.1) (aa (vI s_8.2) (aa (vB (decide (s_8.1<s_8.2))) (af ?_)))))
   rcases ak hc_9 with⟨hc_13,hc_9⟩|⟨hc_13,hc_9⟩
   ·refine aD rfl hc_13 (ay (aN (aj (aa (vI s_8.1) (aa (vI s_8.2) (aa (vI (w64 (s_8.1+s_8.2))) (wT un3 Fh rfl wz ?_)))))))
    obtain ⟨q_14,hz_15,hc_9⟩:=bind_some hc_9
    refine Fv rfl rfl hz_15 wz (wT Fh un3 rfl wz (aa (vI (w64 q_14)) (af (aj (aa (vL eI x_1) (aa (vI (w64 q_14)) ?_))))))
    obtain ⟨y_16,hy_17,hc_9⟩:=bind_some hc_9
    refine eU iW rfl rfl hy_17 rfl wz (bI sz3 ag3 rfl (vI y_16) rfl wz (aa (vI target_2) ?_))
    obtain ⟨r_18,hr_19,hc_9⟩:=bind_some hc_9
    refine aF (BR hr_19) rfl hb154 rfl rfl rfl rfl wz (af ?_)
    rcases ak hc_9 with⟨hc_20,hc_9⟩|⟨hc_20,hc_9⟩
    ·refine aD rfl hc_20 (ax (aa (vI (w64 q_14)) (aa (vI (w64 ((w64 q_14)+1))) (aa (vI (w64 ((w64 q_14)+1))) (af ?_)))))
     obtain rfl:=ae hc_9
     exact aS (k_3,((w64 ((w64 q_14)+1)),s_8.2)) hL_10 (ls_ _) rfl (aJ rfl)
    ·refine aB rfl hc_20 (ax (aa (vI (w64 q_14)) (aa (vI (w64 q_14)) (af ?_))))
     obtain rfl:=ae hc_9
     exact aS (k_3,(s_8.1,(w64 q_14))) hL_10 (ls_ _) rfl (aJ rfl)
   ·refine aB rfl hc_13 (aU ?_)
    obtain rfl:=ae hc_9
    obtain rfl:=ae hL_10
    exact aV ((s_8.1,s_8.2)) rfl rfl (aJ rfl)
 ·rintro s_8 ho_ sl_ H_ hp_ hq_
  subst ho_
  refine aO _ hp_ hq_ (au ?_)
  obtain ⟨v_21,h_22,hF⟩:=bind_some hF
  refine aQ [(4,(vI s_8.1)),(5,(vB v_21))] [] ?_ ?_
  ·refine ax (aa (vI s_8.1) (aa (vI s_8.1) (aa (vI (x_1.length:Int)) (aa (vB (decide (s_8.1<(x_1.length:Int)))) ?_))))
   rcases ak h_22 with⟨hc_23,h_22⟩|⟨hc_23,h_22⟩
   ·refine aH rfl hc_23 wz (aK (vL eI x_1) wa rfl (aK (vI s_8.1) wa rfl ?_))
    obtain ⟨y_24,hy_25,h_22⟩:=bind_some h_22
    refine eU iW rfl rfl hy_25 rfl wa (bI sz3 ag3 rfl (vI y_24) rfl wa (aK (vI target_2) wa rfl (aK (vB (y_24==target_2)) wa rfl ?_)))
    rcases ak h_22 with⟨hc_26,h_22⟩|⟨hc_26,h_22⟩
    ·refine aH rfl hc_26 wa (ah (ah (ah (ah (ah (ah (cO (wn rfl rfl) (cO (wn rfl rfl) (ah (aK (vB true) wa rfl (aa (vB true) (aa (vI s_8.1) (aa (vB true) (af ?_))))))))))))))
     obtain rfl:=ae h_22
     exact cu
    ·refine aH rfl hc_26 wa (aK (vL eI x_1) wa rfl (aK (vI s_8.1) wa rfl ?_))
     obtain ⟨y_27,hy_28,h_22⟩:=bind_some h_22
     refine eU iW rfl rfl hy_28 rfl wa (bI sz3 ag3 rfl (vI y_27) rfl wa ?_)
     obtain ⟨r_29,hr_30,h_22⟩:=bind_some h_22
     refine aF (qp hr_30) rfl hb170 rfl rfl rfl rfl wa ?_
     rcases ak h_22 with⟨hc_31,h_22⟩|⟨hc_31,h_22⟩
     ·refine aH rfl hc_31 wa (aK (vI target_2) wa rfl ?_)
      obtain ⟨r_32,hr_33,h_22⟩:=bind_some h_22
      refine aF (qp hr_33) rfl hb170 rfl rfl rfl rfl wa (aK (vB r_32) wa rfl (aK (vB r_32) wa rfl (aa (vB r_32) (aa (vI s_8.1) (aa (vB r_32) (af ?_))))))
      obtain rfl:=ae h_22
      exact cu
     ·refine aH rfl hc_31 wa (ah (ah (aK (vB false) wa rfl (aK (vB false) wa rfl (aa (vB false) (aa (vI s_8.1) (aa (vB false) (af ?_))))))))
      obtain rfl:=ae h_22
      exact cu
   ·refine aH rfl hc_23 wz (ah (ah (ah (ah (ah (ah (ah (cO (wn rfl rfl) (cO (wn rfl rfl) (cO (wn rfl rfl) (cO (wn rfl rfl) (cO (wn rfl rfl) (cO (wn rfl rfl) (cO (wn rfl rfl) (cO (wn rfl rfl) (cO (wn rfl rfl) (ah (aa (vB false) (aa (vI s_8.1) (aa (vB false) (af ?_)))))))))))))))))))))
    obtain rfl:=ae h_22
    exact cu
  ·rintro ⟨⟩ _ sl_ H_ hp_ hq_
   refine aO _ hp_ hq_ ?_
   obtain rfl:=ae hF
   exact aC (aL [(vI s_8.1),(vB v_21)] ⟨rfl,⟨rfl,trivial⟩⟩)
theorem sG {e_1:Entry} {d_2:Int} {r:Bool} (hF:lQ e_1 d_2=some r) :
  FnM Tryz.prog 97 [(.d (.agg (Entry.enc e_1))),(vI d_2)] [] (vB r) []:=by
 refine FnM.of_wH ⟨Tryz.prog,41,[],[]⟩ rfl Tryz.func97 rfl rfl (lb_ rfl) (by kernel_rfl) ?_
 unfold lQ at hF
 refine aj (bZ 0 (.inl rfl) (Entry.v e_1) rfl rfl wz (λn_3=>aa (vB false) (af (au (au ?_)))))
 obtain ⟨v_4,h_5,hF⟩:=bind_some hF
 refine aQ [(1,(vI d_2)),(2,(.ref n_3 0 0)),(31,(vB v_4))] [(n_3,some (.cells 13 (Entry.v e_1)))] ?_ ?_
 ·refine dA (aa (vI d_2) (aI rf rfl 3 rfl wz (aA 2 0 (.inr (by kernel_rfl)) (λ_ _ ag=>trivial) sz3 ag3 rfl rfl (vI e_1.First) rfl wz (aI ru rfl 4 rfl wz (aA 4 0 (.inr (by kernel_rfl)) (λ_ _ ag=>⟨.inl ⟨rfl,rfl⟩,trivial⟩) sz3 ag3 rfl rfl (vI e_1.Last) rfl wz ?_)))))
  obtain ⟨r_6,hr_7,h_5⟩:=bind_some h_5
  refine aF (fO hr_7) rfl DV rfl rfl rfl rfl wz ?_
  rcases ak h_5 with⟨hc_8,h_5⟩|⟨hc_8,h_5⟩
  ·refine aH rfl hc_8 wz (ah (ah (ah (ah (ah (ah (ah (ah (aa (vB true) (aa (vB true) (ah (ah (ah (ah (ah (ah (ah (aa (vB true) (af ?_)))))))))))))))))))
   obtain rfl:=ae h_5
   exact cu
  ·refine aH rfl hc_8 wz (aK (vI d_2) wa rfl (aI rf rfl 3 rfl wa (aA 9 0 (.inr (by kernel_rfl)) (λ_ _ ag=>⟨.inl ⟨rfl,rfl⟩,⟨.inl ⟨rfl,rfl⟩,trivial⟩⟩) sz3 ag3 rfl rfl (vI e_1.First) rfl wa (aK (vI (w64 (d_2-e_1.First))) wa rfl (aI Ec rfl 5 rfl wa (aA 12 0 (.inr (by kernel_rfl)) (λ_ _ ag=>⟨.inl ⟨rfl,rfl⟩,⟨.inl ⟨rfl,rfl⟩,⟨.inl ⟨rfl,rfl⟩,trivial⟩⟩⟩) sz3 ag3 rfl rfl (vI e_1.Every) rfl wa ?_))))))
   obtain ⟨q_9,hz_10,h_5⟩:=bind_some h_5
   refine Iz rfl rfl hz_10 wa (aK (vB (q_9 != 0)) wa rfl (aa (vB (q_9 != 0)) ?_))
   rcases ak h_5 with⟨hc_11,h_5⟩|⟨hc_11,h_5⟩
   ·refine aH rfl hc_11 wz (ah (ah (ah (ah (ah (ah (ah (aa (vB true) (af ?_)))))))))
    obtain rfl:=ae h_5
    exact cu
   ·refine aH rfl hc_11 wz (aI Ef rfl 6 rfl wa (aA 18 0 (.inr (by kernel_rfl)) (λ_ _ ag=>⟨.inl ⟨rfl,rfl⟩,⟨.inl ⟨rfl,rfl⟩,⟨.inl ⟨rfl,rfl⟩,⟨.inl ⟨rfl,rfl⟩,trivial⟩⟩⟩⟩) sz3 ag3 rfl rfl (vI e_1.Days) rfl wa (aK (vI d_2) wa rfl (aK (vI (d_2.tmod 7)) wa rfl ?_))))
    obtain ⟨q_12,hz_13,h_5⟩:=bind_some h_5
    refine h_shl rfl rfl hz_13 wa (aK (vI (xK .i64 e_1.Days q_12)) wa rfl (aK (vB ((xK .i64 e_1.Days q_12)==0)) wa rfl (aa (vB ((xK .i64 e_1.Days q_12)==0)) (af ?_))))
    obtain rfl:=ae h_5
    exact cu
 ·rintro ⟨⟩ _ sl_ H_ hp_ hq_
  refine aO _ hp_ hq_ ?_
  rcases ak hF with⟨hc_14,hF⟩|⟨hc_14,hF⟩
  ·refine aD rfl hc_14 (aj (aa (vB false) (af ?_)))
   obtain rfl:=ae hF
   exact aC (aL [(vB false)] ⟨rfl,trivial⟩)
  ·refine aB rfl hc_14 (ay (aj (aI sZ rfl 7 rfl wz (aA 0 0 il ft sV vM rfl rfl (vL eI e_1.Except) rfl wz (aa (vI d_2) ?_)))))
   obtain ⟨r_15,hr_16,hF⟩:=bind_some hF
   refine aF (o8 hr_16) rfl hb134 rfl rfl rfl rfl wz (aa (.tup [(vI r_15.1),(vB r_15.2)]) (aa (vI r_15.1) (aa (vB r_15.2) (aa (vI r_15.1) (aa (vB r_15.2) (af (aj (aa (vB r_15.2) (aa (vB (!r_15.2)) (aa (vB (!r_15.2)) (af ?_)))))))))))
   obtain rfl:=ae hF
   exact aC (aL [(vB (!r_15.2))] ⟨rfl,trivial⟩)
theorem rq {e_1:Entry} {zone_2:Int} {d_3:Int} {r:Window} (hF:kZ e_1 zone_2 d_3=some r) :
  FnM Tryz.prog 98 [(.d (.agg (Entry.enc e_1))),(vI zone_2),(vI d_3)] [] (.d (.agg (Window.enc r))) []:=by
 refine FnM.of_wH ⟨Tryz.prog,32,[],[]⟩ rfl Tryz.func98 rfl rfl (lb_ rfl) (by kernel_rfl) ?_
 unfold kZ at hF
 refine aj (bZ 0 (.inl rfl) (Entry.v e_1) rfl rfl wz (λn_4=>bR 0 (.inl rfl) z33 rfl wz (λn_5=>af (aj (aI CZ rfl 9 rfl wz (aA 0 0 il ft sz3 ag3 rfl rfl (vI e_1.To) rfl wz (aI yH rfl 8 rfl wz (aA 0 0 il ft sz3 ag3 rfl rfl (vI e_1.From) rfl wz (aa (vI (w64 (e_1.To-e_1.From))) (aa (vI (w64 (e_1.To-e_1.From))) (af (au (aj (aa (vI (w64 (e_1.To-e_1.From))) (aa (vB (decide ((w64 (e_1.To-e_1.From))<=0))) (af ?_))))))))))))))))
 obtain ⟨v_6,h_7,hF⟩:=bind_some hF
 refine aQ [(1,(vI zone_2)),(2,(vI d_3)),(3,(.ref n_4 0 0)),(6,(.ref n_5 0 0)),(7,(vI v_6))] [(n_4,some (.cells 13 (Entry.v e_1))),(n_5,some (.cells 2 [(vI 0),(vI 0)]))] ?_ ?_
 ·rcases ak h_7 with⟨hc_8,h_7⟩|⟨hc_8,h_7⟩
  ·refine aD rfl hc_8 (ax (aa (vI (w64 (e_1.To-e_1.From))) (aa (vI (w64 ((w64 (e_1.To-e_1.From))+1440))) (aa (vI (w64 ((w64 (e_1.To-e_1.From))+1440))) (af ?_)))))
   obtain rfl:=ae h_7
   exact cu
  ·refine aB rfl hc_8 (ay ?_)
   obtain rfl:=ae h_7
   exact cu
 ·rintro ⟨⟩ _ sl_ H_ hp_ hq_
  refine aO _ hp_ hq_ (aj (aa (vI d_3) (aa (vI (w64 (d_3*1440))) (aI yH rfl 8 rfl wz (aA 0 0 il ft sz3 ag3 rfl rfl (vI e_1.From) rfl wz (aa (vI (w64 ((w64 (d_3*1440))+e_1.From))) (aa (vI zone_2) (aa (vI (w64 ((w64 ((w64 (d_3*1440))+e_1.From))-zone_2))) (aa (vI (w64 ((w64 ((w64 ((w64 (d_3*1440))+e_1.From))-zone_2))*60000))) (aa (vI (w64 ((w64 ((w64 ((w64 (d_3*1440))+e_1.From))-zone_2))*60000))) (af (aj (aa (vI (w64 ((w64 ((w64 ((w64 (d_3*1440))+e_1.From))-zone_2))*60000))) (aa (vI (w64 ((w64 ((w64 ((w64 (d_3*1440))+e_1.From))-zone_2))*60000))) (aa (vI v_6) (aa (vI (w64 (v_6*60000))) (aa (vI (w64 ((w64 ((w64 ((w64 ((w64 (d_3*1440))+e_1.From))-zone_2))*60000))+(w64 (v_6*60000))))) (aK (.d (.agg (Window.enc (⟨(w64 ((w64 ((w64 ((w64 (d_3*1440))+e_1.From))-zone_2))*60000)),(w64 ((w64 ((w64 ((w64 ((w64 (d_3*1440))+e_1.From))-zone_2))*60000))+(w64 (v_6*60000))))⟩:Window)))) wz (by kernel_rfl) (eH 0 il ft 1 eX rfl rfl [(vI (w64 ((w64 ((w64 ((w64 (d_3*1440))+e_1.From))-zone_2))*60000))),(vI (w64 ((w64 ((w64 ((w64 ((w64 (d_3*1440))+e_1.From))-zone_2))*60000))+(w64 (v_6*60000)))))] rfl wz (af ?_))))))))))))))))))))
  obtain rfl:=ae hF
  exact aC (aL [(.d (.agg (Window.enc (⟨(w64 ((w64 ((w64 ((w64 (d_3*1440))+e_1.From))-zone_2))*60000)),(w64 ((w64 ((w64 ((w64 ((w64 (d_3*1440))+e_1.From))-zone_2))*60000))+(w64 (v_6*60000))))⟩:Window))))] ⟨⟨1,_,_,_,_,_,_,_,rfl,rfl,eX,iT,rfl⟩,trivial⟩)
theorem rX {e_1:Entry} {zone_2:Int} {wv_3:Window} {r:(List Window)} (hF:gK e_1 zone_2 wv_3=some r) :
  FnM Tryz.prog 68 [(.d (.agg (Entry.enc e_1))),(vI zone_2),(.d (.agg (Window.enc wv_3)))] [] (vL Window.enc r) []:=by
 refine FnM.of_wH ⟨Tryz.prog,72,[],[]⟩ rfl Tryz.func68 rfl rfl (lb_ rfl) (by kernel_rfl) ?_
 unfold gK at hF
 refine aj (bZ 0 (.inl rfl) (Entry.v e_1) rfl rfl wz (λn_4=>bZ 0 (.inl rfl) [(vI wv_3.From),(vI wv_3.To)] rfl rfl wz (λn_5=>aa .nil (af (aj (aa .nil (af (au (au ?_)))))))))
 obtain ⟨v_6,h_7,hF⟩:=bind_some hF
 refine aQ [(1,(vI zone_2)),(3,(.ref n_4 0 0)),(5,(.ref n_5 0 0)),(7,.nil),(20,(vB v_6))] [(n_4,some (.cells 13 (Entry.v e_1))),(n_5,some (.cells 2 [(vI wv_3.From),(vI wv_3.To)]))] ?_ ?_
 ·refine ax (aI Ce rfl 12 rfl wz (aA 0 0 il ft sz4 ag4 rfl rfl (vB e_1.Gone) rfl wz ?_))
  rcases ak h_7 with⟨hc_8,h_7⟩|⟨hc_8,h_7⟩
  ·refine aH rfl hc_8 wz (ah (ah (ah (ah (ah (aa (vB true) (af ?_)))))))
   obtain rfl:=ae h_7
   exact cu
  ·refine aH rfl hc_8 wz (aI gm rfl 0 rfl wa (aA 0 1 il ft sz3 ag3 rfl rfl (vI wv_3.From) rfl wa (aI gN rfl 1 rfl wa (aA 0 1 il ft sz3 ag3 rfl rfl (vI wv_3.To) rfl wa (aK (vB (decide (wv_3.From>=wv_3.To))) wa rfl (aa (vB (decide (wv_3.From>=wv_3.To))) (af ?_)))))))
   obtain rfl:=ae h_7
   exact cu
 ·rintro ⟨⟩ _ sl_ H_ hp_ hq_
  refine aO _ hp_ hq_ ?_
  rcases ak hF with⟨hc_9,hF⟩|⟨hc_9,hF⟩
  ·refine aD rfl hc_9 (aj (aa .nil (af ?_)))
   obtain rfl:=ae hF
   exact aC (aL [.nil] ⟨rfl,trivial⟩)
  ·refine aB rfl hc_9 (ay (aj (aI gm rfl 0 rfl wz (aA 0 1 il ft sz3 ag3 rfl rfl (vI wv_3.From) rfl wz (aa (vI zone_2) (aa (vI (w64 (zone_2*60000))) (aa (vI (w64 (wv_3.From+(w64 (zone_2*60000))))) (aa (vI (w64 ((w64 (wv_3.From+(w64 (zone_2*60000)))).tdiv 86400000))) (aa (vI (w64 ((w64 ((w64 (wv_3.From+(w64 (zone_2*60000)))).tdiv 86400000))-2))) (aa (vI (w64 ((w64 ((w64 (wv_3.From+(w64 (zone_2*60000)))).tdiv 86400000))-2))) (af (aj (aI gN rfl 1 rfl wz (aA 0 1 il ft sz3 ag3 rfl rfl (vI wv_3.To) rfl wz (aa (vI zone_2) (aa (vI (w64 (zone_2*60000))) (aa (vI (w64 (wv_3.To+(w64 (zone_2*60000))))) (aa (vI (w64 ((w64 (wv_3.To+(w64 (zone_2*60000)))).tdiv 86400000))) (aa (vI (w64 ((w64 ((w64 (wv_3.To+(w64 (zone_2*60000)))).tdiv 86400000))+1))) (aa (vI (w64 ((w64 ((w64 (wv_3.To+(w64 (zone_2*60000)))).tdiv 86400000))+1))) (af (au (aj ?_)))))))))))))))))))))))
   refine aa (vI (w64 ((w64 ((w64 (wv_3.From+(w64 (zone_2*60000)))).tdiv 86400000))-2))) (aI rf rfl 3 rfl wz (aA 0 0 il ft sz3 ag3 rfl rfl (vI e_1.First) rfl wz (pO (vI (j5 (w64 ((w64 ((w64 (wv_3.From+(w64 (zone_2*60000)))).tdiv 86400000))-2)) e_1.First)) rfl (.inr rfl) wz (aa (vI (j5 (w64 ((w64 ((w64 (wv_3.From+(w64 (zone_2*60000)))).tdiv 86400000))-2)) e_1.First)) (af (kz (λn_16 => ?_)))))))
   obtain ⟨o_21,hj_22,hF⟩:=bind_some hF
   obtain ⟨nq_40,hj_22⟩:=dZ hj_22
   refine uE (σ:=(List Window)×Int) (N:=Nm) (λp=>(λ(s_15:(List Window)×Int) (n_18:Nm)=>([(7,(gV n_18 2 s_15.1))]:SL_)) p.1 p.2) (λp=>(λ(s_15:(List Window)×Int) (n_18:Nm)=>([(n_4,some (.cells 13 (Entry.v e_1))),(n_5,some (.cells 2 [(vI wv_3.From),(vI wv_3.To)])),(n_18,gB 2 Window.enc s_15.1)]:Hp)) p.1 p.2) (λ(k_10:Nat)=>(λp=>(λ(s_15:(List Window)×Int) (n_18:Nm)=>([(1,(vI zone_2)),(3,(.ref n_4 0 0)),(5,(.ref n_5 0 0)),(7,(gV n_18 2 s_15.1)),(9,(vI (w64 ((w64 ((w64 (wv_3.To+(w64 (zone_2*60000)))).tdiv 86400000))+1)))),(10,(vI s_15.2))]:SL_)) p.1 p.2)) (λs=>dL wv_3 zone_2 e_1 s) o_21 nq_40 ((([]:List Window),(j5 (w64 ((w64 ((w64 (wv_3.From+(w64 (zone_2*60000)))).tdiv 86400000))-2)) e_1.First)),n_16) hj_22 rfl (aJ rfl) ?_ ?_
   ·rintro ⟨k_10,s_15,n_18⟩ hL_20
    dsimp only at hL_20
    cases k_10 with
    | zero=>cases hL_20
    | succ k_10 =>
     obtain ⟨c_,hc_19,hL_20⟩:=bind_some hL_20
     unfold dL at hc_19
     refine au (aj (aa (vI s_15.2) (aa (vI (w64 ((w64 ((w64 (wv_3.To+(w64 (zone_2*60000)))).tdiv 86400000))+1))) (aI ru rfl 4 rfl wz (aA 0 0 il ft sz3 ag3 rfl rfl (vI e_1.Last) rfl wz (pO (vI (kG (w64 ((w64 ((w64 (wv_3.To+(w64 (zone_2*60000)))).tdiv 86400000))+1)) e_1.Last)) rfl (.inl rfl) wz (aa (vB (decide (s_15.2<=(kG (w64 ((w64 ((w64 (wv_3.To+(w64 (zone_2*60000)))).tdiv 86400000))+1)) e_1.Last)))) (af ?_))))))))
     rcases ak hc_19 with⟨hc_23,hc_19⟩|⟨hc_23,hc_19⟩
     ·refine aD rfl hc_23 (ay (au (aN (au (aj (aA 0 0 il ft iZ kK rfl rfl (.d (.agg (Entry.enc e_1))) rfl wz (aa (vI s_15.2) ?_)))))))
      obtain ⟨r_24,hr_25,hc_19⟩:=bind_some hc_19
      refine aF (sG hr_25) rfl hb97 rfl rfl rfl rfl wz (aa (vB (!r_24)) (af ?_))
      rcases ak hc_19 with⟨hc_26,hc_19⟩|⟨hc_26,hc_19⟩
      ·refine aD rfl hc_26 (aU (ax (aa (vI s_15.2) (aa (vI (w64 (s_15.2+1))) (aa (vI (w64 (s_15.2+1))) (af ?_))))))
       obtain rfl:=ae hc_19
       exact aS (k_10,(s_15.1,(w64 (s_15.2+1))),n_18) hL_20 (ls_ _) rfl (aJ rfl)
      ·refine aB rfl hc_26 (ay (aj (aA 0 0 il ft iZ kK rfl rfl (.d (.agg (Entry.enc e_1))) rfl wz (aa (vI zone_2) (aa (vI s_15.2) ?_)))))
       obtain ⟨r_27,hr_28,hc_19⟩:=bind_some hc_19
       refine aF (rq hr_28) rfl hb98 rfl rfl rfl rfl wz (bR 0 (.inl rfl) z33 rfl wz (λn_29=>eH 0 il ft 3 eX rfl rfl [(vI r_27.From),(vI r_27.To)] rfl wz (af (au ?_))))
       obtain ⟨v_30,h_31,hc_19⟩:=bind_some hc_19
       refine aQ [(1,(vI zone_2)),(3,(.ref n_4 0 0)),(5,(.ref n_5 0 0)),(7,(gV n_18 2 s_15.1)),(9,(vI (w64 ((w64 ((w64 (wv_3.To+(w64 (zone_2*60000)))).tdiv 86400000))+1)))),(10,(vI s_15.2)),(11,(.ref n_29 0 0)),(66,(vB v_30))] [(n_4,some (.cells 13 (Entry.v e_1))),(n_5,some (.cells 2 [(vI wv_3.From),(vI wv_3.To)])),(n_18,gB 2 Window.enc s_15.1),(n_29,some (.cells 2 [(vI r_27.From),(vI r_27.To)]))] ?_ ?_
       ·refine ax (aI gm rfl 0 rfl wz (aA 0 3 il ft sz3 ag3 rfl rfl (vI r_27.From) rfl wz (aI gN rfl 1 rfl wz (aA 0 1 il ft sz3 ag3 rfl rfl (vI wv_3.To) rfl wz (aa (vB (decide (r_27.From<wv_3.To))) ?_)))))
        rcases ak h_31 with⟨hc_32,h_31⟩|⟨hc_32,h_31⟩
        ·refine aH rfl hc_32 wz (aI gN rfl 1 rfl wa (aA 0 3 il ft sz3 ag3 rfl rfl (vI r_27.To) rfl wa (aI gm rfl 0 rfl wa (aA 0 1 il ft sz3 ag3 rfl rfl (vI wv_3.From) rfl wa (aK (vB (decide (r_27.To>wv_3.From))) wa rfl (aa (vB (decide (r_27.To>wv_3.From))) (af ?_)))))))
         obtain rfl:=ae h_31
         exact cu
        ·refine aH rfl hc_32 wz (ah (ah (ah (ah (ah (aa (vB false) (af ?_)))))))
         obtain rfl:=ae h_31
         exact cu
       ·rintro ⟨⟩ _ sl_ H_ hp_ hq_
        refine aO _ hp_ hq_ ?_
        obtain ⟨v_33,h_34,hc_19⟩:=bind_some hc_19
        refine jO (β:=Nm) (λ(n_35:Nm)=>([(1,(vI zone_2)),(3,(.ref n_4 0 0)),(5,(.ref n_5 0 0)),(7,(gV n_35 2 v_33)),(9,(vI (w64 ((w64 ((w64 (wv_3.To+(w64 (zone_2*60000)))).tdiv 86400000))+1)))),(10,(vI s_15.2))]:SL_)) (λ(n_35:Nm)=>([(n_4,some (.cells 13 (Entry.v e_1))),(n_5,some (.cells 2 [(vI wv_3.From),(vI wv_3.To)])),(n_35,gB 2 Window.enc v_33),(n_29,some (.cells 2 [(vI r_27.From),(vI r_27.To)]))]:Hp)) (λ_=>True) ?_ ?_
        ·rcases ak h_34 with⟨hc_36,h_34⟩|⟨hc_36,h_34⟩
         ·refine aD rfl hc_36 (ax (aa (gV n_18 2 s_15.1) (aA 0 3 il ft eX iT rfl rfl (.d (.agg (Window.enc r_27))) rfl wz (dU (([r_27]:List Window).map Window.enc) AU Ng rfl rfl rfl rfl rfl wz ?_))))
          obtain ⟨a_37,hz_38,h_34⟩:=bind_some h_34
          refine kI 0 il ft (i:=2) Es Es eX z33 rfl (by decide) ME (by decide) (λ_=>rfl) rfl rfl rfl hz_38 wz (λn_39=>aa (gV n_39 2 a_37) (af ?_))
          obtain rfl:=ae h_34
          exact aV n_39 trivial rfl (aJ rfl)
         ·refine aB rfl hc_36 (ay ?_)
          obtain rfl:=ae h_34
          exact aV n_18 trivial rfl (aJ rfl)
        ·rintro n_35 _ sl_ H_ hp_ hq_
         refine aO _ hp_ hq_ (ax (aa (vI s_15.2) (aa (vI (w64 (s_15.2+1))) (aa (vI (w64 (s_15.2+1))) (af ?_)))))
         obtain rfl:=ae hc_19
         exact aS (k_10,(v_33,(w64 (s_15.2+1))),n_35) hL_20 (ls_ _) rfl (aJ rfl)
     ·refine aB rfl hc_23 (aU ?_)
      obtain rfl:=ae hc_19
      obtain rfl:=ae hL_20
      exact aV ((s_15.1,s_15.2),n_18) rfl rfl (aJ rfl)
   ·rintro ⟨s_15,n_18⟩ ho_ sl_ H_ hp_ hq_
    subst ho_
    refine aO _ hp_ hq_ (aj (aa (gV n_18 2 s_15.1) (aa (gV n_18 2 s_15.1) (af (iw 2 rfl (dJ 6 2 rfl rfl (dJ 7 2 rfl rfl (dJ 71 2 rfl rfl ?_))))))))
    obtain rfl:=ae hF
    exact aC (aL [(vL Window.enc s_15.1)] ⟨rfl,trivial⟩)
end Go.Proofs.YthcdokkcamcnmaaGreatDoor.Law

