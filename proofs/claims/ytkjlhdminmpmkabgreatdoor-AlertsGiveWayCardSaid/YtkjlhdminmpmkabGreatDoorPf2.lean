/-
 The machine computes these plain functions (written by a program of ours).
-/
import Derived.Test.YtkjlhdminmpmkabGreatDoorFacts
import Derived.Test.YtkjlhdminmpmkabGreatDoorDefs
import Derived.Test.YtkjlhdminmpmkabGreatDoorPf1
open Go Go.Eng Go.Proofs
namespace Go.Proofs.YtkjlhdminmpmkabGreatDoor.Law
set_option maxRecDepth 100000
set_option linter.unusedVariables false
set_option maxHeartbeats 1000000
theorem zf {a_1:Alert} {r:Int} (hF:fO a_1=some r) :
  FnM Tryz.prog 46 [(.d (.agg (Alert.enc a_1)))] [] (vI r) []:=by
 refine FnM.of_wH ⟨Tryz.prog,92,[],[]⟩ rfl Tryz.func46 rfl rfl (lb_ rfl) (by kernel_rfl) ?_
 unfold fO at hF
 refine ai (gQ 0 (.inl rfl) (Alert.v a_1) rfl rfl wz (λn_2=>aa (vI 0) (ah (ak (ak ?_)))))
 obtain ⟨v_3,h_4,hF⟩:=bind_some hF
 refine aP [(1,(.ref n_2 0 0)),(17,(vB v_3))] [(n_2,some (.cells 9 (Alert.v a_1)))] ?_ ?_
 ·refine au (aG jA rfl 0 rfl wz (aC 0 0 il ft sz9 ag9 rfl rfl (vS a_1.Id) rfl wz ?_))
  obtain ⟨r_5,hr_6,h_4⟩:=bind_some h_4
  refine aF (iy hr_6) rfl Ep rfl rfl rfl rfl wz (aa (vB (!r_5)) ?_)
  rcases aj h_4 with⟨hc_7,h_4⟩|⟨hc_7,h_4⟩
  ·refine aB rfl hc_7 wz (af (af (af (af (aa (vB true) (ah ?_))))))
   obtain rfl:=ae h_4
   exact cu
  ·refine aB rfl hc_7 wz (aG x8 rfl 1 rfl wa (aC 0 0 il ft sz9 ag9 rfl rfl (vS a_1.Sender) rfl wa ?_))
   obtain ⟨r_8,hr_9,h_4⟩:=bind_some h_4
   refine aF (iy hr_9) rfl Ep rfl rfl rfl rfl wa (aJ (vB (!r_8)) wa rfl (aa (vB (!r_8)) (ah ?_)))
   obtain rfl:=ae h_4
   exact cu
 ·rintro ⟨⟩ _ sl_ H_ hp_ hq_
  refine aN _ hp_ hq_ ?_
  rcases aj hF with⟨hc_10,hF⟩|⟨hc_10,hF⟩
  ·refine ay rfl hc_10 (ai (aa (vI 5) (ah ?_)))
   obtain rfl:=ae hF
   exact aA (aK [(vI 5)] ⟨rfl,trivial⟩)
  ·refine ax rfl hc_10 (av (ak (ai (aG uQ rfl 2 rfl wz (aC 0 0 il ft sz3 ag3 rfl rfl (vI a_1.Kind) rfl wz ?_)))))
   obtain ⟨r_11,hr_12,hF⟩:=bind_some hF
   refine aF (bB hr_12) rfl sW rfl rfl rfl rfl wz (ah ?_)
   rcases aj hF with⟨hc_13,hF⟩|⟨hc_13,hF⟩
   ·refine ay rfl hc_13 (ai (aa (vI 4) (ah ?_)))
    obtain rfl:=ae hF
    exact aA (aK [(vI 4)] ⟨rfl,trivial⟩)
   ·refine ax rfl hc_13 (av (ak (ai (aC 0 0 il ft eO jo rfl rfl (.d (.agg (Alert.enc a_1))) rfl wz ?_))))
    obtain ⟨r_14,hr_15,hF⟩:=bind_some hF
    refine aF (zT hr_15) rfl hb83 rfl rfl rfl rfl wz (aa (vI r_14) (ah (ai (aa (vI r_14) (aa (vB (r_14 != 0)) (ah ?_))))))
    rcases aj hF with⟨hc_16,hF⟩|⟨hc_16,hF⟩
    ·refine ay rfl hc_16 (ai (aa (vI r_14) (aa (vI r_14) (ah ?_))))
     obtain rfl:=ae hF
     exact aA (aK [(vI r_14)] ⟨rfl,trivial⟩)
    ·refine ax rfl hc_16 (av (ak (ak ?_)))
     obtain ⟨v_17,h_18,hF⟩:=bind_some hF
     refine aP [(1,(.ref n_2 0 0)),(45,(vB v_17))] [(n_2,some (.cells 9 (Alert.v a_1)))] ?_ ?_
     ·refine au (aG kz rfl 4 rfl wz (aC 0 0 il ft sz3 ag3 rfl rfl (vI a_1.At) rfl wz ?_))
      obtain ⟨r_19,hr_20,h_18⟩:=bind_some h_18
      refine aF (iC hr_20) rfl KF rfl rfl rfl rfl wz (aa (vB (!r_19)) ?_)
      rcases aj h_18 with⟨hc_21,h_18⟩|⟨hc_21,h_18⟩
      ·refine aB rfl hc_21 wz (af (af (af (af (af (af (af (af (af (aa (vB true) (aa (vB true) (af (af (af (aa (vB true) (ah ?_))))))))))))))))
       obtain rfl:=ae h_18
       exact cu
      ·refine aB rfl hc_21 wz (aG Ah rfl 5 rfl wa (aC 0 0 il ft sz3 ag3 rfl rfl (vI a_1.Until) rfl wa (aG kz rfl 4 rfl wa (aC 0 0 il ft sz3 ag3 rfl rfl (vI a_1.At) rfl wa (aJ (vI (w64 (a_1.At+1))) wa rfl (aG kz rfl 4 rfl wa (aC 0 0 il ft sz3 ag3 rfl rfl (vI a_1.At) rfl wa (aJ (vI (w64 (a_1.At+2592000000))) wa rfl ?_))))))))
       obtain ⟨r_22,hr_23,h_18⟩:=bind_some h_18
       refine aF (bB hr_23) rfl sW rfl rfl rfl rfl wa (aa (vB r_22) ?_)
       rcases aj h_18 with⟨hc_24,h_18⟩|⟨hc_24,h_18⟩
       ·refine aB rfl hc_24 wz (af (af (af (aa (vB true) (ah ?_)))))
        obtain rfl:=ae h_18
        exact cu
       ·refine aB rfl hc_24 wz (aG Iy rfl 6 rfl wa (aC 0 0 il ft sz3 ag3 rfl rfl (vI a_1.Weight) rfl wa ?_))
        obtain ⟨r_25,hr_26,h_18⟩:=bind_some h_18
        refine aF (bB hr_26) rfl sW rfl rfl rfl rfl wa (aa (vB r_25) (ah ?_))
        obtain rfl:=ae h_18
        exact cu
     ·rintro ⟨⟩ _ sl_ H_ hp_ hq_
      refine aN _ hp_ hq_ ?_
      rcases aj hF with⟨hc_27,hF⟩|⟨hc_27,hF⟩
      ·refine ay rfl hc_27 (ai (aa (vI 1) (ah ?_)))
       obtain rfl:=ae hF
       exact aA (aK [(vI 1)] ⟨rfl,trivial⟩)
      ·refine ax rfl hc_27 (av (ak (ai (aG sI rfl 7 rfl wz (aC 0 0 il ft Ch EC rfl rfl (vL Rect.enc a_1.Areas) rfl wz (bG xL rfl wz (aa (vB (decide ((a_1.Areas.length:Int)>20))) (ah ?_))))))))
       rcases aj hF with⟨hc_28,hF⟩|⟨hc_28,hF⟩
       ·refine ay rfl hc_28 (ai (aa (vI 2) (ah ?_)))
        obtain rfl:=ae hF
        exact aA (aK [(vI 2)] ⟨rfl,trivial⟩)
       ·refine ax rfl hc_28 (av (ak (ai (aG sI rfl 7 rfl wz (aC 0 0 il ft Ch EC rfl rfl (vL Rect.enc a_1.Areas) rfl wz (bG xL rfl wz (aa (vI 0) (ah ?_))))))))
        obtain ⟨o_37,hj_38,hF⟩:=bind_some hF
        obtain ⟨hn_33,hj_38⟩:=aX hj_38
        refine bP (λ(s_34:Unit)=>[(1,(.ref n_2 0 0))]) (λ(s_34:Unit)=>[(n_2,some (.cells 9 (Alert.v a_1)))]) (λ(k_29:Nat)=>(λ(s_34:Unit)=>[(1,(.ref n_2 0 0)),(51,(vL Rect.enc a_1.Areas)),(52,(vI (a_1.Areas.length:Int))),(53,(vI (k_29:Int)))])) (λk x s=>dU k x s) o_37 a_1.Areas () hj_38 rfl (aH rfl) ?_ ?_
        ·rintro ⟨k_29,l_30,s_34⟩ ⟨hL_36,hD_32⟩
         dsimp only at hL_36 hD_32
         cases l_30 with
         | nil =>
          obtain rfl:=ae hL_36
          refine ai (aa (vB (decide ((k_29:Int)<(a_1.Areas.length:Int)))) (ah ?_))
          refine ak (ax rfl (drop_nil hD_32) (aW ?_))
          exact aS (s_34) rfl rfl (aH rfl)
         | cons x_31 l_30 =>
          obtain ⟨c_,hc_35,hL_36⟩:=bind_some hL_36
          refine ai (aa (vB (decide ((k_29:Int)<(a_1.Areas.length:Int)))) (ah ?_))
          refine ak (ay rfl (aZ hD_32) (av ?_))
          unfold dU at hc_35
          refine ak (aL (ai (dY Au rfl rfl (bz hD_32) rfl wz (bI q8 Du rfl (.d (.agg (Rect.enc x_31))) rfl wz (dC 0 (.inl rfl) z53 rfl wz (λn_39=>fB 0 il ft 1 q8 rfl rfl (Rect.v x_31) rfl wz (ah (ai (aC 0 1 il ft q8 Du rfl rfl (.d (.agg (Rect.enc x_31))) rfl wz ?_)))))))))
          obtain ⟨r_40,hr_41,hc_35⟩:=bind_some hc_35
          refine aF (rR hr_41) rfl hb84 rfl rfl rfl rfl wz (aa (vI r_40) (ah (ai (aa (vI r_40) (aa (vB (r_40 != 0)) (ah ?_))))))
          rcases aj hc_35 with⟨hc_42,hc_35⟩|⟨hc_42,hc_35⟩
          ·refine ay rfl hc_42 (ai (aa (vI r_40) (aa (vI r_40) (ah ?_))))
           obtain rfl:=ae hc_35
           obtain rfl:=ae hL_36
           obtain rfl:=ae hF
           exact aA (aK [(vI r_40)] ⟨rfl,trivial⟩)
          ·refine ax rfl hc_42 (av (au (dZ (bn hD_32 hn_33) wz rfl (aa (vI ((k_29+1:Nat):Int)) (ah ?_)))))
           obtain rfl:=ae hc_35
           exact aU (k_29+1,l_30,()) ⟨hL_36,aR hD_32⟩ (ls_ _) rfl (aH rfl)
        ·rintro s_34 ho_ sl_ H_ hp_ hq_
         subst ho_
         refine aN _ hp_ hq_ (ai (aG uQ rfl 2 rfl wz (aC 0 0 il ft sz3 ag3 rfl rfl (vI a_1.Kind) rfl wz (aa (vB (a_1.Kind==3)) (aa (vB (a_1.Kind==3)) (ah (ak (aL (ai (aa (vB (a_1.Kind==3)) (aG sI rfl 7 rfl wz (aC 0 0 il ft Ch EC rfl rfl (vL Rect.enc a_1.Areas) rfl wz (bG xL rfl wz (aa (vB ((a_1.Areas.length:Int)==0)) (BH un4 rfl rfl wz (aa (vB (!((a_1.Kind==3)==((a_1.Areas.length:Int)==0)))) (ah ?_)))))))))))))))))
         rcases aj hF with⟨hc_43,hF⟩|⟨hc_43,hF⟩
         ·refine ay rfl hc_43 (ai (aa (vI 3) (ah ?_)))
          obtain rfl:=ae hF
          exact aA (aK [(vI 3)] ⟨rfl,trivial⟩)
         ·refine ax rfl hc_43 (ai (aG yK rfl 8 rfl wz (aC 0 0 il ft sz9 ag9 rfl rfl (vS a_1.Text) rfl wz (xn un9 rfl wz (aa (vB (decide ((a_1.Text.size:Int)>500))) (aa (vB (decide ((a_1.Text.size:Int)>500))) (ah ?_)))))))
          rcases aj hF with⟨hc_44,hF⟩|⟨hc_44,hF⟩
          ·refine ay rfl hc_44 (ai (aa (vI 2) (ah ?_)))
           obtain rfl:=ae hF
           exact aA (aK [(vI 2)] ⟨rfl,trivial⟩)
          ·refine ax rfl hc_44 (ak ?_)
           obtain ⟨v_45,h_46,hF⟩:=bind_some hF
           refine aP [(78,(vB v_45))] [(n_2,some (.cells 9 (Alert.v a_1)))] ?_ ?_
           ·refine au (aG yK rfl 8 rfl wz (aC 0 0 il ft sz9 ag9 rfl rfl (vS a_1.Text) rfl wz ?_))
            obtain ⟨r_47,hr_48,h_46⟩:=bind_some h_46
            refine aF (FT hr_48) rfl hb85 rfl rfl rfl rfl wz (aa (vB (!r_47)) ?_)
            rcases aj h_46 with⟨hc_49,h_46⟩|⟨hc_49,h_46⟩
            ·refine aB rfl hc_49 wz (af (af (af (af (dx (wn rfl rfl) (dx (wn rfl rfl) (af (aa (vB true) (aa (vB true) (ah ?_))))))))))
             obtain rfl:=ae h_46
             exact cu
            ·refine aB rfl hc_49 wz (aG yK rfl 8 rfl wa (aC 0 0 il ft sz9 ag9 rfl rfl (vS a_1.Text) rfl wa (aJ (vB (sEq a_1.Text (⟨#[]⟩:ByteArray))) wa rfl ?_)))
             rcases aj h_46 with⟨hc_50,h_46⟩|⟨hc_50,h_46⟩
             ·refine aB rfl hc_50 wa (aJ (vB (a_1.Kind==3)) wa rfl (aJ (vB (!(a_1.Kind==3))) wa rfl (aJ (vB (!(a_1.Kind==3))) wa rfl (aa (vB (!(a_1.Kind==3))) (aa (vB (!(a_1.Kind==3))) (ah ?_))))))
              obtain rfl:=ae h_46
              exact cu
             ·refine aB rfl hc_50 wa (af (af (aJ (vB false) wa rfl (aa (vB false) (aa (vB false) (ah ?_))))))
              obtain rfl:=ae h_46
              exact cu
           ·rintro ⟨⟩ _ sl_ H_ hp_ hq_
            refine aN _ hp_ hq_ ?_
            rcases aj hF with⟨hc_51,hF⟩|⟨hc_51,hF⟩
            ·refine ay rfl hc_51 (ai (aa (vI 3) (ah ?_)))
             obtain rfl:=ae hF
             exact aA (aK [(vI 3)] ⟨rfl,trivial⟩)
            ·refine ax rfl hc_51 (av (ai (aa (vI 0) (ah ?_))))
             obtain rfl:=ae hF
             exact aA (aK [(vI 0)] ⟨rfl,trivial⟩)
theorem nD {x_1:Int} {r:Bool} (hF:cmp_isNaN_int x_1=some r) :
  FnM Tryz.prog 86 [(vI x_1)] [] (vB r) []:=by
 refine FnM.of_wH ⟨Tryz.prog,6,[],[]⟩ rfl Tryz.func86 rfl rfl (lb_ rfl) (by kernel_rfl) ?_
 unfold cmp_isNaN_int at hF
 refine ai (aa (vB false) (ah (ai (aa (vI x_1) (aa (vI x_1) (aa (vB (x_1 != x_1)) (aa (vB (x_1 != x_1)) (ah ?_))))))))
 obtain rfl:=ae hF
 exact aA (aK [(vB (x_1 != x_1))] ⟨rfl,trivial⟩)
theorem tQ {x_1:Int} {y_2:Int} {r:Int} (hF:cmp_Compare_int x_1 y_2=some r) :
  FnM Tryz.prog 52 [(vI x_1),(vI y_2)] [] (vI r) []:=by
 refine FnM.of_wH ⟨Tryz.prog,20,[],[]⟩ rfl Tryz.func52 rfl rfl (lb_ rfl) (by kernel_rfl) ?_
 unfold cmp_Compare_int at hF
 refine ai (aa (vI 0) (ah (ai (aa (vI x_1) ?_))))
 obtain ⟨r_3,hr_4,hF⟩:=bind_some hF
 refine aF (nD hr_4) rfl hb86 rfl rfl rfl rfl wz (aa (vB r_3) (ah (ai (aa (vI y_2) ?_))))
 obtain ⟨r_5,hr_6,hF⟩:=bind_some hF
 refine aF (nD hr_6) rfl hb86 rfl rfl rfl rfl wz (aa (vB r_5) (ah (ak (ai (aa (vB r_3) (ah ?_))))))
 rcases aj hF with⟨hc_7,hF⟩|⟨hc_7,hF⟩
 ·refine ay rfl hc_7 (ak (ai (aa (vB r_5) (ah ?_))))
  rcases aj hF with⟨hc_8,hF⟩|⟨hc_8,hF⟩
  ·refine ay rfl hc_8 (ai (aa (vI 0) (ah ?_)))
   obtain rfl:=ae hF
   exact aA (aK [(vI 0)] ⟨rfl,trivial⟩)
  ·refine ax rfl hc_8 (av (ai (aa (vI (-1)) (ah ?_))))
   obtain rfl:=ae hF
   exact aA (aK [(vI (-1))] ⟨rfl,trivial⟩)
 ·refine ax rfl hc_7 (av (ak (ai (aa (vB r_5) (ah ?_)))))
  rcases aj hF with⟨hc_9,hF⟩|⟨hc_9,hF⟩
  ·refine ay rfl hc_9 (ai (aa (vI 1) (ah ?_)))
   obtain rfl:=ae hF
   exact aA (aK [(vI 1)] ⟨rfl,trivial⟩)
  ·refine ax rfl hc_9 (av (ak (ai (aa (vI x_1) (aa (vI y_2) (aa (vB (decide (x_1<y_2))) (ah ?_)))))))
   rcases aj hF with⟨hc_10,hF⟩|⟨hc_10,hF⟩
   ·refine ay rfl hc_10 (ai (aa (vI (-1)) (ah ?_)))
    obtain rfl:=ae hF
    exact aA (aK [(vI (-1))] ⟨rfl,trivial⟩)
   ·refine ax rfl hc_10 (av (ak (ai (aa (vI x_1) (aa (vI y_2) (aa (vB (decide (x_1>y_2))) (ah ?_)))))))
    rcases aj hF with⟨hc_11,hF⟩|⟨hc_11,hF⟩
    ·refine ay rfl hc_11 (ai (aa (vI 1) (ah ?_)))
     obtain rfl:=ae hF
     exact aA (aK [(vI 1)] ⟨rfl,trivial⟩)
    ·refine ax rfl hc_11 (av (ai (aa (vI 0) (ah ?_))))
     obtain rfl:=ae hF
     exact aA (aK [(vI 0)] ⟨rfl,trivial⟩)
theorem o5 {a_1:ByteArray} {b_2:ByteArray} {r:Int} (hF:iL a_1 b_2=some r) :
  FnM Tryz.prog 87 [(vS a_1),(vS b_2)] [] (vI r) []:=by
 refine FnM.of_wH ⟨Tryz.prog,8,[],[]⟩ rfl Tryz.func87 rfl rfl (lb_ rfl) (by kernel_rfl) ?_
 unfold iL at hF
 refine ai (aa (vI 0) (ah (ai (aa (vS a_1) (aa (vS b_2) (h_ext (Qb (f:=124) Tryz.func124 rfl rfl (by kernel_rfl) (by kernel_rfl) _ _) rfl nb124 rfl wz (aa (vI (Em a_1 b_2)) (ah ?_))))))))
 obtain rfl:=ae hF
 exact aA (aK [(vI (Em a_1 b_2))] ⟨rfl,trivial⟩)
theorem sU {a_1:ByteArray} {b_2:ByteArray} {r:Int} (hF:strings_Compare a_1 b_2=some r) :
  FnM Tryz.prog 53 [(vS a_1),(vS b_2)] [] (vI r) []:=by
 refine FnM.of_wH ⟨Tryz.prog,8,[],[]⟩ rfl Tryz.func53 rfl rfl (lb_ rfl) (by kernel_rfl) ?_
 unfold strings_Compare at hF
 refine ai (aa (vI 0) (ah (ai (aa (vS a_1) (aa (vS b_2) ?_)))))
 obtain ⟨r_3,hr_4,hF⟩:=bind_some hF
 refine aF (o5 hr_4) rfl hb87 rfl rfl rfl rfl wz (aa (vI r_3) (ah ?_))
 obtain rfl:=ae hF
 exact aA (aK [(vI r_3)] ⟨rfl,trivial⟩)
theorem zy {vals_1:(List Int)} {r:Int} (hF:qd vals_1=some r) :
  FnM Tryz.prog 51 [(vL eI vals_1)] [] (vI r) []:=by
 refine FnM.of_wH ⟨Tryz.prog,18,[],[]⟩ rfl Tryz.func51 rfl rfl (lb_ rfl) (by kernel_rfl) ?_
 unfold qd at hF
 refine ai (aa (vI 0) (ah (ai (aa (vI 0) (ah (ak (ai (aa (vL eI vals_1) (bG vJ rfl wz (aa (vI 0) (ah ?_)))))))))))
 obtain ⟨o_10,hj_11,hF⟩:=bind_some hF
 obtain ⟨hn_6,hj_11⟩:=aX hj_11
 refine bP (λ(s_7:Unit)=>[(3,(vI 0))]) (λ(s_7:Unit)=>[]) (λ(k_2:Nat)=>(λ(s_7:Unit)=>[(3,(vI 0)),(6,(vL eI vals_1)),(7,(vI (vals_1.length:Int))),(8,(vI (k_2:Int)))])) (λk x s=>qy k x s) o_10 vals_1 () hj_11 rfl (aH rfl) ?_ ?_
 ·rintro ⟨k_2,l_3,s_7⟩ ⟨hL_9,hD_5⟩
  dsimp only at hL_9 hD_5
  cases l_3 with
  | nil =>
   obtain rfl:=ae hL_9
   refine ai (aa (vB (decide ((k_2:Int)<(vals_1.length:Int)))) (ah ?_))
   refine ak (ax rfl (drop_nil hD_5) (aW ?_))
   exact aS (s_7) rfl rfl (aH rfl)
  | cons x_4 l_3 =>
   obtain ⟨c_,hc_8,hL_9⟩:=bind_some hL_9
   refine ai (aa (vB (decide ((k_2:Int)<(vals_1.length:Int)))) (ah ?_))
   refine ak (ay rfl (aZ hD_5) (av ?_))
   unfold qy at hc_8
   refine ak (aL (ai (dY ni rfl rfl (bz hD_5) rfl wz (bI sz3 ag3 rfl (vI x_4) rfl wz (aa (vI x_4) (ah (ai (aa (vI x_4) (aa (vI 0) (aa (vB (x_4 != 0)) (ah ?_)))))))))))
   rcases aj hc_8 with⟨hc_12,hc_8⟩|⟨hc_12,hc_8⟩
   ·refine ay rfl hc_12 (ai (aa (vI x_4) (aa (vI x_4) (ah ?_))))
    obtain rfl:=ae hc_8
    obtain rfl:=ae hL_9
    obtain rfl:=ae hF
    exact aA (aK [(vI x_4)] ⟨rfl,trivial⟩)
   ·refine ax rfl hc_12 (av (au (dZ (bn hD_5 hn_6) wz rfl (aa (vI ((k_2+1:Nat):Int)) (ah ?_)))))
    obtain rfl:=ae hc_8
    exact aU (k_2+1,l_3,()) ⟨hL_9,aR hD_5⟩ (ls_ _) rfl (aH rfl)
 ·rintro s_7 ho_ sl_ H_ hp_ hq_
  subst ho_
  refine aN _ hp_ hq_ (ai (aa (vI 0) (aa (vI 0) (ah ?_))))
  obtain rfl:=ae hF
  exact aA (aK [(vI 0)] ⟨rfl,trivial⟩)
theorem qp {a_1:Alert} {b_2:Alert} {r:Int} (hF:gL a_1 b_2=some r) :
  FnM Tryz.prog 29 [(.d (.agg (Alert.enc a_1))),(.d (.agg (Alert.enc b_2)))] [] (vI r) []:=by
 refine FnM.of_wH ⟨Tryz.prog,17,[],[]⟩ rfl Tryz.func29 rfl rfl (lb_ rfl) (by kernel_rfl) ?_
 unfold gL at hF
 refine ai (gQ 0 (.inl rfl) (Alert.v a_1) rfl rfl wz (λn_3=>gQ 0 (.inl rfl) (Alert.v b_2) rfl rfl wz (λn_4=>aa (vI 0) (ah (ak (bC (aG kz rfl 4 rfl wz (aC 1 0 (.inr (by kernel_rfl)) (λ_ _ ag=>trivial) sz3 ag3 rfl rfl (vI a_1.At) rfl wz (aG kz rfl 4 rfl wz (aC 3 1 (.inr (by kernel_rfl)) (λ_ _ ag=>⟨.inl ⟨rfl,rfl⟩,trivial⟩) sz3 ag3 rfl rfl (vI b_2.At) rfl wz ?_))))))))))
 obtain ⟨r_5,hr_6,hF⟩:=bind_some hF
 refine aF (tQ hr_6) rfl hb52 rfl rfl rfl rfl wz (aG jA rfl 0 rfl wz (aC 6 0 (.inr (by kernel_rfl)) (λ_ _ ag=>⟨.inl ⟨rfl,rfl⟩,⟨.inl ⟨rfl,rfl⟩,trivial⟩⟩) sz9 ag9 rfl rfl (vS a_1.Id) rfl wz (aG jA rfl 0 rfl wz (aC 8 1 (.inr (by kernel_rfl)) (λ_ _ ag=>⟨.inl ⟨rfl,rfl⟩,⟨.inl ⟨rfl,rfl⟩,⟨.inl ⟨rfl,rfl⟩,trivial⟩⟩⟩) sz9 ag9 rfl rfl (vS b_2.Id) rfl wz ?_))))
 obtain ⟨r_7,hr_8,hF⟩:=bind_some hF
 refine aF (sU hr_8) rfl hb53 rfl rfl rfl rfl wz (eT (([r_5,r_7]:List Int).map eI) ni BG rfl rfl rfl rfl rfl wz ?_)
 obtain ⟨r_9,hr_10,hF⟩:=bind_some hF
 refine aF (zy hr_10) rfl hb51 rfl rfl rfl rfl wz (aa (vI r_9) (ah ?_))
 obtain rfl:=ae hF
 exact aA (aK [(vI r_9)] ⟨rfl,trivial⟩)
theorem jQ {l_1:(List Alert)} {r:Int} (hF:bW l_1=some r) :
  FnM Tryz.prog 25 [(vL Alert.enc l_1)] [] (vI r) []:=by
 refine FnM.of_wH ⟨Tryz.prog,52,[],[]⟩ rfl Tryz.func25 rfl rfl (lb_ rfl) (by kernel_rfl) ?_
 unfold bW at hF
 refine ai (aa (vI 0) (ah (ak (ai (aa (vL Alert.enc l_1) (bG tq rfl wz (aa (vB (decide ((l_1.length:Int)>300))) (ah ?_))))))))
 rcases aj hF with⟨hc_2,hF⟩|⟨hc_2,hF⟩
 ·refine ay rfl hc_2 (ai (aa (vI 2) (ah ?_)))
  obtain rfl:=ae hF
  exact aA (aK [(vI 2)] ⟨rfl,trivial⟩)
 ·refine ax rfl hc_2 (av (ak (ai (aa (vL Alert.enc l_1) (bG tq rfl wz (aa (vI 0) (ah ?_)))))))
  obtain ⟨o_11,hj_12,hF⟩:=bind_some hF
  obtain ⟨hn_7,hj_12⟩:=aX hj_12
  refine bP (λ(s_8:Unit)=>[(0,(vL Alert.enc l_1))]) (λ(s_8:Unit)=>[]) (λ(k_3:Nat)=>(λ(s_8:Unit)=>[(0,(vL Alert.enc l_1)),(12,(vL Alert.enc l_1)),(13,(vI (l_1.length:Int))),(14,(vI (k_3:Int)))])) (λk x s=>fG l_1 k x s) o_11 l_1 () hj_12 rfl (aH rfl) ?_ ?_
  ·rintro ⟨k_3,l_4,s_8⟩ ⟨hL_10,hD_6⟩
   dsimp only at hL_10 hD_6
   cases l_4 with
   | nil =>
    obtain rfl:=ae hL_10
    refine ai (aa (vB (decide ((k_3:Int)<(l_1.length:Int)))) (ah ?_))
    refine ak (ax rfl (drop_nil hD_6) (aW ?_))
    exact aS (s_8) rfl rfl (aH rfl)
   | cons x_5 l_4 =>
    obtain ⟨c_,hc_9,hL_10⟩:=bind_some hL_10
    refine ai (aa (vB (decide ((k_3:Int)<(l_1.length:Int)))) (ah ?_))
    refine ak (ay rfl (aZ hD_6) (av ?_))
    unfold fG at hc_9
    refine ak (aL (ai (aa (vI (k_3:Int)) (dY mo rfl rfl (bz hD_6) rfl wz (bI eO jo rfl (.d (.agg (Alert.enc x_5))) rfl wz (dC 0 (.inl rfl) z32 rfl wz (λn_13=>aa (vI (k_3:Int)) (fB 0 il ft 0 eO rfl rfl (Alert.v x_5) rfl wz (ah (ak (ai (aC 0 0 il ft eO jo rfl rfl (.d (.agg (Alert.enc x_5))) rfl wz ?_))))))))))))
    obtain ⟨r_14,hr_15,hc_9⟩:=bind_some hc_9
    refine aF (zf hr_15) rfl hb46 rfl rfl rfl rfl wz (aa (vI r_14) (ah (ai (aa (vI r_14) (aa (vB (r_14 != 0)) (ah ?_))))))
    rcases aj hc_9 with⟨hc_16,hc_9⟩|⟨hc_16,hc_9⟩
    ·refine ay rfl hc_16 (ai (aa (vI r_14) (aa (vI r_14) (ah ?_))))
     obtain rfl:=ae hc_9
     obtain rfl:=ae hL_10
     obtain rfl:=ae hF
     exact aA (aK [(vI r_14)] ⟨rfl,trivial⟩)
    ·refine ax rfl hc_16 (av (ak ?_))
     obtain ⟨v_17,h_18,hc_9⟩:=bind_some hc_9
     refine aP [(0,(vL Alert.enc l_1)),(12,(vL Alert.enc l_1)),(13,(vI (l_1.length:Int))),(14,(vI (k_3:Int))),(35,(vB v_17))] [(n_13,some (.cells 9 (Alert.v x_5)))] ?_ ?_
     ·refine bC (aa (vI (k_3:Int)) (aa (vB (decide ((k_3:Int)>0))) ?_))
      rcases aj h_18 with⟨hc_19,h_18⟩|⟨hc_19,h_18⟩
      ·refine aB rfl hc_19 wz (aJ (vL Alert.enc l_1) wa rfl (aJ (vI (k_3:Int)) wa rfl (aJ (vI (w64 ((k_3:Int)-1))) wa rfl ?_)))
       obtain ⟨y_20,hy_21,h_18⟩:=bind_some h_18
       refine dY mo rfl rfl hy_21 rfl wa (bI eO jo rfl (.d (.agg (Alert.enc y_20))) rfl wa (aC 8 0 (.inr (by kernel_rfl)) (λ_ _ ag=>trivial) eO jo rfl rfl (.d (.agg (Alert.enc x_5))) rfl wa ?_))
       obtain ⟨r_22,hr_23,h_18⟩:=bind_some h_18
       refine aF (qp hr_23) rfl hb29 rfl rfl rfl rfl wa (aJ (vB (decide (r_22>=0))) wa rfl (aa (vB (decide (r_22>=0))) (ah ?_)))
       obtain rfl:=ae h_18
       exact cu
      ·refine aB rfl hc_19 wz (af (af (af (af (af (af (af (af (aa (vB false) (ah ?_))))))))))
       obtain rfl:=ae h_18
       exact cu
     ·rintro ⟨⟩ _ sl_ H_ hp_ hq_
      refine aN _ hp_ hq_ ?_
      rcases aj hc_9 with⟨hc_24,hc_9⟩|⟨hc_24,hc_9⟩
      ·refine ay rfl hc_24 (ai (aa (vI 7) (ah ?_)))
       obtain rfl:=ae hc_9
       obtain rfl:=ae hL_10
       obtain rfl:=ae hF
       exact aA (aK [(vI 7)] ⟨rfl,trivial⟩)
      ·refine ax rfl hc_24 (av (au (dZ (bn hD_6 hn_7) wz rfl (aa (vI ((k_3+1:Nat):Int)) (ah ?_)))))
       obtain rfl:=ae hc_9
       exact aU (k_3+1,l_4,()) ⟨hL_10,aR hD_6⟩ (ls_ _) rfl (aH rfl)
  ·rintro s_8 ho_ sl_ H_ hp_ hq_
   subst ho_
   refine aN _ hp_ hq_ (ai (Ip 0 (.inl rfl) wz (λn_25=>QN (b':=some (bM D.str D.bool ([]:List (ByteArray×Bool)))) 0 rfl rfl (aa (.map n_25) (ah (ak (ai (aa (vL Alert.enc l_1) (bG tq rfl wz (aa (vI 0) (ah ?_)))))))))))
   obtain ⟨o_34,hj_35,hF⟩:=bind_some hF
   obtain ⟨hn_30,hj_35⟩:=aX hj_35
   refine bP (λ(s_31:(List (ByteArray×Bool)))=>[]) (λ(s_31:(List (ByteArray×Bool)))=>[(n_25,some (bM D.str D.bool s_31))]) (λ(k_26:Nat)=>(λ(s_31:(List (ByteArray×Bool)))=>[(6,(.map n_25)),(38,(vL Alert.enc l_1)),(39,(vI (l_1.length:Int))),(40,(vI (k_26:Int)))])) (λk x s=>fE k x s) o_34 l_1 ([]:List (ByteArray×Bool)) hj_35 rfl (aH rfl) ?_ ?_
   ·rintro ⟨k_26,l_27,s_31⟩ ⟨hL_33,hD_29⟩
    dsimp only at hL_33 hD_29
    cases l_27 with
    | nil =>
     obtain rfl:=ae hL_33
     refine ai (aa (vB (decide ((k_26:Int)<(l_1.length:Int)))) (ah ?_))
     refine ak (ax rfl (drop_nil hD_29) (aW ?_))
     exact aS (s_31) rfl rfl (aH rfl)
    | cons x_28 l_27 =>
     obtain ⟨c_,hc_32,hL_33⟩:=bind_some hL_33
     refine ai (aa (vB (decide ((k_26:Int)<(l_1.length:Int)))) (ah ?_))
     refine ak (ay rfl (aZ hD_29) (av ?_))
     unfold fE at hc_32
     refine ak (aL (ai (dY mo rfl rfl (bz hD_29) rfl wz (bI eO jo rfl (.d (.agg (Alert.enc x_28))) rfl wz (dC 0 (.inl rfl) z32 rfl wz (λn_36=>fB 0 il ft 1 eO rfl rfl (Alert.v x_28) rfl wz (ah (ak (ai (aa (.map n_25) (aG jA rfl 0 rfl wz (aC 0 1 il ft sz9 ag9 rfl rfl (vS x_28.Id) rfl wz (EY (eq:=eqS) (kD:=D.str) (vD:=D.bool) (es:=s_31) (k:=x_28.Id) (z:=false) 0 0 il ft (λ_ _=>rfl) mt98 (by kernel_rfl) (by kernel_rfl) rfl rfl rfl (vB ((kw eqS s_31 x_28.Id).getD false)) rfl wz (ah ?_))))))))))))))
     rcases aj hc_32 with⟨hc_37,hc_32⟩|⟨hc_37,hc_32⟩
     ·refine ay rfl hc_37 (ai (aa (vI 6) (ah ?_)))
      obtain rfl:=ae hc_32
      obtain rfl:=ae hL_33
      obtain rfl:=ae hF
      exact aA (aK [(vI 6)] ⟨rfl,trivial⟩)
     ·refine ax rfl hc_37 (av (au (aa (.map n_25) (aG jA rfl 0 rfl wz (aC 0 1 il ft sz9 ag9 rfl rfl (vS x_28.Id) rfl wz (FJ (eq:=eqS) (kD:=D.str) (vD:=D.bool) (es:=s_31) (k:=x_28.Id) (v:=true) 0 0 il ft (λ_ _=>rfl) mt98 (by kernel_rfl) rfl rfl rfl rfl wz (ah (au (dZ (bn hD_29 hn_30) wz rfl (aa (vI ((k_26+1:Nat):Int)) (ah ?_)))))))))))
      obtain rfl:=ae hc_32
      exact aU (k_26+1,l_27,(pR eqS s_31 x_28.Id true)) ⟨hL_33,aR hD_29⟩ (ls_ _) rfl (aH rfl)
   ·rintro s_31 ho_ sl_ H_ hp_ hq_
    subst ho_
    refine aN _ hp_ hq_ (ai (aa (vI 0) (ah ?_)))
    obtain rfl:=ae hF
    exact aA (aK [(vI 0)] ⟨rfl,trivial⟩)
theorem nQ {n_1:Int} {r:Bool} (hF:dG n_1=some r) :
  FnM Tryz.prog 47 [.nil,(vI n_1)] [] (kV r (aD 0) 9 ([]:List Alert)) (kO r 9):=by
 refine FnM.of_wH ⟨Tryz.prog,27,[],[]⟩ rfl Tryz.func47 rfl rfl (lb_ rfl) (by kernel_rfl) ?_
 unfold dG at hF
 refine ai (aa .nil (ah (ak (ai (aa (vI n_1) (aa (vB (decide (n_1<0))) (ah ?_)))))))
 rcases aj hF with⟨hc_2,hF⟩|⟨hc_2,hF⟩
 ·refine ay rfl hc_2 (au ?_)
  cases hF
 ·refine ax rfl hc_2 (av (ak (ai (aa (vI n_1) (aa .nil (IB yo rfl wz (aa .nil (Iz tq rfl wz (aa (vI (w64 (0-0))) (aa (vI (w64 (n_1-(w64 (0-0))))) (aa (vI (w64 (n_1-(w64 (0-0))))) (ah (ai (aa (vI (w64 (n_1-(w64 (0-0))))) (aa (vB (decide ((w64 (n_1-(w64 (0-0))))>0))) (ah ?_))))))))))))))))
  rcases aj hF with⟨hc_3,hF⟩|⟨hc_3,hF⟩
  ·refine ay rfl hc_3 (au (aa .nil (aa .nil (IB yo rfl wz (aJ .nil wz (by kernel_rfl) (aa (vI (w64 (n_1-(w64 (0-0))))) ?_))))))
   obtain ⟨_,hz_5,hF⟩:=bind_some hF
   refine OO (enc:=Alert.enc) 0 (.inl rfl) yo (by kernel_rfl) eO z32 rfl (by decide) J5 rfl rfl hz_5 wz (λn_4=>aa .nil (Iz tq rfl wz (QC (m:=0) tq eO rfl rfl rfl (Nat.zero_le _) wz (aa (.vs n_4 9 0 0) (ah (ai (aa (.vs n_4 9 0 0) (aa (.vs n_4 9 0 0) (ah ?_)))))))))
   obtain rfl:=ae hF
   exact aA (finK (.inr rfl) 0 rfl rfl)
  ·refine ax rfl hc_3 (av (ai (aa .nil (aa .nil (ah ?_)))))
   obtain rfl:=ae hF
   exact aA (finK0 (.inr rfl) rfl)
theorem nN {slices_1:(List (List Alert))} {r:(List Alert)} (hF:dF slices_1=some r) :
  FnM Tryz.prog 26 [(vL (eL Alert.enc) slices_1)] [] (vL Alert.enc r) []:=by
 refine FnM.of_wH ⟨Tryz.prog,36,[],[]⟩ rfl Tryz.func26 rfl rfl (lb_ rfl) (by kernel_rfl) ?_
 unfold dF at hF
 refine ai (aa .nil (ah (ai (aa (vI 0) (ah (ak (ai (aa (vL (eL Alert.enc) slices_1) (bG un99 rfl wz (aa (vI 0) (ah ?_)))))))))))
 obtain ⟨o_10,hj_11,hF⟩:=bind_some hF
 obtain ⟨hn_6,hj_11⟩:=aX hj_11
 refine bP (λ(s_7:Int)=>[(0,(vL (eL Alert.enc) slices_1)),(3,(vI s_7))]) (λ(s_7:Int)=>[]) (λ(k_2:Nat)=>(λ(s_7:Int)=>[(0,(vL (eL Alert.enc) slices_1)),(3,(vI s_7)),(9,(vL (eL Alert.enc) slices_1)),(10,(vI (slices_1.length:Int))),(11,(vI (k_2:Int)))])) (λk x s=>bv k x s) o_10 slices_1 0 hj_11 rfl (aH rfl) ?_ ?_
 ·rintro ⟨k_2,l_3,s_7⟩ ⟨hL_9,hD_5⟩
  dsimp only at hL_9 hD_5
  cases l_3 with
  | nil =>
   obtain rfl:=ae hL_9
   refine ai (aa (vB (decide ((k_2:Int)<(slices_1.length:Int)))) (ah ?_))
   refine ak (ax rfl (drop_nil hD_5) (aW ?_))
   exact aS (s_7) rfl rfl (aH rfl)
  | cons x_4 l_3 =>
   obtain ⟨c_,hc_8,hL_9⟩:=bind_some hL_9
   refine ai (aa (vB (decide ((k_2:Int)<(slices_1.length:Int)))) (ah ?_))
   refine ak (ay rfl (aZ hD_5) (av ?_))
   unfold bv at hc_8
   refine ak (aL (ai (dY es99 rfl rfl (bz hD_5) rfl wz (bI sz26 ag26 rfl (vL Alert.enc x_4) rfl wz (aa (vL Alert.enc x_4) (ah (ai (aa (vI s_7) (aa (vL Alert.enc x_4) (bG tq rfl wz (aa (vI (w64 (s_7+(x_4.length:Int)))) (aa (vI (w64 (s_7+(x_4.length:Int)))) (ah (ai (aa (vI (w64 (s_7+(x_4.length:Int)))) (aa (vB (decide ((w64 (s_7+(x_4.length:Int)))<0))) (ah ?_)))))))))))))))))
   obtain ⟨v_12,h_13,hc_8⟩:=bind_some hc_8
   refine aP [(0,(vL (eL Alert.enc) slices_1)),(3,(vI (w64 (s_7+(x_4.length:Int))))),(9,(vL (eL Alert.enc) slices_1)),(10,(vI (slices_1.length:Int))),(11,(vI (k_2:Int)))] [] ?_ ?_
   ·rcases aj h_13 with⟨hc_14,h_13⟩|⟨hc_14,h_13⟩
    ·refine ay rfl hc_14 (au ?_)
     cases h_13
    ·refine ax rfl hc_14 (av ?_)
     obtain rfl:=ae h_13
     exact cu
   ·rintro ⟨⟩ _ sl_ H_ hp_ hq_
    refine aN _ hp_ hq_ (au (dZ (bn hD_5 hn_6) wz rfl (aa (vI ((k_2+1:Nat):Int)) (ah ?_))))
    obtain rfl:=ae hc_8
    exact aU (k_2+1,l_3,(w64 (s_7+(x_4.length:Int)))) ⟨hL_9,aR hD_5⟩ (ls_ _) rfl (aH rfl)
 ·rintro s_7 ho_ sl_ H_ hp_ hq_
  subst ho_
  refine aN _ hp_ hq_ (ai (aa (vI s_7) ?_))
  obtain ⟨b_15,hr_16,hF⟩:=bind_some hF
  refine MR (enc:=Alert.enc) (nQ hr_16) rfl hb47 (by kernel_rfl) rfl (by kernel_rfl) wz (λn_17=>aa (kV b_15 n_17 9 ([]:List Alert)) (ah (ak (ai (aa (vL (eL Alert.enc) slices_1) (bG un99 rfl wz (aa (vI 0) (ah ?_))))))))
  obtain ⟨o_28,hj_29,hF⟩:=bind_some hF
  obtain ⟨hn_22,hj_29⟩:=aX hj_29
  refine ic (σ:=(List Alert)) (N:=Nm) (λp=>(λ(s_23:List Alert) (n_25:Nm)=>([(6,(kV b_15 n_25 9 s_23))]:SL_)) p.1 p.2) (λp=>(λ(s_23:List Alert) (n_25:Nm)=>([(n_25,kB b_15 9 Alert.enc s_23)]:Hp)) p.1 p.2) (λ(k_18:Nat)=>(λp=>(λ(s_23:List Alert) (n_25:Nm)=>([(6,(kV b_15 n_25 9 s_23)),(25,(vL (eL Alert.enc) slices_1)),(26,(vI (slices_1.length:Int))),(27,(vI (k_18:Int)))]:SL_)) p.1 p.2)) (λk x s=>bu k x s) o_28 slices_1 (([]:List Alert),n_17) hj_29 rfl (aH rfl) ?_ ?_
  ·rintro ⟨k_18,l_19,s_23,n_25⟩ ⟨hL_27,hD_21⟩
   dsimp only at hL_27 hD_21
   cases l_19 with
   | nil =>
    obtain rfl:=ae hL_27
    refine ai (aa (vB (decide ((k_18:Int)<(slices_1.length:Int)))) (ah ?_))
    refine ak (ax rfl (drop_nil hD_21) (aW ?_))
    exact aS (s_23,n_25) rfl rfl (aH rfl)
   | cons x_20 l_19 =>
    obtain ⟨c_,hc_26,hL_27⟩:=bind_some hL_27
    refine ai (aa (vB (decide ((k_18:Int)<(slices_1.length:Int)))) (ah ?_))
    refine ak (ay rfl (aZ hD_21) (av ?_))
    unfold bu at hc_26
    refine ak (aL (ai (dY es99 rfl rfl (bz hD_21) rfl wz (bI sz26 ag26 rfl (vL Alert.enc x_20) rfl wz (aa (vL Alert.enc x_20) (ah (au (aa (kV b_15 n_25 9 s_23) (aa (vL Alert.enc x_20) ?_)))))))))
    obtain ⟨a_30,hz_31,hc_26⟩:=bind_some hc_26
    refine Pv 0 il ft (i:=0) yo yo eO z32 rfl (by decide) J5 (by decide) (λ_=>rfl) rfl rfl rfl hz_31 wz (λn_32=>aa (kV b_15 n_32 9 a_30) (ah (au (dZ (bn hD_21 hn_22) wz rfl (aa (vI ((k_18+1:Nat):Int)) (ah ?_))))))
    obtain rfl:=ae hc_26
    exact aU (k_18+1,l_19,a_30,n_32) ⟨hL_27,aR hD_21⟩ (ls_ _) rfl (aH rfl)
  ·rintro ⟨s_23,n_25⟩ ho_ sl_ H_ hp_ hq_
   subst ho_
   refine aN _ hp_ hq_ (ai (aa (kV b_15 n_25 9 s_23) (aa (kV b_15 n_25 9 s_23) (ah (Kv 0 rfl (BJ 2 0 rfl rfl (BJ 6 0 rfl rfl (BJ 35 0 rfl rfl ?_))))))))
   obtain rfl:=ae hF
   exact aA (aK [(vL Alert.enc s_23)] ⟨rfl,trivial⟩)
theorem qU {s_1:(List ByteArray)} {r:(List ByteArray)} (hF:iw s_1=some r) :
  FnM Tryz.prog 48 [(vL eS s_1)] [] (vL eS r) []:=by
 refine FnM.of_wH ⟨Tryz.prog,8,[],[]⟩ rfl Tryz.func48 rfl rfl (lb_ rfl) (by kernel_rfl) ?_
 unfold iw at hF
 refine ai (aa .nil (ah (ak (ai (aa (vL eS s_1) (Mv uT rfl wz (λb_2 hb_3=>ah ?_)))))))
 cases b_2 with
 | true =>
  refine ay rfl rfl ?_
  obtain rfl:=hb_3 rfl
  replace hF:=GZ hF
  refine ai (aa .nil (ah ?_))
  obtain rfl:=ae hF
  exact aA (aK [.nil] ⟨rfl,trivial⟩)
 | false =>
  refine ax rfl rfl (av (ai (Ph nM Dr rfl wz (aa (vL eS s_1) ?_))))
  obtain ⟨a_4,hz_5,hF⟩:=bind_some hF
  refine QJ 0 (.inl rfl) Ga Ga sz9 z9 rfl (by decide) by9 (by decide) (λ_=>rfl) rfl rfl hz_5 wz (λn_6=>aa (gV n_6 1 a_4) (ah (gK 0 rfl (dE 2 0 rfl rfl (dE 7 0 rfl rfl ?_)))))
  obtain rfl:=ae hF
  exact aA (aK [(vL eS a_4)] ⟨rfl,trivial⟩)
theorem oW {s_1:(List Rect)} {r:(List Rect)} (hF:fQ s_1=some r) :
  FnM Tryz.prog 49 [(vL Rect.enc s_1)] [] (vL Rect.enc r) []:=by
 refine FnM.of_wH ⟨Tryz.prog,8,[],[]⟩ rfl Tryz.func49 rfl rfl (lb_ rfl) (by kernel_rfl) ?_
 unfold fQ at hF
 refine ai (aa .nil (ah (ak (ai (aa (vL Rect.enc s_1) (Mv xL rfl wz (λb_2 hb_3=>ah ?_)))))))
 cases b_2 with
 | true =>
  refine ay rfl rfl ?_
  obtain rfl:=hb_3 rfl
  replace hF:=GZ hF
  refine ai (aa .nil (ah ?_))
  obtain rfl:=ae hF
  exact aA (aK [.nil] ⟨rfl,trivial⟩)
 | false =>
  refine ax rfl rfl (av (ai (Ph Au PN rfl wz (aa (vL Rect.enc s_1) ?_))))
  obtain ⟨a_4,hz_5,hF⟩:=bind_some hF
  refine QJ 0 (.inl rfl) El El q8 z53 rfl (by decide) O5 (by decide) (λ_=>rfl) rfl rfl hz_5 wz (λn_6=>aa (gV n_6 4 a_4) (ah (gK 0 rfl (dE 2 0 rfl rfl (dE 7 0 rfl rfl ?_)))))
  obtain rfl:=ae hF
  exact aA (aK [(vL Rect.enc a_4)] ⟨rfl,trivial⟩)
theorem Fs {a_1:Alert} {r:Alert} (hF:qK a_1=some r) :
  FnM Tryz.prog 27 [(.d (.agg (Alert.enc a_1)))] [] (.d (.agg (Alert.enc r))) []:=by
 refine FnM.of_wH ⟨Tryz.prog,12,[],[]⟩ rfl Tryz.func27 rfl rfl (lb_ rfl) (by kernel_rfl) ?_
 unfold qK at hF
 refine ai (gQ 0 (.inl rfl) (Alert.v a_1) rfl rfl wz (λn_2=>dC 0 (.inl rfl) z32 rfl wz (λn_3=>ah (ak (bC (aG nJ rfl 3 rfl wz (aC 1 0 (.inr (by kernel_rfl)) (λ_ _ ag=>trivial) xK zW rfl rfl (vL eS a_1.Refs) rfl wz ?_)))))))
 obtain ⟨r_4,hr_5,hF⟩:=bind_some hF
 refine aF (qU hr_5) rfl hb48 rfl rfl rfl rfl wz (aG sI rfl 7 rfl wz (aC 4 0 (.inr (by kernel_rfl)) (λ_ _ ag=>⟨.inl ⟨rfl,rfl⟩,trivial⟩) Ch EC rfl rfl (vL Rect.enc a_1.Areas) rfl wz ?_))
 obtain ⟨r_6,hr_7,hF⟩:=bind_some hF
 refine aF (oW hr_7) rfl hb49 rfl rfl rfl rfl wz (aG nJ rfl 3 rfl wz (fB 7 (.inr (by kernel_rfl)) (λ_ _ ag=>⟨.inr (.inr (by kernel_rfl)),⟨.inr (.inr (by kernel_rfl)),trivial⟩⟩) 0 xK rfl rfl [(vS a_1.Id),(vS a_1.Sender),(vI a_1.Kind),(vL eS r_4),(vI a_1.At),(vI a_1.Until),(vI a_1.Weight),(vL Rect.enc a_1.Areas),(vS a_1.Text)] rfl wz (aG sI rfl 7 rfl wz (fB 9 (.inr (by kernel_rfl)) (λ_ _ ag=>⟨.inr (.inr (by kernel_rfl)),⟨.inr (.inr (by kernel_rfl)),⟨.inr (.inr (by kernel_rfl)),trivial⟩⟩⟩) 0 Ch rfl rfl [(vS a_1.Id),(vS a_1.Sender),(vI a_1.Kind),(vL eS r_4),(vI a_1.At),(vI a_1.Until),(vI a_1.Weight),(vL Rect.enc r_6),(vS a_1.Text)] rfl wz (ah (ai (aC 0 0 il ft eO jo rfl rfl (.d (.agg (Alert.enc (⟨a_1.Id,a_1.Sender,a_1.Kind,r_4,a_1.At,a_1.Until,a_1.Weight,r_6,a_1.Text⟩:Alert)))) rfl wz (fB 0 il ft 1 eO rfl rfl [(vS a_1.Id),(vS a_1.Sender),(vI a_1.Kind),(vL eS r_4),(vI a_1.At),(vI a_1.Until),(vI a_1.Weight),(vL Rect.enc r_6),(vS a_1.Text)] rfl wz (ah ?_)))))))))
 obtain rfl:=ae hF
 exact aA (aK [(.d (.agg (Alert.enc (⟨a_1.Id,a_1.Sender,a_1.Kind,r_4,a_1.At,a_1.Until,a_1.Weight,r_6,a_1.Text⟩:Alert))))] ⟨⟨1,_,_,_,_,_,_,_,rfl,rfl,eO,jo,rfl⟩,trivial⟩)
theorem lC {s1_1:(List ByteArray)} {s2_2:(List ByteArray)} {r:Bool} (hF:cK s1_1 s2_2=some r) :
  FnM Tryz.prog 16 [(vL eS s1_1),(vL eS s2_2)] [] (vB r) []:=by
 refine FnM.of_wH ⟨Tryz.prog,26,[],[]⟩ rfl Tryz.func16 rfl rfl (lb_ rfl) (by kernel_rfl) ?_
 unfold cK at hF
 refine ai (aa (vB false) (ah (ak (ai (aa (vL eS s1_1) (bG uT rfl wz (aa (vL eS s2_2) (bG uT rfl wz (aa (vB ((s1_1.length:Int) != (s2_2.length:Int))) (ah ?_))))))))))
 rcases aj hF with⟨hc_3,hF⟩|⟨hc_3,hF⟩
 ·refine ay rfl hc_3 (ai (aa (vB false) (ah ?_)))
  obtain rfl:=ae hF
  exact aA (aK [(vB false)] ⟨rfl,trivial⟩)
 ·refine ax rfl hc_3 (av (ak (ai (aa (vL eS s1_1) (bG uT rfl wz (aa (vI 0) (ah ?_)))))))
  obtain ⟨o_12,hj_13,hF⟩:=bind_some hF
  obtain ⟨hn_8,hj_13⟩:=aX hj_13
  refine bP (λ(s_9:Unit)=>[]) (λ(s_9:Unit)=>[]) (λ(k_4:Nat)=>(λ(s_9:Unit)=>[(0,(vL eS s1_1)),(1,(vL eS s2_2)),(12,(vI (s1_1.length:Int))),(13,(vI (k_4:Int)))])) (λk x s=>bN s2_2 k x s) o_12 s1_1 () hj_13 rfl (aH rfl) ?_ ?_
  ·rintro ⟨k_4,l_5,s_9⟩ ⟨hL_11,hD_7⟩
   dsimp only at hL_11 hD_7
   cases l_5 with
   | nil =>
    obtain rfl:=ae hL_11
    refine ai (aa (vB (decide ((k_4:Int)<(s1_1.length:Int)))) (ah ?_))
    refine ak (ax rfl (drop_nil hD_7) (aW ?_))
    exact aS (s_9) rfl rfl (aH rfl)
   | cons x_6 l_5 =>
    obtain ⟨c_,hc_10,hL_11⟩:=bind_some hL_11
    refine ai (aa (vB (decide ((k_4:Int)<(s1_1.length:Int)))) (ah ?_))
    refine ak (ay rfl (aZ hD_7) (av ?_))
    unfold bN at hc_10
    refine ak (aL (ai (aa (vI (k_4:Int)) (aa (vI (k_4:Int)) (ah (ak (bC (aa (vL eS s1_1) (aa (vI (k_4:Int)) (dY nM rfl rfl (bz hD_7) rfl wz (bI sz9 ag9 rfl (vS x_6) rfl wz (aa (vL eS s2_2) (aa (vI (k_4:Int)) ?_)))))))))))))
    obtain ⟨y_14,hy_15,hc_10⟩:=bind_some hc_10
    refine dY nM rfl rfl hy_15 rfl wz (bI sz9 ag9 rfl (vS y_14) rfl wz (aa (vB (sNe x_6 y_14)) (ah ?_)))
    rcases aj hc_10 with⟨hc_16,hc_10⟩|⟨hc_16,hc_10⟩
    ·refine ay rfl hc_16 (ai (aa (vB false) (ah ?_)))
     obtain rfl:=ae hc_10
     obtain rfl:=ae hL_11
     obtain rfl:=ae hF
     exact aA (aK [(vB false)] ⟨rfl,trivial⟩)
    ·refine ax rfl hc_16 (av (au (dZ (bn hD_7 hn_8) wz rfl (aa (vI ((k_4+1:Nat):Int)) (ah ?_)))))
     obtain rfl:=ae hc_10
     exact aU (k_4+1,l_5,()) ⟨hL_11,aR hD_7⟩ (ls_ _) rfl (aH rfl)
  ·rintro s_9 ho_ sl_ H_ hp_ hq_
   subst ho_
   refine aN _ hp_ hq_ (ai (aa (vB true) (ah ?_)))
   obtain rfl:=ae hF
   exact aA (aK [(vB true)] ⟨rfl,trivial⟩)
theorem oV {s1_1:(List Rect)} {s2_2:(List Rect)} {r:Bool} (hF:dX s1_1 s2_2=some r) :
  FnM Tryz.prog 50 [(vL Rect.enc s1_1),(vL Rect.enc s2_2)] [] (vB r) []:=by
 refine FnM.of_wH ⟨Tryz.prog,26,[],[]⟩ rfl Tryz.func50 rfl rfl (lb_ rfl) (by kernel_rfl) ?_
 unfold dX at hF
 refine ai (aa (vB false) (ah (ak (ai (aa (vL Rect.enc s1_1) (bG xL rfl wz (aa (vL Rect.enc s2_2) (bG xL rfl wz (aa (vB ((s1_1.length:Int) != (s2_2.length:Int))) (ah ?_))))))))))
 rcases aj hF with⟨hc_3,hF⟩|⟨hc_3,hF⟩
 ·refine ay rfl hc_3 (ai (aa (vB false) (ah ?_)))
  obtain rfl:=ae hF
  exact aA (aK [(vB false)] ⟨rfl,trivial⟩)
 ·refine ax rfl hc_3 (av (ak (ai (aa (vL Rect.enc s1_1) (bG xL rfl wz (aa (vI 0) (ah ?_)))))))
  obtain ⟨o_12,hj_13,hF⟩:=bind_some hF
  obtain ⟨hn_8,hj_13⟩:=aX hj_13
  refine bP (λ(s_9:Unit)=>[]) (λ(s_9:Unit)=>[]) (λ(k_4:Nat)=>(λ(s_9:Unit)=>[(0,(vL Rect.enc s1_1)),(1,(vL Rect.enc s2_2)),(12,(vI (s1_1.length:Int))),(13,(vI (k_4:Int)))])) (λk x s=>bZ s2_2 k x s) o_12 s1_1 () hj_13 rfl (aH rfl) ?_ ?_
  ·rintro ⟨k_4,l_5,s_9⟩ ⟨hL_11,hD_7⟩
   dsimp only at hL_11 hD_7
   cases l_5 with
   | nil =>
    obtain rfl:=ae hL_11
    refine ai (aa (vB (decide ((k_4:Int)<(s1_1.length:Int)))) (ah ?_))
    refine ak (ax rfl (drop_nil hD_7) (aW ?_))
    exact aS (s_9) rfl rfl (aH rfl)
   | cons x_6 l_5 =>
    obtain ⟨c_,hc_10,hL_11⟩:=bind_some hL_11
    refine ai (aa (vB (decide ((k_4:Int)<(s1_1.length:Int)))) (ah ?_))
    refine ak (ay rfl (aZ hD_7) (av ?_))
    unfold bZ at hc_10
    refine ak (aL (ai (aa (vI (k_4:Int)) (aa (vI (k_4:Int)) (ah (ak (bC (aa (vL Rect.enc s1_1) (aa (vI (k_4:Int)) (dY Au rfl rfl (bz hD_7) rfl wz (bI q8 Du rfl (.d (.agg (Rect.enc x_6))) rfl wz (aa (vL Rect.enc s2_2) (aa (vI (k_4:Int)) ?_)))))))))))))
    obtain ⟨y_14,hy_15,hc_10⟩:=bind_some hc_10
    refine dY Au rfl rfl hy_15 rfl wz (bI q8 Du rfl (.d (.agg (Rect.enc y_14))) rfl wz (aJ (vB (!((x_6.X==y_14.X)&&((x_6.Y==y_14.Y)&&((x_6.W==y_14.W)&&((x_6.H==y_14.H)&&true)))))) wz (by kernel_rfl) (ah ?_)))
    rcases aj hc_10 with⟨hc_16,hc_10⟩|⟨hc_16,hc_10⟩
    ·refine ay rfl hc_16 (ai (aa (vB false) (ah ?_)))
     obtain rfl:=ae hc_10
     obtain rfl:=ae hL_11
     obtain rfl:=ae hF
     exact aA (aK [(vB false)] ⟨rfl,trivial⟩)
    ·refine ax rfl hc_16 (av (au (dZ (bn hD_7 hn_8) wz rfl (aa (vI ((k_4+1:Nat):Int)) (ah ?_)))))
     obtain rfl:=ae hc_10
     exact aU (k_4+1,l_5,()) ⟨hL_11,aR hD_7⟩ (ls_ _) rfl (aH rfl)
  ·rintro s_9 ho_ sl_ H_ hp_ hq_
   subst ho_
   refine aN _ hp_ hq_ (ai (aa (vB true) (ah ?_)))
   obtain rfl:=ae hF
   exact aA (aK [(vB true)] ⟨rfl,trivial⟩)
theorem Gb {a_1:Alert} {b_2:Alert} {r:Bool} (hF:sP a_1 b_2=some r) :
  FnM Tryz.prog 28 [(.d (.agg (Alert.enc a_1))),(.d (.agg (Alert.enc b_2)))] [] (vB r) []:=by
 refine FnM.of_wH ⟨Tryz.prog,66,[],[]⟩ rfl Tryz.func28 rfl rfl (lb_ rfl) (by kernel_rfl) ?_
 unfold sP at hF
 refine ai (gQ 0 (.inl rfl) (Alert.v a_1) rfl rfl wz (λn_3=>gQ 0 (.inl rfl) (Alert.v b_2) rfl rfl wz (λn_4=>aa (vB false) (ah (ak ?_)))))
 obtain ⟨v_5,h_6,hF⟩:=bind_some hF
 refine aP [(4,(vB v_5))] [(n_3,some (.cells 9 (Alert.v a_1))),(n_4,some (.cells 9 (Alert.v b_2)))] ?_ ?_
 ·refine au (aG jA rfl 0 rfl wz (aC 0 0 il ft sz9 ag9 rfl rfl (vS a_1.Id) rfl wz (aG jA rfl 0 rfl wz (aC 0 1 il ft sz9 ag9 rfl rfl (vS b_2.Id) rfl wz (aa (vB (sEq a_1.Id b_2.Id)) ?_)))))
  rcases aj h_6 with⟨hc_7,h_6⟩|⟨hc_7,h_6⟩
  ·refine aB rfl hc_7 wz (aG x8 rfl 1 rfl wa (aC 0 0 il ft sz9 ag9 rfl rfl (vS a_1.Sender) rfl wa (aG x8 rfl 1 rfl wa (aC 0 1 il ft sz9 ag9 rfl rfl (vS b_2.Sender) rfl wa (aJ (vB (sEq a_1.Sender b_2.Sender)) wa rfl (aa (vB (sEq a_1.Sender b_2.Sender)) ?_))))))
   rcases aj h_6 with⟨hc_8,h_6⟩|⟨hc_8,h_6⟩
   ·refine aB rfl hc_8 wz (aG uQ rfl 2 rfl wa (aC 0 0 il ft sz3 ag3 rfl rfl (vI a_1.Kind) rfl wa (aG uQ rfl 2 rfl wa (aC 0 1 il ft sz3 ag3 rfl rfl (vI b_2.Kind) rfl wa (aJ (vB (a_1.Kind==b_2.Kind)) wa rfl (aa (vB (a_1.Kind==b_2.Kind)) ?_))))))
    rcases aj h_6 with⟨hc_9,h_6⟩|⟨hc_9,h_6⟩
    ·refine aB rfl hc_9 wz (aG nJ rfl 3 rfl wa (aC 0 0 il ft xK zW rfl rfl (vL eS a_1.Refs) rfl wa (aG nJ rfl 3 rfl wa (aC 0 1 il ft xK zW rfl rfl (vL eS b_2.Refs) rfl wa ?_))))
     obtain ⟨r_10,hr_11,h_6⟩:=bind_some h_6
     refine aF (lC hr_11) rfl hb16 rfl rfl rfl rfl wa (aa (vB r_10) ?_)
     rcases aj h_6 with⟨hc_12,h_6⟩|⟨hc_12,h_6⟩
     ·refine aB rfl hc_12 wz (aG kz rfl 4 rfl wa (aC 0 0 il ft sz3 ag3 rfl rfl (vI a_1.At) rfl wa (aG kz rfl 4 rfl wa (aC 0 1 il ft sz3 ag3 rfl rfl (vI b_2.At) rfl wa (aJ (vB (a_1.At==b_2.At)) wa rfl (aa (vB (a_1.At==b_2.At)) ?_))))))
      rcases aj h_6 with⟨hc_13,h_6⟩|⟨hc_13,h_6⟩
      ·refine aB rfl hc_13 wz (aG Ah rfl 5 rfl wa (aC 0 0 il ft sz3 ag3 rfl rfl (vI a_1.Until) rfl wa (aG Ah rfl 5 rfl wa (aC 0 1 il ft sz3 ag3 rfl rfl (vI b_2.Until) rfl wa (aJ (vB (a_1.Until==b_2.Until)) wa rfl (aa (vB (a_1.Until==b_2.Until)) ?_))))))
       rcases aj h_6 with⟨hc_14,h_6⟩|⟨hc_14,h_6⟩
       ·refine aB rfl hc_14 wz (aG Iy rfl 6 rfl wa (aC 0 0 il ft sz3 ag3 rfl rfl (vI a_1.Weight) rfl wa (aG Iy rfl 6 rfl wa (aC 0 1 il ft sz3 ag3 rfl rfl (vI b_2.Weight) rfl wa (aJ (vB (a_1.Weight==b_2.Weight)) wa rfl (aa (vB (a_1.Weight==b_2.Weight)) ?_))))))
        rcases aj h_6 with⟨hc_15,h_6⟩|⟨hc_15,h_6⟩
        ·refine aB rfl hc_15 wz (aG sI rfl 7 rfl wa (aC 0 0 il ft Ch EC rfl rfl (vL Rect.enc a_1.Areas) rfl wa (aG sI rfl 7 rfl wa (aC 0 1 il ft Ch EC rfl rfl (vL Rect.enc b_2.Areas) rfl wa ?_))))
         obtain ⟨r_16,hr_17,h_6⟩:=bind_some h_6
         refine aF (oV hr_17) rfl hb50 rfl rfl rfl rfl wa (aa (vB r_16) ?_)
         rcases aj h_6 with⟨hc_18,h_6⟩|⟨hc_18,h_6⟩
         ·refine aB rfl hc_18 wz (aG yK rfl 8 rfl wa (aC 0 0 il ft sz9 ag9 rfl rfl (vS a_1.Text) rfl wa (aG yK rfl 8 rfl wa (aC 0 1 il ft sz9 ag9 rfl rfl (vS b_2.Text) rfl wa (aJ (vB (sEq a_1.Text b_2.Text)) wa rfl (aa (vB (sEq a_1.Text b_2.Text)) (aa (vB (sEq a_1.Text b_2.Text)) (ah ?_))))))))
          obtain rfl:=ae h_6
          exact cu
         ·refine aB rfl hc_18 wz (af (af (af (af (af (aa (vB false) (aa (vB false) (ah ?_))))))))
          obtain rfl:=ae h_6
          exact cu
        ·refine aB rfl hc_15 wz (af (af (af (af (af (aa (vB false) (aa (vB false) (af (af (af (af (af (aa (vB false) (aa (vB false) (ah ?_)))))))))))))))
         obtain rfl:=ae h_6
         exact cu
       ·refine aB rfl hc_14 wz (af (af (af (af (af (aa (vB false) (aa (vB false) (af (af (af (af (af (aa (vB false) (aa (vB false) (af (af (af (af (af (aa (vB false) (aa (vB false) (ah ?_))))))))))))))))))))))
        obtain rfl:=ae h_6
        exact cu
      ·refine aB rfl hc_13 wz (af (af (af (af (af (aa (vB false) (aa (vB false) (af (af (af (af (af (aa (vB false) (aa (vB false) (af (af (af (af (af (aa (vB false) (aa (vB false) (af (af ?_)))))))))))))))))))))))
       refine af (af (af (aa (vB false) (aa (vB false) (ah ?_)))))
       obtain rfl:=ae h_6
       exact cu
     ·refine aB rfl hc_12 wz (af (af (af (af (af (aa (vB false) (aa (vB false) (af (af (af (af (af (aa (vB false) (aa (vB false) (af (af (af (af (af (aa (vB false) (aa (vB false) (af (af ?_)))))))))))))))))))))))
      refine af (af (af (aa (vB false) (aa (vB false) (af (af (af (af (af (aa (vB false) (aa (vB false) (ah ?_))))))))))))
      obtain rfl:=ae h_6
      exact cu
    ·refine aB rfl hc_9 wz (af (af (af (af (af (aa (vB false) (aa (vB false) (af (af (af (af (af (aa (vB false) (aa (vB false) (af (af (af (af (af (aa (vB false) (aa (vB false) (af (af ?_)))))))))))))))))))))))
     refine af (af (af (aa (vB false) (aa (vB false) (af (af (af (af (af (aa (vB false) (aa (vB false) (af (af (af (af (af (aa (vB false) (aa (vB false) (ah ?_)))))))))))))))))))
     obtain rfl:=ae h_6
     exact cu
   ·refine aB rfl hc_8 wz (af (af (af (af (af (aa (vB false) (aa (vB false) (af (af (af (af (af (aa (vB false) (aa (vB false) (af (af (af (af (af (aa (vB false) (aa (vB false) (af (af ?_)))))))))))))))))))))))
    refine af (af (af (aa (vB false) (aa (vB false) (af (af (af (af (af (aa (vB false) (aa (vB false) (af (af (af (af (af (aa (vB false) (aa (vB false) (af (af (af (af (af ?_)))))))))))))))))))))))
    refine aa (vB false) (aa (vB false) (ah ?_))
    obtain rfl:=ae h_6
    exact cu
  ·refine aB rfl hc_7 wz (af (af (af (af (af (aa (vB false) (aa (vB false) (af (af (af (af (af (aa (vB false) (aa (vB false) (af (af (af (af (af (aa (vB false) (aa (vB false) (af (af ?_)))))))))))))))))))))))
   refine af (af (af (aa (vB false) (aa (vB false) (af (af (af (af (af (aa (vB false) (aa (vB false) (af (af (af (af (af (aa (vB false) (aa (vB false) (af (af (af (af (af ?_)))))))))))))))))))))))
   refine aa (vB false) (aa (vB false) (af (af (af (af (af (aa (vB false) (aa (vB false) (ah ?_)))))))))
   obtain rfl:=ae h_6
   exact cu
 ·rintro ⟨⟩ _ sl_ H_ hp_ hq_
  refine aN _ hp_ hq_ ?_
  obtain rfl:=ae hF
  exact aA (aK [(vB v_5)] ⟨rfl,trivial⟩)
theorem lq {data_1:(List Alert)} {a_2:Int} {b_3:Int} {r:(List Alert)} (hF:fo data_1 a_2 b_3=some r) :
  FnM Tryz.prog 72 [(dV (aD 0) 9 data_1),(vI a_2),(vI b_3),(.fn 29 [])] (([]:List Box)++gI 9 Alert.enc data_1) (.tup []) (([]:List Box).map some++gT data_1 (gB 9 Alert.enc r)):=by
 refine FnM.of_wHv ⟨Tryz.prog,53,[],[]⟩ rfl Tryz.func72 rfl rfl (lb_ rfl) (by kernel_rfl) ?_
 unfold fo at hF
 refine ai (aa (vI a_2) (aa (vI (w64 (a_2+1))) (aa (vI (w64 (a_2+1))) (ah ?_))))
 obtain ⟨o_13,hj_14,hF⟩:=bind_some hF
 obtain ⟨nq_51,hj_14⟩:=dw hj_14
 refine eZ (λ(s_10:(List Alert)×Int)=>[]) (λ(s_10:(List Alert)×Int)=>[((aD 0),gB 9 Alert.enc s_10.1)]) (λ(k_5:Nat)=>(λ(s_10:(List Alert)×Int)=>[(0,(dV (aD 0) 9 s_10.1)),(1,(vI a_2)),(2,(vI b_3)),(3,(.fn 29 [])),(8,(vI s_10.2))])) (λs=>d9 b_3 a_2 s) o_13 nq_51 (data_1,(w64 (a_2+1))) hj_14 rfl (aH rfl) ?_ ?_
 ·rintro ⟨k_5,s_10⟩ hL_12
  dsimp only at hL_12
  cases k_5 with
  | zero=>cases hL_12
  | succ k_5 =>
   obtain ⟨c_,hc_11,hL_12⟩:=bind_some hL_12
   unfold d9 at hc_11
   refine ak (ai (aa (vI s_10.2) (aa (vI b_3) (aa (vB (decide (s_10.2<b_3))) (ah ?_)))))
   rcases aj hc_11 with⟨hc_15,hc_11⟩|⟨hc_15,hc_11⟩
   ·refine ay rfl hc_15 (av (ak (aL (ai (aa (vI s_10.2) (aa (vI s_10.2) (ah ?_)))))))
    obtain ⟨o_24,hj_25,hc_11⟩:=bind_some hc_11
    obtain ⟨nq_50,hj_25⟩:=dw hj_25
    refine eZ (λ(s_21:(List Alert)×Int)=>[(0,(dV (aD 0) 9 s_21.1)),(1,(vI a_2)),(2,(vI b_3)),(3,(.fn 29 [])),(8,(vI s_10.2))]) (λ(s_21:(List Alert)×Int)=>[((aD 0),gB 9 Alert.enc s_21.1)]) (λ(k_16:Nat)=>(λ(s_21:(List Alert)×Int)=>[(0,(dV (aD 0) 9 s_21.1)),(1,(vI a_2)),(2,(vI b_3)),(3,(.fn 29 [])),(8,(vI s_10.2)),(9,(vI s_21.2))])) (λs=>eD a_2 s) o_24 nq_50 (s_10.1,s_10.2) hj_25 rfl (aH rfl) ?_ ?_
    ·rintro ⟨k_16,s_21⟩ hL_23
     dsimp only at hL_23
     cases k_16 with
     | zero=>cases hL_23
     | succ k_16 =>
      obtain ⟨c_,hc_22,hL_23⟩:=bind_some hL_23
      unfold eD at hc_22
      refine ak (ak ?_)
      obtain ⟨v_26,h_27,hc_22⟩:=bind_some hc_22
      refine aP [(0,(dV (aD 0) 9 s_21.1)),(1,(vI a_2)),(2,(vI b_3)),(3,(.fn 29 [])),(8,(vI s_10.2)),(9,(vI s_21.2)),(34,(vB v_26))] [((aD 0),gB 9 Alert.enc s_21.1)] ?_ ?_
      ·refine bC (aa (vI s_21.2) (aa (vI a_2) (aa (vB (decide (s_21.2>a_2))) ?_)))
       rcases aj h_27 with⟨hc_28,h_27⟩|⟨hc_28,h_27⟩
       ·refine aB rfl hc_28 wz (aJ (.fn 29 []) wa rfl (aJ (dV (aD 0) 9 s_21.1) wa rfl (aJ (vI s_21.2) wa rfl ?_)))
        obtain ⟨_,hi_29,h_27⟩:=bind_some h_27
        refine iP mo rfl rfl (iV hi_29) (fD hi_29) wa ?_
        obtain ⟨e_30,hy_31,h_27⟩:=bind_some h_27
        refine jr 8 0 (.inr (by kernel_rfl)) (λ_ _ ag=>trivial) eO jo rfl rfl hy_31 (.d (.agg (Alert.enc e_30))) rfl wa (aJ (dV (aD 0) 9 s_21.1) wa rfl (aJ (vI s_21.2) wa rfl (aJ (vI (w64 (s_21.2-1))) wa rfl ?_)))
        obtain ⟨_,hi_32,h_27⟩:=bind_some h_27
        refine iP mo rfl rfl (iV hi_32) (fD hi_32) wa ?_
        obtain ⟨e_33,hy_34,h_27⟩:=bind_some h_27
        refine jr 13 0 (.inr (by kernel_rfl)) (λ_ _ ag=>⟨.inl ⟨rfl,rfl⟩,trivial⟩) eO jo rfl rfl hy_34 (.d (.agg (Alert.enc e_33))) rfl wa ?_
        obtain ⟨r_35,hr_36,h_27⟩:=bind_some h_27
        refine aF (qp hr_36) rfl hb29 rfl rfl rfl rfl wa (aJ (vB (decide (r_35<0))) wa rfl (aa (vB (decide (r_35<0))) (ah ?_)))
        obtain rfl:=ae h_27
        exact cu
       ·refine aB rfl hc_28 wz (af (af (af (af (af (af (af (af (af (af (af (af (aa (vB false) (ah ?_))))))))))))))
        obtain rfl:=ae h_27
        exact cu
      ·rintro ⟨⟩ _ sl_ H_ hp_ hq_
       refine aN _ hp_ hq_ ?_
       rcases aj hc_22 with⟨hc_37,hc_22⟩|⟨hc_37,hc_22⟩
       ·refine ay rfl hc_37 (av (ak (aL (bC (aa (dV (aD 0) 9 s_21.1) (aa (vI s_21.2) (aa (dV (aD 0) 9 s_21.1) (aa (vI s_21.2) (aa (vI (w64 (s_21.2-1))) (aa (dV (aD 0) 9 s_21.1) (aa (vI s_21.2) (aa (vI (w64 (s_21.2-1))) ?_))))))))))))
        obtain ⟨_,hi_38,hc_22⟩:=bind_some hc_22
        refine iP mo rfl rfl (iV hi_38) (fD hi_38) wz ?_
        obtain ⟨e_39,hy_40,hc_22⟩:=bind_some hc_22
        refine jr 9 0 (.inr (by kernel_rfl)) (λ_ _ ag=>trivial) eO jo rfl rfl hy_40 (.d (.agg (Alert.enc e_39))) rfl wz (aa (dV (aD 0) 9 s_21.1) (aa (vI s_21.2) ?_))
        obtain ⟨_,hi_41,hc_22⟩:=bind_some hc_22
        refine iP mo rfl rfl (iV hi_41) (fD hi_41) wz ?_
        obtain ⟨e_42,hy_43,hc_22⟩:=bind_some hc_22
        refine jr 13 0 (.inr (by kernel_rfl)) (λ_ _ ag=>⟨.inl ⟨rfl,rfl⟩,trivial⟩) eO jo rfl rfl hy_43 (.d (.agg (Alert.enc e_42))) rfl wz ?_
        obtain ⟨_,hi_44,hc_22⟩:=bind_some hc_22
        refine iP mo rfl rfl (iV hi_44) (fD hi_44) wz ?_
        obtain ⟨e_45,hy_46,hc_22⟩:=bind_some hc_22
        refine tX 15 (.inr (by kernel_rfl)) (λ_ _ ag=>⟨.inr (.inr (by kernel_rfl)),⟨.inr (.inr (by kernel_rfl)),trivial⟩⟩) 0 eO rfl rfl hy_46 e_39 rfl wz (dH (v':=(dV (aD 0) 9 (s_21.1.set (0+(s_21.2).toNat) e_39))) 0 rfl (bL (by simp)) (dH (v':=(dV (aD 0) 9 (s_21.1.set (0+(s_21.2).toNat) e_39))) 37 rfl (bL (by simp)) (dH (v':=(dV (aD 0) 9 (s_21.1.set (0+(s_21.2).toNat) e_39))) 39 rfl (bL (by simp)) (dH (v':=(dV (aD 0) 9 (s_21.1.set (0+(s_21.2).toNat) e_39))) 42 rfl (bL (by simp)) (dH (v':=(dV (aD 0) 9 (s_21.1.set (0+(s_21.2).toNat) e_39))) 47 rfl (bL (by simp)) ?_)))))
        obtain ⟨_,hi_47,hc_22⟩:=bind_some hc_22
        refine iP mo rfl rfl (iV hi_47) (fD hi_47) wz ?_
        obtain ⟨e_48,hy_49,hc_22⟩:=bind_some hc_22
        refine tX 17 (.inr (by kernel_rfl)) (λ_ _ ag=>⟨.inr (.inr (by kernel_rfl)),⟨.inr (.inr (by kernel_rfl)),⟨.inr (.inr (by kernel_rfl)),trivial⟩⟩⟩) 0 eO rfl rfl hy_49 e_42 rfl wz (dH (v':=(dV (aD 0) 9 ((s_21.1.set (0+(s_21.2).toNat) e_39).set (0+((w64 (s_21.2-1))).toNat) e_42))) 0 rfl (bL (by simp)) (dH (v':=(dV (aD 0) 9 ((s_21.1.set (0+(s_21.2).toNat) e_39).set (0+((w64 (s_21.2-1))).toNat) e_42))) 37 rfl (bL (by simp)) (dH (v':=(dV (aD 0) 9 ((s_21.1.set (0+(s_21.2).toNat) e_39).set (0+((w64 (s_21.2-1))).toNat) e_42))) 39 rfl (bL (by simp)) (dH (v':=(dV (aD 0) 9 ((s_21.1.set (0+(s_21.2).toNat) e_39).set (0+((w64 (s_21.2-1))).toNat) e_42))) 42 rfl (bL (by simp)) (dH (v':=(dV (aD 0) 9 ((s_21.1.set (0+(s_21.2).toNat) e_39).set (0+((w64 (s_21.2-1))).toNat) e_42))) 47 rfl (bL (by simp)) (ah (au (aa (vI s_21.2) (aa (vI (w64 (s_21.2-1))) (aa (vI (w64 (s_21.2-1))) (ah ?_)))))))))))
        obtain rfl:=ae hc_22
        exact aU (k_16,(((s_21.1.set (0+(s_21.2).toNat) e_39).set (0+((w64 (s_21.2-1))).toNat) e_42),(w64 (s_21.2-1)))) hL_23 (ls_ _) rfl (aH rfl)
       ·refine ax rfl hc_37 (aW ?_)
        obtain rfl:=ae hc_22
        obtain rfl:=ae hL_23
        exact aS ((s_21.1,s_21.2)) rfl rfl (aH rfl)
    ·rintro s_21 ho_ sl_ H_ hp_ hq_
     subst ho_
     refine aN _ hp_ hq_ (au (aa (vI s_10.2) (aa (vI (w64 (s_10.2+1))) (aa (vI (w64 (s_10.2+1))) (ah ?_)))))
     obtain rfl:=ae hc_11
     exact aU (k_5,(s_21.1,(w64 (s_10.2+1)))) hL_12 (ls_ _) rfl (aH rfl)
   ·refine ax rfl hc_15 (aW ?_)
    obtain rfl:=ae hc_11
    obtain rfl:=ae hL_12
    exact aS ((s_10.1,s_10.2)) rfl rfl (aH rfl)
 ·rintro s_10 ho_ sl_ H_ hp_ hq_
  subst ho_
  show qZ _ _ _ _ _ _ _ _
  obtain rfl:=ae hF
  exact uy (H0:=([((aD 0),gB 9 Alert.enc s_10.1)]:Hp)) (sl':=envS []) hq_ (xh (bs:=([]:List Box)) (os:=([]:List Box)) (xs:=data_1) (o:=gB 9 Alert.enc s_10.1) (.inl rfl) [] trivial rfl rfl rfl rfl rfl (by kernel_rfl) jX rfl)
theorem nk {data_1:(List Alert)} {a_2:Int} {b_3:Int} {limit_4:Int} {r:(List Alert)} (hF:gW data_1 a_2 b_3 limit_4=some r) :
  FnM Tryz.prog 44 [(dV (aD 0) 9 data_1),(vI a_2),(vI b_3),(vI limit_4),(.fn 29 [])] (([]:List Box)++gI 9 Alert.enc data_1) (.tup []) (([]:List Box).map some++gT data_1 (gB 9 Alert.enc r)):=by
 refine FnM.of_wHv ⟨Tryz.prog,148,[],[]⟩ rfl Tryz.func44 rfl rfl (lb_ rfl) (by kernel_rfl) ?_
 unfold gW at hF
 refine ai (aa (vB true) (ah (ai (aa (vB true) (ah ?_)))))
 obtain ⟨o_14,hj_15,hF⟩:=bind_some hF
 obtain ⟨nq_21,hj_15⟩:=dw hj_15
 refine eZ (λ(s_11:Unit)=>[]) (λ(s_11:Unit)=>[((aD 0),gB 9 Alert.enc data_1)]) (λ(k_6:Nat)=>(λ(s_11:Unit)=>[(0,(dV (aD 0) 9 data_1)),(1,(vI a_2)),(2,(vI b_3)),(3,(vI limit_4)),(4,(.fn 29 [])),(10,(vB true)),(11,(vB true))])) (λs=>fT b_3 a_2 data_1 limit_4 s) o_14 nq_21 () hj_15 rfl (aH rfl) ?_ ?_
 ·rintro ⟨k_6,s_11⟩ hL_13
  dsimp only at hL_13
  cases k_6 with
  | zero=>cases hL_13
  | succ k_6 =>
   obtain ⟨c_,hc_12,hL_13⟩:=bind_some hL_13
   unfold fT at hc_12
   refine aL (ai (aa (vI b_3) (aa (vI a_2) (aa (vI (w64 (b_3-a_2))) (aa (vI (w64 (b_3-a_2))) (ah (ak (ai (aa (vI (w64 (b_3-a_2))) (aa (vB (decide ((w64 (b_3-a_2))<=12))) (ah ?_)))))))))))
   rcases aj hc_12 with⟨hc_16,hc_12⟩|⟨hc_16,hc_12⟩
   ·refine ay rfl hc_16 (ai (aa (dV (aD 0) 9 data_1) (aa (vI a_2) (aa (vI b_3) (aa (.fn 29 []) ?_)))))
    obtain ⟨r_17,hr_18,hc_12⟩:=bind_some hc_12
    obtain ⟨_,hs_19,hc_12⟩:=bind_some hc_12
    replace hs_19:=kQ hs_19
    refine mh 0 [] 0 0 il ft (lq hr_18) rfl hb72 rfl rfl rfl (by kernel_rfl) rfl (.inr (.inl rfl)) rfl (by kernel_rfl) (by kernel_rfl) (by kernel_rfl) (by kernel_rfl) rfl (by decide) (by kernel_rfl) jX (vZ hs_19) wz ([((aD 0),gB 9 Alert.enc r_17)]:Hp) (by kernel_rfl) (dH (v':=(dV (aD 0) 9 r_17)) 0 rfl (bL hs_19.symm) (dH (v':=(dV (aD 0) 9 r_17)) 26 rfl (bL hs_19.symm) (ah ?_)))
    obtain rfl:=ae hc_12
    obtain rfl:=ae hL_13
    obtain rfl:=ae hF
    exact aA (xh (bs:=([]:List Box)) (os:=([]:List Box)) (xs:=data_1) (o:=gB 9 Alert.enc r_17) (.inr rfl) [] trivial rfl rfl rfl rfl rfl (by kernel_rfl) jX rfl)
   ·refine ax rfl hc_16 (av (ak (ai (aa (vI limit_4) (aa (vB (limit_4==0)) (ah ?_))))))
    rcases aj hc_12 with⟨hc_20,hc_12⟩|⟨hc_20,hc_12⟩
    ·refine ay rfl hc_20 (ai (aa (dV (aD 0) 9 data_1) (aa (vI a_2) (aa (vI b_3) (aa (.fn 29 []) ?_)))))
     cases hc_12
    ·refine ax rfl hc_20 (av (ak (ai (aa (vB true) (aa (vB false) (ah (ax rfl rfl (av (ai (aa (dV (aD 0) 9 data_1) (aa (vI a_2) (aa (vI b_3) (aa (.fn 29 []) ?_)))))))))))))
     cases hc_12
 ·rintro s_11 ho_ sl_ H_ hp_ hq_
  subst ho_
  show qZ _ _ _ _ _ _ _ _
  obtain rfl:=ae hF
  exact uy (H0:=([((aD 0),gB 9 Alert.enc data_1)]:Hp)) (sl':=envS []) hq_ (xh (bs:=([]:List Box)) (os:=([]:List Box)) (xs:=data_1) (o:=gB 9 Alert.enc data_1) (.inl rfl) [] trivial rfl rfl rfl rfl rfl (by kernel_rfl) jX rfl)
theorem lV {x_1:(List Alert)} {r:(List Alert)} (hF:dL x_1=some r) :
  FnM Tryz.prog 22 [(dV (aD 0) 9 x_1),(.fn 29 [])] (([]:List Box)++gI 9 Alert.enc x_1) (.tup []) (([]:List Box).map some++gT x_1 (gB 9 Alert.enc r)):=by
 refine FnM.of_wHv ⟨Tryz.prog,14,[],[]⟩ rfl Tryz.func22 rfl rfl (lb_ rfl) (by kernel_rfl) ?_
 unfold dL at hF
 refine ai (aa (dV (aD 0) 9 x_1) (BN tq rfl wz (aa (vI (x_1.length:Int)) (ah (au (aa (dV (aD 0) 9 x_1) (aa (vI (x_1.length:Int)) (aa (vI (x_1.length:Int)) (yC un3 Ov rfl wz ?_)))))))))
 obtain ⟨r_3,hr_4,hF⟩:=bind_some hF
 refine aF (nG hr_4) rfl hb45 rfl rfl rfl rfl wz (aa (.fn 29 []) ?_)
 obtain ⟨r_5,hr_6,hF⟩:=bind_some hF
 obtain ⟨_,hs_7,hF⟩:=bind_some hF
 replace hs_7:=kQ hs_7
 refine mh 0 [] 0 0 il ft (nk hr_6) rfl hb44 rfl rfl rfl (by kernel_rfl) rfl (.inr (.inl rfl)) rfl (by kernel_rfl) (by kernel_rfl) (by kernel_rfl) (by kernel_rfl) rfl (by decide) (by kernel_rfl) jX (vZ hs_7) wz ([((aD 0),gB 9 Alert.enc r_5)]:Hp) (by kernel_rfl) (dH (v':=(dV (aD 0) 9 r_5)) 0 rfl (bL hs_7.symm) (dH (v':=(dV (aD 0) 9 r_5)) 5 rfl (bL hs_7.symm) (dH (v':=(dV (aD 0) 9 r_5)) 7 rfl (bL hs_7.symm) (ah ?_))))
 show qZ _ _ _ _ _ _ _ _
 obtain rfl:=ae hF
 exact xh (bs:=([]:List Box)) (os:=([]:List Box)) (xs:=x_1) (o:=gB 9 Alert.enc r_5) (.inl rfl) [] trivial rfl rfl rfl rfl rfl (by kernel_rfl) jX rfl
theorem yG {a_1:(List Alert)} {b_2:(List Alert)} {r:(List Alert)×Int} (hF:oQ a_1 b_2=some r) :
  FnM Tryz.prog 7 [(vL Alert.enc a_1),(vL Alert.enc b_2)] [] (.tup [(vL Alert.enc r.1),(vI r.2)]) []:=by
 refine FnM.of_wH ⟨Tryz.prog,68,[],[]⟩ rfl Tryz.func7 rfl rfl (lb_ rfl) (by kernel_rfl) ?_
 unfold oQ at hF
 refine ai (aa .nil (aa (vI 0) (ah (ak (ai (aa (vL Alert.enc a_1) (aa (vL Alert.enc b_2) (aJ (.d (.agg [dl Alert.enc a_1,dl Alert.enc b_2])) wz (by kernel_rfl) (aa (vI 0) (ah ?_))))))))))
 obtain ⟨o_11,hj_12,hF⟩:=bind_some hF
 obtain ⟨hn_7,hj_12⟩:=aX hj_12
 refine bP (λ(s_8:Unit)=>[(0,(vL Alert.enc a_1)),(1,(vL Alert.enc b_2))]) (λ(s_8:Unit)=>[]) (λ(k_3:Nat)=>(λ(s_8:Unit)=>[(0,(vL Alert.enc a_1)),(1,(vL Alert.enc b_2)),(17,(.d (.agg [dl Alert.enc a_1,dl Alert.enc b_2]))),(18,(vI (k_3:Int)))])) (λk x s=>iQ a_1 b_2 k x s) o_11 (List.range (2:Int).toNat) () hj_12 rfl (aH rfl) ?_ ?_
 ·rintro ⟨k_3,l_4,s_8⟩ ⟨hL_10,hD_6⟩
  dsimp only at hL_10 hD_6
  cases l_4 with
  | nil =>
   obtain rfl:=ae hL_10
   refine ai (aa (vB (decide ((k_3:Int)<2))) (ah ?_))
   refine ak (ax rfl (y7 hD_6) (aW ?_))
   exact aS (s_8) rfl rfl (aH rfl)
  | cons x_5 l_4 =>
   obtain ⟨c_,hc_9,hL_10⟩:=bind_some hL_10
   refine ai (aa (vB (decide ((k_3:Int)<2))) (ah ?_))
   refine ak (ay rfl (wY hD_6) (av ?_))
   unfold iQ at hc_9
   refine ak (aL (ai ?_))
   obtain ⟨y_13,hy_14,hc_9⟩:=bind_some hc_9
   refine h_idxa (enc:=(eL Alert.enc)) (xs:=([a_1,b_2]:List (List Alert))) un57 sz26 ag26 rfl rfl rfl rfl hy_14 (λ_=>rfl) (.inr rfl) (vL Alert.enc y_13) rfl wz (aa (vL Alert.enc y_13) (ah (ai (aa (vL Alert.enc y_13) ?_))))
   obtain ⟨r_15,hr_16,hc_9⟩:=bind_some hc_9
   refine aF (jQ hr_16) rfl hb25 rfl rfl rfl rfl wz (aa (vI r_15) (ah (ai (aa (vI r_15) (aa (vB (r_15 != 0)) (ah ?_))))))
   rcases aj hc_9 with⟨hc_17,hc_9⟩|⟨hc_17,hc_9⟩
   ·refine ay rfl hc_17 (ai (aa (vI r_15) (aa .nil (aa (vI r_15) (ah ?_)))))
    obtain rfl:=ae hc_9
    obtain rfl:=ae hL_10
    obtain rfl:=ae hF
    exact aA (aK [.nil,(vI r_15)] ⟨rfl,⟨rfl,trivial⟩⟩)
   ·refine ax rfl hc_17 (av (au (dZ (yO hD_6 hn_7) wz rfl (aa (vI ((k_3+1:Nat):Int)) (ah ?_)))))
    obtain rfl:=ae hc_9
    exact aU (k_3+1,l_4,()) ⟨hL_10,aR hD_6⟩ (ls_ _) rfl (aH rfl)
 ·rintro s_8 ho_ sl_ H_ hp_ hq_
  subst ho_
  refine aN _ hp_ hq_ (ai (Ip 0 (.inl rfl) wz (λn_18=>QN (b':=some (bM D.str (λx=>D.agg (Alert.enc x)) ([]:List (ByteArray×Alert)))) 0 rfl rfl (aa (.map n_18) (ah (ai (aa .nil (ah (ak (ai (aa (vL Alert.enc a_1) (aa (vL Alert.enc b_2) (eT (([a_1,b_2]:List (List Alert)).map (eL Alert.enc)) es99 ez99 rfl rfl rfl rfl rfl wz ?_)))))))))))))
  obtain ⟨r_19,hr_20,hF⟩:=bind_some hF
  refine aF (nN hr_20) rfl hb26 rfl rfl rfl rfl wz (bG tq rfl wz (aa (vI 0) (ah (l6 (λn_27 => ?_)))))
  obtain ⟨o_32,hj_33,hF⟩:=bind_some hF
  obtain ⟨hn_25,hj_33⟩:=aX hj_33
  refine ic (σ:=(List (ByteArray×Alert))×(List Alert)) (N:=Nm) (λp=>(λ(s_26:(List (ByteArray×Alert))×(List Alert)) (n_29:Nm)=>([(10,(gV n_29 9 s_26.2))]:SL_)) p.1 p.2) (λp=>(λ(s_26:(List (ByteArray×Alert))×(List Alert)) (n_29:Nm)=>([(n_18,some (bM D.str (λx=>D.agg (Alert.enc x)) s_26.1)),(n_29,gB 9 Alert.enc s_26.2)]:Hp)) p.1 p.2) (λ(k_21:Nat)=>(λp=>(λ(s_26:(List (ByteArray×Alert))×(List Alert)) (n_29:Nm)=>([(9,(.map n_18)),(10,(gV n_29 9 s_26.2)),(31,(vL Alert.enc r_19)),(32,(vI (r_19.length:Int))),(33,(vI (k_21:Int)))]:SL_)) p.1 p.2)) (λk x s=>jD k x s) o_32 r_19 ((([]:List (ByteArray×Alert)),([]:List Alert)),n_27) hj_33 rfl (aH rfl) ?_ ?_
  ·rintro ⟨k_21,l_22,s_26,n_29⟩ ⟨hL_31,hD_24⟩
   dsimp only at hL_31 hD_24
   cases l_22 with
   | nil =>
    obtain rfl:=ae hL_31
    refine ai (aa (vB (decide ((k_21:Int)<(r_19.length:Int)))) (ah ?_))
    refine ak (ax rfl (drop_nil hD_24) (aW ?_))
    exact aS (s_26,n_29) rfl rfl (aH rfl)
   | cons x_23 l_22 =>
    obtain ⟨c_,hc_30,hL_31⟩:=bind_some hL_31
    refine ai (aa (vB (decide ((k_21:Int)<(r_19.length:Int)))) (ah ?_))
    refine ak (ay rfl (aZ hD_24) (av ?_))
    unfold jD at hc_30
    refine ak (aL (ai (dY mo rfl rfl (bz hD_24) rfl wz (bI eO jo rfl (.d (.agg (Alert.enc x_23))) rfl wz (dC 0 (.inl rfl) z32 rfl wz (λn_34=>fB 0 il ft 2 eO rfl rfl (Alert.v x_23) rfl wz (ah (ai (aa (.map n_18) (aG jA rfl 0 rfl wz (aC 0 2 il ft sz9 ag9 rfl rfl (vS x_23.Id) rfl wz (EY (eq:=eqS) (kD:=D.str) (vD:=(λx=>D.agg (Alert.enc x))) (es:=s_26.1) (k:=x_23.Id) (z:=(⟨(⟨#[]⟩:ByteArray),(⟨#[]⟩:ByteArray),0,([]:List ByteArray),0,0,0,([]:List Rect),(⟨#[]⟩:ByteArray)⟩:Alert)) 0 0 il ft (λ_ _=>rfl) mt59 (by kernel_rfl) (by kernel_rfl) rfl rfl rfl (.tup [(.d (.agg (Alert.enc ((kw eqS s_26.1 x_23.Id).getD (⟨(⟨#[]⟩:ByteArray),(⟨#[]⟩:ByteArray),0,([]:List ByteArray),0,0,0,([]:List Rect),(⟨#[]⟩:ByteArray)⟩:Alert))))),(vB ((kw eqS s_26.1 x_23.Id).isSome))]) rfl wz (aa (.tup [(.d (.agg (Alert.enc ((kw eqS s_26.1 x_23.Id).getD (⟨(⟨#[]⟩:ByteArray),(⟨#[]⟩:ByteArray),0,([]:List ByteArray),0,0,0,([]:List Rect),(⟨#[]⟩:ByteArray)⟩:Alert))))),(vB ((kw eqS s_26.1 x_23.Id).isSome))]) (aa (.d (.agg (Alert.enc ((kw eqS s_26.1 x_23.Id).getD (⟨(⟨#[]⟩:ByteArray),(⟨#[]⟩:ByteArray),0,([]:List ByteArray),0,0,0,([]:List Rect),(⟨#[]⟩:ByteArray)⟩:Alert))))) (aa (vB ((kw eqS s_26.1 x_23.Id).isSome)) (dC 0 (.inl rfl) z32 rfl wz (λn_35=>fB 0 il ft 3 eO rfl rfl [(vS (((kw eqS s_26.1 x_23.Id).getD (⟨(⟨#[]⟩:ByteArray),(⟨#[]⟩:ByteArray),0,([]:List ByteArray),0,0,0,([]:List Rect),(⟨#[]⟩:ByteArray)⟩:Alert)).Id)),(vS (((kw eqS s_26.1 x_23.Id).getD (⟨(⟨#[]⟩:ByteArray),(⟨#[]⟩:ByteArray),0,([]:List ByteArray),0,0,0,([]:List Rect),(⟨#[]⟩:ByteArray)⟩:Alert)).Sender)),(vI (((kw eqS s_26.1 x_23.Id).getD (⟨(⟨#[]⟩:ByteArray),(⟨#[]⟩:ByteArray),0,([]:List ByteArray),0,0,0,([]:List Rect),(⟨#[]⟩:ByteArray)⟩:Alert)).Kind)),(vL eS (((kw eqS s_26.1 x_23.Id).getD (⟨(⟨#[]⟩:ByteArray),(⟨#[]⟩:ByteArray),0,([]:List ByteArray),0,0,0,([]:List Rect),(⟨#[]⟩:ByteArray)⟩:Alert)).Refs)),(vI (((kw eqS s_26.1 x_23.Id).getD (⟨(⟨#[]⟩:ByteArray),(⟨#[]⟩:ByteArray),0,([]:List ByteArray),0,0,0,([]:List Rect),(⟨#[]⟩:ByteArray)⟩:Alert)).At)),(vI (((kw eqS s_26.1 x_23.Id).getD (⟨(⟨#[]⟩:ByteArray),(⟨#[]⟩:ByteArray),0,([]:List ByteArray),0,0,0,([]:List Rect),(⟨#[]⟩:ByteArray)⟩:Alert)).Until)),(vI (((kw eqS s_26.1 x_23.Id).getD (⟨(⟨#[]⟩:ByteArray),(⟨#[]⟩:ByteArray),0,([]:List ByteArray),0,0,0,([]:List Rect),(⟨#[]⟩:ByteArray)⟩:Alert)).Weight)),(vL Rect.enc (((kw eqS s_26.1 x_23.Id).getD (⟨(⟨#[]⟩:ByteArray),(⟨#[]⟩:ByteArray),0,([]:List ByteArray),0,0,0,([]:List Rect),(⟨#[]⟩:ByteArray)⟩:Alert)).Areas)),(vS (((kw eqS s_26.1 x_23.Id).getD (⟨(⟨#[]⟩:ByteArray),(⟨#[]⟩:ByteArray),0,([]:List ByteArray),0,0,0,([]:List Rect),(⟨#[]⟩:ByteArray)⟩:Alert)).Text))] rfl wz (aa (vB ((kw eqS s_26.1 x_23.Id).isSome)) (ah (aL (ai (aa (vB ((kw eqS s_26.1 x_23.Id).isSome)) (aa (vB (!((kw eqS s_26.1 x_23.Id).isSome))) ?_)))))))))))))))))))))))
    refine aa (vB (!((kw eqS s_26.1 x_23.Id).isSome))) (ah ?_)
    rcases aj hc_30 with⟨hc_36,hc_30⟩|⟨hc_36,hc_30⟩
    ·refine ay rfl hc_36 (ai (aa (.map n_18) (aG jA rfl 0 rfl wz (aC 0 2 il ft sz9 ag9 rfl rfl (vS x_23.Id) rfl wz (aC 0 2 il ft eO jo rfl rfl (.d (.agg (Alert.enc x_23))) rfl wz (FJ (eq:=eqS) (kD:=D.str) (vD:=(λx=>D.agg (Alert.enc x))) (es:=s_26.1) (k:=x_23.Id) (v:=x_23) 0 0 il ft (λ_ _=>rfl) mt59 (by kernel_rfl) rfl rfl rfl rfl wz (ah (au (aa (gV n_29 9 s_26.2) (aC 0 2 il ft eO jo rfl rfl (.d (.agg (Alert.enc x_23))) rfl wz ?_))))))))))
     obtain ⟨r_37,hr_38,hc_30⟩:=bind_some hc_30
     refine aF (Fs hr_38) rfl hb27 rfl rfl rfl rfl wz (eT (([r_37]:List Alert).map Alert.enc) mo Iw rfl rfl rfl rfl rfl wz ?_)
     obtain ⟨a_39,hz_40,hc_30⟩:=bind_some hc_30
     refine jB 0 il ft (i:=1) yo yo eO z32 rfl (by decide) J5 (by decide) (λ_=>rfl) rfl rfl rfl hz_40 wz (λn_41=>aa (gV n_41 9 a_39) (ah (au (dZ (bn hD_24 hn_25) wz rfl (aa (vI ((k_21+1:Nat):Int)) (ah ?_))))))
     obtain rfl:=ae hc_30
     exact aU (k_21+1,l_22,((pR eqS s_26.1 x_23.Id x_23),a_39),n_41) ⟨hL_31,aR hD_24⟩ (ls_ _) rfl (aH rfl)
    ·refine ax rfl hc_36 (ai (aC 0 3 il ft eO jo rfl rfl (.d (.agg (Alert.enc ((kw eqS s_26.1 x_23.Id).getD (⟨(⟨#[]⟩:ByteArray),(⟨#[]⟩:ByteArray),0,([]:List ByteArray),0,0,0,([]:List Rect),(⟨#[]⟩:ByteArray)⟩:Alert))))) rfl wz (aC 0 2 il ft eO jo rfl rfl (.d (.agg (Alert.enc x_23))) rfl wz ?_)))
     obtain ⟨r_42,hr_43,hc_30⟩:=bind_some hc_30
     refine aF (Gb hr_43) rfl hb28 rfl rfl rfl rfl wz (aa (vB (!r_42)) (aa (vB (!r_42)) (ah ?_)))
     rcases aj hc_30 with⟨hc_44,hc_30⟩|⟨hc_44,hc_30⟩
     ·refine ay rfl hc_44 (ai (aa .nil (aa (vI 13) (ah ?_))))
      obtain rfl:=ae hc_30
      obtain rfl:=ae hL_31
      obtain rfl:=ae hF
      exact aA (aK [.nil,(vI 13)] ⟨rfl,⟨rfl,trivial⟩⟩)
     ·refine ax rfl hc_44 (av (au (dZ (bn hD_24 hn_25) wz rfl (aa (vI ((k_21+1:Nat):Int)) (ah ?_)))))
      obtain rfl:=ae hc_30
      exact aU (k_21+1,l_22,(s_26.1,s_26.2),n_29) ⟨hL_31,aR hD_24⟩ (ls_ _) rfl (aH rfl)
  ·rintro ⟨s_26,n_29⟩ ho_ sl_ H_ hp_ hq_
   subst ho_
   refine aN _ hp_ hq_ (ak (ai (aa (gV n_29 9 s_26.2) (BI tq rfl wz (aa (vB (decide ((s_26.2.length:Int)>300))) (ah ?_))))))
   rcases aj hF with⟨hc_45,hF⟩|⟨hc_45,hF⟩
   ·refine ay rfl hc_45 (ai (aa .nil (aa (vI 2) (ah ?_))))
    obtain rfl:=ae hF
    exact aA (aK [.nil,(vI 2)] ⟨rfl,⟨rfl,trivial⟩⟩)
   ·refine ax rfl hc_45 (av (ai (aa (gV n_29 9 s_26.2) ?_)))
    obtain ⟨r_46,hr_47,hF⟩:=bind_some hF
    obtain ⟨_,hs_48,hF⟩:=bind_some hF
    replace hs_48:=kQ hs_48
    refine mh 0 [] 1 0 il ft (lV hr_47) rfl hb22 rfl rfl rfl (by kernel_rfl) rfl (.inl rfl) rfl (by kernel_rfl) (by kernel_rfl) (by kernel_rfl) (by kernel_rfl) rfl (by decide) (by kernel_rfl) jX (vZ hs_48) wz ([(n_18,some (bM D.str (λx=>D.agg (Alert.enc x)) s_26.1)),(n_29,gB 9 Alert.enc r_46)]:Hp) (by kernel_rfl) (dH (v':=(gV n_29 9 r_46)) 10 rfl (kJ hs_48.symm) (dH (v':=(gV n_29 9 r_46)) 62 rfl (kJ hs_48.symm) (dH (v':=(gV n_29 9 r_46)) 65 rfl (kJ hs_48.symm) (ah (ai (aa (gV n_29 9 r_46) (aa (gV n_29 9 r_46) (aa (vI 0) (ah (gK 1 rfl (dE 4 1 rfl rfl (dE 10 1 rfl rfl (dE 62 1 rfl rfl (dE 65 1 rfl rfl (dE 67 1 rfl rfl ?_)))))))))))))))
    obtain rfl:=ae hF
    exact aA (aK [(vL Alert.enc r_46),(vI 0)] ⟨rfl,⟨rfl,trivial⟩⟩)
theorem yg {atv_1:Int} {r:Int} (hF:jS atv_1=some r) :
  FnM Tryz.prog 30 [(vI atv_1)] [] (vI r) []:=by
 refine FnM.of_wH ⟨Tryz.prog,6,[],[]⟩ rfl Tryz.func30 rfl rfl (lb_ rfl) (by kernel_rfl) ?_
 unfold jS at hF
 refine ai (aa (vI 0) (ah (ak (ai (aa (vI atv_1) ?_)))))
 obtain ⟨r_2,hr_3,hF⟩:=bind_some hF
 refine aF (iC hr_3) rfl KF rfl rfl rfl rfl wz (aa (vB (!r_2)) (ah ?_))
 rcases aj hF with⟨hc_4,hF⟩|⟨hc_4,hF⟩
 ·refine ay rfl hc_4 (ai (aa (vI 1) (ah ?_)))
  obtain rfl:=ae hF
  exact aA (aK [(vI 1)] ⟨rfl,trivial⟩)
 ·refine ax rfl hc_4 (av (ai (aa (vI 0) (ah ?_))))
  obtain rfl:=ae hF
  exact aA (aK [(vI 0)] ⟨rfl,trivial⟩)
theorem Dt {o_1:Alert} {p_2:ByteArray} {p_3:Alert} {r:Bool} (hF:lD o_1 p_2 p_3=some r) :
  FnM Tryz.prog 57 [(.d (.agg (Alert.enc o_1))),(.ref (aD 0) 0 0),(.ref (aD 1) 0 0)] [(.cells 1 [(vS p_2)]),(.cells 9 (Alert.v p_3))] (vB r) [some (.cells 1 [(vS p_2)]),some (.cells 9 (Alert.v p_3))]:=by
 refine FnM.of_wH ⟨Tryz.prog,22,[],[]⟩ rfl Tryz.func57 rfl rfl (lb_ rfl) (by kernel_rfl) ?_
 unfold lD at hF
 refine ai (gQ 0 (.inl rfl) (Alert.v o_1) rfl rfl wz (λn_4=>aa (vB false) (ah (ak ?_))))
 obtain ⟨v_5,h_6,hF⟩:=bind_some hF
 refine aP [(4,(vB v_5))] [((aD 0),some (.cells 1 [(vS p_2)])),((aD 1),some (.cells 9 (Alert.v p_3))),(n_4,some (.cells 9 (Alert.v o_1)))] ?_ ?_
 ·refine au (aG jA rfl 0 rfl wz (aC 0 2 il ft sz9 ag9 rfl rfl (vS o_1.Id) rfl wz (aC 0 0 il ft sz9 ag9 rfl rfl (vS p_2) rfl wz (aa (vB (sEq o_1.Id p_2)) ?_))))
  rcases aj h_6 with⟨hc_7,h_6⟩|⟨hc_7,h_6⟩
  ·refine aB rfl hc_7 wz (aG x8 rfl 1 rfl wa (aC 0 2 il ft sz9 ag9 rfl rfl (vS o_1.Sender) rfl wa (aG x8 rfl 1 rfl wa (aC 0 1 il ft sz9 ag9 rfl rfl (vS p_3.Sender) rfl wa (aJ (vB (sEq o_1.Sender p_3.Sender)) wa rfl (aa (vB (sEq o_1.Sender p_3.Sender)) ?_))))))
   rcases aj h_6 with⟨hc_8,h_6⟩|⟨hc_8,h_6⟩
   ·refine aB rfl hc_8 wz (aC 0 2 il ft eO jo rfl rfl (.d (.agg (Alert.enc o_1))) rfl wa (aC 0 1 il ft eO jo rfl rfl (.d (.agg (Alert.enc p_3))) rfl wa ?_))
    obtain ⟨r_9,hr_10,h_6⟩:=bind_some h_6
    refine aF (qp hr_10) rfl hb29 rfl rfl rfl rfl wa (aJ (vB (decide (r_9<0))) wa rfl (aa (vB (decide (r_9<0))) (aa (vB (decide (r_9<0))) (ah ?_))))
    obtain rfl:=ae h_6
    exact cu
   ·refine aB rfl hc_8 wz (af (af (af (af (aa (vB false) (aa (vB false) (ah ?_)))))))
    obtain rfl:=ae h_6
    exact cu
  ·refine aB rfl hc_7 wz (af (af (af (af (af (aa (vB false) (aa (vB false) (af (af (af (af (aa (vB false) (aa (vB false) (ah ?_))))))))))))))
   obtain rfl:=ae h_6
   exact cu
 ·rintro ⟨⟩ _ sl_ H_ hp_ hq_
  refine aN _ hp_ hq_ ?_
  obtain rfl:=ae hF
  exact aA (Cw (.inr rfl) [(vB v_5)] _ [0,1] [aD 0,aD 1] ⟨rfl,trivial⟩ (.cons (kH rfl rfl) (.nil)) (by kernel_rfl) ⟨(by kernel_rfl),⟨(by kernel_rfl),trivial⟩⟩ (by decide) (by kernel_rfl))
theorem fw {s_1:(List Alert)} {f_2:Alert->Option Bool} {r:Int} {gid:FuncId} {caps:List V} {Sin:List Box} (hfn:∀x0 r,f_2 x0=some r->FnM Tryz.prog gid ([(.d (.agg (Alert.enc x0)))]++caps) Sin (vB r) (Sin.map some)) (hbF:aI Tryz.prog gid=true) (hcapF:caps.flatMap frz=[]/\caps.map co0=caps) (hokF:okL Sin.length caps=true) (hsF:∀b∈Sin,b.ok Sin.length=true) (hmF:∀b∈Sin,b.mut=true) (hF:bf s_1 f_2=some r) :
  FnM Tryz.prog 35 [(vL Alert.enc s_1),(.fn gid caps)] Sin (vI r) (Sin.map some):=by
 refine FnM.of_wH ⟨Tryz.prog,19,[],[]⟩ rfl Tryz.func35 rfl rfl (lb_ rfl) (by kernel_rfl) ?_
 unfold bf at hF
 refine ai (aa (vI 0) (ah (ak (ai (aa (vL Alert.enc s_1) (bG tq rfl wz (aa (vI 0) (ah ?_))))))))
 obtain ⟨o_11,hj_12,hF⟩:=bind_some hF
 obtain ⟨hn_7,hj_12⟩:=aX hj_12
 refine bP (λ(s_8:Unit)=>[]) (λ(s_8:Unit)=>(pY 0 Sin)) (λ(k_3:Nat)=>(λ(s_8:Unit)=>[(0,(vL Alert.enc s_1)),(1,(.fn gid caps)),(7,(vI (s_1.length:Int))),(8,(vI (k_3:Int)))])) (λk x s=>bD f_2 k x s) o_11 s_1 () hj_12 rfl (vK _) ?_ ?_
 ·rintro ⟨k_3,l_4,s_8⟩ ⟨hL_10,hD_6⟩
  dsimp only at hL_10 hD_6
  cases l_4 with
  | nil =>
   obtain rfl:=ae hL_10
   refine ai (aa (vB (decide ((k_3:Int)<(s_1.length:Int)))) (ah ?_))
   refine ak (ax rfl (drop_nil hD_6) (aW ?_))
   exact aS (s_8) rfl rfl (vK _)
  | cons x_5 l_4 =>
   obtain ⟨c_,hc_9,hL_10⟩:=bind_some hL_10
   refine ai (aa (vB (decide ((k_3:Int)<(s_1.length:Int)))) (ah ?_))
   refine ak (ay rfl (aZ hD_6) (av ?_))
   unfold bD at hc_9
   refine ak (aL (ai (aa (vI (k_3:Int)) (aa (vI (k_3:Int)) (ah (ai (aa (.fn gid caps) (aa (vL Alert.enc s_1) (aa (vI (k_3:Int)) (dY mo rfl rfl (bz hD_6) rfl wz (bI eO jo rfl (.d (.agg (Alert.enc x_5))) rfl wz ?_)))))))))))
   obtain ⟨r_13,hr_14,hc_9⟩:=bind_some hc_9
   refine DT (hfn _ _ hr_14) rfl hbF rfl rfl hcapF hokF hsF hmF rfl wz rfl (ah ?_)
   rcases aj hc_9 with⟨hc_15,hc_9⟩|⟨hc_15,hc_9⟩
   ·refine ay rfl hc_15 (ai (aa (vI (k_3:Int)) (aa (vI (k_3:Int)) (ah ?_))))
    obtain rfl:=ae hc_9
    obtain rfl:=ae hL_10
    obtain rfl:=ae hF
    exact aA (N9 hsF (.inr rfl) [(vI (k_3:Int))] ⟨rfl,trivial⟩ rfl rfl rfl)
   ·refine ax rfl hc_15 (av (au (dZ (bn hD_6 hn_7) wz rfl (aa (vI ((k_3+1:Nat):Int)) (ah ?_)))))
    obtain rfl:=ae hc_9
    exact aU (k_3+1,l_4,()) ⟨hL_10,aR hD_6⟩ (ls_ _) rfl (vK _)
 ·rintro s_8 ho_ sl_ H_ hp_ hq_
  subst ho_
  refine aN _ hp_ hq_ (ai (aa (vI (-1)) (ah ?_)))
  obtain rfl:=ae hF
  exact aA (N9 hsF (.inr rfl) [(vI (-1))] ⟨rfl,trivial⟩ rfl rfl rfl)
theorem zw {l_1:(List Alert)} {a_2:Alert} {ref_3:ByteArray} {r:Int} (hF:oz l_1 a_2 ref_3=some r) :
  FnM Tryz.prog 37 [(vL Alert.enc l_1),(.d (.agg (Alert.enc a_2))),(vS ref_3)] [] (vI r) []:=by
 refine FnM.of_wH ⟨Tryz.prog,10,[],[]⟩ rfl Tryz.func37 rfl rfl (lb_ rfl) (by kernel_rfl) ?_
 unfold oz at hF
 refine ai (gQ 0 (.inl rfl) (Alert.v a_2) rfl rfl wz (λn_4=>gQ 0 (.inl rfl) [(vS ref_3)] rfl rfl wz (λn_5=>aa (vI 0) (ah (ai (aa (vL Alert.enc l_1) (aa (.fn 57 [(.ref n_5 0 0),(.ref n_4 0 0)]) ?_)))))))
 obtain ⟨r_6,hr_7,hF⟩:=bind_some hF
 refine gu 0 [1,0] il ft (fw (gid:=57) (caps:=[.ref (aD 0) 0 0,.ref (aD 1) 0 0]) (Sin:=[(.cells 1 [(vS ref_3)]),(.cells 9 (Alert.v a_2))]) (λ_ _ h_=>Dt h_) hb57 ⟨rfl,rfl⟩ (by kernel_rfl) (Jb (by kernel_rfl)) (DR (by kernel_rfl)) hr_7) rfl hb35 rfl (by kernel_rfl) (by kernel_rfl) (by kernel_rfl) (by kernel_rfl) (by kernel_rfl) (by kernel_rfl) (by kernel_rfl) (by decide) (by kernel_rfl) wz (vI r_6) (by kernel_rfl) ([(n_4,some (.cells 9 (Alert.v a_2))),(n_5,some (.cells 1 [(vS ref_3)]))]:Hp) (by kernel_rfl) (aa (vI r_6) (ah ?_))
 obtain rfl:=ae hF
 exact aA (aK [(vI r_6)] ⟨rfl,trivial⟩)
end Go.Proofs.YtkjlhdminmpmkabGreatDoor.Law

