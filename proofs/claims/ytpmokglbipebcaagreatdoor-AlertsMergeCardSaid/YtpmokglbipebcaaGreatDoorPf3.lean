/-
 The machine computes these plain functions (written by a program of ours).
-/
import Derived.Test.YtpmokglbipebcaaGreatDoorFacts
import Derived.Test.YtpmokglbipebcaaGreatDoorDefs
import Derived.Test.YtpmokglbipebcaaGreatDoorPf2
open Go Go.Eng Go.Proofs
namespace Go.Proofs.YtpmokglbipebcaaGreatDoor.Law
set_option maxRecDepth 100000
set_option linter.unusedVariables false
set_option maxHeartbeats 1000000
theorem sS {a_1:Alert} {r:Int} (hF:fD a_1=some r) :
  FnM Tryz.prog 47 [(.d (.agg (Alert.enc a_1)))] [] (vI r) []:=by
 refine FnM.of_wH ⟨Tryz.prog,92,[],[]⟩ rfl Tryz.func47 rfl rfl (lb_ rfl) (by kernel_rfl) ?_
 unfold fD at hF
 refine af (aa (jN 0 (.inl rfl) [(vS a_1.Id),(vS a_1.Sender),(vI a_1.Kind),(vL eS a_1.Refs),(vI a_1.At),(vI a_1.Until),(vI a_1.Weight),(vL Rect.enc a_1.Areas),(vS a_1.Text)] rfl rfl wz (λn_2=>ae (vI 0) wz rfl (aj (af (af ?_))))))
 obtain ⟨v_3,h_4,hF⟩:=bind_some hF
 refine aI (β:=Unit) (λ_=>([(1,(.ref n_2 0 0)),(17,(vB v_3))]:SL_)) (λ_=>([(n_2,some (.cells 9 [(vS a_1.Id),(vS a_1.Sender),(vI a_1.Kind),(vL eS a_1.Refs),(vI a_1.At),(vI a_1.Until),(vI a_1.Weight),(vL Rect.enc a_1.Areas),(vS a_1.Text)]))]:Hp)) (λ_=>True) ?_ ?_
 ·refine aa (aF ic rfl 0 rfl wz (aD 0 0 il ft sz9 ag9 rfl rfl (vS a_1.Id) rfl wz ?_))
  obtain ⟨r_5,hr_6,h_4⟩:=bind_some h_4
  refine aH (nN hr_6) rfl hb87 rfl rfl rfl rfl wz (ae (vB (!r_5)) wz rfl ?_)
  rcases ak h_4 with⟨hc_7,h_4⟩|⟨hc_7,h_4⟩
  ·refine aC rfl hc_7 wz (ai wa (ai wa (ai wa (ai wa (ae (vB true) wz rfl (aj ?_))))))
   obtain rfl:=ah h_4
   exact cu
  ·refine aC rfl hc_7 wz (aF vT rfl 1 rfl wa (aD 0 0 il ft sz9 ag9 rfl rfl (vS a_1.Sender) rfl wa ?_))
   obtain ⟨r_8,hr_9,h_4⟩:=bind_some h_4
   refine aH (nN hr_9) rfl hb87 rfl rfl rfl rfl wa (ae (vB (!r_8)) wa rfl (ae (vB (!r_8)) wz rfl (aj ?_)))
   obtain rfl:=ah h_4
   exact cu
 ·rintro ⟨⟩ _ sl_ H_ hp_ hq_
  refine aV _ hp_ hq_ ?_
  rcases ak hF with⟨hc_10,hF⟩|⟨hc_10,hF⟩
  ·refine aA rfl hc_10 (af (aa (ae (vI 5) wz rfl (aj ?_))))
   obtain rfl:=ah hF
   exact ay (aX (.inr rfl) [(vI 5)] ⟨rfl,trivial⟩ rfl rfl rfl)
  ·refine ax rfl hc_10 (av (af (af (aa (aF l5 rfl 2 rfl wz (aD 0 0 il ft sz3 ag3 rfl rfl (vI a_1.Kind) rfl wz ?_))))))
   obtain ⟨r_11,hr_12,hF⟩:=bind_some hF
   refine aH (fe hr_12) rfl BF rfl rfl rfl rfl wz (aj ?_)
   rcases ak hF with⟨hc_13,hF⟩|⟨hc_13,hF⟩
   ·refine aA rfl hc_13 (af (aa (ae (vI 4) wz rfl (aj ?_))))
    obtain rfl:=ah hF
    exact ay (aX (.inr rfl) [(vI 4)] ⟨rfl,trivial⟩ rfl rfl rfl)
   ·refine ax rfl hc_13 (av (af (af (aa (aD 0 0 il ft dM iw rfl rfl (.d (.agg (Alert.enc a_1))) rfl wz ?_)))))
    obtain ⟨r_14,hr_15,hF⟩:=bind_some hF
    refine aH (tZ hr_15) rfl hb89 rfl rfl rfl rfl wz (ae (vI r_14) wz rfl (aj (af (aa (ae (vI r_14) wz rfl (ae (vB (r_14 != 0)) wz rfl (aj ?_)))))))
    rcases ak hF with⟨hc_16,hF⟩|⟨hc_16,hF⟩
    ·refine aA rfl hc_16 (af (aa (ae (vI r_14) wz rfl (ae (vI r_14) wz rfl (aj ?_)))))
     obtain rfl:=ah hF
     exact ay (aX (.inr rfl) [(vI r_14)] ⟨rfl,trivial⟩ rfl rfl rfl)
    ·refine ax rfl hc_16 (av (af (af ?_)))
     obtain ⟨v_17,h_18,hF⟩:=bind_some hF
     refine aI (β:=Unit) (λ_=>([(1,(.ref n_2 0 0)),(45,(vB v_17))]:SL_)) (λ_=>([(n_2,some (.cells 9 [(vS a_1.Id),(vS a_1.Sender),(vI a_1.Kind),(vL eS a_1.Refs),(vI a_1.At),(vI a_1.Until),(vI a_1.Weight),(vL Rect.enc a_1.Areas),(vS a_1.Text)]))]:Hp)) (λ_=>True) ?_ ?_
     ·refine aa (aF iG rfl 4 rfl wz (aD 0 0 il ft sz3 ag3 rfl rfl (vI a_1.At) rfl wz ?_))
      obtain ⟨r_19,hr_20,h_18⟩:=bind_some h_18
      refine aH (xL hr_20) rfl hb90 rfl rfl rfl rfl wz (ae (vB (!r_19)) wz rfl ?_)
      rcases ak h_18 with⟨hc_21,h_18⟩|⟨hc_21,h_18⟩
      ·refine aC rfl hc_21 wz (ai wa (ai wa (ai wa (ai wa (ai wa (ai wa (ai wa (ai wa (ai wa (ae (vB true) wz rfl (ae (vB true) wz rfl (ai wa (ai wa (ai wa (ae (vB true) wz rfl (aj ?_))))))))))))))))
       obtain rfl:=ah h_18
       exact cu
      ·refine aC rfl hc_21 wz (aF uA rfl 5 rfl wa (aD 0 0 il ft sz3 ag3 rfl rfl (vI a_1.Until) rfl wa (aF iG rfl 4 rfl wa (aD 0 0 il ft sz3 ag3 rfl rfl (vI a_1.At) rfl wa (ae (vI (w64 (a_1.At+1))) wa rfl (aF iG rfl 4 rfl wa (aD 0 0 il ft sz3 ag3 rfl rfl (vI a_1.At) rfl wa (ae (vI (w64 (a_1.At+2592000000))) wa rfl ?_))))))))
       obtain ⟨r_22,hr_23,h_18⟩:=bind_some h_18
       refine aH (fe hr_23) rfl BF rfl rfl rfl rfl wa (ae (vB r_22) wz rfl ?_)
       rcases ak h_18 with⟨hc_24,h_18⟩|⟨hc_24,h_18⟩
       ·refine aC rfl hc_24 wz (ai wa (ai wa (ai wa (ae (vB true) wz rfl (aj ?_)))))
        obtain rfl:=ah h_18
        exact cu
       ·refine aC rfl hc_24 wz (aF uG rfl 6 rfl wa (aD 0 0 il ft sz3 ag3 rfl rfl (vI a_1.Weight) rfl wa ?_))
        obtain ⟨r_25,hr_26,h_18⟩:=bind_some h_18
        refine aH (fe hr_26) rfl BF rfl rfl rfl rfl wa (ae (vB r_25) wz rfl (aj ?_))
        obtain rfl:=ah h_18
        exact cu
     ·rintro ⟨⟩ _ sl_ H_ hp_ hq_
      refine aV _ hp_ hq_ ?_
      rcases ak hF with⟨hc_27,hF⟩|⟨hc_27,hF⟩
      ·refine aA rfl hc_27 (af (aa (ae (vI 1) wz rfl (aj ?_))))
       obtain rfl:=ah hF
       exact ay (aX (.inr rfl) [(vI 1)] ⟨rfl,trivial⟩ rfl rfl rfl)
      ·refine ax rfl hc_27 (av (af (af (aa (aF kY rfl 7 rfl wz (aD 0 0 il ft tY xO rfl rfl (vL Rect.enc a_1.Areas) rfl wz (dA xE rfl wz (ae (vB (decide ((a_1.Areas.length:Int)>20))) wz rfl (aj ?_)))))))))
       rcases ak hF with⟨hc_28,hF⟩|⟨hc_28,hF⟩
       ·refine aA rfl hc_28 (af (aa (ae (vI 2) wz rfl (aj ?_))))
        obtain rfl:=ah hF
        exact ay (aX (.inr rfl) [(vI 2)] ⟨rfl,trivial⟩ rfl rfl rfl)
       ·refine ax rfl hc_28 (av (af (af (aa (aF kY rfl 7 rfl wz (aD 0 0 il ft tY xO rfl rfl (vL Rect.enc a_1.Areas) rfl wz (dA xE rfl wz (ae (vI 0) wz rfl (aj ?_)))))))))
        obtain ⟨o_37,hj_38,hF⟩:=bind_some hF
        obtain ⟨hn_33,hj_38⟩:=bv hj_38
        refine aI (β:=(Unit)) (λ(s_34:Unit)=>([(1,(.ref n_2 0 0))]:SL_)) (λ(s_34:Unit)=>([(n_2,some (.cells 9 [(vS a_1.Id),(vS a_1.Sender),(vI a_1.Kind),(vL eS a_1.Refs),(vI a_1.At),(vI a_1.Until),(vI a_1.Weight),(vL Rect.enc a_1.Areas),(vS a_1.Text)]))]:Hp)) (λp=>o_37 = .go p) ?_ ?_
        ·refine aB (bn (β:=Nat×(List Rect)×(Unit)) (λp=>(λ(k_29:Nat) (l_30:List Rect) (s_34:Unit)=>([(1,(.ref n_2 0 0)),(51,(vL Rect.enc a_1.Areas)),(52,(vI (a_1.Areas.length:Int))),(53,(vI (k_29:Int)))]:SL_)) p.1 p.2.1 p.2.2) (λp=>(λ(k_29:Nat) (l_30:List Rect) (s_34:Unit)=>([(n_2,some (.cells 9 [(vS a_1.Id),(vS a_1.Sender),(vI a_1.Kind),(vL eS a_1.Refs),(vI a_1.At),(vI a_1.Until),(vI a_1.Weight),(vL Rect.enc a_1.Areas),(vS a_1.Text)]))]:Hp)) p.1 p.2.1 p.2.2) (λp=>forR (λk x s=>eB k x s) p.2.1 p.1 p.2.2=some o_37/\(a_1.Areas).drop p.1=p.2.1) (λp=>p.2.1.length) (0,a_1.Areas,()) ⟨hj_38,rfl⟩ rfl (aK rfl) ?_)
         rintro ⟨k_29,l_30,s_34⟩ ⟨hL_36,hD_32⟩
         dsimp only at hL_36 hD_32
         cases l_30 with
         | nil =>
          obtain rfl:=ah hL_36
          refine af (aa (ae (vB (decide ((k_29:Int)<(a_1.Areas.length:Int)))) wz rfl (aj ?_)))
          refine af (ax rfl (drop_nil hD_32) (bE ?_))
          exact bN (s_34) rfl rfl (aK rfl)
         | cons x_31 l_30 =>
          obtain ⟨c_,hc_35,hL_36⟩:=bind_some hL_36
          refine af (aa (ae (vB (decide ((k_29:Int)<(a_1.Areas.length:Int)))) wz rfl (aj ?_)))
          refine af (aA rfl (bP hD_32) (av ?_))
          unfold eB at hc_35
          refine af (aB (af (aa (jk zX rfl rfl (dB hD_32) rfl wz (fA nW xM rfl (.d (.agg (Rect.enc x_31))) rfl wz (fP 0 (.inl rfl) z77 rfl wz (λn_39=>fU 0 il ft 1 nW rfl rfl [(vI x_31.X),(vI x_31.Y),(vI x_31.W),(vI x_31.H)] rfl wz (aj (af (aa (aD 0 1 il ft nW xM rfl rfl (.d (.agg (Rect.enc x_31))) rfl wz ?_)))))))))))
          obtain ⟨r_40,hr_41,hc_35⟩:=bind_some hc_35
          refine aH (sM hr_41) rfl hb91 rfl rfl rfl rfl wz (ae (vI r_40) wz rfl (aj (af (aa (ae (vI r_40) wz rfl (ae (vB (r_40 != 0)) wz rfl (aj ?_)))))))
          rcases ak hc_35 with⟨hc_42,hc_35⟩|⟨hc_42,hc_35⟩
          ·refine aA rfl hc_42 (af (aa (ae (vI r_40) wz rfl (ae (vI r_40) wz rfl (aj ?_)))))
           obtain rfl:=ah hc_35
           obtain rfl:=ah hL_36
           obtain rfl:=ah hF
           exact ay (aX (.inr rfl) [(vI r_40)] ⟨rfl,trivial⟩ rfl rfl rfl)
          ·refine ax rfl hc_42 (av (aa (gN (bU hD_32 hn_33) wz rfl (ae (vI ((k_29+1:Nat):Int)) wz rfl (aj ?_)))))
           obtain rfl:=ah hc_35
           exact bC (k_29+1,l_30,()) ⟨hL_36,aY hD_32⟩ (ls_ _) rfl (aK rfl)
        ·rintro s_34 ho_ sl_ H_ hp_ hq_
         subst ho_
         refine aV _ hp_ hq_ (af (aa (aF l5 rfl 2 rfl wz (aD 0 0 il ft sz3 ag3 rfl rfl (vI a_1.Kind) rfl wz (ae (vB (a_1.Kind==3)) wz rfl (ae (vB (a_1.Kind==3)) wz rfl (aj (af (aB (af (aa (ae (vB (a_1.Kind==3)) wz rfl (aF kY rfl 7 rfl wz (aD 0 0 il ft tY xO rfl rfl (vL Rect.enc a_1.Areas) rfl wz (dA xE rfl wz (ae (vB ((a_1.Areas.length:Int)==0)) wz rfl (Bt un4 rfl rfl wz (ae (vB (!((a_1.Kind==3)==((a_1.Areas.length:Int)==0)))) wz rfl (aj ?_)))))))))))))))))))
         rcases ak hF with⟨hc_43,hF⟩|⟨hc_43,hF⟩
         ·refine aA rfl hc_43 (af (aa (ae (vI 3) wz rfl (aj ?_))))
          obtain rfl:=ah hF
          exact ay (aX (.inr rfl) [(vI 3)] ⟨rfl,trivial⟩ rfl rfl rfl)
         ·refine ax rfl hc_43 (af (aa (aF ni rfl 8 rfl wz (aD 0 0 il ft sz9 ag9 rfl rfl (vS a_1.Text) rfl wz (nk un9 rfl wz (ae (vB (decide ((a_1.Text.size:Int)>500))) wz rfl (ae (vB (decide ((a_1.Text.size:Int)>500))) wz rfl (aj ?_))))))))
          rcases ak hF with⟨hc_44,hF⟩|⟨hc_44,hF⟩
          ·refine aA rfl hc_44 (af (aa (ae (vI 2) wz rfl (aj ?_))))
           obtain rfl:=ah hF
           exact ay (aX (.inr rfl) [(vI 2)] ⟨rfl,trivial⟩ rfl rfl rfl)
          ·refine ax rfl hc_44 (af ?_)
           obtain ⟨v_45,h_46,hF⟩:=bind_some hF
           refine aI (β:=Unit) (λ_=>([(78,(vB v_45))]:SL_)) (λ_=>([(n_2,some (.cells 9 [(vS a_1.Id),(vS a_1.Sender),(vI a_1.Kind),(vL eS a_1.Refs),(vI a_1.At),(vI a_1.Until),(vI a_1.Weight),(vL Rect.enc a_1.Areas),(vS a_1.Text)]))]:Hp)) (λ_=>True) ?_ ?_
           ·refine aa (aF ni rfl 8 rfl wz (aD 0 0 il ft sz9 ag9 rfl rfl (vS a_1.Text) rfl wz ?_))
            obtain ⟨r_47,hr_48,h_46⟩:=bind_some h_46
            refine aH (yQ hr_48) rfl hb92 rfl rfl rfl rfl wz (ae (vB (!r_47)) wz rfl ?_)
            rcases ak h_46 with⟨hc_49,h_46⟩|⟨hc_49,h_46⟩
            ·refine aC rfl hc_49 wz (ai wa (ai wa (ai wa (ai wa (ai (wn rfl rfl) (ai (wn rfl rfl) (ai wa (ae (vB true) wz rfl (ae (vB true) wz rfl (aj ?_))))))))))
             obtain rfl:=ah h_46
             exact cu
            ·refine aC rfl hc_49 wz (aF ni rfl 8 rfl wa (aD 0 0 il ft sz9 ag9 rfl rfl (vS a_1.Text) rfl wa (ae (vB (sEq a_1.Text (⟨#[]⟩:ByteArray))) wa rfl ?_)))
             rcases ak h_46 with⟨hc_50,h_46⟩|⟨hc_50,h_46⟩
             ·refine aC rfl hc_50 wa (ae (vB (a_1.Kind==3)) wa rfl (ae (vB (!(a_1.Kind==3))) wa rfl (ae (vB (!(a_1.Kind==3))) wa rfl (ae (vB (!(a_1.Kind==3))) wz rfl (ae (vB (!(a_1.Kind==3))) wz rfl (aj ?_))))))
              obtain rfl:=ah h_46
              exact cu
             ·refine aC rfl hc_50 wa (ai wa (ai wa (ae (vB false) wa rfl (ae (vB false) wz rfl (ae (vB false) wz rfl (aj ?_))))))
              obtain rfl:=ah h_46
              exact cu
           ·rintro ⟨⟩ _ sl_ H_ hp_ hq_
            refine aV _ hp_ hq_ ?_
            rcases ak hF with⟨hc_51,hF⟩|⟨hc_51,hF⟩
            ·refine aA rfl hc_51 (af (aa (ae (vI 3) wz rfl (aj ?_))))
             obtain rfl:=ah hF
             exact ay (aX (.inr rfl) [(vI 3)] ⟨rfl,trivial⟩ rfl rfl rfl)
            ·refine ax rfl hc_51 (av (af (aa (ae (vI 0) wz rfl (aj ?_)))))
             obtain rfl:=ah hF
             exact ay (aX (.inr rfl) [(vI 0)] ⟨rfl,trivial⟩ rfl rfl rfl)
theorem pV {x_1:Int} {r:Bool} (hF:cmp_isNaN_int x_1=some r) :
  FnM Tryz.prog 122 [(vI x_1)] [] (vB r) []:=by
 refine FnM.of_wH ⟨Tryz.prog,6,[],[]⟩ rfl Tryz.func122 rfl rfl (lb_ rfl) (by kernel_rfl) ?_
 unfold cmp_isNaN_int at hF
 refine af (aa (ae (vB false) wz rfl (aj (af (aa (ae (vI x_1) wz rfl (ae (vI x_1) wz rfl (ae (vB (x_1 != x_1)) wz rfl (ae (vB (x_1 != x_1)) wz rfl (aj ?_))))))))))
 obtain rfl:=ah hF
 exact ay (aX (.inr rfl) [(vB (x_1 != x_1))] ⟨rfl,trivial⟩ rfl rfl rfl)
theorem uE {x_1:Int} {y_2:Int} {r:Int} (hF:cmp_Compare_int x_1 y_2=some r) :
  FnM Tryz.prog 80 [(vI x_1),(vI y_2)] [] (vI r) []:=by
 refine FnM.of_wH ⟨Tryz.prog,20,[],[]⟩ rfl Tryz.func80 rfl rfl (lb_ rfl) (by kernel_rfl) ?_
 unfold cmp_Compare_int at hF
 refine af (aa (ae (vI 0) wz rfl (aj (af (aa (ae (vI x_1) wz rfl ?_))))))
 obtain ⟨r_3,hr_4,hF⟩:=bind_some hF
 refine aH (pV hr_4) rfl hb122 rfl rfl rfl rfl wz (ae (vB r_3) wz rfl (aj (af (aa (ae (vI y_2) wz rfl ?_)))))
 obtain ⟨r_5,hr_6,hF⟩:=bind_some hF
 refine aH (pV hr_6) rfl hb122 rfl rfl rfl rfl wz (ae (vB r_5) wz rfl (aj (af (af (aa (ae (vB r_3) wz rfl (aj ?_)))))))
 rcases ak hF with⟨hc_7,hF⟩|⟨hc_7,hF⟩
 ·refine aA rfl hc_7 (af (af (aa (ae (vB r_5) wz rfl (aj ?_)))))
  rcases ak hF with⟨hc_8,hF⟩|⟨hc_8,hF⟩
  ·refine aA rfl hc_8 (af (aa (ae (vI 0) wz rfl (aj ?_))))
   obtain rfl:=ah hF
   exact ay (aX (.inr rfl) [(vI 0)] ⟨rfl,trivial⟩ rfl rfl rfl)
  ·refine ax rfl hc_8 (av (af (aa (ae (vI (-1)) wz rfl (aj ?_)))))
   obtain rfl:=ah hF
   exact ay (aX (.inr rfl) [(vI (-1))] ⟨rfl,trivial⟩ rfl rfl rfl)
 ·refine ax rfl hc_7 (av (af (af (aa (ae (vB r_5) wz rfl (aj ?_))))))
  rcases ak hF with⟨hc_9,hF⟩|⟨hc_9,hF⟩
  ·refine aA rfl hc_9 (af (aa (ae (vI 1) wz rfl (aj ?_))))
   obtain rfl:=ah hF
   exact ay (aX (.inr rfl) [(vI 1)] ⟨rfl,trivial⟩ rfl rfl rfl)
  ·refine ax rfl hc_9 (av (af (af (aa (ae (vI x_1) wz rfl (ae (vI y_2) wz rfl (ae (vB (decide (x_1<y_2))) wz rfl (aj ?_))))))))
   rcases ak hF with⟨hc_10,hF⟩|⟨hc_10,hF⟩
   ·refine aA rfl hc_10 (af (aa (ae (vI (-1)) wz rfl (aj ?_))))
    obtain rfl:=ah hF
    exact ay (aX (.inr rfl) [(vI (-1))] ⟨rfl,trivial⟩ rfl rfl rfl)
   ·refine ax rfl hc_10 (av (af (af (aa (ae (vI x_1) wz rfl (ae (vI y_2) wz rfl (ae (vB (decide (x_1>y_2))) wz rfl (aj ?_))))))))
    rcases ak hF with⟨hc_11,hF⟩|⟨hc_11,hF⟩
    ·refine aA rfl hc_11 (af (aa (ae (vI 1) wz rfl (aj ?_))))
     obtain rfl:=ah hF
     exact ay (aX (.inr rfl) [(vI 1)] ⟨rfl,trivial⟩ rfl rfl rfl)
    ·refine ax rfl hc_11 (av (af (aa (ae (vI 0) wz rfl (aj ?_)))))
     obtain rfl:=ah hF
     exact ay (aX (.inr rfl) [(vI 0)] ⟨rfl,trivial⟩ rfl rfl rfl)
theorem lq {a_1:ByteArray} {b_2:ByteArray} {r:Int} (hF:fG a_1 b_2=some r) :
  FnM Tryz.prog 123 [(vS a_1),(vS b_2)] [] (vI r) []:=by
 refine FnM.of_wH ⟨Tryz.prog,8,[],[]⟩ rfl Tryz.func123 rfl rfl (lb_ rfl) (by kernel_rfl) ?_
 unfold fG at hF
 refine af (aa (ae (vI 0) wz rfl (aj (af (aa (ae (vS a_1) wz rfl (ae (vS b_2) wz rfl (h_ext (Jk (f:=163) Tryz.func163 rfl rfl (by kernel_rfl) (by kernel_rfl) _ _) rfl nb163 rfl wz (ae (vI (zG a_1 b_2)) wz rfl (aj ?_))))))))))
 obtain rfl:=ah hF
 exact ay (aX (.inr rfl) [(vI (zG a_1 b_2))] ⟨rfl,trivial⟩ rfl rfl rfl)
theorem oI {a_1:ByteArray} {b_2:ByteArray} {r:Int} (hF:strings_Compare a_1 b_2=some r) :
  FnM Tryz.prog 81 [(vS a_1),(vS b_2)] [] (vI r) []:=by
 refine FnM.of_wH ⟨Tryz.prog,8,[],[]⟩ rfl Tryz.func81 rfl rfl (lb_ rfl) (by kernel_rfl) ?_
 unfold strings_Compare at hF
 refine af (aa (ae (vI 0) wz rfl (aj (af (aa (ae (vS a_1) wz rfl (ae (vS b_2) wz rfl ?_)))))))
 obtain ⟨r_3,hr_4,hF⟩:=bind_some hF
 refine aH (lq hr_4) rfl hb123 rfl rfl rfl rfl wz (ae (vI r_3) wz rfl (aj ?_))
 obtain rfl:=ah hF
 exact ay (aX (.inr rfl) [(vI r_3)] ⟨rfl,trivial⟩ rfl rfl rfl)
theorem zP {vals_1:(List Int)} {r:Int} (hF:oK vals_1=some r) :
  FnM Tryz.prog 79 [(vL eI vals_1)] [] (vI r) []:=by
 refine FnM.of_wH ⟨Tryz.prog,18,[],[]⟩ rfl Tryz.func79 rfl rfl (lb_ rfl) (by kernel_rfl) ?_
 unfold oK at hF
 refine af (aa (ae (vI 0) wz rfl (aj (af (aa (ae (vI 0) wz rfl (aj (af (af (aa (ae (vL eI vals_1) wz rfl (dA Gx rfl wz (ae (vI 0) wz rfl (aj ?_))))))))))))))
 obtain ⟨o_10,hj_11,hF⟩:=bind_some hF
 obtain ⟨hn_6,hj_11⟩:=bv hj_11
 refine aI (β:=(Unit)) (λ(s_7:Unit)=>([(3,(vI 0))]:SL_)) (λ(s_7:Unit)=>([]:Hp)) (λp=>o_10 = .go p) ?_ ?_
 ·refine aB (bn (β:=Nat×(List Int)×(Unit)) (λp=>(λ(k_2:Nat) (l_3:List Int) (s_7:Unit)=>([(3,(vI 0)),(6,(vL eI vals_1)),(7,(vI (vals_1.length:Int))),(8,(vI (k_2:Int)))]:SL_)) p.1 p.2.1 p.2.2) (λp=>(λ(k_2:Nat) (l_3:List Int) (s_7:Unit)=>([]:Hp)) p.1 p.2.1 p.2.2) (λp=>forR (λk x s=>mK k x s) p.2.1 p.1 p.2.2=some o_10/\(vals_1).drop p.1=p.2.1) (λp=>p.2.1.length) (0,vals_1,()) ⟨hj_11,rfl⟩ rfl (aK rfl) ?_)
  rintro ⟨k_2,l_3,s_7⟩ ⟨hL_9,hD_5⟩
  dsimp only at hL_9 hD_5
  cases l_3 with
  | nil =>
   obtain rfl:=ah hL_9
   refine af (aa (ae (vB (decide ((k_2:Int)<(vals_1.length:Int)))) wz rfl (aj ?_)))
   refine af (ax rfl (drop_nil hD_5) (bE ?_))
   exact bN (s_7) rfl rfl (aK rfl)
  | cons x_4 l_3 =>
   obtain ⟨c_,hc_8,hL_9⟩:=bind_some hL_9
   refine af (aa (ae (vB (decide ((k_2:Int)<(vals_1.length:Int)))) wz rfl (aj ?_)))
   refine af (aA rfl (bP hD_5) (av ?_))
   unfold mK at hc_8
   refine af (aB (af (aa (jk wM rfl rfl (dB hD_5) rfl wz (fA sz3 ag3 rfl (vI x_4) rfl wz (ae (vI x_4) wz rfl (aj (af (aa (ae (vI x_4) wz rfl (ae (vI 0) wz rfl (ae (vB (x_4 != 0)) wz rfl (aj ?_)))))))))))))
   rcases ak hc_8 with⟨hc_12,hc_8⟩|⟨hc_12,hc_8⟩
   ·refine aA rfl hc_12 (af (aa (ae (vI x_4) wz rfl (ae (vI x_4) wz rfl (aj ?_)))))
    obtain rfl:=ah hc_8
    obtain rfl:=ah hL_9
    obtain rfl:=ah hF
    exact ay (aX (.inr rfl) [(vI x_4)] ⟨rfl,trivial⟩ rfl rfl rfl)
   ·refine ax rfl hc_12 (av (aa (gN (bU hD_5 hn_6) wz rfl (ae (vI ((k_2+1:Nat):Int)) wz rfl (aj ?_)))))
    obtain rfl:=ah hc_8
    exact bC (k_2+1,l_3,()) ⟨hL_9,aY hD_5⟩ (ls_ _) rfl (aK rfl)
 ·rintro s_7 ho_ sl_ H_ hp_ hq_
  subst ho_
  refine aV _ hp_ hq_ (af (aa (ae (vI 0) wz rfl (ae (vI 0) wz rfl (aj ?_)))))
  obtain rfl:=ah hF
  exact ay (aX (.inr rfl) [(vI 0)] ⟨rfl,trivial⟩ rfl rfl rfl)
theorem pX {a_1:Alert} {b_2:Alert} {r:Int} (hF:fO a_1 b_2=some r) :
  FnM Tryz.prog 44 [(.d (.agg (Alert.enc a_1))),(.d (.agg (Alert.enc b_2)))] [] (vI r) []:=by
 refine FnM.of_wH ⟨Tryz.prog,17,[],[]⟩ rfl Tryz.func44 rfl rfl (lb_ rfl) (by kernel_rfl) ?_
 unfold fO at hF
 refine af (aa (jN 0 (.inl rfl) [(vS a_1.Id),(vS a_1.Sender),(vI a_1.Kind),(vL eS a_1.Refs),(vI a_1.At),(vI a_1.Until),(vI a_1.Weight),(vL Rect.enc a_1.Areas),(vS a_1.Text)] rfl rfl wz (λn_3=>jN 0 (.inl rfl) [(vS b_2.Id),(vS b_2.Sender),(vI b_2.Kind),(vL eS b_2.Refs),(vI b_2.At),(vI b_2.Until),(vI b_2.Weight),(vL Rect.enc b_2.Areas),(vS b_2.Text)] rfl rfl wz (λn_4=>ae (vI 0) wz rfl (aj (af (eu (aF iG rfl 4 rfl wz (aD 1 0 (.inr (by kernel_rfl)) (λ_ _ ag=>trivial) sz3 ag3 rfl rfl (vI a_1.At) rfl wz (aF iG rfl 4 rfl wz (aD 3 1 (.inr (by kernel_rfl)) (λ_ _ ag=>⟨.inl ⟨rfl,rfl⟩,trivial⟩) sz3 ag3 rfl rfl (vI b_2.At) rfl wz ?_)))))))))))
 obtain ⟨r_5,hr_6,hF⟩:=bind_some hF
 refine aH (uE hr_6) rfl hb80 rfl rfl rfl rfl wz (aF ic rfl 0 rfl wz (aD 6 0 (.inr (by kernel_rfl)) (λ_ _ ag=>⟨.inl ⟨rfl,rfl⟩,⟨.inl ⟨rfl,rfl⟩,trivial⟩⟩) sz9 ag9 rfl rfl (vS a_1.Id) rfl wz (aF ic rfl 0 rfl wz (aD 8 1 (.inr (by kernel_rfl)) (λ_ _ ag=>⟨.inl ⟨rfl,rfl⟩,⟨.inl ⟨rfl,rfl⟩,⟨.inl ⟨rfl,rfl⟩,trivial⟩⟩⟩) sz9 ag9 rfl rfl (vS b_2.Id) rfl wz ?_))))
 obtain ⟨r_7,hr_8,hF⟩:=bind_some hF
 refine aH (oI hr_8) rfl hb81 rfl rfl rfl rfl wz (fB (([r_5,r_7]:List Int).map eI) wM BA rfl rfl rfl rfl rfl wz ?_)
 obtain ⟨r_9,hr_10,hF⟩:=bind_some hF
 refine aH (zP hr_10) rfl hb79 rfl rfl rfl rfl wz (ae (vI r_9) wz rfl (aj ?_))
 obtain rfl:=ah hF
 exact ay (aX (.inr rfl) [(vI r_9)] ⟨rfl,trivial⟩ rfl rfl rfl)
theorem jR {l_1:(List Alert)} {r:Int} (hF:dJ l_1=some r) :
  FnM Tryz.prog 13 [(vL Alert.enc l_1)] [] (vI r) []:=by
 refine FnM.of_wH ⟨Tryz.prog,52,[],[]⟩ rfl Tryz.func13 rfl rfl (lb_ rfl) (by kernel_rfl) ?_
 unfold dJ at hF
 refine af (aa (ae (vI 0) wz rfl (aj (af (af (aa (ae (vL Alert.enc l_1) wz rfl (dA lK rfl wz (ae (vB (decide ((l_1.length:Int)>300))) wz rfl (aj ?_))))))))))
 rcases ak hF with⟨hc_2,hF⟩|⟨hc_2,hF⟩
 ·refine aA rfl hc_2 (af (aa (ae (vI 2) wz rfl (aj ?_))))
  obtain rfl:=ah hF
  exact ay (aX (.inr rfl) [(vI 2)] ⟨rfl,trivial⟩ rfl rfl rfl)
 ·refine ax rfl hc_2 (av (af (af (aa (ae (vL Alert.enc l_1) wz rfl (dA lK rfl wz (ae (vI 0) wz rfl (aj ?_))))))))
  obtain ⟨o_11,hj_12,hF⟩:=bind_some hF
  obtain ⟨hn_7,hj_12⟩:=bv hj_12
  refine aI (β:=(Unit)) (λ(s_8:Unit)=>([(0,(vL Alert.enc l_1))]:SL_)) (λ(s_8:Unit)=>([]:Hp)) (λp=>o_11 = .go p) ?_ ?_
  ·refine aB (bn (β:=Nat×(List Alert)×(Unit)) (λp=>(λ(k_3:Nat) (l_4:List Alert) (s_8:Unit)=>([(0,(vL Alert.enc l_1)),(12,(vL Alert.enc l_1)),(13,(vI (l_1.length:Int))),(14,(vI (k_3:Int)))]:SL_)) p.1 p.2.1 p.2.2) (λp=>(λ(k_3:Nat) (l_4:List Alert) (s_8:Unit)=>([]:Hp)) p.1 p.2.1 p.2.2) (λp=>forR (λk x s=>dz l_1 k x s) p.2.1 p.1 p.2.2=some o_11/\(l_1).drop p.1=p.2.1) (λp=>p.2.1.length) (0,l_1,()) ⟨hj_12,rfl⟩ rfl (aK rfl) ?_)
   rintro ⟨k_3,l_4,s_8⟩ ⟨hL_10,hD_6⟩
   dsimp only at hL_10 hD_6
   cases l_4 with
   | nil =>
    obtain rfl:=ah hL_10
    refine af (aa (ae (vB (decide ((k_3:Int)<(l_1.length:Int)))) wz rfl (aj ?_)))
    refine af (ax rfl (drop_nil hD_6) (bE ?_))
    exact bN (s_8) rfl rfl (aK rfl)
   | cons x_5 l_4 =>
    obtain ⟨c_,hc_9,hL_10⟩:=bind_some hL_10
    refine af (aa (ae (vB (decide ((k_3:Int)<(l_1.length:Int)))) wz rfl (aj ?_)))
    refine af (aA rfl (bP hD_6) (av ?_))
    unfold dz at hc_9
    refine af (aB (af (aa (ae (vI (k_3:Int)) wz rfl (jk iU rfl rfl (dB hD_6) rfl wz (fA dM iw rfl (.d (.agg (Alert.enc x_5))) rfl wz (fP 0 (.inl rfl) z33 rfl wz (λn_13=>ae (vI (k_3:Int)) wz rfl (fU 0 il ft 0 dM rfl rfl [(vS x_5.Id),(vS x_5.Sender),(vI x_5.Kind),(vL eS x_5.Refs),(vI x_5.At),(vI x_5.Until),(vI x_5.Weight),(vL Rect.enc x_5.Areas),(vS x_5.Text)] rfl wz (aj (af (af (aa (aD 0 0 il ft dM iw rfl rfl (.d (.agg (Alert.enc x_5))) rfl wz ?_))))))))))))))
    obtain ⟨r_14,hr_15,hc_9⟩:=bind_some hc_9
    refine aH (sS hr_15) rfl hb47 rfl rfl rfl rfl wz (ae (vI r_14) wz rfl (aj (af (aa (ae (vI r_14) wz rfl (ae (vB (r_14 != 0)) wz rfl (aj ?_)))))))
    rcases ak hc_9 with⟨hc_16,hc_9⟩|⟨hc_16,hc_9⟩
    ·refine aA rfl hc_16 (af (aa (ae (vI r_14) wz rfl (ae (vI r_14) wz rfl (aj ?_)))))
     obtain rfl:=ah hc_9
     obtain rfl:=ah hL_10
     obtain rfl:=ah hF
     exact ay (aX (.inr rfl) [(vI r_14)] ⟨rfl,trivial⟩ rfl rfl rfl)
    ·refine ax rfl hc_16 (av (af ?_))
     obtain ⟨v_17,h_18,hc_9⟩:=bind_some hc_9
     refine aI (β:=Unit) (λ_=>([(0,(vL Alert.enc l_1)),(12,(vL Alert.enc l_1)),(13,(vI (l_1.length:Int))),(14,(vI (k_3:Int))),(35,(vB v_17))]:SL_)) (λ_=>([(n_13,some (.cells 9 [(vS x_5.Id),(vS x_5.Sender),(vI x_5.Kind),(vL eS x_5.Refs),(vI x_5.At),(vI x_5.Until),(vI x_5.Weight),(vL Rect.enc x_5.Areas),(vS x_5.Text)]))]:Hp)) (λ_=>True) ?_ ?_
     ·refine eu (ae (vI (k_3:Int)) wz rfl (ae (vB (decide ((k_3:Int)>0))) wz rfl ?_))
      rcases ak h_18 with⟨hc_19,h_18⟩|⟨hc_19,h_18⟩
      ·refine aC rfl hc_19 wz (ae (vL Alert.enc l_1) wa rfl (ae (vI (k_3:Int)) wa rfl (ae (vI (w64 ((k_3:Int)-1))) wa rfl ?_)))
       obtain ⟨y_20,hy_21,h_18⟩:=bind_some h_18
       refine jk iU rfl rfl hy_21 rfl wa (fA dM iw rfl (.d (.agg (Alert.enc y_20))) rfl wa (aD 8 0 (.inr (by kernel_rfl)) (λ_ _ ag=>trivial) dM iw rfl rfl (.d (.agg (Alert.enc x_5))) rfl wa ?_))
       obtain ⟨r_22,hr_23,h_18⟩:=bind_some h_18
       refine aH (pX hr_23) rfl hb44 rfl rfl rfl rfl wa (ae (vB (decide (r_22>=0))) wa rfl (ae (vB (decide (r_22>=0))) wz rfl (aj ?_)))
       obtain rfl:=ah h_18
       exact cu
      ·refine aC rfl hc_19 wz (ai wa (ai wa (ai wa (ai wa (ai wa (ai wa (ai wa (ai wa (ae (vB false) wz rfl (aj ?_))))))))))
       obtain rfl:=ah h_18
       exact cu
     ·rintro ⟨⟩ _ sl_ H_ hp_ hq_
      refine aV _ hp_ hq_ ?_
      rcases ak hc_9 with⟨hc_24,hc_9⟩|⟨hc_24,hc_9⟩
      ·refine aA rfl hc_24 (af (aa (ae (vI 7) wz rfl (aj ?_))))
       obtain rfl:=ah hc_9
       obtain rfl:=ah hL_10
       obtain rfl:=ah hF
       exact ay (aX (.inr rfl) [(vI 7)] ⟨rfl,trivial⟩ rfl rfl rfl)
      ·refine ax rfl hc_24 (av (aa (gN (bU hD_6 hn_7) wz rfl (ae (vI ((k_3+1:Nat):Int)) wz rfl (aj ?_)))))
       obtain rfl:=ah hc_9
       exact bC (k_3+1,l_4,()) ⟨hL_10,aY hD_6⟩ (ls_ _) rfl (aK rfl)
  ·rintro s_8 ho_ sl_ H_ hp_ hq_
   subst ho_
   refine aV _ hp_ hq_ (af (aa (Cg 0 (.inl rfl) wz (λn_25=>Jd (b':=some (bM D.str D.bool ([]:List (ByteArray×Bool)))) 0 rfl rfl (ae (.map n_25) wz rfl (aj (af (af (aa (ae (vL Alert.enc l_1) wz rfl (dA lK rfl wz (ae (vI 0) wz rfl (aj ?_)))))))))))))
   obtain ⟨o_34,hj_35,hF⟩:=bind_some hF
   obtain ⟨hn_30,hj_35⟩:=bv hj_35
   refine aI (β:=((List (ByteArray×Bool)))) (λ(s_31:(List (ByteArray×Bool)))=>([]:SL_)) (λ(s_31:(List (ByteArray×Bool)))=>([(n_25,some (bM D.str D.bool s_31))]:Hp)) (λp=>o_34 = .go p) ?_ ?_
   ·refine aB (bn (β:=Nat×(List Alert)×((List (ByteArray×Bool)))) (λp=>(λ(k_26:Nat) (l_27:List Alert) (s_31:(List (ByteArray×Bool)))=>([(6,(.map n_25)),(38,(vL Alert.enc l_1)),(39,(vI (l_1.length:Int))),(40,(vI (k_26:Int)))]:SL_)) p.1 p.2.1 p.2.2) (λp=>(λ(k_26:Nat) (l_27:List Alert) (s_31:(List (ByteArray×Bool)))=>([(n_25,some (bM D.str D.bool s_31))]:Hp)) p.1 p.2.1 p.2.2) (λp=>forR (λk x s=>bH k x s) p.2.1 p.1 p.2.2=some o_34/\(l_1).drop p.1=p.2.1) (λp=>p.2.1.length) (0,l_1,([]:List (ByteArray×Bool))) ⟨hj_35,rfl⟩ rfl (aK rfl) ?_)
    rintro ⟨k_26,l_27,s_31⟩ ⟨hL_33,hD_29⟩
    dsimp only at hL_33 hD_29
    cases l_27 with
    | nil =>
     obtain rfl:=ah hL_33
     refine af (aa (ae (vB (decide ((k_26:Int)<(l_1.length:Int)))) wz rfl (aj ?_)))
     refine af (ax rfl (drop_nil hD_29) (bE ?_))
     exact bN (s_31) rfl rfl (aK rfl)
    | cons x_28 l_27 =>
     obtain ⟨c_,hc_32,hL_33⟩:=bind_some hL_33
     refine af (aa (ae (vB (decide ((k_26:Int)<(l_1.length:Int)))) wz rfl (aj ?_)))
     refine af (aA rfl (bP hD_29) (av ?_))
     unfold bH at hc_32
     refine af (aB (af (aa (jk iU rfl rfl (dB hD_29) rfl wz (fA dM iw rfl (.d (.agg (Alert.enc x_28))) rfl wz (fP 0 (.inl rfl) z33 rfl wz (λn_36=>fU 0 il ft 1 dM rfl rfl [(vS x_28.Id),(vS x_28.Sender),(vI x_28.Kind),(vL eS x_28.Refs),(vI x_28.At),(vI x_28.Until),(vI x_28.Weight),(vL Rect.enc x_28.Areas),(vS x_28.Text)] rfl wz (aj (af (af (aa (ae (.map n_25) wz rfl (aF ic rfl 0 rfl wz (aD 0 1 il ft sz9 ag9 rfl rfl (vS x_28.Id) rfl wz (Eb (eq:=eqS) (kD:=D.str) (vD:=D.bool) (es:=s_31) (k:=x_28.Id) (z:=false) 0 0 il ft (λ_ _=>rfl) mt72 (by kernel_rfl) (by kernel_rfl) rfl rfl rfl (vB ((jo eqS s_31 x_28.Id).getD false)) rfl wz (aj ?_))))))))))))))))
     rcases ak hc_32 with⟨hc_37,hc_32⟩|⟨hc_37,hc_32⟩
     ·refine aA rfl hc_37 (af (aa (ae (vI 6) wz rfl (aj ?_))))
      obtain rfl:=ah hc_32
      obtain rfl:=ah hL_33
      obtain rfl:=ah hF
      exact ay (aX (.inr rfl) [(vI 6)] ⟨rfl,trivial⟩ rfl rfl rfl)
     ·refine ax rfl hc_37 (av (aa (ae (.map n_25) wz rfl (aF ic rfl 0 rfl wz (aD 0 1 il ft sz9 ag9 rfl rfl (vS x_28.Id) rfl wz (y8 (eq:=eqS) (kD:=D.str) (vD:=D.bool) (es:=s_31) (k:=x_28.Id) (v:=true) 0 0 il ft (λ_ _=>rfl) mt72 (by kernel_rfl) rfl rfl rfl rfl wz (aj (aa (gN (bU hD_29 hn_30) wz rfl (ae (vI ((k_26+1:Nat):Int)) wz rfl (aj ?_)))))))))))
      obtain rfl:=ah hc_32
      exact bC (k_26+1,l_27,(pg eqS s_31 x_28.Id true)) ⟨hL_33,aY hD_29⟩ (ls_ _) rfl (aK rfl)
   ·rintro s_31 ho_ sl_ H_ hp_ hq_
    subst ho_
    refine aV _ hp_ hq_ (af (aa (ae (vI 0) wz rfl (aj ?_))))
    obtain rfl:=ah hF
    exact ay (aX (.inr rfl) [(vI 0)] ⟨rfl,trivial⟩ rfl rfl rfl)
theorem kG {n_1:Int} {r:Bool} (hF:bJ n_1=some r) :
  FnM Tryz.prog 73 [.nil,(vI n_1)] [] (kV r (au 0) 9 ([]:List Alert)) (kO r 9):=by
 refine FnM.of_wH ⟨Tryz.prog,27,[],[]⟩ rfl Tryz.func73 rfl rfl (lb_ rfl) (by kernel_rfl) ?_
 unfold bJ at hF
 refine af (aa (ae .nil wz rfl (aj (af (af (aa (ae (vI n_1) wz rfl (ae (vB (decide (n_1<0))) wz rfl (aj ?_)))))))))
 rcases ak hF with⟨hc_2,hF⟩|⟨hc_2,hF⟩
 ·refine aA rfl hc_2 (aa ?_)
  cases hF
 ·refine ax rfl hc_2 (av (af (af (aa (ae (vI n_1) wz rfl (ae .nil wz rfl (IV vZ rfl wz (ae .nil wz rfl (IP lK rfl wz (ae (vI (w64 (0-0))) wz rfl (ae (vI (w64 (n_1-(w64 (0-0))))) wz rfl (ae (vI (w64 (n_1-(w64 (0-0))))) wz rfl (aj (af (aa (ae (vI (w64 (n_1-(w64 (0-0))))) wz rfl (ae (vB (decide ((w64 (n_1-(w64 (0-0))))>0))) wz rfl (aj ?_))))))))))))))))))
  rcases ak hF with⟨hc_3,hF⟩|⟨hc_3,hF⟩
  ·refine aA rfl hc_3 (aa (ae .nil wz rfl (ae .nil wz rfl (IV vZ rfl wz (ae .nil wz (by kernel_rfl) (ae (vI (w64 (n_1-(w64 (0-0))))) wz rfl ?_))))))
   obtain ⟨_,hz_5,hF⟩:=bind_some hF
   refine h_appz (enc:=Alert.enc) 0 (.inl rfl) vZ (by kernel_rfl) dM z33 rfl (by decide) GN rfl rfl hz_5 wz (λn_4=>ae .nil wz rfl (IP lK rfl wz (h_cutm (m:=0) lK dM rfl rfl rfl (Nat.zero_le _) wz (ae (.vs n_4 9 0 0) wz rfl (aj (af (aa (ae (.vs n_4 9 0 0) wz rfl (ae (.vs n_4 9 0 0) wz rfl (aj ?_))))))))))
   obtain rfl:=ah hF
   exact ay (finK (.inr rfl) 0 rfl rfl)
  ·refine ax rfl hc_3 (av (af (aa (ae .nil wz rfl (ae .nil wz rfl (aj ?_))))))
   obtain rfl:=ah hF
   exact ay (finK0 (.inr rfl) rfl)
theorem kI {slices_1:(List (List Alert))} {r:(List Alert)} (hF:bK slices_1=some r) :
  FnM Tryz.prog 40 [(vL (eL Alert.enc) slices_1)] [] (vL Alert.enc r) []:=by
 refine FnM.of_wH ⟨Tryz.prog,36,[],[]⟩ rfl Tryz.func40 rfl rfl (lb_ rfl) (by kernel_rfl) ?_
 unfold bK at hF
 refine af (aa (ae .nil wz rfl (aj (af (aa (ae (vI 0) wz rfl (aj (af (af (aa (ae (vL (eL Alert.enc) slices_1) wz rfl (dA un110 rfl wz (ae (vI 0) wz rfl (aj ?_))))))))))))))
 obtain ⟨o_10,hj_11,hF⟩:=bind_some hF
 obtain ⟨hn_6,hj_11⟩:=bv hj_11
 refine aI (β:=(Int)) (λ(s_7:Int)=>([(0,(vL (eL Alert.enc) slices_1)),(3,(vI s_7))]:SL_)) (λ(s_7:Int)=>([]:Hp)) (λp=>o_10 = .go p) ?_ ?_
 ·refine aB (bn (β:=Nat×(List (List Alert))×(Int)) (λp=>(λ(k_2:Nat) (l_3:List (List Alert)) (s_7:Int)=>([(0,(vL (eL Alert.enc) slices_1)),(3,(vI s_7)),(9,(vL (eL Alert.enc) slices_1)),(10,(vI (slices_1.length:Int))),(11,(vI (k_2:Int)))]:SL_)) p.1 p.2.1 p.2.2) (λp=>(λ(k_2:Nat) (l_3:List (List Alert)) (s_7:Int)=>([]:Hp)) p.1 p.2.1 p.2.2) (λp=>forR (λk x s=>aO k x s) p.2.1 p.1 p.2.2=some o_10/\(slices_1).drop p.1=p.2.1) (λp=>p.2.1.length) (0,slices_1,0) ⟨hj_11,rfl⟩ rfl (aK rfl) ?_)
  rintro ⟨k_2,l_3,s_7⟩ ⟨hL_9,hD_5⟩
  dsimp only at hL_9 hD_5
  cases l_3 with
  | nil =>
   obtain rfl:=ah hL_9
   refine af (aa (ae (vB (decide ((k_2:Int)<(slices_1.length:Int)))) wz rfl (aj ?_)))
   refine af (ax rfl (drop_nil hD_5) (bE ?_))
   exact bN (s_7) rfl rfl (aK rfl)
  | cons x_4 l_3 =>
   obtain ⟨c_,hc_8,hL_9⟩:=bind_some hL_9
   refine af (aa (ae (vB (decide ((k_2:Int)<(slices_1.length:Int)))) wz rfl (aj ?_)))
   refine af (aA rfl (bP hD_5) (av ?_))
   unfold aO at hc_8
   refine af (aB (af (aa (jk Il rfl rfl (dB hD_5) rfl wz (fA sz26 ag26 rfl (vL Alert.enc x_4) rfl wz (ae (vL Alert.enc x_4) wz rfl (aj (af (aa (ae (vI s_7) wz rfl (ae (vL Alert.enc x_4) wz rfl (dA lK rfl wz (ae (vI (w64 (s_7+(x_4.length:Int)))) wz rfl (ae (vI (w64 (s_7+(x_4.length:Int)))) wz rfl (aj (af (aa (ae (vI (w64 (s_7+(x_4.length:Int)))) wz rfl (ae (vB (decide ((w64 (s_7+(x_4.length:Int)))<0))) wz rfl (aj ?_))))))))))))))))))))
   obtain ⟨v_12,h_13,hc_8⟩:=bind_some hc_8
   refine aI (β:=Unit) (λ_=>([(0,(vL (eL Alert.enc) slices_1)),(3,(vI (w64 (s_7+(x_4.length:Int))))),(9,(vL (eL Alert.enc) slices_1)),(10,(vI (slices_1.length:Int))),(11,(vI (k_2:Int)))]:SL_)) (λ_=>([]:Hp)) (λ_=>True) ?_ ?_
   ·rcases ak h_13 with⟨hc_14,h_13⟩|⟨hc_14,h_13⟩
    ·refine aA rfl hc_14 (aa ?_)
     cases h_13
    ·refine ax rfl hc_14 (av ?_)
     obtain rfl:=ah h_13
     exact cu
   ·rintro ⟨⟩ _ sl_ H_ hp_ hq_
    refine aV _ hp_ hq_ (aa (gN (bU hD_5 hn_6) wz rfl (ae (vI ((k_2+1:Nat):Int)) wz rfl (aj ?_))))
    obtain rfl:=ah hc_8
    exact bC (k_2+1,l_3,(w64 (s_7+(x_4.length:Int)))) ⟨hL_9,aY hD_5⟩ (ls_ _) rfl (aK rfl)
 ·rintro s_7 ho_ sl_ H_ hp_ hq_
  subst ho_
  refine aV _ hp_ hq_ (af (aa (ae (vI s_7) wz rfl ?_)))
  obtain ⟨b_15,hr_16,hF⟩:=bind_some hF
  refine h_callk (enc:=Alert.enc) (kG hr_16) rfl hb73 (by kernel_rfl) rfl (by kernel_rfl) wz (λn_17=>ae (kV b_15 n_17 9 ([]:List Alert)) wz rfl (aj (af (af (aa (ae (vL (eL Alert.enc) slices_1) wz rfl (dA un110 rfl wz (ae (vI 0) wz rfl (aj ?_)))))))))
  obtain ⟨o_28,hj_29,hF⟩:=bind_some hF
  obtain ⟨hn_22,hj_29⟩:=bv hj_29
  refine aI (β:=((List Alert))×Nm) (λp=>(λ(s_23:List Alert) (n_25:Nm)=>([(6,(kV b_15 n_25 9 s_23))]:SL_)) p.1 p.2) (λp=>(λ(s_23:List Alert) (n_25:Nm)=>([(n_25,kB b_15 9 Alert.enc s_23)]:Hp)) p.1 p.2) (λp=>o_28 = .go p.1) ?_ ?_
  ·refine aB (bn (β:=Nat×(List (List Alert))×((List Alert))×Nm) (λp=>(λ(k_18:Nat) (l_19:List (List Alert)) (s_23:List Alert) (n_25:Nm)=>([(6,(kV b_15 n_25 9 s_23)),(25,(vL (eL Alert.enc) slices_1)),(26,(vI (slices_1.length:Int))),(27,(vI (k_18:Int)))]:SL_)) p.1 p.2.1 p.2.2.1 p.2.2.2) (λp=>(λ(k_18:Nat) (l_19:List (List Alert)) (s_23:List Alert) (n_25:Nm)=>([(n_25,kB b_15 9 Alert.enc s_23)]:Hp)) p.1 p.2.1 p.2.2.1 p.2.2.2) (λp=>forR (λk x s=>aN k x s) p.2.1 p.1 p.2.2.1=some o_28/\(slices_1).drop p.1=p.2.1) (λp=>p.2.1.length) (0,slices_1,([]:List Alert),n_17) ⟨hj_29,rfl⟩ rfl (aK rfl) ?_)
   rintro ⟨k_18,l_19,s_23,n_25⟩ ⟨hL_27,hD_21⟩
   dsimp only at hL_27 hD_21
   cases l_19 with
   | nil =>
    obtain rfl:=ah hL_27
    refine af (aa (ae (vB (decide ((k_18:Int)<(slices_1.length:Int)))) wz rfl (aj ?_)))
    refine af (ax rfl (drop_nil hD_21) (bE ?_))
    exact bN (s_23,n_25) rfl rfl (aK rfl)
   | cons x_20 l_19 =>
    obtain ⟨c_,hc_26,hL_27⟩:=bind_some hL_27
    refine af (aa (ae (vB (decide ((k_18:Int)<(slices_1.length:Int)))) wz rfl (aj ?_)))
    refine af (aA rfl (bP hD_21) (av ?_))
    unfold aN at hc_26
    refine af (aB (af (aa (jk Il rfl rfl (dB hD_21) rfl wz (fA sz26 ag26 rfl (vL Alert.enc x_20) rfl wz (ae (vL Alert.enc x_20) wz rfl (aj (aa (ae (kV b_15 n_25 9 s_23) wz rfl (ae (vL Alert.enc x_20) wz rfl ?_))))))))))
    obtain ⟨a_30,hz_31,hc_26⟩:=bind_some hc_26
    refine h_appk 0 il ft (i:=0) vZ vZ dM z33 rfl (by decide) GN (by decide) (λ_=>rfl) rfl rfl rfl hz_31 wz (λn_32=>ae (kV b_15 n_32 9 a_30) wz rfl (aj (aa (gN (bU hD_21 hn_22) wz rfl (ae (vI ((k_18+1:Nat):Int)) wz rfl (aj ?_))))))
    obtain rfl:=ah hc_26
    exact bC (k_18+1,l_19,a_30,n_32) ⟨hL_27,aY hD_21⟩ (ls_ _) rfl (aK rfl)
  ·rintro ⟨s_23,n_25⟩ ho_ sl_ H_ hp_ hq_
   subst ho_
   refine aV _ hp_ hq_ (af (aa (ae (kV b_15 n_25 9 s_23) wz rfl (ae (kV b_15 n_25 9 s_23) wz rfl (aj (Jt 0 rfl (E5 2 0 rfl rfl (E5 6 0 rfl rfl (E5 35 0 rfl rfl ?_)))))))))
   obtain rfl:=ah hF
   exact ay (aX (.inr rfl) [(vL Alert.enc s_23)] ⟨rfl,trivial⟩ rfl rfl rfl)
theorem mX {s_1:(List ByteArray)} {r:(List ByteArray)} (hF:fo s_1=some r) :
  FnM Tryz.prog 74 [(vL eS s_1)] [] (vL eS r) []:=by
 refine FnM.of_wH ⟨Tryz.prog,8,[],[]⟩ rfl Tryz.func74 rfl rfl (lb_ rfl) (by kernel_rfl) ?_
 unfold fo at hF
 refine af (aa (ae .nil wz rfl (aj (af (af (aa (ae (vL eS s_1) wz rfl (BI sP rfl wz (λb_2 hb_3=>aj ?_)))))))))
 cases b_2 with
 | true =>
  refine aA rfl rfl ?_
  obtain rfl:=hb_3 rfl
  replace hF:=wK hF
  refine af (aa (ae .nil wz rfl (aj ?_)))
  obtain rfl:=ah hF
  exact ay (aX (.inr rfl) [.nil] ⟨rfl,trivial⟩ rfl rfl rfl)
 | false =>
  refine ax rfl rfl (av (af (aa (Ff lW rV rfl wz (ae (vL eS s_1) wz rfl ?_)))))
  obtain ⟨a_4,hz_5,hF⟩:=bind_some hF
  refine En 0 (.inl rfl) Ht Ht sz9 z9 rfl (by decide) by9 (by decide) (λ_=>rfl) rfl rfl hz_5 wz (λn_6=>ae (gV n_6 1 a_4) wz rfl (aj (jq 0 rfl (fC 2 0 rfl rfl (fC 7 0 rfl rfl ?_)))))
  obtain rfl:=ah hF
  exact ay (aX (.inr rfl) [(vL eS a_4)] ⟨rfl,trivial⟩ rfl rfl rfl)
theorem lw {s_1:(List Rect)} {r:(List Rect)} (hF:dU s_1=some r) :
  FnM Tryz.prog 75 [(vL Rect.enc s_1)] [] (vL Rect.enc r) []:=by
 refine FnM.of_wH ⟨Tryz.prog,8,[],[]⟩ rfl Tryz.func75 rfl rfl (lb_ rfl) (by kernel_rfl) ?_
 unfold dU at hF
 refine af (aa (ae .nil wz rfl (aj (af (af (aa (ae (vL Rect.enc s_1) wz rfl (BI xE rfl wz (λb_2 hb_3=>aj ?_)))))))))
 cases b_2 with
 | true =>
  refine aA rfl rfl ?_
  obtain rfl:=hb_3 rfl
  replace hF:=wK hF
  refine af (aa (ae .nil wz rfl (aj ?_)))
  obtain rfl:=ah hF
  exact ay (aX (.inr rfl) [.nil] ⟨rfl,trivial⟩ rfl rfl rfl)
 | false =>
  refine ax rfl rfl (av (af (aa (Ff zX ez31 rfl wz (ae (vL Rect.enc s_1) wz rfl ?_)))))
  obtain ⟨a_4,hz_5,hF⟩:=bind_some hF
  refine En 0 (.inl rfl) Hr Hr nW z77 rfl (by decide) by77 (by decide) (λ_=>rfl) rfl rfl hz_5 wz (λn_6=>ae (gV n_6 4 a_4) wz rfl (aj (jq 0 rfl (fC 2 0 rfl rfl (fC 7 0 rfl rfl ?_)))))
  obtain rfl:=ah hF
  exact ay (aX (.inr rfl) [(vL Rect.enc a_4)] ⟨rfl,trivial⟩ rfl rfl rfl)
theorem x9 {a_1:Alert} {r:Alert} (hF:mW a_1=some r) :
  FnM Tryz.prog 41 [(.d (.agg (Alert.enc a_1)))] [] (.d (.agg (Alert.enc r))) []:=by
 refine FnM.of_wH ⟨Tryz.prog,12,[],[]⟩ rfl Tryz.func41 rfl rfl (lb_ rfl) (by kernel_rfl) ?_
 unfold mW at hF
 refine af (aa (jN 0 (.inl rfl) [(vS a_1.Id),(vS a_1.Sender),(vI a_1.Kind),(vL eS a_1.Refs),(vI a_1.At),(vI a_1.Until),(vI a_1.Weight),(vL Rect.enc a_1.Areas),(vS a_1.Text)] rfl rfl wz (λn_2=>fP 0 (.inl rfl) z33 rfl wz (λn_3=>aj (af (eu (aF jB rfl 3 rfl wz (aD 1 0 (.inr (by kernel_rfl)) (λ_ _ ag=>trivial) qO uq rfl rfl (vL eS a_1.Refs) rfl wz ?_))))))))
 obtain ⟨r_4,hr_5,hF⟩:=bind_some hF
 refine aH (mX hr_5) rfl hb74 rfl rfl rfl rfl wz (aF kY rfl 7 rfl wz (aD 4 0 (.inr (by kernel_rfl)) (λ_ _ ag=>⟨.inl ⟨rfl,rfl⟩,trivial⟩) tY xO rfl rfl (vL Rect.enc a_1.Areas) rfl wz ?_))
 obtain ⟨r_6,hr_7,hF⟩:=bind_some hF
 refine aH (lw hr_7) rfl hb75 rfl rfl rfl rfl wz (aF jB rfl 3 rfl wz (fU 7 (.inr (by kernel_rfl)) (λ_ _ ag=>⟨.inr (.inr (by kernel_rfl)),⟨.inr (.inr (by kernel_rfl)),trivial⟩⟩) 0 qO rfl rfl [(vS a_1.Id),(vS a_1.Sender),(vI a_1.Kind),(vL eS r_4),(vI a_1.At),(vI a_1.Until),(vI a_1.Weight),(vL Rect.enc a_1.Areas),(vS a_1.Text)] rfl wz (aF kY rfl 7 rfl wz (fU 9 (.inr (by kernel_rfl)) (λ_ _ ag=>⟨.inr (.inr (by kernel_rfl)),⟨.inr (.inr (by kernel_rfl)),⟨.inr (.inr (by kernel_rfl)),trivial⟩⟩⟩) 0 tY rfl rfl [(vS a_1.Id),(vS a_1.Sender),(vI a_1.Kind),(vL eS r_4),(vI a_1.At),(vI a_1.Until),(vI a_1.Weight),(vL Rect.enc r_6),(vS a_1.Text)] rfl wz (aj (af (aa (aD 0 0 il ft dM iw rfl rfl (.d (.agg (Alert.enc (⟨a_1.Id,a_1.Sender,a_1.Kind,r_4,a_1.At,a_1.Until,a_1.Weight,r_6,a_1.Text⟩:Alert)))) rfl wz (fU 0 il ft 1 dM rfl rfl [(vS a_1.Id),(vS a_1.Sender),(vI a_1.Kind),(vL eS r_4),(vI a_1.At),(vI a_1.Until),(vI a_1.Weight),(vL Rect.enc r_6),(vS a_1.Text)] rfl wz (aj ?_))))))))))
 obtain rfl:=ah hF
 exact ay (aX (.inr rfl) [(.d (.agg (Alert.enc (⟨a_1.Id,a_1.Sender,a_1.Kind,r_4,a_1.At,a_1.Until,a_1.Weight,r_6,a_1.Text⟩:Alert))))] ⟨⟨1,_,_,_,_,_,_,_,rfl,rfl,dM,iw,rfl⟩,trivial⟩ rfl rfl rfl)
theorem mU {s1_1:(List ByteArray)} {s2_2:(List ByteArray)} {r:Bool} (hF:dQ s1_1 s2_2=some r) :
  FnM Tryz.prog 30 [(vL eS s1_1),(vL eS s2_2)] [] (vB r) []:=by
 refine FnM.of_wH ⟨Tryz.prog,26,[],[]⟩ rfl Tryz.func30 rfl rfl (lb_ rfl) (by kernel_rfl) ?_
 unfold dQ at hF
 refine af (aa (ae (vB false) wz rfl (aj (af (af (aa (ae (vL eS s1_1) wz rfl (dA sP rfl wz (ae (vL eS s2_2) wz rfl (dA sP rfl wz (ae (vB ((s1_1.length:Int) != (s2_2.length:Int))) wz rfl (aj ?_))))))))))))
 rcases ak hF with⟨hc_3,hF⟩|⟨hc_3,hF⟩
 ·refine aA rfl hc_3 (af (aa (ae (vB false) wz rfl (aj ?_))))
  obtain rfl:=ah hF
  exact ay (aX (.inr rfl) [(vB false)] ⟨rfl,trivial⟩ rfl rfl rfl)
 ·refine ax rfl hc_3 (av (af (af (aa (ae (vL eS s1_1) wz rfl (dA sP rfl wz (ae (vI 0) wz rfl (aj ?_))))))))
  obtain ⟨o_12,hj_13,hF⟩:=bind_some hF
  obtain ⟨hn_8,hj_13⟩:=bv hj_13
  refine aI (β:=(Unit)) (λ(s_9:Unit)=>([]:SL_)) (λ(s_9:Unit)=>([]:Hp)) (λp=>o_12 = .go p) ?_ ?_
  ·refine aB (bn (β:=Nat×(List ByteArray)×(Unit)) (λp=>(λ(k_4:Nat) (l_5:List ByteArray) (s_9:Unit)=>([(0,(vL eS s1_1)),(1,(vL eS s2_2)),(12,(vI (s1_1.length:Int))),(13,(vI (k_4:Int)))]:SL_)) p.1 p.2.1 p.2.2) (λp=>(λ(k_4:Nat) (l_5:List ByteArray) (s_9:Unit)=>([]:Hp)) p.1 p.2.1 p.2.2) (λp=>forR (λk x s=>bI s2_2 k x s) p.2.1 p.1 p.2.2=some o_12/\(s1_1).drop p.1=p.2.1) (λp=>p.2.1.length) (0,s1_1,()) ⟨hj_13,rfl⟩ rfl (aK rfl) ?_)
   rintro ⟨k_4,l_5,s_9⟩ ⟨hL_11,hD_7⟩
   dsimp only at hL_11 hD_7
   cases l_5 with
   | nil =>
    obtain rfl:=ah hL_11
    refine af (aa (ae (vB (decide ((k_4:Int)<(s1_1.length:Int)))) wz rfl (aj ?_)))
    refine af (ax rfl (drop_nil hD_7) (bE ?_))
    exact bN (s_9) rfl rfl (aK rfl)
   | cons x_6 l_5 =>
    obtain ⟨c_,hc_10,hL_11⟩:=bind_some hL_11
    refine af (aa (ae (vB (decide ((k_4:Int)<(s1_1.length:Int)))) wz rfl (aj ?_)))
    refine af (aA rfl (bP hD_7) (av ?_))
    unfold bI at hc_10
    refine af (aB (af (aa (ae (vI (k_4:Int)) wz rfl (ae (vI (k_4:Int)) wz rfl (aj (af (eu (ae (vL eS s1_1) wz rfl (ae (vI (k_4:Int)) wz rfl (jk lW rfl rfl (dB hD_7) rfl wz (fA sz9 ag9 rfl (vS x_6) rfl wz (ae (vL eS s2_2) wz rfl (ae (vI (k_4:Int)) wz rfl ?_))))))))))))))
    obtain ⟨y_14,hy_15,hc_10⟩:=bind_some hc_10
    refine jk lW rfl rfl hy_15 rfl wz (fA sz9 ag9 rfl (vS y_14) rfl wz (ae (vB (sNe x_6 y_14)) wz rfl (aj ?_)))
    rcases ak hc_10 with⟨hc_16,hc_10⟩|⟨hc_16,hc_10⟩
    ·refine aA rfl hc_16 (af (aa (ae (vB false) wz rfl (aj ?_))))
     obtain rfl:=ah hc_10
     obtain rfl:=ah hL_11
     obtain rfl:=ah hF
     exact ay (aX (.inr rfl) [(vB false)] ⟨rfl,trivial⟩ rfl rfl rfl)
    ·refine ax rfl hc_16 (av (aa (gN (bU hD_7 hn_8) wz rfl (ae (vI ((k_4+1:Nat):Int)) wz rfl (aj ?_)))))
     obtain rfl:=ah hc_10
     exact bC (k_4+1,l_5,()) ⟨hL_11,aY hD_7⟩ (ls_ _) rfl (aK rfl)
  ·rintro s_9 ho_ sl_ H_ hp_ hq_
   subst ho_
   refine aV _ hp_ hq_ (af (aa (ae (vB true) wz rfl (aj ?_))))
   obtain rfl:=ah hF
   exact ay (aX (.inr rfl) [(vB true)] ⟨rfl,trivial⟩ rfl rfl rfl)
theorem lu {s1_1:(List Rect)} {s2_2:(List Rect)} {r:Bool} (hF:cB s1_1 s2_2=some r) :
  FnM Tryz.prog 76 [(vL Rect.enc s1_1),(vL Rect.enc s2_2)] [] (vB r) []:=by
 refine FnM.of_wH ⟨Tryz.prog,26,[],[]⟩ rfl Tryz.func76 rfl rfl (lb_ rfl) (by kernel_rfl) ?_
 unfold cB at hF
 refine af (aa (ae (vB false) wz rfl (aj (af (af (aa (ae (vL Rect.enc s1_1) wz rfl (dA xE rfl wz (ae (vL Rect.enc s2_2) wz rfl (dA xE rfl wz (ae (vB ((s1_1.length:Int) != (s2_2.length:Int))) wz rfl (aj ?_))))))))))))
 rcases ak hF with⟨hc_3,hF⟩|⟨hc_3,hF⟩
 ·refine aA rfl hc_3 (af (aa (ae (vB false) wz rfl (aj ?_))))
  obtain rfl:=ah hF
  exact ay (aX (.inr rfl) [(vB false)] ⟨rfl,trivial⟩ rfl rfl rfl)
 ·refine ax rfl hc_3 (av (af (af (aa (ae (vL Rect.enc s1_1) wz rfl (dA xE rfl wz (ae (vI 0) wz rfl (aj ?_))))))))
  obtain ⟨o_12,hj_13,hF⟩:=bind_some hF
  obtain ⟨hn_8,hj_13⟩:=bv hj_13
  refine aI (β:=(Unit)) (λ(s_9:Unit)=>([]:SL_)) (λ(s_9:Unit)=>([]:Hp)) (λp=>o_12 = .go p) ?_ ?_
  ·refine aB (bn (β:=Nat×(List Rect)×(Unit)) (λp=>(λ(k_4:Nat) (l_5:List Rect) (s_9:Unit)=>([(0,(vL Rect.enc s1_1)),(1,(vL Rect.enc s2_2)),(12,(vI (s1_1.length:Int))),(13,(vI (k_4:Int)))]:SL_)) p.1 p.2.1 p.2.2) (λp=>(λ(k_4:Nat) (l_5:List Rect) (s_9:Unit)=>([]:Hp)) p.1 p.2.1 p.2.2) (λp=>forR (λk x s=>bu s2_2 k x s) p.2.1 p.1 p.2.2=some o_12/\(s1_1).drop p.1=p.2.1) (λp=>p.2.1.length) (0,s1_1,()) ⟨hj_13,rfl⟩ rfl (aK rfl) ?_)
   rintro ⟨k_4,l_5,s_9⟩ ⟨hL_11,hD_7⟩
   dsimp only at hL_11 hD_7
   cases l_5 with
   | nil =>
    obtain rfl:=ah hL_11
    refine af (aa (ae (vB (decide ((k_4:Int)<(s1_1.length:Int)))) wz rfl (aj ?_)))
    refine af (ax rfl (drop_nil hD_7) (bE ?_))
    exact bN (s_9) rfl rfl (aK rfl)
   | cons x_6 l_5 =>
    obtain ⟨c_,hc_10,hL_11⟩:=bind_some hL_11
    refine af (aa (ae (vB (decide ((k_4:Int)<(s1_1.length:Int)))) wz rfl (aj ?_)))
    refine af (aA rfl (bP hD_7) (av ?_))
    unfold bu at hc_10
    refine af (aB (af (aa (ae (vI (k_4:Int)) wz rfl (ae (vI (k_4:Int)) wz rfl (aj (af (eu (ae (vL Rect.enc s1_1) wz rfl (ae (vI (k_4:Int)) wz rfl (jk zX rfl rfl (dB hD_7) rfl wz (fA nW xM rfl (.d (.agg (Rect.enc x_6))) rfl wz (ae (vL Rect.enc s2_2) wz rfl (ae (vI (k_4:Int)) wz rfl ?_))))))))))))))
    obtain ⟨y_14,hy_15,hc_10⟩:=bind_some hc_10
    refine jk zX rfl rfl hy_15 rfl wz (fA nW xM rfl (.d (.agg (Rect.enc y_14))) rfl wz (ae (vB (!((x_6.X==y_14.X)&&((x_6.Y==y_14.Y)&&((x_6.W==y_14.W)&&((x_6.H==y_14.H)&&true)))))) wz (by kernel_rfl) (aj ?_)))
    rcases ak hc_10 with⟨hc_16,hc_10⟩|⟨hc_16,hc_10⟩
    ·refine aA rfl hc_16 (af (aa (ae (vB false) wz rfl (aj ?_))))
     obtain rfl:=ah hc_10
     obtain rfl:=ah hL_11
     obtain rfl:=ah hF
     exact ay (aX (.inr rfl) [(vB false)] ⟨rfl,trivial⟩ rfl rfl rfl)
    ·refine ax rfl hc_16 (av (aa (gN (bU hD_7 hn_8) wz rfl (ae (vI ((k_4+1:Nat):Int)) wz rfl (aj ?_)))))
     obtain rfl:=ah hc_10
     exact bC (k_4+1,l_5,()) ⟨hL_11,aY hD_7⟩ (ls_ _) rfl (aK rfl)
  ·rintro s_9 ho_ sl_ H_ hp_ hq_
   subst ho_
   refine aV _ hp_ hq_ (af (aa (ae (vB true) wz rfl (aj ?_))))
   obtain rfl:=ah hF
   exact ay (aX (.inr rfl) [(vB true)] ⟨rfl,trivial⟩ rfl rfl rfl)
theorem zT {a_1:Alert} {b_2:Alert} {r:Bool} (hF:ow a_1 b_2=some r) :
  FnM Tryz.prog 42 [(.d (.agg (Alert.enc a_1))),(.d (.agg (Alert.enc b_2)))] [] (vB r) []:=by
 refine FnM.of_wH ⟨Tryz.prog,66,[],[]⟩ rfl Tryz.func42 rfl rfl (lb_ rfl) (by kernel_rfl) ?_
 unfold ow at hF
 refine af (aa (jN 0 (.inl rfl) [(vS a_1.Id),(vS a_1.Sender),(vI a_1.Kind),(vL eS a_1.Refs),(vI a_1.At),(vI a_1.Until),(vI a_1.Weight),(vL Rect.enc a_1.Areas),(vS a_1.Text)] rfl rfl wz (λn_3=>jN 0 (.inl rfl) [(vS b_2.Id),(vS b_2.Sender),(vI b_2.Kind),(vL eS b_2.Refs),(vI b_2.At),(vI b_2.Until),(vI b_2.Weight),(vL Rect.enc b_2.Areas),(vS b_2.Text)] rfl rfl wz (λn_4=>ae (vB false) wz rfl (aj (af ?_))))))
 obtain ⟨v_5,h_6,hF⟩:=bind_some hF
 refine aI (β:=Unit) (λ_=>([(4,(vB v_5))]:SL_)) (λ_=>([(n_3,some (.cells 9 [(vS a_1.Id),(vS a_1.Sender),(vI a_1.Kind),(vL eS a_1.Refs),(vI a_1.At),(vI a_1.Until),(vI a_1.Weight),(vL Rect.enc a_1.Areas),(vS a_1.Text)])),(n_4,some (.cells 9 [(vS b_2.Id),(vS b_2.Sender),(vI b_2.Kind),(vL eS b_2.Refs),(vI b_2.At),(vI b_2.Until),(vI b_2.Weight),(vL Rect.enc b_2.Areas),(vS b_2.Text)]))]:Hp)) (λ_=>True) ?_ ?_
 ·refine aa (aF ic rfl 0 rfl wz (aD 0 0 il ft sz9 ag9 rfl rfl (vS a_1.Id) rfl wz (aF ic rfl 0 rfl wz (aD 0 1 il ft sz9 ag9 rfl rfl (vS b_2.Id) rfl wz (ae (vB (sEq a_1.Id b_2.Id)) wz rfl ?_)))))
  rcases ak h_6 with⟨hc_7,h_6⟩|⟨hc_7,h_6⟩
  ·refine aC rfl hc_7 wz (aF vT rfl 1 rfl wa (aD 0 0 il ft sz9 ag9 rfl rfl (vS a_1.Sender) rfl wa (aF vT rfl 1 rfl wa (aD 0 1 il ft sz9 ag9 rfl rfl (vS b_2.Sender) rfl wa (ae (vB (sEq a_1.Sender b_2.Sender)) wa rfl (ae (vB (sEq a_1.Sender b_2.Sender)) wz rfl ?_))))))
   rcases ak h_6 with⟨hc_8,h_6⟩|⟨hc_8,h_6⟩
   ·refine aC rfl hc_8 wz (aF l5 rfl 2 rfl wa (aD 0 0 il ft sz3 ag3 rfl rfl (vI a_1.Kind) rfl wa (aF l5 rfl 2 rfl wa (aD 0 1 il ft sz3 ag3 rfl rfl (vI b_2.Kind) rfl wa (ae (vB (a_1.Kind==b_2.Kind)) wa rfl (ae (vB (a_1.Kind==b_2.Kind)) wz rfl ?_))))))
    rcases ak h_6 with⟨hc_9,h_6⟩|⟨hc_9,h_6⟩
    ·refine aC rfl hc_9 wz (aF jB rfl 3 rfl wa (aD 0 0 il ft qO uq rfl rfl (vL eS a_1.Refs) rfl wa (aF jB rfl 3 rfl wa (aD 0 1 il ft qO uq rfl rfl (vL eS b_2.Refs) rfl wa ?_))))
     obtain ⟨r_10,hr_11,h_6⟩:=bind_some h_6
     refine aH (mU hr_11) rfl hb30 rfl rfl rfl rfl wa (ae (vB r_10) wz rfl ?_)
     rcases ak h_6 with⟨hc_12,h_6⟩|⟨hc_12,h_6⟩
     ·refine aC rfl hc_12 wz (aF iG rfl 4 rfl wa (aD 0 0 il ft sz3 ag3 rfl rfl (vI a_1.At) rfl wa (aF iG rfl 4 rfl wa (aD 0 1 il ft sz3 ag3 rfl rfl (vI b_2.At) rfl wa (ae (vB (a_1.At==b_2.At)) wa rfl (ae (vB (a_1.At==b_2.At)) wz rfl ?_))))))
      rcases ak h_6 with⟨hc_13,h_6⟩|⟨hc_13,h_6⟩
      ·refine aC rfl hc_13 wz (aF uA rfl 5 rfl wa (aD 0 0 il ft sz3 ag3 rfl rfl (vI a_1.Until) rfl wa (aF uA rfl 5 rfl wa (aD 0 1 il ft sz3 ag3 rfl rfl (vI b_2.Until) rfl wa (ae (vB (a_1.Until==b_2.Until)) wa rfl (ae (vB (a_1.Until==b_2.Until)) wz rfl ?_))))))
       rcases ak h_6 with⟨hc_14,h_6⟩|⟨hc_14,h_6⟩
       ·refine aC rfl hc_14 wz (aF uG rfl 6 rfl wa (aD 0 0 il ft sz3 ag3 rfl rfl (vI a_1.Weight) rfl wa (aF uG rfl 6 rfl wa (aD 0 1 il ft sz3 ag3 rfl rfl (vI b_2.Weight) rfl wa (ae (vB (a_1.Weight==b_2.Weight)) wa rfl (ae (vB (a_1.Weight==b_2.Weight)) wz rfl ?_))))))
        rcases ak h_6 with⟨hc_15,h_6⟩|⟨hc_15,h_6⟩
        ·refine aC rfl hc_15 wz (aF kY rfl 7 rfl wa (aD 0 0 il ft tY xO rfl rfl (vL Rect.enc a_1.Areas) rfl wa (aF kY rfl 7 rfl wa (aD 0 1 il ft tY xO rfl rfl (vL Rect.enc b_2.Areas) rfl wa ?_))))
         obtain ⟨r_16,hr_17,h_6⟩:=bind_some h_6
         refine aH (lu hr_17) rfl hb76 rfl rfl rfl rfl wa (ae (vB r_16) wz rfl ?_)
         rcases ak h_6 with⟨hc_18,h_6⟩|⟨hc_18,h_6⟩
         ·refine aC rfl hc_18 wz (aF ni rfl 8 rfl wa (aD 0 0 il ft sz9 ag9 rfl rfl (vS a_1.Text) rfl wa (aF ni rfl 8 rfl wa (aD 0 1 il ft sz9 ag9 rfl rfl (vS b_2.Text) rfl wa (ae (vB (sEq a_1.Text b_2.Text)) wa rfl (ae (vB (sEq a_1.Text b_2.Text)) wz rfl (ae (vB (sEq a_1.Text b_2.Text)) wz rfl (aj ?_))))))))
          obtain rfl:=ah h_6
          exact cu
         ·refine aC rfl hc_18 wz (ai wa (ai wa (ai wa (ai wa (ai wa (ae (vB false) wz rfl (ae (vB false) wz rfl (aj ?_))))))))
          obtain rfl:=ah h_6
          exact cu
        ·refine aC rfl hc_15 wz (ai wa (ai wa (ai wa (ai wa (ai wa (ae (vB false) wz rfl (ae (vB false) wz rfl (ai wa (ai wa (ai wa (ai wa (ai wa (ae (vB false) wz rfl (ae (vB false) wz rfl (aj ?_)))))))))))))))
         obtain rfl:=ah h_6
         exact cu
       ·refine aC rfl hc_14 wz (ai wa (ai wa (ai wa (ai wa (ai wa (ae (vB false) wz rfl (ae (vB false) wz rfl (ai wa (ai wa (ai wa (ai wa (ai wa (ae (vB false) wz rfl (ae (vB false) wz rfl (ai wa (ai wa (ai wa (ai wa (ai wa (ae (vB false) wz rfl (ae (vB false) wz rfl (aj ?_))))))))))))))))))))))
        obtain rfl:=ah h_6
        exact cu
      ·refine aC rfl hc_13 wz (ai wa (ai wa (ai wa (ai wa (ai wa (ae (vB false) wz rfl (ae (vB false) wz rfl (ai wa (ai wa (ai wa (ai wa (ai wa (ae (vB false) wz rfl (ae (vB false) wz rfl (ai wa (ai wa (ai wa (ai wa (ai wa (ae (vB false) wz rfl (ae (vB false) wz rfl (ai wa (ai wa ?_)))))))))))))))))))))))
       refine ai wa (ai wa (ai wa (ae (vB false) wz rfl (ae (vB false) wz rfl (aj ?_)))))
       obtain rfl:=ah h_6
       exact cu
     ·refine aC rfl hc_12 wz (ai wa (ai wa (ai wa (ai wa (ai wa (ae (vB false) wz rfl (ae (vB false) wz rfl (ai wa (ai wa (ai wa (ai wa (ai wa (ae (vB false) wz rfl (ae (vB false) wz rfl (ai wa (ai wa (ai wa (ai wa (ai wa (ae (vB false) wz rfl (ae (vB false) wz rfl (ai wa (ai wa ?_)))))))))))))))))))))))
      refine ai wa (ai wa (ai wa (ae (vB false) wz rfl (ae (vB false) wz rfl (ai wa (ai wa (ai wa (ai wa (ai wa (ae (vB false) wz rfl (ae (vB false) wz rfl (aj ?_))))))))))))
      obtain rfl:=ah h_6
      exact cu
    ·refine aC rfl hc_9 wz (ai wa (ai wa (ai wa (ai wa (ai wa (ae (vB false) wz rfl (ae (vB false) wz rfl (ai wa (ai wa (ai wa (ai wa (ai wa (ae (vB false) wz rfl (ae (vB false) wz rfl (ai wa (ai wa (ai wa (ai wa (ai wa (ae (vB false) wz rfl (ae (vB false) wz rfl (ai wa (ai wa ?_)))))))))))))))))))))))
     refine ai wa (ai wa (ai wa (ae (vB false) wz rfl (ae (vB false) wz rfl (ai wa (ai wa (ai wa (ai wa (ai wa (ae (vB false) wz rfl (ae (vB false) wz rfl (ai wa (ai wa (ai wa (ai wa (ai wa (ae (vB false) wz rfl (ae (vB false) wz rfl (aj ?_)))))))))))))))))))
     obtain rfl:=ah h_6
     exact cu
   ·refine aC rfl hc_8 wz (ai wa (ai wa (ai wa (ai wa (ai wa (ae (vB false) wz rfl (ae (vB false) wz rfl (ai wa (ai wa (ai wa (ai wa (ai wa (ae (vB false) wz rfl (ae (vB false) wz rfl (ai wa (ai wa (ai wa (ai wa (ai wa (ae (vB false) wz rfl (ae (vB false) wz rfl (ai wa (ai wa ?_)))))))))))))))))))))))
    refine ai wa (ai wa (ai wa (ae (vB false) wz rfl (ae (vB false) wz rfl (ai wa (ai wa (ai wa (ai wa (ai wa (ae (vB false) wz rfl (ae (vB false) wz rfl (ai wa (ai wa (ai wa (ai wa (ai wa (ae (vB false) wz rfl (ae (vB false) wz rfl (ai wa (ai wa (ai wa (ai wa (ai wa ?_)))))))))))))))))))))))
    refine ae (vB false) wz rfl (ae (vB false) wz rfl (aj ?_))
    obtain rfl:=ah h_6
    exact cu
  ·refine aC rfl hc_7 wz (ai wa (ai wa (ai wa (ai wa (ai wa (ae (vB false) wz rfl (ae (vB false) wz rfl (ai wa (ai wa (ai wa (ai wa (ai wa (ae (vB false) wz rfl (ae (vB false) wz rfl (ai wa (ai wa (ai wa (ai wa (ai wa (ae (vB false) wz rfl (ae (vB false) wz rfl (ai wa (ai wa ?_)))))))))))))))))))))))
   refine ai wa (ai wa (ai wa (ae (vB false) wz rfl (ae (vB false) wz rfl (ai wa (ai wa (ai wa (ai wa (ai wa (ae (vB false) wz rfl (ae (vB false) wz rfl (ai wa (ai wa (ai wa (ai wa (ai wa (ae (vB false) wz rfl (ae (vB false) wz rfl (ai wa (ai wa (ai wa (ai wa (ai wa ?_)))))))))))))))))))))))
   refine ae (vB false) wz rfl (ae (vB false) wz rfl (ai wa (ai wa (ai wa (ai wa (ai wa (ae (vB false) wz rfl (ae (vB false) wz rfl (aj ?_)))))))))
   obtain rfl:=ah h_6
   exact cu
 ·rintro ⟨⟩ _ sl_ H_ hp_ hq_
  refine aV _ hp_ hq_ ?_
  obtain rfl:=ah hF
  exact ay (aX (.inr rfl) [(vB v_5)] ⟨rfl,trivial⟩ rfl rfl rfl)
theorem iW {data_1:(List Alert)} {a_2:Int} {b_3:Int} {r:(List Alert)} (hF:dG data_1 a_2 b_3=some r) :
  FnM Tryz.prog 112 [(dV (au 0) 9 data_1),(vI a_2),(vI b_3),(.fn 44 [])] (([]:List Box)++gI 9 Alert.enc data_1) (.tup []) (([]:List Box).map some++gT data_1 (gB 9 Alert.enc r)):=by
 refine FnM.of_wHv ⟨Tryz.prog,53,[],[]⟩ rfl Tryz.func112 rfl rfl (lb_ rfl) (by kernel_rfl) ?_
 unfold dG at hF
 refine af (aa (ae (vI a_2) wz rfl (ae (vI (w64 (a_2+1))) wz rfl (ae (vI (w64 (a_2+1))) wz rfl (aj ?_)))))
 obtain ⟨o_13,hj_14,hF⟩:=bind_some hF
 obtain ⟨nq_51,hj_14⟩:=fE hj_14
 refine aI (β:=((List Alert)×Int)) (λ(s_10:(List Alert)×Int)=>([]:SL_)) (λ(s_10:(List Alert)×Int)=>([((au 0),gB 9 Alert.enc s_10.1)]:Hp)) (λp=>o_13 = .go p) ?_ ?_
 ·refine aB (bn (β:=Nat×((List Alert)×Int)) (λp=>(λ(k_5:Nat) (s_10:(List Alert)×Int)=>([(0,(dV (au 0) 9 s_10.1)),(1,(vI a_2)),(2,(vI b_3)),(3,(.fn 44 [])),(8,(vI s_10.2))]:SL_)) p.1 p.2) (λp=>(λ(k_5:Nat) (s_10:(List Alert)×Int)=>([((au 0),gB 9 Alert.enc s_10.1)]:Hp)) p.1 p.2) (λp=>iterN (λs=>dn b_3 a_2 s) p.1 p.2=some o_13) (λp=>p.1) (nq_51,(data_1,(w64 (a_2+1)))) hj_14 rfl (aK rfl) ?_)
  rintro ⟨k_5,s_10⟩ hL_12
  dsimp only at hL_12
  cases k_5 with
  | zero=>cases hL_12
  | succ k_5 =>
   obtain ⟨c_,hc_11,hL_12⟩:=bind_some hL_12
   unfold dn at hc_11
   refine af (af (aa (ae (vI s_10.2) wz rfl (ae (vI b_3) wz rfl (ae (vB (decide (s_10.2<b_3))) wz rfl (aj ?_))))))
   rcases ak hc_11 with⟨hc_15,hc_11⟩|⟨hc_15,hc_11⟩
   ·refine aA rfl hc_15 (av (af (aB (af (aa (ae (vI s_10.2) wz rfl (ae (vI s_10.2) wz rfl (aj ?_))))))))
    obtain ⟨o_24,hj_25,hc_11⟩:=bind_some hc_11
    obtain ⟨nq_50,hj_25⟩:=fE hj_25
    refine aI (β:=((List Alert)×Int)) (λ(s_21:(List Alert)×Int)=>([(0,(dV (au 0) 9 s_21.1)),(1,(vI a_2)),(2,(vI b_3)),(3,(.fn 44 [])),(8,(vI s_10.2))]:SL_)) (λ(s_21:(List Alert)×Int)=>([((au 0),gB 9 Alert.enc s_21.1)]:Hp)) (λp=>o_24 = .go p) ?_ ?_
    ·refine aB (bn (β:=Nat×((List Alert)×Int)) (λp=>(λ(k_16:Nat) (s_21:(List Alert)×Int)=>([(0,(dV (au 0) 9 s_21.1)),(1,(vI a_2)),(2,(vI b_3)),(3,(.fn 44 [])),(8,(vI s_10.2)),(9,(vI s_21.2))]:SL_)) p.1 p.2) (λp=>(λ(k_16:Nat) (s_21:(List Alert)×Int)=>([((au 0),gB 9 Alert.enc s_21.1)]:Hp)) p.1 p.2) (λp=>iterN (λs=>dh a_2 s) p.1 p.2=some o_24) (λp=>p.1) (nq_50,(s_10.1,s_10.2)) hj_25 rfl (aK rfl) ?_)
     rintro ⟨k_16,s_21⟩ hL_23
     dsimp only at hL_23
     cases k_16 with
     | zero=>cases hL_23
     | succ k_16 =>
      obtain ⟨c_,hc_22,hL_23⟩:=bind_some hL_23
      unfold dh at hc_22
      refine af (af ?_)
      obtain ⟨v_26,h_27,hc_22⟩:=bind_some hc_22
      refine aI (β:=Unit) (λ_=>([(0,(dV (au 0) 9 s_21.1)),(1,(vI a_2)),(2,(vI b_3)),(3,(.fn 44 [])),(8,(vI s_10.2)),(9,(vI s_21.2)),(34,(vB v_26))]:SL_)) (λ_=>([((au 0),gB 9 Alert.enc s_21.1)]:Hp)) (λ_=>True) ?_ ?_
      ·refine eu (ae (vI s_21.2) wz rfl (ae (vI a_2) wz rfl (ae (vB (decide (s_21.2>a_2))) wz rfl ?_)))
       rcases ak h_27 with⟨hc_28,h_27⟩|⟨hc_28,h_27⟩
       ·refine aC rfl hc_28 wz (ae (.fn 44 []) wa rfl (ae (dV (au 0) 9 s_21.1) wa rfl (ae (vI s_21.2) wa rfl ?_)))
        obtain ⟨_,hi_29,h_27⟩:=bind_some h_27
        refine jb iU rfl rfl (kC hi_29) (iy hi_29) wa ?_
        obtain ⟨e_30,hy_31,h_27⟩:=bind_some h_27
        refine kH 8 0 (.inr (by kernel_rfl)) (λ_ _ ag=>trivial) dM iw rfl rfl hy_31 (.d (.agg (Alert.enc e_30))) rfl wa (ae (dV (au 0) 9 s_21.1) wa rfl (ae (vI s_21.2) wa rfl (ae (vI (w64 (s_21.2-1))) wa rfl ?_)))
        obtain ⟨_,hi_32,h_27⟩:=bind_some h_27
        refine jb iU rfl rfl (kC hi_32) (iy hi_32) wa ?_
        obtain ⟨e_33,hy_34,h_27⟩:=bind_some h_27
        refine kH 13 0 (.inr (by kernel_rfl)) (λ_ _ ag=>⟨.inl ⟨rfl,rfl⟩,trivial⟩) dM iw rfl rfl hy_34 (.d (.agg (Alert.enc e_33))) rfl wa ?_
        obtain ⟨r_35,hr_36,h_27⟩:=bind_some h_27
        refine aH (pX hr_36) rfl hb44 rfl rfl rfl rfl wa (ae (vB (decide (r_35<0))) wa rfl (ae (vB (decide (r_35<0))) wz rfl (aj ?_)))
        obtain rfl:=ah h_27
        exact cu
       ·refine aC rfl hc_28 wz (ai wa (ai wa (ai wa (ai wa (ai wa (ai wa (ai wa (ai wa (ai wa (ai wa (ai wa (ai wa (ae (vB false) wz rfl (aj ?_))))))))))))))
        obtain rfl:=ah h_27
        exact cu
      ·rintro ⟨⟩ _ sl_ H_ hp_ hq_
       refine aV _ hp_ hq_ ?_
       rcases ak hc_22 with⟨hc_37,hc_22⟩|⟨hc_37,hc_22⟩
       ·refine aA rfl hc_37 (av (af (aB (eu (ae (dV (au 0) 9 s_21.1) wz rfl (ae (vI s_21.2) wz rfl (ae (dV (au 0) 9 s_21.1) wz rfl (ae (vI s_21.2) wz rfl (ae (vI (w64 (s_21.2-1))) wz rfl (ae (dV (au 0) 9 s_21.1) wz rfl (ae (vI s_21.2) wz rfl (ae (vI (w64 (s_21.2-1))) wz rfl ?_))))))))))))
        obtain ⟨_,hi_38,hc_22⟩:=bind_some hc_22
        refine jb iU rfl rfl (kC hi_38) (iy hi_38) wz ?_
        obtain ⟨e_39,hy_40,hc_22⟩:=bind_some hc_22
        refine kH 9 0 (.inr (by kernel_rfl)) (λ_ _ ag=>trivial) dM iw rfl rfl hy_40 (.d (.agg (Alert.enc e_39))) rfl wz (ae (dV (au 0) 9 s_21.1) wz rfl (ae (vI s_21.2) wz rfl ?_))
        obtain ⟨_,hi_41,hc_22⟩:=bind_some hc_22
        refine jb iU rfl rfl (kC hi_41) (iy hi_41) wz ?_
        obtain ⟨e_42,hy_43,hc_22⟩:=bind_some hc_22
        refine kH 13 0 (.inr (by kernel_rfl)) (λ_ _ ag=>⟨.inl ⟨rfl,rfl⟩,trivial⟩) dM iw rfl rfl hy_43 (.d (.agg (Alert.enc e_42))) rfl wz ?_
        obtain ⟨_,hi_44,hc_22⟩:=bind_some hc_22
        refine jb iU rfl rfl (kC hi_44) (iy hi_44) wz ?_
        obtain ⟨e_45,hy_46,hc_22⟩:=bind_some hc_22
        refine kL 15 (.inr (by kernel_rfl)) (λ_ _ ag=>⟨.inr (.inr (by kernel_rfl)),⟨.inr (.inr (by kernel_rfl)),trivial⟩⟩) 0 dM rfl rfl hy_46 e_39 rfl wz (cK (v':=(dV (au 0) 9 (s_21.1.set (0+(s_21.2).toNat) e_39))) 0 rfl (bO (by simp)) (cK (v':=(dV (au 0) 9 (s_21.1.set (0+(s_21.2).toNat) e_39))) 37 rfl (bO (by simp)) (cK (v':=(dV (au 0) 9 (s_21.1.set (0+(s_21.2).toNat) e_39))) 39 rfl (bO (by simp)) (cK (v':=(dV (au 0) 9 (s_21.1.set (0+(s_21.2).toNat) e_39))) 42 rfl (bO (by simp)) (cK (v':=(dV (au 0) 9 (s_21.1.set (0+(s_21.2).toNat) e_39))) 47 rfl (bO (by simp)) ?_)))))
        obtain ⟨_,hi_47,hc_22⟩:=bind_some hc_22
        refine jb iU rfl rfl (kC hi_47) (iy hi_47) wz ?_
        obtain ⟨e_48,hy_49,hc_22⟩:=bind_some hc_22
        refine kL 17 (.inr (by kernel_rfl)) (λ_ _ ag=>⟨.inr (.inr (by kernel_rfl)),⟨.inr (.inr (by kernel_rfl)),⟨.inr (.inr (by kernel_rfl)),trivial⟩⟩⟩) 0 dM rfl rfl hy_49 e_42 rfl wz (cK (v':=(dV (au 0) 9 ((s_21.1.set (0+(s_21.2).toNat) e_39).set (0+((w64 (s_21.2-1))).toNat) e_42))) 0 rfl (bO (by simp)) (cK (v':=(dV (au 0) 9 ((s_21.1.set (0+(s_21.2).toNat) e_39).set (0+((w64 (s_21.2-1))).toNat) e_42))) 37 rfl (bO (by simp)) (cK (v':=(dV (au 0) 9 ((s_21.1.set (0+(s_21.2).toNat) e_39).set (0+((w64 (s_21.2-1))).toNat) e_42))) 39 rfl (bO (by simp)) (cK (v':=(dV (au 0) 9 ((s_21.1.set (0+(s_21.2).toNat) e_39).set (0+((w64 (s_21.2-1))).toNat) e_42))) 42 rfl (bO (by simp)) (cK (v':=(dV (au 0) 9 ((s_21.1.set (0+(s_21.2).toNat) e_39).set (0+((w64 (s_21.2-1))).toNat) e_42))) 47 rfl (bO (by simp)) (aj (aa (ae (vI s_21.2) wz rfl (ae (vI (w64 (s_21.2-1))) wz rfl (ae (vI (w64 (s_21.2-1))) wz rfl (aj ?_)))))))))))
        obtain rfl:=ah hc_22
        exact bC (k_16,(((s_21.1.set (0+(s_21.2).toNat) e_39).set (0+((w64 (s_21.2-1))).toNat) e_42),(w64 (s_21.2-1)))) hL_23 (ls_ _) rfl (aK rfl)
       ·refine ax rfl hc_37 (bE ?_)
        obtain rfl:=ah hc_22
        obtain rfl:=ah hL_23
        exact bN ((s_21.1,s_21.2)) rfl rfl (aK rfl)
    ·rintro s_21 ho_ sl_ H_ hp_ hq_
     subst ho_
     refine aV _ hp_ hq_ (aa (ae (vI s_10.2) wz rfl (ae (vI (w64 (s_10.2+1))) wz rfl (ae (vI (w64 (s_10.2+1))) wz rfl (aj ?_)))))
     obtain rfl:=ah hc_11
     exact bC (k_5,(s_21.1,(w64 (s_10.2+1)))) hL_12 (ls_ _) rfl (aK rfl)
   ·refine ax rfl hc_15 (bE ?_)
    obtain rfl:=ah hc_11
    obtain rfl:=ah hL_12
    exact bN ((s_10.1,s_10.2)) rfl rfl (aK rfl)
 ·rintro s_10 ho_ sl_ H_ hp_ hq_
  subst ho_
  show pF _ _ _ _ _ _ _ _
  obtain rfl:=ah hF
  exact si (H0:=([((au 0),gB 9 Alert.enc s_10.1)]:Hp)) (sl':=envS []) hq_ (vg (bs:=([]:List Box)) (os:=([]:List Box)) (xs:=data_1) (o:=gB 9 Alert.enc s_10.1) (.inl rfl) [] trivial rfl rfl rfl rfl rfl (by kernel_rfl) jG rfl)
theorem ku {data_1:(List Alert)} {a_2:Int} {b_3:Int} {limit_4:Int} {r:(List Alert)} (hF:eX data_1 a_2 b_3 limit_4=some r) :
  FnM Tryz.prog 77 [(dV (au 0) 9 data_1),(vI a_2),(vI b_3),(vI limit_4),(.fn 44 [])] (([]:List Box)++gI 9 Alert.enc data_1) (.tup []) (([]:List Box).map some++gT data_1 (gB 9 Alert.enc r)):=by
 refine FnM.of_wHv ⟨Tryz.prog,148,[],[]⟩ rfl Tryz.func77 rfl rfl (lb_ rfl) (by kernel_rfl) ?_
 unfold eX at hF
 refine af (aa (ae (vB true) wz rfl (aj (af (aa (ae (vB true) wz rfl (aj ?_)))))))
 obtain ⟨o_14,hj_15,hF⟩:=bind_some hF
 obtain ⟨nq_21,hj_15⟩:=fE hj_15
 refine aI (β:=(Unit)) (λ(s_11:Unit)=>([]:SL_)) (λ(s_11:Unit)=>([((au 0),gB 9 Alert.enc data_1)]:Hp)) (λp=>o_14 = .go p) ?_ ?_
 ·refine aB (bn (β:=Nat×(Unit)) (λp=>(λ(k_6:Nat) (s_11:Unit)=>([(0,(dV (au 0) 9 data_1)),(1,(vI a_2)),(2,(vI b_3)),(3,(vI limit_4)),(4,(.fn 44 [])),(10,(vB true)),(11,(vB true))]:SL_)) p.1 p.2) (λp=>(λ(k_6:Nat) (s_11:Unit)=>([((au 0),gB 9 Alert.enc data_1)]:Hp)) p.1 p.2) (λp=>iterN (λs=>dW b_3 a_2 data_1 limit_4 s) p.1 p.2=some o_14) (λp=>p.1) (nq_21,()) hj_15 rfl (aK rfl) ?_)
  rintro ⟨k_6,s_11⟩ hL_13
  dsimp only at hL_13
  cases k_6 with
  | zero=>cases hL_13
  | succ k_6 =>
   obtain ⟨c_,hc_12,hL_13⟩:=bind_some hL_13
   unfold dW at hc_12
   refine aB (af (aa (ae (vI b_3) wz rfl (ae (vI a_2) wz rfl (ae (vI (w64 (b_3-a_2))) wz rfl (ae (vI (w64 (b_3-a_2))) wz rfl (aj (af (af (aa (ae (vI (w64 (b_3-a_2))) wz rfl (ae (vB (decide ((w64 (b_3-a_2))<=12))) wz rfl (aj ?_)))))))))))))
   rcases ak hc_12 with⟨hc_16,hc_12⟩|⟨hc_16,hc_12⟩
   ·refine aA rfl hc_16 (af (aa (ae (dV (au 0) 9 data_1) wz rfl (ae (vI a_2) wz rfl (ae (vI b_3) wz rfl (ae (.fn 44 []) wz rfl ?_))))))
    obtain ⟨r_17,hr_18,hc_12⟩:=bind_some hc_12
    obtain ⟨_,hs_19,hc_12⟩:=bind_some hc_12
    replace hs_19:=lV hs_19
    refine mJ 0 [] 0 0 il ft (iW hr_18) rfl H9 rfl rfl rfl (by kernel_rfl) rfl (.inr (.inl rfl)) rfl (by kernel_rfl) (by kernel_rfl) (by kernel_rfl) (by kernel_rfl) rfl (by decide) (by kernel_rfl) jG (sV hs_19) wz ([((au 0),gB 9 Alert.enc r_17)]:Hp) (by kernel_rfl) (cK (v':=(dV (au 0) 9 r_17)) 0 rfl (bO hs_19.symm) (cK (v':=(dV (au 0) 9 r_17)) 26 rfl (bO hs_19.symm) (aj ?_)))
    obtain rfl:=ah hc_12
    obtain rfl:=ah hL_13
    obtain rfl:=ah hF
    exact ay (vg (bs:=([]:List Box)) (os:=([]:List Box)) (xs:=data_1) (o:=gB 9 Alert.enc r_17) (.inr rfl) [] trivial rfl rfl rfl rfl rfl (by kernel_rfl) jG rfl)
   ·refine ax rfl hc_16 (av (af (af (aa (ae (vI limit_4) wz rfl (ae (vB (limit_4==0)) wz rfl (aj ?_)))))))
    rcases ak hc_12 with⟨hc_20,hc_12⟩|⟨hc_20,hc_12⟩
    ·refine aA rfl hc_20 (af (aa (ae (dV (au 0) 9 data_1) wz rfl (ae (vI a_2) wz rfl (ae (vI b_3) wz rfl (ae (.fn 44 []) wz rfl ?_))))))
     cases hc_12
    ·refine ax rfl hc_20 (av (af (af (aa (ae (vB true) wz rfl (ae (vB false) wz rfl (aj (ax rfl rfl (av (af (aa (ae (dV (au 0) 9 data_1) wz rfl (ae (vI a_2) wz rfl (ae (vI b_3) wz rfl (ae (.fn 44 []) wz rfl ?_)))))))))))))))
     cases hc_12
 ·rintro s_11 ho_ sl_ H_ hp_ hq_
  subst ho_
  show pF _ _ _ _ _ _ _ _
  obtain rfl:=ah hF
  exact si (H0:=([((au 0),gB 9 Alert.enc data_1)]:Hp)) (sl':=envS []) hq_ (vg (bs:=([]:List Box)) (os:=([]:List Box)) (xs:=data_1) (o:=gB 9 Alert.enc data_1) (.inl rfl) [] trivial rfl rfl rfl rfl rfl (by kernel_rfl) jG rfl)
theorem jw {x_1:(List Alert)} {r:(List Alert)} (hF:bz x_1=some r) :
  FnM Tryz.prog 43 [(dV (au 0) 9 x_1),(.fn 44 [])] (([]:List Box)++gI 9 Alert.enc x_1) (.tup []) (([]:List Box).map some++gT x_1 (gB 9 Alert.enc r)):=by
 refine FnM.of_wHv ⟨Tryz.prog,14,[],[]⟩ rfl Tryz.func43 rfl rfl (lb_ rfl) (by kernel_rfl) ?_
 unfold bz at hF
 refine af (aa (ae (dV (au 0) 9 x_1) wz rfl (BM lK rfl wz (ae (vI (x_1.length:Int)) wz rfl (aj (aa (ae (dV (au 0) 9 x_1) wz rfl (ae (vI (x_1.length:Int)) wz rfl (ae (vI (x_1.length:Int)) wz rfl (yc un3 IX rfl wz ?_))))))))))
 obtain ⟨r_3,hr_4,hF⟩:=bind_some hF
 refine aH (mo hr_4) rfl hb78 rfl rfl rfl rfl wz (ae (.fn 44 []) wz rfl ?_)
 obtain ⟨r_5,hr_6,hF⟩:=bind_some hF
 obtain ⟨_,hs_7,hF⟩:=bind_some hF
 replace hs_7:=lV hs_7
 refine mJ 0 [] 0 0 il ft (ku hr_6) rfl hb77 rfl rfl rfl (by kernel_rfl) rfl (.inr (.inl rfl)) rfl (by kernel_rfl) (by kernel_rfl) (by kernel_rfl) (by kernel_rfl) rfl (by decide) (by kernel_rfl) jG (sV hs_7) wz ([((au 0),gB 9 Alert.enc r_5)]:Hp) (by kernel_rfl) (cK (v':=(dV (au 0) 9 r_5)) 0 rfl (bO hs_7.symm) (cK (v':=(dV (au 0) 9 r_5)) 5 rfl (bO hs_7.symm) (cK (v':=(dV (au 0) 9 r_5)) 7 rfl (bO hs_7.symm) (aj ?_))))
 show pF _ _ _ _ _ _ _ _
 obtain rfl:=ah hF
 exact vg (bs:=([]:List Box)) (os:=([]:List Box)) (xs:=x_1) (o:=gB 9 Alert.enc r_5) (.inl rfl) [] trivial rfl rfl rfl rfl rfl (by kernel_rfl) jG rfl
end Go.Proofs.YtpmokglbipebcaaGreatDoor.Law

