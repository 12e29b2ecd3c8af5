/-
 The machine computes these plain functions (written by a program of ours).
-/
import Derived.Test.YtnjnggakgeommaaGreatDoorFacts
import Derived.Test.YtnjnggakgeommaaGreatDoorDefs
import Derived.Test.YtnjnggakgeommaaGreatDoorPf5
open Go Go.Eng Go.Proofs
namespace Go.Proofs.YtnjnggakgeommaaGreatDoor.Law
set_option maxRecDepth 100000
set_option linter.unusedVariables false
set_option maxHeartbeats 1000000
theorem wm {a_1:Alert} {r:Int} (hF:iW a_1=some r) :
  FnM Tryz.prog 211 [(.d (.agg (Alert.enc a_1)))] [] (vI r) []:=by
 refine FnM.of_wH ⟨Tryz.prog,92,[],[]⟩ rfl Tryz.func211 rfl rfl (lb_ rfl) (by kernel_rfl) ?_
 unfold iW at hF
 refine af (aa (gH 0 (.inl rfl) [(vS a_1.Id),(vS a_1.Sender),(vI a_1.Kind),(vL eS a_1.Refs),(vI a_1.At),(vI a_1.Until),(vI a_1.Weight),(vL Rect.enc a_1.Areas),(vS a_1.Text)] rfl rfl wz (λn_2=>ae (vI 0) wz rfl (ak (af (af ?_))))))
 obtain ⟨v_3,h_4,hF⟩:=bind_some hF
 refine aH (β:=Unit) (λ_=>([(1,(.ref n_2 0 0)),(17,(vB v_3))]:SL_)) (λ_=>([(n_2,some (.cells 9 [(vS a_1.Id),(vS a_1.Sender),(vI a_1.Kind),(vL eS a_1.Refs),(vI a_1.At),(vI a_1.Until),(vI a_1.Weight),(vL Rect.enc a_1.Areas),(vS a_1.Text)]))]:Hp)) (λ_=>True) ?_ ?_
 ·refine aa (aF vK rfl 0 rfl wz (aC 0 0 il ft sz9 ag9 rfl rfl (vS a_1.Id) rfl wz ?_))
  obtain ⟨r_5,hr_6,h_4⟩:=bind_some h_4
  refine aD (fA hr_6) rfl Bl rfl rfl rfl rfl wz (ae (vB (!r_5)) wz rfl ?_)
  rcases au h_4 with⟨hc_7,h_4⟩|⟨hc_7,h_4⟩
  ·refine ax rfl hc_7 wz (ah wa (ah wa (ah wa (ah wa (ae (vB true) wz rfl (ak ?_))))))
   obtain rfl:=aj h_4
   exact cu
  ·refine ax rfl hc_7 wz (aF pl116_1 rfl 1 rfl wa (aC 0 0 il ft sz9 ag9 rfl rfl (vS a_1.Sender) rfl wa ?_))
   obtain ⟨r_8,hr_9,h_4⟩:=bind_some h_4
   refine aD (fA hr_9) rfl Bl rfl rfl rfl rfl wa (ae (vB (!r_8)) wa rfl (ae (vB (!r_8)) wz rfl (ak ?_)))
   obtain rfl:=aj h_4
   exact cu
 ·rintro ⟨⟩ _ sl_ H_ hp_ hq_
  refine aM _ hp_ hq_ ?_
  rcases au hF with⟨hc_10,hF⟩|⟨hc_10,hF⟩
  ·refine aB rfl hc_10 (af (aa (ae (vI 5) wz rfl (ak ?_))))
   obtain rfl:=aj hF
   exact ay (aO (.inr rfl) [(vI 5)] ⟨rfl,trivial⟩ rfl rfl rfl)
  ·refine aA rfl hc_10 (av (af (af (aa (aF EC rfl 2 rfl wz (aC 0 0 il ft sz3 ag3 rfl rfl (vI a_1.Kind) rfl wz ?_))))))
   obtain ⟨r_11,hr_12,hF⟩:=bind_some hF
   refine aD (bf hr_12) rfl qj rfl rfl rfl rfl wz (ak ?_)
   rcases au hF with⟨hc_13,hF⟩|⟨hc_13,hF⟩
   ·refine aB rfl hc_13 (af (aa (ae (vI 4) wz rfl (ak ?_))))
    obtain rfl:=aj hF
    exact ay (aO (.inr rfl) [(vI 4)] ⟨rfl,trivial⟩ rfl rfl rfl)
   ·refine aA rfl hc_13 (av (af (af (aa (aC 0 0 il ft ut x9 rfl rfl (.d (.agg (Alert.enc a_1))) rfl wz ?_)))))
    obtain ⟨r_14,hr_15,hF⟩:=bind_some hF
    refine aD (xg hr_15) rfl hb251 rfl rfl rfl rfl wz (ae (vI r_14) wz rfl (ak (af (aa (ae (vI r_14) wz rfl (ae (vB (r_14 != 0)) wz rfl (ak ?_)))))))
    rcases au hF with⟨hc_16,hF⟩|⟨hc_16,hF⟩
    ·refine aB rfl hc_16 (af (aa (ae (vI r_14) wz rfl (ae (vI r_14) wz rfl (ak ?_)))))
     obtain rfl:=aj hF
     exact ay (aO (.inr rfl) [(vI r_14)] ⟨rfl,trivial⟩ rfl rfl rfl)
    ·refine aA rfl hc_16 (av (af (af ?_)))
     obtain ⟨v_17,h_18,hF⟩:=bind_some hF
     refine aH (β:=Unit) (λ_=>([(1,(.ref n_2 0 0)),(45,(vB v_17))]:SL_)) (λ_=>([(n_2,some (.cells 9 [(vS a_1.Id),(vS a_1.Sender),(vI a_1.Kind),(vL eS a_1.Refs),(vI a_1.At),(vI a_1.Until),(vI a_1.Weight),(vL Rect.enc a_1.Areas),(vS a_1.Text)]))]:Hp)) (λ_=>True) ?_ ?_
     ·refine aa (aF xO rfl 4 rfl wz (aC 0 0 il ft sz3 ag3 rfl rfl (vI a_1.At) rfl wz ?_))
      obtain ⟨r_19,hr_20,h_18⟩:=bind_some h_18
      refine aD (gN hr_20) rfl CJ rfl rfl rfl rfl wz (ae (vB (!r_19)) wz rfl ?_)
      rcases au h_18 with⟨hc_21,h_18⟩|⟨hc_21,h_18⟩
      ·refine ax rfl hc_21 wz (ah wa (ah wa (ah wa (ah wa (ah wa (ah wa (ah wa (ah wa (ah wa (ae (vB true) wz rfl (ae (vB true) wz rfl (ah wa (ah wa (ah wa (ae (vB true) wz rfl (ak ?_))))))))))))))))
       obtain rfl:=aj h_18
       exact cu
      ·refine ax rfl hc_21 wz (aF pl116_5 rfl 5 rfl wa (aC 0 0 il ft sz3 ag3 rfl rfl (vI a_1.Until) rfl wa (aF xO rfl 4 rfl wa (aC 0 0 il ft sz3 ag3 rfl rfl (vI a_1.At) rfl wa (ae (vI (w64 (a_1.At+1))) wa rfl (aF xO rfl 4 rfl wa (aC 0 0 il ft sz3 ag3 rfl rfl (vI a_1.At) rfl wa (ae (vI (w64 (a_1.At+2592000000))) wa rfl ?_))))))))
       obtain ⟨r_22,hr_23,h_18⟩:=bind_some h_18
       refine aD (bf hr_23) rfl qj rfl rfl rfl rfl wa (ae (vB r_22) wz rfl ?_)
       rcases au h_18 with⟨hc_24,h_18⟩|⟨hc_24,h_18⟩
       ·refine ax rfl hc_24 wz (ah wa (ah wa (ah wa (ae (vB true) wz rfl (ak ?_)))))
        obtain rfl:=aj h_18
        exact cu
       ·refine ax rfl hc_24 wz (aF pl116_6 rfl 6 rfl wa (aC 0 0 il ft sz3 ag3 rfl rfl (vI a_1.Weight) rfl wa ?_))
        obtain ⟨r_25,hr_26,h_18⟩:=bind_some h_18
        refine aD (bf hr_26) rfl qj rfl rfl rfl rfl wa (ae (vB r_25) wz rfl (ak ?_))
        obtain rfl:=aj h_18
        exact cu
     ·rintro ⟨⟩ _ sl_ H_ hp_ hq_
      refine aM _ hp_ hq_ ?_
      rcases au hF with⟨hc_27,hF⟩|⟨hc_27,hF⟩
      ·refine aB rfl hc_27 (af (aa (ae (vI 1) wz rfl (ak ?_))))
       obtain rfl:=aj hF
       exact ay (aO (.inr rfl) [(vI 1)] ⟨rfl,trivial⟩ rfl rfl rfl)
      ·refine aA rfl hc_27 (av (af (af (aa (aF AA rfl 7 rfl wz (aC 0 0 il ft Dm DK rfl rfl (vL Rect.enc a_1.Areas) rfl wz (bJ rM rfl wz (ae (vB (decide ((a_1.Areas.length:Int)>20))) wz rfl (ak ?_)))))))))
       rcases au hF with⟨hc_28,hF⟩|⟨hc_28,hF⟩
       ·refine aB rfl hc_28 (af (aa (ae (vI 2) wz rfl (ak ?_))))
        obtain rfl:=aj hF
        exact ay (aO (.inr rfl) [(vI 2)] ⟨rfl,trivial⟩ rfl rfl rfl)
       ·refine aA rfl hc_28 (av (af (af (aa (aF AA rfl 7 rfl wz (aC 0 0 il ft Dm DK rfl rfl (vL Rect.enc a_1.Areas) rfl wz (bJ rM rfl wz (ae (vI 0) wz rfl (ak ?_)))))))))
        obtain ⟨o_37,hj_38,hF⟩:=bind_some hF
        obtain ⟨hn_33,hj_38⟩:=bg hj_38
        refine aH (β:=(Unit)) (λ(s_34:Unit)=>([(1,(.ref n_2 0 0))]:SL_)) (λ(s_34:Unit)=>([(n_2,some (.cells 9 [(vS a_1.Id),(vS a_1.Sender),(vI a_1.Kind),(vL eS a_1.Refs),(vI a_1.At),(vI a_1.Until),(vI a_1.Weight),(vL Rect.enc a_1.Areas),(vS a_1.Text)]))]:Hp)) (λp=>o_37 = .go p) ?_ ?_
        ·refine aG (bv (β:=Nat×(List Rect)×(Unit)) (λp=>(λ(k_29:Nat) (l_30:List Rect) (s_34:Unit)=>([(1,(.ref n_2 0 0)),(51,(vL Rect.enc a_1.Areas)),(52,(vI (a_1.Areas.length:Int))),(53,(vI (k_29:Int)))]:SL_)) p.1 p.2.1 p.2.2) (λp=>(λ(k_29:Nat) (l_30:List Rect) (s_34:Unit)=>([(n_2,some (.cells 9 [(vS a_1.Id),(vS a_1.Sender),(vI a_1.Kind),(vL eS a_1.Refs),(vI a_1.At),(vI a_1.Until),(vI a_1.Weight),(vL Rect.enc a_1.Areas),(vS a_1.Text)]))]:Hp)) p.1 p.2.1 p.2.2) (λp=>forR (λk x s=>iQ k x s) p.2.1 p.1 p.2.2=some o_37/\(a_1.Areas).drop p.1=p.2.1) (λp=>p.2.1.length) (0,a_1.Areas,()) ⟨hj_38,rfl⟩ rfl (aK rfl) ?_)
         rintro ⟨k_29,l_30,s_34⟩ ⟨hL_36,hD_32⟩
         dsimp only at hL_36 hD_32
         cases l_30 with
         | nil =>
          obtain rfl:=aj hL_36
          refine af (aa (ae (vB (decide ((k_29:Int)<(a_1.Areas.length:Int)))) wz rfl (ak ?_)))
          refine af (aA rfl (drop_nil hD_32) (aX ?_))
          exact aS (s_34) rfl rfl (aK rfl)
         | cons x_31 l_30 =>
          obtain ⟨c_,hc_35,hL_36⟩:=bind_some hL_36
          refine af (aa (ae (vB (decide ((k_29:Int)<(a_1.Areas.length:Int)))) wz rfl (ak ?_)))
          refine af (aB rfl (bz hD_32) (av ?_))
          unfold iQ at hc_35
          refine af (aG (af (aa (dP xN rfl rfl (bE hD_32) rfl wz (bO nY zB rfl (.d (.agg (Rect.enc x_31))) rfl wz (dA 0 (.inl rfl) Fv rfl wz (λn_39=>dX 0 il ft 1 nY rfl rfl [(vI x_31.X),(vI x_31.Y),(vI x_31.W),(vI x_31.H)] rfl wz (ak (af (aa (aC 0 1 il ft nY zB rfl rfl (.d (.agg (Rect.enc x_31))) rfl wz ?_)))))))))))
          obtain ⟨r_40,hr_41,hc_35⟩:=bind_some hc_35
          refine aD (o5 hr_41) rfl hb154 rfl rfl rfl rfl wz (ae (vI r_40) wz rfl (ak (af (aa (ae (vI r_40) wz rfl (ae (vB (r_40 != 0)) wz rfl (ak ?_)))))))
          rcases au hc_35 with⟨hc_42,hc_35⟩|⟨hc_42,hc_35⟩
          ·refine aB rfl hc_42 (af (aa (ae (vI r_40) wz rfl (ae (vI r_40) wz rfl (ak ?_)))))
           obtain rfl:=aj hc_35
           obtain rfl:=aj hL_36
           obtain rfl:=aj hF
           exact ay (aO (.inr rfl) [(vI r_40)] ⟨rfl,trivial⟩ rfl rfl rfl)
          ·refine aA rfl hc_42 (av (aa (eQ (bB hD_32 hn_33) wz rfl (ae (vI ((k_29+1:Nat):Int)) wz rfl (ak ?_)))))
           obtain rfl:=aj hc_35
           exact aY (k_29+1,l_30,()) ⟨hL_36,aR hD_32⟩ (ls_ _) rfl (aK rfl)
        ·rintro s_34 ho_ sl_ H_ hp_ hq_
         subst ho_
         refine aM _ hp_ hq_ (af (aa (aF EC rfl 2 rfl wz (aC 0 0 il ft sz3 ag3 rfl rfl (vI a_1.Kind) rfl wz (ae (vB (a_1.Kind==3)) wz rfl (ae (vB (a_1.Kind==3)) wz rfl (ak (af (aG (af (aa (ae (vB (a_1.Kind==3)) wz rfl (aF AA rfl 7 rfl wz (aC 0 0 il ft Dm DK rfl rfl (vL Rect.enc a_1.Areas) rfl wz (bJ rM rfl wz (ae (vB ((a_1.Areas.length:Int)==0)) wz rfl (Kb un4 rfl rfl wz (ae (vB (!((a_1.Kind==3)==((a_1.Areas.length:Int)==0)))) wz rfl (ak ?_)))))))))))))))))))
         rcases au hF with⟨hc_43,hF⟩|⟨hc_43,hF⟩
         ·refine aB rfl hc_43 (af (aa (ae (vI 3) wz rfl (ak ?_))))
          obtain rfl:=aj hF
          exact ay (aO (.inr rfl) [(vI 3)] ⟨rfl,trivial⟩ rfl rfl rfl)
         ·refine aA rfl hc_43 (af (aa (aF Eu rfl 8 rfl wz (aC 0 0 il ft sz9 ag9 rfl rfl (vS a_1.Text) rfl wz (lL un9 rfl wz (ae (vB (decide ((a_1.Text.size:Int)>500))) wz rfl (ae (vB (decide ((a_1.Text.size:Int)>500))) wz rfl (ak ?_))))))))
          rcases au hF with⟨hc_44,hF⟩|⟨hc_44,hF⟩
          ·refine aB rfl hc_44 (af (aa (ae (vI 2) wz rfl (ak ?_))))
           obtain rfl:=aj hF
           exact ay (aO (.inr rfl) [(vI 2)] ⟨rfl,trivial⟩ rfl rfl rfl)
          ·refine aA rfl hc_44 (af ?_)
           obtain ⟨v_45,h_46,hF⟩:=bind_some hF
           refine aH (β:=Unit) (λ_=>([(78,(vB v_45))]:SL_)) (λ_=>([(n_2,some (.cells 9 [(vS a_1.Id),(vS a_1.Sender),(vI a_1.Kind),(vL eS a_1.Refs),(vI a_1.At),(vI a_1.Until),(vI a_1.Weight),(vL Rect.enc a_1.Areas),(vS a_1.Text)]))]:Hp)) (λ_=>True) ?_ ?_
           ·refine aa (aF Eu rfl 8 rfl wz (aC 0 0 il ft sz9 ag9 rfl rfl (vS a_1.Text) rfl wz ?_))
            obtain ⟨r_47,hr_48,h_46⟩:=bind_some h_46
            refine aD (AR hr_48) rfl hb252 rfl rfl rfl rfl wz (ae (vB (!r_47)) wz rfl ?_)
            rcases au h_46 with⟨hc_49,h_46⟩|⟨hc_49,h_46⟩
            ·refine ax rfl hc_49 wz (ah wa (ah wa (ah wa (ah wa (ah (wn rfl rfl) (ah (wn rfl rfl) (ah wa (ae (vB true) wz rfl (ae (vB true) wz rfl (ak ?_))))))))))
             obtain rfl:=aj h_46
             exact cu
            ·refine ax rfl hc_49 wz (aF Eu rfl 8 rfl wa (aC 0 0 il ft sz9 ag9 rfl rfl (vS a_1.Text) rfl wa (ae (vB (sEq a_1.Text (⟨#[]⟩:ByteArray))) wa rfl ?_)))
             rcases au h_46 with⟨hc_50,h_46⟩|⟨hc_50,h_46⟩
             ·refine ax rfl hc_50 wa (ae (vB (a_1.Kind==3)) wa rfl (ae (vB (!(a_1.Kind==3))) wa rfl (ae (vB (!(a_1.Kind==3))) wa rfl (ae (vB (!(a_1.Kind==3))) wz rfl (ae (vB (!(a_1.Kind==3))) wz rfl (ak ?_))))))
              obtain rfl:=aj h_46
              exact cu
             ·refine ax rfl hc_50 wa (ah wa (ah wa (ae (vB false) wa rfl (ae (vB false) wz rfl (ae (vB false) wz rfl (ak ?_))))))
              obtain rfl:=aj h_46
              exact cu
           ·rintro ⟨⟩ _ sl_ H_ hp_ hq_
            refine aM _ hp_ hq_ ?_
            rcases au hF with⟨hc_51,hF⟩|⟨hc_51,hF⟩
            ·refine aB rfl hc_51 (af (aa (ae (vI 3) wz rfl (ak ?_))))
             obtain rfl:=aj hF
             exact ay (aO (.inr rfl) [(vI 3)] ⟨rfl,trivial⟩ rfl rfl rfl)
            ·refine aA rfl hc_51 (av (af (aa (ae (vI 0) wz rfl (ak ?_)))))
             obtain rfl:=aj hF
             exact ay (aO (.inr rfl) [(vI 0)] ⟨rfl,trivial⟩ rfl rfl rfl)
theorem y7 {a_1:Alert} {b_2:Alert} {r:Int} (hF:nK a_1 b_2=some r) :
  FnM Tryz.prog 212 [(.d (.agg (Alert.enc a_1))),(.d (.agg (Alert.enc b_2)))] [] (vI r) []:=by
 refine FnM.of_wH ⟨Tryz.prog,17,[],[]⟩ rfl Tryz.func212 rfl rfl (lb_ rfl) (by kernel_rfl) ?_
 unfold nK at hF
 refine af (aa (gH 0 (.inl rfl) [(vS a_1.Id),(vS a_1.Sender),(vI a_1.Kind),(vL eS a_1.Refs),(vI a_1.At),(vI a_1.Until),(vI a_1.Weight),(vL Rect.enc a_1.Areas),(vS a_1.Text)] rfl rfl wz (λn_3=>gH 0 (.inl rfl) [(vS b_2.Id),(vS b_2.Sender),(vI b_2.Kind),(vL eS b_2.Refs),(vI b_2.At),(vI b_2.Until),(vI b_2.Weight),(vL Rect.enc b_2.Areas),(vS b_2.Text)] rfl rfl wz (λn_4=>ae (vI 0) wz rfl (ak (af (bG (aF xO rfl 4 rfl wz (aC 1 0 (.inr (by kernel_rfl)) (λ_ _ ag=>trivial) sz3 ag3 rfl rfl (vI a_1.At) rfl wz (aF xO rfl 4 rfl wz (aC 3 1 (.inr (by kernel_rfl)) (λ_ _ ag=>⟨.inl ⟨rfl,rfl⟩,trivial⟩) sz3 ag3 rfl rfl (vI b_2.At) rfl wz ?_)))))))))))
 obtain ⟨r_5,hr_6,hF⟩:=bind_some hF
 refine aD (qb hr_6) rfl hb115 rfl rfl rfl rfl wz (aF vK rfl 0 rfl wz (aC 6 0 (.inr (by kernel_rfl)) (λ_ _ ag=>⟨.inl ⟨rfl,rfl⟩,⟨.inl ⟨rfl,rfl⟩,trivial⟩⟩) sz9 ag9 rfl rfl (vS a_1.Id) rfl wz (aF vK rfl 0 rfl wz (aC 8 1 (.inr (by kernel_rfl)) (λ_ _ ag=>⟨.inl ⟨rfl,rfl⟩,⟨.inl ⟨rfl,rfl⟩,⟨.inl ⟨rfl,rfl⟩,trivial⟩⟩⟩) sz9 ag9 rfl rfl (vS b_2.Id) rfl wz ?_))))
 obtain ⟨r_7,hr_8,hF⟩:=bind_some hF
 refine aD (pX hr_8) rfl hb61 rfl rfl rfl rfl wz (eO (([r_5,r_7]:List Int).map eI) kE xE rfl rfl rfl rfl rfl wz ?_)
 obtain ⟨r_9,hr_10,hF⟩:=bind_some hF
 refine aD (wK hr_10) rfl hb171 rfl rfl rfl rfl wz (ae (vI r_9) wz rfl (ak ?_))
 obtain rfl:=aj hF
 exact ay (aO (.inr rfl) [(vI r_9)] ⟨rfl,trivial⟩ rfl rfl rfl)
theorem uT {l_1:(List Alert)} {r:Int} (hF:iH l_1=some r) :
  FnM Tryz.prog 164 [(vL Alert.enc l_1)] [] (vI r) []:=by
 refine FnM.of_wH ⟨Tryz.prog,52,[],[]⟩ rfl Tryz.func164 rfl rfl (lb_ rfl) (by kernel_rfl) ?_
 unfold iH at hF
 refine af (aa (ae (vI 0) wz rfl (ak (af (af (aa (ae (vL Alert.enc l_1) wz rfl (bJ KR rfl wz (ae (vB (decide ((l_1.length:Int)>300))) wz rfl (ak ?_))))))))))
 rcases au hF with⟨hc_2,hF⟩|⟨hc_2,hF⟩
 ·refine aB rfl hc_2 (af (aa (ae (vI 2) wz rfl (ak ?_))))
  obtain rfl:=aj hF
  exact ay (aO (.inr rfl) [(vI 2)] ⟨rfl,trivial⟩ rfl rfl rfl)
 ·refine aA rfl hc_2 (av (af (af (aa (ae (vL Alert.enc l_1) wz rfl (bJ KR rfl wz (ae (vI 0) wz rfl (ak ?_))))))))
  obtain ⟨o_11,hj_12,hF⟩:=bind_some hF
  obtain ⟨hn_7,hj_12⟩:=bg hj_12
  refine aH (β:=(Unit)) (λ(s_8:Unit)=>([(0,(vL Alert.enc l_1))]:SL_)) (λ(s_8:Unit)=>([]:Hp)) (λp=>o_11 = .go p) ?_ ?_
  ·refine aG (bv (β:=Nat×(List Alert)×(Unit)) (λp=>(λ(k_3:Nat) (l_4:List Alert) (s_8:Unit)=>([(0,(vL Alert.enc l_1)),(12,(vL Alert.enc l_1)),(13,(vI (l_1.length:Int))),(14,(vI (k_3:Int)))]:SL_)) p.1 p.2.1 p.2.2) (λp=>(λ(k_3:Nat) (l_4:List Alert) (s_8:Unit)=>([]:Hp)) p.1 p.2.1 p.2.2) (λp=>forR (λk x s=>gu l_1 k x s) p.2.1 p.1 p.2.2=some o_11/\(l_1).drop p.1=p.2.1) (λp=>p.2.1.length) (0,l_1,()) ⟨hj_12,rfl⟩ rfl (aK rfl) ?_)
   rintro ⟨k_3,l_4,s_8⟩ ⟨hL_10,hD_6⟩
   dsimp only at hL_10 hD_6
   cases l_4 with
   | nil =>
    obtain rfl:=aj hL_10
    refine af (aa (ae (vB (decide ((k_3:Int)<(l_1.length:Int)))) wz rfl (ak ?_)))
    refine af (aA rfl (drop_nil hD_6) (aX ?_))
    exact aS (s_8) rfl rfl (aK rfl)
   | cons x_5 l_4 =>
    obtain ⟨c_,hc_9,hL_10⟩:=bind_some hL_10
    refine af (aa (ae (vB (decide ((k_3:Int)<(l_1.length:Int)))) wz rfl (ak ?_)))
    refine af (aB rfl (bz hD_6) (av ?_))
    unfold gu at hc_9
    refine af (aG (af (aa (ae (vI (k_3:Int)) wz rfl (dP Je rfl rfl (bE hD_6) rfl wz (bO ut x9 rfl (.d (.agg (Alert.enc x_5))) rfl wz (dA 0 (.inl rfl) z116 rfl wz (λn_13=>ae (vI (k_3:Int)) wz rfl (dX 0 il ft 0 ut rfl rfl [(vS x_5.Id),(vS x_5.Sender),(vI x_5.Kind),(vL eS x_5.Refs),(vI x_5.At),(vI x_5.Until),(vI x_5.Weight),(vL Rect.enc x_5.Areas),(vS x_5.Text)] rfl wz (ak (af (af (aa (aC 0 0 il ft ut x9 rfl rfl (.d (.agg (Alert.enc x_5))) rfl wz ?_))))))))))))))
    obtain ⟨r_14,hr_15,hc_9⟩:=bind_some hc_9
    refine aD (wm hr_15) rfl hb211 rfl rfl rfl rfl wz (ae (vI r_14) wz rfl (ak (af (aa (ae (vI r_14) wz rfl (ae (vB (r_14 != 0)) wz rfl (ak ?_)))))))
    rcases au hc_9 with⟨hc_16,hc_9⟩|⟨hc_16,hc_9⟩
    ·refine aB rfl hc_16 (af (aa (ae (vI r_14) wz rfl (ae (vI r_14) wz rfl (ak ?_)))))
     obtain rfl:=aj hc_9
     obtain rfl:=aj hL_10
     obtain rfl:=aj hF
     exact ay (aO (.inr rfl) [(vI r_14)] ⟨rfl,trivial⟩ rfl rfl rfl)
    ·refine aA rfl hc_16 (av (af ?_))
     obtain ⟨v_17,h_18,hc_9⟩:=bind_some hc_9
     refine aH (β:=Unit) (λ_=>([(0,(vL Alert.enc l_1)),(12,(vL Alert.enc l_1)),(13,(vI (l_1.length:Int))),(14,(vI (k_3:Int))),(35,(vB v_17))]:SL_)) (λ_=>([(n_13,some (.cells 9 [(vS x_5.Id),(vS x_5.Sender),(vI x_5.Kind),(vL eS x_5.Refs),(vI x_5.At),(vI x_5.Until),(vI x_5.Weight),(vL Rect.enc x_5.Areas),(vS x_5.Text)]))]:Hp)) (λ_=>True) ?_ ?_
     ·refine bG (ae (vI (k_3:Int)) wz rfl (ae (vB (decide ((k_3:Int)>0))) wz rfl ?_))
      rcases au h_18 with⟨hc_19,h_18⟩|⟨hc_19,h_18⟩
      ·refine ax rfl hc_19 wz (ae (vL Alert.enc l_1) wa rfl (ae (vI (k_3:Int)) wa rfl (ae (vI (w64 ((k_3:Int)-1))) wa rfl ?_)))
       obtain ⟨y_20,hy_21,h_18⟩:=bind_some h_18
       refine dP Je rfl rfl hy_21 rfl wa (bO ut x9 rfl (.d (.agg (Alert.enc y_20))) rfl wa (aC 8 0 (.inr (by kernel_rfl)) (λ_ _ ag=>trivial) ut x9 rfl rfl (.d (.agg (Alert.enc x_5))) rfl wa ?_))
       obtain ⟨r_22,hr_23,h_18⟩:=bind_some h_18
       refine aD (y7 hr_23) rfl hb212 rfl rfl rfl rfl wa (ae (vB (decide (r_22>=0))) wa rfl (ae (vB (decide (r_22>=0))) wz rfl (ak ?_)))
       obtain rfl:=aj h_18
       exact cu
      ·refine ax rfl hc_19 wz (ah wa (ah wa (ah wa (ah wa (ah wa (ah wa (ah wa (ah wa (ae (vB false) wz rfl (ak ?_))))))))))
       obtain rfl:=aj h_18
       exact cu
     ·rintro ⟨⟩ _ sl_ H_ hp_ hq_
      refine aM _ hp_ hq_ ?_
      rcases au hc_9 with⟨hc_24,hc_9⟩|⟨hc_24,hc_9⟩
      ·refine aB rfl hc_24 (af (aa (ae (vI 7) wz rfl (ak ?_))))
       obtain rfl:=aj hc_9
       obtain rfl:=aj hL_10
       obtain rfl:=aj hF
       exact ay (aO (.inr rfl) [(vI 7)] ⟨rfl,trivial⟩ rfl rfl rfl)
      ·refine aA rfl hc_24 (av (aa (eQ (bB hD_6 hn_7) wz rfl (ae (vI ((k_3+1:Nat):Int)) wz rfl (ak ?_)))))
       obtain rfl:=aj hc_9
       exact aY (k_3+1,l_4,()) ⟨hL_10,aR hD_6⟩ (ls_ _) rfl (aK rfl)
  ·rintro s_8 ho_ sl_ H_ hp_ hq_
   subst ho_
   refine aM _ hp_ hq_ (af (aa (IU 0 (.inl rfl) wz (λn_25=>JP (b':=some (bM D.str D.bool ([]:List (ByteArray×Bool)))) 0 rfl rfl (ae (.map n_25) wz rfl (ak (af (af (aa (ae (vL Alert.enc l_1) wz rfl (bJ KR rfl wz (ae (vI 0) wz rfl (ak ?_)))))))))))))
   obtain ⟨o_34,hj_35,hF⟩:=bind_some hF
   obtain ⟨hn_30,hj_35⟩:=bg hj_35
   refine aH (β:=((List (ByteArray×Bool)))) (λ(s_31:(List (ByteArray×Bool)))=>([]:SL_)) (λ(s_31:(List (ByteArray×Bool)))=>([(n_25,some (bM D.str D.bool s_31))]:Hp)) (λp=>o_34 = .go p) ?_ ?_
   ·refine aG (bv (β:=Nat×(List Alert)×((List (ByteArray×Bool)))) (λp=>(λ(k_26:Nat) (l_27:List Alert) (s_31:(List (ByteArray×Bool)))=>([(6,(.map n_25)),(38,(vL Alert.enc l_1)),(39,(vI (l_1.length:Int))),(40,(vI (k_26:Int)))]:SL_)) p.1 p.2.1 p.2.2) (λp=>(λ(k_26:Nat) (l_27:List Alert) (s_31:(List (ByteArray×Bool)))=>([(n_25,some (bM D.str D.bool s_31))]:Hp)) p.1 p.2.1 p.2.2) (λp=>forR (λk x s=>iK k x s) p.2.1 p.1 p.2.2=some o_34/\(l_1).drop p.1=p.2.1) (λp=>p.2.1.length) (0,l_1,([]:List (ByteArray×Bool))) ⟨hj_35,rfl⟩ rfl (aK rfl) ?_)
    rintro ⟨k_26,l_27,s_31⟩ ⟨hL_33,hD_29⟩
    dsimp only at hL_33 hD_29
    cases l_27 with
    | nil =>
     obtain rfl:=aj hL_33
     refine af (aa (ae (vB (decide ((k_26:Int)<(l_1.length:Int)))) wz rfl (ak ?_)))
     refine af (aA rfl (drop_nil hD_29) (aX ?_))
     exact aS (s_31) rfl rfl (aK rfl)
    | cons x_28 l_27 =>
     obtain ⟨c_,hc_32,hL_33⟩:=bind_some hL_33
     refine af (aa (ae (vB (decide ((k_26:Int)<(l_1.length:Int)))) wz rfl (ak ?_)))
     refine af (aB rfl (bz hD_29) (av ?_))
     unfold iK at hc_32
     refine af (aG (af (aa (dP Je rfl rfl (bE hD_29) rfl wz (bO ut x9 rfl (.d (.agg (Alert.enc x_28))) rfl wz (dA 0 (.inl rfl) z116 rfl wz (λn_36=>dX 0 il ft 1 ut rfl rfl [(vS x_28.Id),(vS x_28.Sender),(vI x_28.Kind),(vL eS x_28.Refs),(vI x_28.At),(vI x_28.Until),(vI x_28.Weight),(vL Rect.enc x_28.Areas),(vS x_28.Text)] rfl wz (ak (af (af (aa (ae (.map n_25) wz rfl (aF vK rfl 0 rfl wz (aC 0 1 il ft sz9 ag9 rfl rfl (vS x_28.Id) rfl wz (Bi (eq:=eqS) (kD:=D.str) (vD:=D.bool) (es:=s_31) (k:=x_28.Id) (z:=false) 0 0 il ft (λ_ _=>rfl) mt122 (by kernel_rfl) (by kernel_rfl) rfl rfl rfl (vB ((bZ eqS s_31 x_28.Id).getD false)) rfl wz (ak ?_))))))))))))))))
     rcases au hc_32 with⟨hc_37,hc_32⟩|⟨hc_37,hc_32⟩
     ·refine aB rfl hc_37 (af (aa (ae (vI 6) wz rfl (ak ?_))))
      obtain rfl:=aj hc_32
      obtain rfl:=aj hL_33
      obtain rfl:=aj hF
      exact ay (aO (.inr rfl) [(vI 6)] ⟨rfl,trivial⟩ rfl rfl rfl)
     ·refine aA rfl hc_37 (av (aa (ae (.map n_25) wz rfl (aF vK rfl 0 rfl wz (aC 0 1 il ft sz9 ag9 rfl rfl (vS x_28.Id) rfl wz (F5 (eq:=eqS) (kD:=D.str) (vD:=D.bool) (es:=s_31) (k:=x_28.Id) (v:=true) 0 0 il ft (λ_ _=>rfl) mt122 (by kernel_rfl) rfl rfl rfl rfl wz (ak (aa (eQ (bB hD_29 hn_30) wz rfl (ae (vI ((k_26+1:Nat):Int)) wz rfl (ak ?_)))))))))))
      obtain rfl:=aj hc_32
      exact aY (k_26+1,l_27,(CP eqS s_31 x_28.Id true)) ⟨hL_33,aR hD_29⟩ (ls_ _) rfl (aK rfl)
   ·rintro s_31 ho_ sl_ H_ hp_ hq_
    subst ho_
    refine aM _ hp_ hq_ (af (aa (ae (vI 0) wz rfl (ak ?_))))
    obtain rfl:=aj hF
    exact ay (aO (.inr rfl) [(vI 0)] ⟨rfl,trivial⟩ rfl rfl rfl)
theorem vU {l_1:(List Post)} {r:Int} (hF:jc l_1=some r) :
  FnM Tryz.prog 165 [(vL Post.enc l_1)] [] (vI r) []:=by
 refine FnM.of_wH ⟨Tryz.prog,44,[],[]⟩ rfl Tryz.func165 rfl rfl (lb_ rfl) (by kernel_rfl) ?_
 unfold jc at hF
 refine af (aa (ae (vI 0) wz rfl (ak (af (af (aa (ae (vL Post.enc l_1) wz rfl (bJ un162 rfl wz (ae (vB (decide ((l_1.length:Int)>500))) wz rfl (ak ?_))))))))))
 rcases au hF with⟨hc_2,hF⟩|⟨hc_2,hF⟩
 ·refine aB rfl hc_2 (af (aa (ae (vI 2) wz rfl (ak ?_))))
  obtain rfl:=aj hF
  exact ay (aO (.inr rfl) [(vI 2)] ⟨rfl,trivial⟩ rfl rfl rfl)
 ·refine aA rfl hc_2 (av (af (af (aa (ae (vL Post.enc l_1) wz rfl (bJ un162 rfl wz (ae (vI 0) wz rfl (ak ?_))))))))
  obtain ⟨o_11,hj_12,hF⟩:=bind_some hF
  obtain ⟨hn_7,hj_12⟩:=bg hj_12
  refine aH (β:=(Unit)) (λ(s_8:Unit)=>([]:SL_)) (λ(s_8:Unit)=>([]:Hp)) (λp=>o_11 = .go p) ?_ ?_
  ·refine aG (bv (β:=Nat×(List Post)×(Unit)) (λp=>(λ(k_3:Nat) (l_4:List Post) (s_8:Unit)=>([(0,(vL Post.enc l_1)),(8,(vL Post.enc l_1)),(9,(vI (l_1.length:Int))),(10,(vI (k_3:Int)))]:SL_)) p.1 p.2.1 p.2.2) (λp=>(λ(k_3:Nat) (l_4:List Post) (s_8:Unit)=>([]:Hp)) p.1 p.2.1 p.2.2) (λp=>forR (λk x s=>gU l_1 k x s) p.2.1 p.1 p.2.2=some o_11/\(l_1).drop p.1=p.2.1) (λp=>p.2.1.length) (0,l_1,()) ⟨hj_12,rfl⟩ rfl (aK rfl) ?_)
   rintro ⟨k_3,l_4,s_8⟩ ⟨hL_10,hD_6⟩
   dsimp only at hL_10 hD_6
   cases l_4 with
   | nil =>
    obtain rfl:=aj hL_10
    refine af (aa (ae (vB (decide ((k_3:Int)<(l_1.length:Int)))) wz rfl (ak ?_)))
    refine af (aA rfl (drop_nil hD_6) (aX ?_))
    exact aS (s_8) rfl rfl (aK rfl)
   | cons x_5 l_4 =>
    obtain ⟨c_,hc_9,hL_10⟩:=bind_some hL_10
    refine af (aa (ae (vB (decide ((k_3:Int)<(l_1.length:Int)))) wz rfl (ak ?_)))
    refine af (aB rfl (bz hD_6) (av ?_))
    unfold gU at hc_9
    refine af (aG (af (aa (ae (vI (k_3:Int)) wz rfl (dP LB rfl rfl (bE hD_6) rfl wz (bO Il Ka rfl (.d (.agg (Post.enc x_5))) rfl wz (dA 0 (.inl rfl) z120 rfl wz (λn_13=>ae (vI (k_3:Int)) wz rfl (dX 0 il ft 0 Il rfl rfl [(vS x_5.Player),(vI x_5.X),(vI x_5.Y)] rfl wz (ak (aG (af (aa (aF EM rfl 0 rfl wz (aC 0 0 il ft sz9 ag9 rfl rfl (vS x_5.Player) rfl wz ?_)))))))))))))))
    obtain ⟨r_14,hr_15,hc_9⟩:=bind_some hc_9
    refine aD (fA hr_15) rfl Bl rfl rfl rfl rfl wz (ae (vB (!r_14)) wz rfl (ae (vB (!r_14)) wz rfl (ak ?_)))
    rcases au hc_9 with⟨hc_16,hc_9⟩|⟨hc_16,hc_9⟩
    ·refine aB rfl hc_16 (af (aa (ae (vI 5) wz rfl (ak ?_))))
     obtain rfl:=aj hc_9
     obtain rfl:=aj hL_10
     obtain rfl:=aj hF
     exact ay (aO (.inr rfl) [(vI 5)] ⟨rfl,trivial⟩ rfl rfl rfl)
    ·refine aA rfl hc_16 (af ?_)
     obtain ⟨v_17,h_18,hc_9⟩:=bind_some hc_9
     refine aH (β:=Unit) (λ_=>([(0,(vL Post.enc l_1)),(3,(vI (k_3:Int))),(4,(.ref n_13 0 0)),(8,(vL Post.enc l_1)),(9,(vI (l_1.length:Int))),(10,(vI (k_3:Int))),(20,(vB v_17))]:SL_)) (λ_=>([(n_13,some (.cells 3 [(vS x_5.Player),(vI x_5.X),(vI x_5.Y)]))]:Hp)) (λ_=>True) ?_ ?_
     ·refine aa (aF EE rfl 1 rfl wz (aC 0 0 il ft sz3 ag3 rfl rfl (vI x_5.X) rfl wz ?_))
      obtain ⟨r_19,hr_20,h_18⟩:=bind_some h_18
      refine aD (bf hr_20) rfl qj rfl rfl rfl rfl wz ?_
      rcases au h_18 with⟨hc_21,h_18⟩|⟨hc_21,h_18⟩
      ·refine ax rfl hc_21 wz (ah wa (ah wa (ah wa (ae (vB true) wz rfl (ae (vB true) wz rfl (ak ?_))))))
       obtain rfl:=aj h_18
       exact cu
      ·refine ax rfl hc_21 wz (aF EZ rfl 2 rfl wa (aC 0 0 il ft sz3 ag3 rfl rfl (vI x_5.Y) rfl wa ?_))
       obtain ⟨r_22,hr_23,h_18⟩:=bind_some h_18
       refine aD (bf hr_23) rfl qj rfl rfl rfl rfl wa (ae (vB r_22) wz rfl (ae (vB r_22) wz rfl (ak ?_)))
       obtain rfl:=aj h_18
       exact cu
     ·rintro ⟨⟩ _ sl_ H_ hp_ hq_
      refine aM _ hp_ hq_ ?_
      rcases au hc_9 with⟨hc_24,hc_9⟩|⟨hc_24,hc_9⟩
      ·refine aB rfl hc_24 (af (aa (ae (vI 1) wz rfl (ak ?_))))
       obtain rfl:=aj hc_9
       obtain rfl:=aj hL_10
       obtain rfl:=aj hF
       exact ay (aO (.inr rfl) [(vI 1)] ⟨rfl,trivial⟩ rfl rfl rfl)
      ·refine aA rfl hc_24 (af ?_)
       obtain ⟨v_25,h_26,hc_9⟩:=bind_some hc_9
       refine aH (β:=Unit) (λ_=>([(0,(vL Post.enc l_1)),(8,(vL Post.enc l_1)),(9,(vI (l_1.length:Int))),(10,(vI (k_3:Int))),(29,(vB v_25))]:SL_)) (λ_=>([(n_13,some (.cells 3 [(vS x_5.Player),(vI x_5.X),(vI x_5.Y)]))]:Hp)) (λ_=>True) ?_ ?_
       ·refine bG (ae (vI (k_3:Int)) wz rfl (ae (vB (decide ((k_3:Int)>0))) wz rfl ?_))
        rcases au h_26 with⟨hc_27,h_26⟩|⟨hc_27,h_26⟩
        ·refine ax rfl hc_27 wz (aF EM rfl 0 rfl wa (aC 4 0 (.inr (by kernel_rfl)) (λ_ _ ag=>trivial) sz9 ag9 rfl rfl (vS x_5.Player) rfl wa (ae (vL Post.enc l_1) wa rfl (ae (vI (k_3:Int)) wa rfl (ae (vI (w64 ((k_3:Int)-1))) wa rfl ?_)))))
         obtain ⟨y_28,hy_29,h_26⟩:=bind_some h_26
         refine dP LB rfl rfl hy_29 rfl wa (p9 EM rfl [.str y_28.Player,.int .i64 y_28.X,.int .i64 y_28.Y] rfl rfl wa (bO sz9 ag9 rfl (vS y_28.Player) rfl wa (ae (vB (sLe x_5.Player y_28.Player)) wa rfl (ae (vB (sLe x_5.Player y_28.Player)) wz rfl (ae (vB (sLe x_5.Player y_28.Player)) wz rfl (ak ?_))))))
         obtain rfl:=aj h_26
         exact cu
        ·refine ax rfl hc_27 wz (ah wa (ah wa (ah wa (ah wa (ah wa (ah wa (ah wa (ah wa (ah wa (ae (vB false) wz rfl (ae (vB false) wz rfl (ak ?_))))))))))))
         obtain rfl:=aj h_26
         exact cu
       ·rintro ⟨⟩ _ sl_ H_ hp_ hq_
        refine aM _ hp_ hq_ ?_
        rcases au hc_9 with⟨hc_30,hc_9⟩|⟨hc_30,hc_9⟩
        ·refine aB rfl hc_30 (af (aa (ae (vI 7) wz rfl (ak ?_))))
         obtain rfl:=aj hc_9
         obtain rfl:=aj hL_10
         obtain rfl:=aj hF
         exact ay (aO (.inr rfl) [(vI 7)] ⟨rfl,trivial⟩ rfl rfl rfl)
        ·refine aA rfl hc_30 (av (aa (eQ (bB hD_6 hn_7) wz rfl (ae (vI ((k_3+1:Nat):Int)) wz rfl (ak ?_)))))
         obtain rfl:=aj hc_9
         exact aY (k_3+1,l_4,()) ⟨hL_10,aR hD_6⟩ (ls_ _) rfl (aK rfl)
  ·rintro s_8 ho_ sl_ H_ hp_ hq_
   subst ho_
   refine aM _ hp_ hq_ (af (aa (ae (vI 0) wz rfl (ak ?_))))
   obtain rfl:=aj hF
   exact ay (aO (.inr rfl) [(vI 0)] ⟨rfl,trivial⟩ rfl rfl rfl)
theorem wR {l_1:(List Alert)} {posts_2:(List Post)} {r:Int} (hF:jy l_1 posts_2=some r) :
  FnM Tryz.prog 111 [(vL Alert.enc l_1),(vL Post.enc posts_2)] [] (vI r) []:=by
 refine FnM.of_wH ⟨Tryz.prog,13,[],[]⟩ rfl Tryz.func111 rfl rfl (lb_ rfl) (by kernel_rfl) ?_
 unfold jy at hF
 refine af (aa (ae (vI 0) wz rfl (ak (af (af (aa (ae (vL Alert.enc l_1) wz rfl ?_)))))))
 obtain ⟨r_3,hr_4,hF⟩:=bind_some hF
 refine aD (uT hr_4) rfl hb164 rfl rfl rfl rfl wz (ae (vI r_3) wz rfl (ak (af (aa (ae (vI r_3) wz rfl (ae (vB (r_3 != 0)) wz rfl (ak ?_)))))))
 rcases au hF with⟨hc_5,hF⟩|⟨hc_5,hF⟩
 ·refine aB rfl hc_5 (af (aa (ae (vI r_3) wz rfl (ae (vI r_3) wz rfl (ak ?_)))))
  obtain rfl:=aj hF
  exact ay (aO (.inr rfl) [(vI r_3)] ⟨rfl,trivial⟩ rfl rfl rfl)
 ·refine aA rfl hc_5 (av (af (aa (ae (vL Post.enc posts_2) wz rfl ?_))))
  obtain ⟨r_6,hr_7,hF⟩:=bind_some hF
  refine aD (vU hr_7) rfl hb165 rfl rfl rfl rfl wz (ae (vI r_6) wz rfl (ak ?_))
  obtain rfl:=aj hF
  exact ay (aO (.inr rfl) [(vI r_6)] ⟨rfl,trivial⟩ rfl rfl rfl)
theorem wZ {r_1:Rect} {p_2:Post} {r:Bool} (hF:oQ r_1 p_2=some r) :
  FnM Tryz.prog 167 [(.d (.agg (Rect.enc r_1))),(.ref (aJ 0) 0 0)] [(.cells 3 [(vS p_2.Player),(vI p_2.X),(vI p_2.Y)])] (vB r) [some (.cells 3 [(vS p_2.Player),(vI p_2.X),(vI p_2.Y)])]:=by
 refine FnM.of_wH ⟨Tryz.prog,36,[],[]⟩ rfl Tryz.func167 rfl rfl (lb_ rfl) (by kernel_rfl) ?_
 unfold oQ at hF
 refine af (aa (gH 0 (.inl rfl) [(vI r_1.X),(vI r_1.Y),(vI r_1.W),(vI r_1.H)] rfl rfl wz (λn_3=>ae (vB false) wz rfl (ak (af ?_)))))
 obtain ⟨v_4,h_5,hF⟩:=bind_some hF
 refine aH (β:=Unit) (λ_=>([(3,(vB v_4))]:SL_)) (λ_=>([((aJ 0),some (.cells 3 [(vS p_2.Player),(vI p_2.X),(vI p_2.Y)])),(n_3,some (.cells 4 [(vI r_1.X),(vI r_1.Y),(vI r_1.W),(vI r_1.H)]))]:Hp)) (λ_=>True) ?_ ?_
 ·refine aa (aF vN rfl 0 rfl wz (aC 0 1 il ft sz3 ag3 rfl rfl (vI r_1.X) rfl wz (aF EE rfl 1 rfl wz (aC 0 0 il ft sz3 ag3 rfl rfl (vI p_2.X) rfl wz (ae (vB (decide (r_1.X<=p_2.X))) wz rfl ?_)))))
  rcases au h_5 with⟨hc_6,h_5⟩|⟨hc_6,h_5⟩
  ·refine ax rfl hc_6 wz (aF EE rfl 1 rfl wa (aC 0 0 il ft sz3 ag3 rfl rfl (vI p_2.X) rfl wa (aF vN rfl 0 rfl wa (aC 0 1 il ft sz3 ag3 rfl rfl (vI r_1.X) rfl wa (aF AB rfl 2 rfl wa (aC 0 1 il ft sz3 ag3 rfl rfl (vI r_1.W) rfl wa (ae (vI (w64 (r_1.X+r_1.W))) wa rfl (ae (vB (decide (p_2.X<(w64 (r_1.X+r_1.W))))) wa rfl (ae (vB (decide (p_2.X<(w64 (r_1.X+r_1.W))))) wz rfl ?_)))))))))
   rcases au h_5 with⟨hc_7,h_5⟩|⟨hc_7,h_5⟩
   ·refine ax rfl hc_7 wz (aF qJ rfl 1 rfl wa (aC 0 1 il ft sz3 ag3 rfl rfl (vI r_1.Y) rfl wa (aF EZ rfl 2 rfl wa (aC 0 0 il ft sz3 ag3 rfl rfl (vI p_2.Y) rfl wa (ae (vB (decide (r_1.Y<=p_2.Y))) wa rfl (ae (vB (decide (r_1.Y<=p_2.Y))) wz rfl ?_))))))
    rcases au h_5 with⟨hc_8,h_5⟩|⟨hc_8,h_5⟩
    ·refine ax rfl hc_8 wz (aF EZ rfl 2 rfl wa (aC 0 0 il ft sz3 ag3 rfl rfl (vI p_2.Y) rfl wa (aF qJ rfl 1 rfl wa (aC 0 1 il ft sz3 ag3 rfl rfl (vI r_1.Y) rfl wa (aF yf rfl 3 rfl wa (aC 0 1 il ft sz3 ag3 rfl rfl (vI r_1.H) rfl wa (ae (vI (w64 (r_1.Y+r_1.H))) wa rfl (ae (vB (decide (p_2.Y<(w64 (r_1.Y+r_1.H))))) wa rfl (ae (vB (decide (p_2.Y<(w64 (r_1.Y+r_1.H))))) wz rfl (ae (vB (decide (p_2.Y<(w64 (r_1.Y+r_1.H))))) wz rfl (ak ?_)))))))))))
     obtain rfl:=aj h_5
     exact cu
    ·refine ax rfl hc_8 wz (ah wa (ah wa (ah wa (ah wa (ah wa (ah wa (ah wa (ah wa (ae (vB false) wz rfl (ae (vB false) wz rfl (ak ?_)))))))))))
     obtain rfl:=aj h_5
     exact cu
   ·refine ax rfl hc_7 wz (ah wa (ah wa (ah wa (ah wa (ah wa (ae (vB false) wz rfl (ae (vB false) wz rfl (ah wa (ah wa (ah wa (ah wa (ah wa (ah wa (ah wa (ah wa (ae (vB false) wz rfl (ae (vB false) wz rfl (ak ?_))))))))))))))))))
    obtain rfl:=aj h_5
    exact cu
  ·refine ax rfl hc_6 wz (ah wa (ah wa (ah wa (ah wa (ah wa (ah wa (ah wa (ah wa (ae (vB false) wz rfl (ae (vB false) wz rfl (ah wa (ah wa (ah wa (ah wa (ah wa (ae (vB false) wz rfl (ae (vB false) wz rfl (ah wa (ah wa (ah wa (ah wa (ah wa (ah wa ?_)))))))))))))))))))))))
   refine ah wa (ah wa (ae (vB false) wz rfl (ae (vB false) wz rfl (ak ?_))))
   obtain rfl:=aj h_5
   exact cu
 ·rintro ⟨⟩ _ sl_ H_ hp_ hq_
  refine aM _ hp_ hq_ ?_
  obtain rfl:=aj hF
  exact ay (Fa (.inr rfl) [(vB v_4)] _ [0] [aJ 0] ⟨rfl,trivial⟩ (.cons (lH rfl rfl) (.nil)) (by kernel_rfl) ⟨(by kernel_rfl),trivial⟩ (by decide) (by kernel_rfl))
theorem kK {s_1:(List Rect)} {f_2:Rect->Option Bool} {r:Int} {gid:FuncId} {caps:List V} {Sin:List Box} (hfn:∀x0 r,f_2 x0=some r->FnM Tryz.prog gid ([(.d (.agg (Rect.enc x0)))]++caps) Sin (vB r) (Sin.map some)) (hbF:aI Tryz.prog gid=true) (hcapF:caps.flatMap frz=[]/\caps.map co0=caps) (hokF:okL Sin.length caps=true) (hsF:∀b∈Sin,b.ok Sin.length=true) (hmF:∀b∈Sin,b.mut=true) (hF:eU s_1 f_2=some r) :
  FnM Tryz.prog 213 [(vL Rect.enc s_1),(.fn gid caps)] Sin (vI r) (Sin.map some):=by
 refine FnM.of_wH ⟨Tryz.prog,19,[],[]⟩ rfl Tryz.func213 rfl rfl (lb_ rfl) (by kernel_rfl) ?_
 unfold eU at hF
 refine af (aa (ae (vI 0) wz rfl (ak (af (af (aa (ae (vL Rect.enc s_1) wz rfl (bJ rM rfl wz (ae (vI 0) wz rfl (ak ?_))))))))))
 obtain ⟨o_11,hj_12,hF⟩:=bind_some hF
 obtain ⟨hn_7,hj_12⟩:=bg hj_12
 refine aH (β:=(Unit)) (λ(s_8:Unit)=>([]:SL_)) (λ(s_8:Unit)=>(mQ 0 Sin)) (λp=>o_11 = .go p) ?_ ?_
 ·refine aG (bv (β:=Nat×(List Rect)×(Unit)) (λp=>(λ(k_3:Nat) (l_4:List Rect) (s_8:Unit)=>([(0,(vL Rect.enc s_1)),(1,(.fn gid caps)),(7,(vI (s_1.length:Int))),(8,(vI (k_3:Int)))]:SL_)) p.1 p.2.1 p.2.2) (λp=>(λ(k_3:Nat) (l_4:List Rect) (s_8:Unit)=>(mQ 0 Sin)) p.1 p.2.1 p.2.2) (λp=>forR (λk x s=>dU f_2 k x s) p.2.1 p.1 p.2.2=some o_11/\(s_1).drop p.1=p.2.1) (λp=>p.2.1.length) (0,s_1,()) ⟨hj_12,rfl⟩ rfl (Ba _) ?_)
  rintro ⟨k_3,l_4,s_8⟩ ⟨hL_10,hD_6⟩
  dsimp only at hL_10 hD_6
  cases l_4 with
  | nil =>
   obtain rfl:=aj hL_10
   refine af (aa (ae (vB (decide ((k_3:Int)<(s_1.length:Int)))) wz rfl (ak ?_)))
   refine af (aA rfl (drop_nil hD_6) (aX ?_))
   exact aS (s_8) rfl rfl (Ba _)
  | cons x_5 l_4 =>
   obtain ⟨c_,hc_9,hL_10⟩:=bind_some hL_10
   refine af (aa (ae (vB (decide ((k_3:Int)<(s_1.length:Int)))) wz rfl (ak ?_)))
   refine af (aB rfl (bz hD_6) (av ?_))
   unfold dU at hc_9
   refine af (aG (af (aa (ae (vI (k_3:Int)) wz rfl (ae (vI (k_3:Int)) wz rfl (ak (af (aa (ae (.fn gid caps) wz rfl (ae (vL Rect.enc s_1) wz rfl (ae (vI (k_3:Int)) wz rfl (dP xN rfl rfl (bE hD_6) rfl wz (bO nY zB rfl (.d (.agg (Rect.enc x_5))) rfl wz ?_)))))))))))))
   obtain ⟨r_13,hr_14,hc_9⟩:=bind_some hc_9
   refine IP (hfn _ _ hr_14) rfl hbF rfl rfl hcapF hokF hsF hmF rfl wz rfl (ak ?_)
   rcases au hc_9 with⟨hc_15,hc_9⟩|⟨hc_15,hc_9⟩
   ·refine aB rfl hc_15 (af (aa (ae (vI (k_3:Int)) wz rfl (ae (vI (k_3:Int)) wz rfl (ak ?_)))))
    obtain rfl:=aj hc_9
    obtain rfl:=aj hL_10
    obtain rfl:=aj hF
    exact ay (finS hsF (.inr rfl) [(vI (k_3:Int))] ⟨rfl,trivial⟩ rfl rfl rfl)
   ·refine aA rfl hc_15 (av (aa (eQ (bB hD_6 hn_7) wz rfl (ae (vI ((k_3+1:Nat):Int)) wz rfl (ak ?_)))))
    obtain rfl:=aj hc_9
    exact aY (k_3+1,l_4,()) ⟨hL_10,aR hD_6⟩ (ls_ _) rfl (Ba _)
 ·rintro s_8 ho_ sl_ H_ hp_ hq_
  subst ho_
  refine aM _ hp_ hq_ (af (aa (ae (vI (-1)) wz rfl (ak ?_))))
  obtain rfl:=aj hF
  exact ay (finS hsF (.inr rfl) [(vI (-1))] ⟨rfl,trivial⟩ rfl rfl rfl)
theorem jK {s_1:(List Rect)} {f_2:Rect->Option Bool} {r:Bool} {gid:FuncId} {caps:List V} {Sin:List Box} (hfn:∀x0 r,f_2 x0=some r->FnM Tryz.prog gid ([(.d (.agg (Rect.enc x0)))]++caps) Sin (vB r) (Sin.map some)) (hbF:aI Tryz.prog gid=true) (hcapF:caps.flatMap frz=[]/\caps.map co0=caps) (hokF:okL Sin.length caps=true) (hsF:∀b∈Sin,b.ok Sin.length=true) (hmF:∀b∈Sin,b.mut=true) (hF:dS s_1 f_2=some r) :
  FnM Tryz.prog 166 [(vL Rect.enc s_1),(.fn gid caps)] Sin (vB r) (Sin.map some):=by
 refine FnM.of_wH ⟨Tryz.prog,9,[],[]⟩ rfl Tryz.func166 rfl rfl (lb_ rfl) (by kernel_rfl) ?_
 unfold dS at hF
 refine af (aa (ae (vB false) wz rfl (ak (af (aa (ae (vL Rect.enc s_1) wz rfl (ae (.fn gid caps) wz rfl ?_)))))))
 obtain ⟨r_3,hr_4,hF⟩:=bind_some hF
 refine IP (kK (gid:=gid) (caps:=caps) (Sin:=Sin) hfn hbF hcapF hokF hsF hmF hr_4) rfl hb213 rfl rfl ⟨rfl,rfl⟩ (by simp [okL,okV,hokF]) hsF hmF rfl wz rfl (ae (vB (decide (r_3>=0))) wz rfl (ae (vB (decide (r_3>=0))) wz rfl (ak ?_)))
 obtain rfl:=aj hF
 exact ay (finS hsF (.inr rfl) [(vB (decide (r_3>=0)))] ⟨rfl,trivial⟩ rfl rfl rfl)
theorem zA {a_1:Alert} {p_2:Post} {r:Bool} (hF:nG a_1 p_2=some r) :
  FnM Tryz.prog 112 [(.d (.agg (Alert.enc a_1))),(.d (.agg (Post.enc p_2)))] [] (vB r) []:=by
 refine FnM.of_wH ⟨Tryz.prog,9,[],[]⟩ rfl Tryz.func112 rfl rfl (lb_ rfl) (by kernel_rfl) ?_
 unfold nG at hF
 refine af (aa (gH 0 (.inl rfl) [(vS a_1.Id),(vS a_1.Sender),(vI a_1.Kind),(vL eS a_1.Refs),(vI a_1.At),(vI a_1.Until),(vI a_1.Weight),(vL Rect.enc a_1.Areas),(vS a_1.Text)] rfl rfl wz (λn_3=>gH 0 (.inl rfl) [(vS p_2.Player),(vI p_2.X),(vI p_2.Y)] rfl rfl wz (λn_4=>ae (vB false) wz rfl (ak (af (aa (aF AA rfl 7 rfl wz (aC 0 0 il ft Dm DK rfl rfl (vL Rect.enc a_1.Areas) rfl wz (ae (.fn 167 [(.ref n_4 0 0)]) wz rfl ?_))))))))))
 obtain ⟨r_5,hr_6,hF⟩:=bind_some hF
 refine fK 0 [1] il ft (jK (gid:=167) (caps:=[.ref (aJ 0) 0 0]) (Sin:=[(.cells 3 [(vS p_2.Player),(vI p_2.X),(vI p_2.Y)])]) (λ_ _ h_=>wZ h_) hb167 ⟨rfl,rfl⟩ (by kernel_rfl) (all_ok (by kernel_rfl)) (all_mut (by kernel_rfl)) hr_6) rfl hb166 rfl (by kernel_rfl) (by kernel_rfl) (by kernel_rfl) (by kernel_rfl) (by kernel_rfl) (by kernel_rfl) (by kernel_rfl) (by decide) (by kernel_rfl) wz (vB r_5) (by kernel_rfl) ([(n_3,some (.cells 9 [(vS a_1.Id),(vS a_1.Sender),(vI a_1.Kind),(vL eS a_1.Refs),(vI a_1.At),(vI a_1.Until),(vI a_1.Weight),(vL Rect.enc a_1.Areas),(vS a_1.Text)])),(n_4,some (.cells 3 [(vS p_2.Player),(vI p_2.X),(vI p_2.Y)]))]:Hp) (by kernel_rfl) (ae (vB r_5) wz rfl (ak ?_))
 obtain rfl:=aj hF
 exact ay (aO (.inr rfl) [(vB r_5)] ⟨rfl,trivial⟩ rfl rfl rfl)
theorem yJ {a_1:Alert} {p_2:Post} {r:Bool×Int} (hF:lm a_1 p_2=some r) :
  FnM Tryz.prog 69 [(.d (.agg (Alert.enc a_1))),(.d (.agg (Post.enc p_2)))] [] (.tup [(vB r.1),(vI r.2)]) []:=by
 refine FnM.of_wH ⟨Tryz.prog,18,[],[]⟩ rfl Tryz.func69 rfl rfl (lb_ rfl) (by kernel_rfl) ?_
 unfold lm at hF
 refine af (aa (gH 0 (.inl rfl) [(vS a_1.Id),(vS a_1.Sender),(vI a_1.Kind),(vL eS a_1.Refs),(vI a_1.At),(vI a_1.Until),(vI a_1.Weight),(vL Rect.enc a_1.Areas),(vS a_1.Text)] rfl rfl wz (λn_3=>gH 0 (.inl rfl) [(vS p_2.Player),(vI p_2.X),(vI p_2.Y)] rfl rfl wz (λn_4=>ae (vB false) wz rfl (ae (vI 0) wz rfl (ak (af (af (aa (aC 0 0 il ft ut x9 rfl rfl (.d (.agg (Alert.enc a_1))) rfl wz (eO (([a_1]:List Alert).map Alert.enc) Je ez161 rfl rfl rfl rfl rfl wz (aC 0 1 il ft Il Ka rfl rfl (.d (.agg (Post.enc p_2))) rfl wz (eO (([p_2]:List Post).map Post.enc) LB ez162 rfl rfl rfl rfl rfl wz ?_)))))))))))))
 obtain ⟨r_5,hr_6,hF⟩:=bind_some hF
 refine aD (wR hr_6) rfl hb111 rfl rfl rfl rfl wz (ae (vI r_5) wz rfl (ak (af (aa (ae (vI r_5) wz rfl (ae (vB (r_5 != 0)) wz rfl (ak ?_)))))))
 rcases au hF with⟨hc_7,hF⟩|⟨hc_7,hF⟩
 ·refine aB rfl hc_7 (af (aa (ae (vI r_5) wz rfl (ae (vB false) wz rfl (ae (vI r_5) wz rfl (ak ?_))))))
  obtain rfl:=aj hF
  exact ay (aO (.inr rfl) [(vB false),(vI r_5)] ⟨rfl,⟨rfl,trivial⟩⟩ rfl rfl rfl)
 ·refine aA rfl hc_7 (av (af (aa (aC 0 0 il ft ut x9 rfl rfl (.d (.agg (Alert.enc a_1))) rfl wz (aC 0 1 il ft Il Ka rfl rfl (.d (.agg (Post.enc p_2))) rfl wz ?_)))))
  obtain ⟨r_8,hr_9,hF⟩:=bind_some hF
  refine aD (zA hr_9) rfl hb112 rfl rfl rfl rfl wz (ae (vB r_8) wz rfl (ae (vI 0) wz rfl (ak ?_)))
  obtain rfl:=aj hF
  exact ay (aO (.inr rfl) [(vB r_8),(vI 0)] ⟨rfl,⟨rfl,trivial⟩⟩ rfl rfl rfl)
theorem CS {r:Bool} (hF:mU  = some r) :
  FnM Tryz.prog 24 [] [] (vB r) []:=by
 refine FnM.of_wH ⟨Tryz.prog,75,[],[]⟩ rfl Tryz.func24 rfl rfl (lb_ rfl) (by kernel_rfl) ?_
 unfold mU at hF
 refine af (aa (ae (vB false) wz rfl (ak (af (aa (ae (.d (.agg (Rect.enc (⟨0,0,2,2⟩:Rect)))) wz (by kernel_rfl) (ae (.d (.agg (Rect.enc (⟨1,1,2,2⟩:Rect)))) wz (by kernel_rfl) (eO (([(⟨0,0,2,2⟩:Rect),(⟨1,1,2,2⟩:Rect)]:List Rect).map Rect.enc) xN K3 rfl rfl rfl rfl rfl wz ?_))))))))
 obtain ⟨r_1,hr_2,hF⟩:=bind_some hF
 refine aD (Cz hr_2) rfl hb66 rfl rfl rfl rfl wz (ae (.tup [(vI r_1.1),(vI r_1.2)]) wz rfl (ae (vI r_1.1) wz rfl (ae (vI r_1.2) wz rfl (ae (vI r_1.1) wz rfl (ae (vI r_1.2) wz rfl (ak (af (aa (ae (.agg [(vS (⟨#[97]⟩:ByteArray)),(vS (⟨#[98]⟩:ByteArray)),(vI 0),(vI 0),(vI 0),(vI 1),(vI 127),.nil,(vI 1),(vI 2),(vI 0),.nil,(vB false)]) wz (by kernel_rfl) (ae (.d (.agg (Window.enc (⟨0,86400000⟩:Window)))) wz (by kernel_rfl) ?_))))))))))
 obtain ⟨r_3,hr_4,hF⟩:=bind_some hF
 refine aD (yh hr_4) rfl hb64 rfl rfl rfl rfl wz (ae (.tup [(vL Window.enc r_3.1),(vI r_3.2)]) wz rfl (ae (vL Window.enc r_3.1) wz rfl (ae (vI r_3.2) wz rfl (ae (vL Window.enc r_3.1) wz rfl (ae (vI r_3.2) wz rfl (ak (af (aa (ae (.d (.agg (Window.enc (⟨0,100⟩:Window)))) wz (by kernel_rfl) (ae (.agg [(vS (⟨#[97]⟩:ByteArray)),(vS (⟨#[]⟩:ByteArray)),(vI 0),(vI 100),.nil,(vI 10),(vI 0),(vI 0)]) wz (by kernel_rfl) ?_))))))))))
 obtain ⟨r_5,hr_6,hF⟩:=bind_some hF
 refine aD (BM hr_6) rfl hb67 rfl rfl rfl rfl wz (ae (.tup [(vI r_5.1),(vI r_5.2)]) wz rfl (ae (vI r_5.1) wz rfl (ae (vI r_5.2) wz rfl (ae (vI r_5.1) wz rfl (ae (vI r_5.2) wz rfl (ak (af (aa (ae (.d (.agg (Beat.enc (⟨(⟨#[112]⟩:ByteArray),0,100⟩:Beat)))) wz (by kernel_rfl) (ae (.d (.agg (Beat.enc (⟨(⟨#[112]⟩:ByteArray),1000,1300⟩:Beat)))) wz (by kernel_rfl) (eO (([(⟨(⟨#[112]⟩:ByteArray),0,100⟩:Beat),(⟨(⟨#[112]⟩:ByteArray),1000,1300⟩:Beat)]:List Beat).map Beat.enc) D6 ez114 rfl rfl rfl rfl rfl wz ?_)))))))))))
 obtain ⟨r_7,hr_8,hF⟩:=bind_some hF
 refine aD (Ck hr_8) rfl hb68 rfl rfl rfl rfl wz (ae (.tup [(vI r_7.1),(vI r_7.2)]) wz rfl (ae (vI r_7.1) wz rfl (ae (vI r_7.2) wz rfl (ae (vI r_7.1) wz rfl (ae (vI r_7.2) wz rfl (ak (aM (H0:=([]:Hp)) ([(1,(vI r_1.1)),(2,(vI r_1.2)),(3,(vL Window.enc r_3.1)),(4,(vI r_3.2)),(5,(vI r_5.1)),(6,(vI r_5.2)),(7,(vI r_7.1)),(8,(vI r_7.2))]:SL_) (by kernel_rfl) (sO (by kernel_rfl)) (af (aa (ae (.d (.agg (Rect.enc (⟨0,0,2,2⟩:Rect)))) wz (by kernel_rfl) (eO (([(⟨0,0,2,2⟩:Rect)]:List Rect).map Rect.enc) xN K3 rfl rfl rfl rfl rfl wz (ae (.agg [(vS (⟨#[97]⟩:ByteArray)),(vS (⟨#[115]⟩:ByteArray)),(vI 1),.nil,(vI 0),(vI 5),(vI 1),(vL Rect.enc ([(⟨0,0,2,2⟩:Rect)]:List Rect)),(vS (⟨#[120]⟩:ByteArray))]) wz (by kernel_rfl) (dA 0 (.inl rfl) z116 rfl wz (λn_9=>dX 0 il ft 0 ut rfl rfl [(vS (⟨#[97]⟩:ByteArray)),(vS (⟨#[115]⟩:ByteArray)),(vI 1),.nil,(vI 0),(vI 5),(vI 1),(vL Rect.enc ([(⟨0,0,2,2⟩:Rect)]:List Rect)),(vS (⟨#[120]⟩:ByteArray))] rfl wz (ak (af (aa (aC 0 0 il ft ut x9 rfl rfl (.agg [(vS (⟨#[97]⟩:ByteArray)),(vS (⟨#[115]⟩:ByteArray)),(vI 1),.nil,(vI 0),(vI 5),(vI 1),(vL Rect.enc ([(⟨0,0,2,2⟩:Rect)]:List Rect)),(vS (⟨#[120]⟩:ByteArray))]) rfl wz (ae (.d (.agg (Post.enc (⟨(⟨#[112]⟩:ByteArray),1,1⟩:Post)))) wz (by kernel_rfl) ?_)))))))))))))))))))
 obtain ⟨r_10,hr_11,hF⟩:=bind_some hF
 refine aD (yJ hr_11) rfl hb69 rfl rfl rfl rfl wz (ae (.tup [(vB r_10.1),(vI r_10.2)]) wz rfl (ae (vB r_10.1) wz rfl (ae (vI r_10.2) wz rfl (ae (vB r_10.1) wz rfl (ae (vI r_10.2) wz rfl (ak (af ?_)))))))
 obtain ⟨v_12,h_13,hF⟩:=bind_some hF
 refine aH (β:=Unit) (λ_=>([(0,(vB v_12))]:SL_)) (λ_=>([(n_9,some (.cells 9 [(vS (⟨#[97]⟩:ByteArray)),(vS (⟨#[115]⟩:ByteArray)),(vI 1),.nil,(vI 0),(vI 5),(vI 1),(vL Rect.enc ([(⟨0,0,2,2⟩:Rect)]:List Rect)),(vS (⟨#[120]⟩:ByteArray))]))]:Hp)) (λ_=>True) ?_ ?_
 ·refine aa (ae (vI r_1.2) wz rfl (ae (vI r_3.2) wz rfl (ae (vI r_5.2) wz rfl (ae (vI r_7.2) wz rfl (ae (vI r_10.2) wz rfl (eO (([r_1.2,r_3.2,r_5.2,r_7.2,r_10.2]:List Int).map eI) es93 ez93 rfl rfl rfl rfl rfl wz ?_))))))
  obtain ⟨r_14,hr_15,h_13⟩:=bind_some h_13
  refine aD (yE hr_15) rfl hb23 rfl rfl rfl rfl wz (ae (vB (r_14==0)) wz rfl ?_)
  rcases au h_13 with⟨hc_16,h_13⟩|⟨hc_16,h_13⟩
  ·refine ax rfl hc_16 wz (ae (vI r_1.1) wa rfl (ae (vB (r_1.1==7)) wa rfl (ae (vB (r_1.1==7)) wz rfl ?_)))
   rcases au h_13 with⟨hc_17,h_13⟩|⟨hc_17,h_13⟩
   ·refine ax rfl hc_17 wz (ae (vL Window.enc r_3.1) wa rfl (bJ un56 rfl wa (ae (vB ((r_3.1.length:Int)==1)) wa rfl (ae (vB ((r_3.1.length:Int)==1)) wz rfl ?_))))
    rcases au h_13 with⟨hc_18,h_13⟩|⟨hc_18,h_13⟩
    ·refine ax rfl hc_18 wz (ae (vI r_5.1) wa rfl (ae (vB (r_5.1==5)) wa rfl (ae (vB (r_5.1==5)) wz rfl ?_)))
     rcases au h_13 with⟨hc_19,h_13⟩|⟨hc_19,h_13⟩
     ·refine ax rfl hc_19 wz (ae (vI r_7.1) wa rfl (ae (vB (r_7.1==500)) wa rfl (ae (vB (r_7.1==500)) wz rfl ?_)))
      rcases au h_13 with⟨hc_20,h_13⟩|⟨hc_20,h_13⟩
      ·refine ax rfl hc_20 wz (ae (vB r_10.1) wa rfl (ae (vB r_10.1) wz rfl (ae (vB r_10.1) wz rfl (ak ?_))))
       obtain rfl:=aj h_13
       exact cu
      ·refine ax rfl hc_20 wz (ah wa (ae (vB false) wz rfl (ae (vB false) wz rfl (ak ?_))))
       obtain rfl:=aj h_13
       exact cu
     ·refine ax rfl hc_19 wz (ah wa (ah wa (ae (vB false) wz rfl (ae (vB false) wz rfl (ah wa (ae (vB false) wz rfl (ae (vB false) wz rfl (ak ?_))))))))
      obtain rfl:=aj h_13
      exact cu
    ·refine ax rfl hc_18 wz (ah wa (ah wa (ae (vB false) wz rfl (ae (vB false) wz rfl (ah wa (ah wa (ae (vB false) wz rfl (ae (vB false) wz rfl (ah wa (ae (vB false) wz rfl (ae (vB false) wz rfl (ak ?_))))))))))))
     obtain rfl:=aj h_13
     exact cu
   ·refine ax rfl hc_17 wz (ah wa (ah wa (ah wa (ae (vB false) wz rfl (ae (vB false) wz rfl (ah wa (ah wa (ae (vB false) wz rfl (ae (vB false) wz rfl (ah wa (ah wa (ae (vB false) wz rfl (ae (vB false) wz rfl (ah wa (ae (vB false) wz rfl (ae (vB false) wz rfl (ak ?_)))))))))))))))))
    obtain rfl:=aj h_13
    exact cu
  ·refine ax rfl hc_16 wz (ah wa (ah wa (ae (vB false) wz rfl (ae (vB false) wz rfl (ah wa (ah wa (ah wa (ae (vB false) wz rfl (ae (vB false) wz rfl (ah wa (ah wa (ae (vB false) wz rfl (ae (vB false) wz rfl (ah wa (ah wa (ae (vB false) wz rfl (ae (vB false) wz rfl (ah wa (ae (vB false) wz rfl (ae (vB false) wz rfl (ak ?_)))))))))))))))))))))
   obtain rfl:=aj h_13
   exact cu
 ·rintro ⟨⟩ _ sl_ H_ hp_ hq_
  refine aM _ hp_ hq_ ?_
  obtain rfl:=aj hF
  exact ay (aO (.inr rfl) [(vB v_12)] ⟨rfl,trivial⟩ rfl rfl rfl)
theorem qz {l_1:(List Int)} {r:Bool} (hF:gX l_1=some r) :
  FnM Tryz.prog 4 [(vL eI l_1)] [] (vB r) []:=by
 refine FnM.of_wH ⟨Tryz.prog,121,[],[]⟩ rfl Tryz.func4 rfl rfl (lb_ rfl) (by kernel_rfl) ?_
 unfold gX at hF
 refine af (aa (ae (vB false) wz rfl (ak (af (aa (ae (vL eI l_1) wz rfl (ae (.d (.agg (Stream.enc (⟨l_1,0⟩:Stream)))) wz (by kernel_rfl) (gH 0 (.inl rfl) [(vL eI l_1),(vI 0)] rfl rfl wz (λn_2=>ae (.ref n_2 0 0) wz rfl (ak (af (aa (ae (.ref n_2 0 0) wz rfl ?_)))))))))))))
 obtain ⟨r_3,hr_4,hF⟩:=bind_some hF
 refine fK 0 [0] il ft (qx hr_4) rfl hb21 rfl (by kernel_rfl) (by kernel_rfl) (by kernel_rfl) (by kernel_rfl) (by kernel_rfl) (by kernel_rfl) (by kernel_rfl) (by decide) (by kernel_rfl) wz (vL Entry.enc r_3.1) (by kernel_rfl) ([(n_2,some (.cells 2 [(vL eI r_3.2.L),(vI r_3.2.f_at)]))]:Hp) (by kernel_rfl) (ae (vL Entry.enc r_3.1) wz rfl (ak (af (aa (ae .nil wz rfl (ae .nil wz rfl (ak (af (af (aa (ae (vL Entry.enc r_3.1) wz rfl (bJ BG rfl wz (ae (vI 0) wz rfl (ak (kZ (λn_12=>kZ (λn_13 => ?_)))))))))))))))))
 obtain ⟨o_20,hj_21,hF⟩:=bind_some hF
 obtain ⟨hn_10,hj_21⟩:=bg hj_21
 refine aH (β:=((List Entry)×(List Entry)×(List Int)×Int)×Nm×Nm) (λp=>(λ(s_11:(List Entry)×(List Entry)×(List Int)×Int) (n_16:Nm) (n_17:Nm)=>([(4,(vL Entry.enc r_3.1)),(5,(gV n_16 13 s_11.1)),(6,(gV n_17 13 s_11.2.1))]:SL_)) p.1 p.2.1 p.2.2) (λp=>(λ(s_11:(List Entry)×(List Entry)×(List Int)×Int) (n_16:Nm) (n_17:Nm)=>([(n_2,some (.cells 2 [(vL eI s_11.2.2.1),(vI s_11.2.2.2)])),(n_16,gB 13 Entry.enc s_11.1),(n_17,gB 13 Entry.enc s_11.2.1)]:Hp)) p.1 p.2.1 p.2.2) (λp=>o_20 = .go p.1) ?_ ?_
 ·refine aG (bv (β:=Nat×(List Entry)×((List Entry)×(List Entry)×(List Int)×Int)×Nm×Nm) (λp=>(λ(k_6:Nat) (l_7:List Entry) (s_11:(List Entry)×(List Entry)×(List Int)×Int) (n_16:Nm) (n_17:Nm)=>([(3,(.ref n_2 0 0)),(4,(vL Entry.enc r_3.1)),(5,(gV n_16 13 s_11.1)),(6,(gV n_17 13 s_11.2.1)),(27,(vL Entry.enc r_3.1)),(28,(vI (r_3.1.length:Int))),(29,(vI (k_6:Int)))]:SL_)) p.1 p.2.1 p.2.2.1 p.2.2.2.1 p.2.2.2.2) (λp=>(λ(k_6:Nat) (l_7:List Entry) (s_11:(List Entry)×(List Entry)×(List Int)×Int) (n_16:Nm) (n_17:Nm)=>([(n_2,some (.cells 2 [(vL eI s_11.2.2.1),(vI s_11.2.2.2)])),(n_16,gB 13 Entry.enc s_11.1),(n_17,gB 13 Entry.enc s_11.2.1)]:Hp)) p.1 p.2.1 p.2.2.1 p.2.2.2.1 p.2.2.2.2) (λp=>forR (λk x s=>dn k x s) p.2.1 p.1 p.2.2.1=some o_20/\(r_3.1).drop p.1=p.2.1) (λp=>p.2.1.length) (0,r_3.1,(([]:List Entry),([]:List Entry),r_3.2.L,r_3.2.f_at),n_12,n_13) ⟨hj_21,rfl⟩ rfl (aK rfl) ?_)
  rintro ⟨k_6,l_7,s_11,n_16,n_17⟩ ⟨hL_19,hD_9⟩
  dsimp only at hL_19 hD_9
  cases l_7 with
  | nil =>
   obtain rfl:=aj hL_19
   refine af (aa (ae (vB (decide ((k_6:Int)<(r_3.1.length:Int)))) wz rfl (ak ?_)))
   refine af (aA rfl (drop_nil hD_9) (aX ?_))
   exact aS (s_11,n_16,n_17) rfl rfl (aK rfl)
  | cons x_8 l_7 =>
   obtain ⟨c_,hc_18,hL_19⟩:=bind_some hL_19
   refine af (aa (ae (vB (decide ((k_6:Int)<(r_3.1.length:Int)))) wz rfl (ak ?_)))
   refine af (aB rfl (bz hD_9) (av ?_))
   unfold dn at hc_18
   refine af (aG (af (aa (dP Cg rfl rfl (bE hD_9) rfl wz (bO iX pu rfl (.d (.agg (Entry.enc x_8))) rfl wz (dA 0 (.inl rfl) z35 rfl wz (λn_22=>dX 0 il ft 3 iX rfl rfl [(vS x_8.Key),(vS x_8.Item),(vI x_8.Version),(vI x_8.First),(vI x_8.Last),(vI x_8.Every),(vI x_8.Days),(vL eI x_8.Except),(vI x_8.From),(vI x_8.To),(vI x_8.Prio),(vL eS x_8.Tags),(vB x_8.Gone)] rfl wz (ak (af (af (aa (ae (.ref n_2 0 0) wz rfl ?_))))))))))))
   obtain ⟨r_23,hr_24,hc_18⟩:=bind_some hc_18
   refine fK 0 [0] il ft (gz hr_24) rfl hb8 rfl (by kernel_rfl) (by kernel_rfl) (by kernel_rfl) (by kernel_rfl) (by kernel_rfl) (by kernel_rfl) (by kernel_rfl) (by decide) (by kernel_rfl) wz (vB r_23.1) (by kernel_rfl) ([(n_2,some (.cells 2 [(vL eI r_23.2.L),(vI r_23.2.f_at)])),(n_16,gB 13 Entry.enc s_11.1),(n_17,gB 13 Entry.enc s_11.2.1),(n_22,some (.cells 13 [(vS x_8.Key),(vS x_8.Item),(vI x_8.Version),(vI x_8.First),(vI x_8.Last),(vI x_8.Every),(vI x_8.Days),(vL eI x_8.Except),(vI x_8.From),(vI x_8.To),(vI x_8.Prio),(vL eS x_8.Tags),(vB x_8.Gone)]))]:Hp) (by kernel_rfl) (ak ?_)
   obtain ⟨v_26,h_27,hc_18⟩:=bind_some hc_18
   refine aH (β:=Nm) (λ(n_28:Nm)=>([(3,(.ref n_2 0 0)),(4,(vL Entry.enc r_3.1)),(5,(gV n_28 13 v_26.1)),(6,(gV n_17 13 s_11.2.1)),(8,(.ref n_22 0 0)),(27,(vL Entry.enc r_3.1)),(28,(vI (r_3.1.length:Int))),(29,(vI (k_6:Int)))]:SL_)) (λ(n_28:Nm)=>([(n_2,some (.cells 2 [(vL eI r_23.2.L),(vI r_23.2.f_at)])),(n_28,gB 13 Entry.enc v_26.1),(n_17,gB 13 Entry.enc s_11.2.1),(n_22,some (.cells 13 [(vS x_8.Key),(vS x_8.Item),(vI v_26.2),(vI x_8.First),(vI x_8.Last),(vI x_8.Every),(vI x_8.Days),(vL eI x_8.Except),(vI x_8.From),(vI x_8.To),(vI x_8.Prio),(vL eS x_8.Tags),(vB x_8.Gone)]))]:Hp)) (λ_=>True) ?_ ?_
   ·rcases au h_27 with⟨hc_29,h_27⟩|⟨hc_29,h_27⟩
    ·refine aB rfl hc_29 (af (aa (aF oL rfl 2 rfl wz (aC 0 3 il ft sz3 ag3 rfl rfl (vI x_8.Version) rfl wz (ae (vI (w64 (x_8.Version+1))) wz rfl (aF oL rfl 2 rfl wz (dX 0 il ft 3 sz3 rfl rfl [(vS x_8.Key),(vS x_8.Item),(vI (w64 (x_8.Version+1))),(vI x_8.First),(vI x_8.Last),(vI x_8.Every),(vI x_8.Days),(vL eI x_8.Except),(vI x_8.From),(vI x_8.To),(vI x_8.Prio),(vL eS x_8.Tags),(vB x_8.Gone)] rfl wz (ak (aa (ae (gV n_16 13 s_11.1) wz rfl (aC 0 3 il ft iX pu rfl rfl (.d (.agg (Entry.enc (⟨x_8.Key,x_8.Item,(w64 (x_8.Version+1)),x_8.First,x_8.Last,x_8.Every,x_8.Days,x_8.Except,x_8.From,x_8.To,x_8.Prio,x_8.Tags,x_8.Gone⟩:Entry)))) rfl wz (eO (([(⟨x_8.Key,x_8.Item,(w64 (x_8.Version+1)),x_8.First,x_8.Last,x_8.Every,x_8.Days,x_8.Except,x_8.From,x_8.To,x_8.Prio,x_8.Tags,x_8.Gone⟩:Entry)]:List Entry).map Entry.enc) Cg Kr rfl rfl rfl rfl rfl wz ?_))))))))))))
     obtain ⟨a_30,hz_31,h_27⟩:=bind_some h_27
     refine jH 0 il ft (i:=1) zl zl iX z35 rfl (by decide) Jj (by decide) (λ_=>rfl) rfl rfl rfl hz_31 wz (λn_32=>ae (gV n_32 13 a_30) wz rfl (ak ?_))
     obtain rfl:=aj h_27
     exact aS n_32 trivial rfl (aK rfl)
    ·refine aA rfl hc_29 (av ?_)
     obtain rfl:=aj h_27
     exact aS n_16 trivial rfl (aK rfl)
   ·rintro n_28 _ sl_ H_ hp_ hq_
    refine aM _ hp_ hq_ (af (aa (aF oL rfl 2 rfl wz (aC 0 3 il ft sz3 ag3 rfl rfl (vI v_26.2) rfl wz (ae (vI (w64 (v_26.2+2))) wz rfl (aF oL rfl 2 rfl wz (dX 0 il ft 3 sz3 rfl rfl [(vS x_8.Key),(vS x_8.Item),(vI (w64 (v_26.2+2))),(vI x_8.First),(vI x_8.Last),(vI x_8.Every),(vI x_8.Days),(vL eI x_8.Except),(vI x_8.From),(vI x_8.To),(vI x_8.Prio),(vL eS x_8.Tags),(vB x_8.Gone)] rfl wz (aF xC rfl 10 rfl wz (dX 0 il ft 3 sz3 rfl rfl [(vS x_8.Key),(vS x_8.Item),(vI (w64 (v_26.2+2))),(vI x_8.First),(vI x_8.Last),(vI x_8.Every),(vI x_8.Days),(vL eI x_8.Except),(vI x_8.From),(vI x_8.To),(vI 9),(vL eS x_8.Tags),(vB x_8.Gone)] rfl wz (ak (af (aa (ae (.ref n_2 0 0) wz rfl ?_)))))))))))))
    obtain ⟨r_33,hr_34,hc_18⟩:=bind_some hc_18
    refine fK 0 [0] il ft (gz hr_34) rfl hb8 rfl (by kernel_rfl) (by kernel_rfl) (by kernel_rfl) (by kernel_rfl) (by kernel_rfl) (by kernel_rfl) (by kernel_rfl) (by decide) (by kernel_rfl) wz (vB r_33.1) (by kernel_rfl) ([(n_2,some (.cells 2 [(vL eI r_33.2.L),(vI r_33.2.f_at)])),(n_28,gB 13 Entry.enc v_26.1),(n_17,gB 13 Entry.enc s_11.2.1),(n_22,some (.cells 13 [(vS x_8.Key),(vS x_8.Item),(vI (w64 (v_26.2+2))),(vI x_8.First),(vI x_8.Last),(vI x_8.Every),(vI x_8.Days),(vL eI x_8.Except),(vI x_8.From),(vI x_8.To),(vI 9),(vL eS x_8.Tags),(vB x_8.Gone)]))]:Hp) (by kernel_rfl) (ak ?_)
    obtain ⟨v_36,h_37,hc_18⟩:=bind_some hc_18
    refine aH (β:=Nm) (λ(n_38:Nm)=>([(3,(.ref n_2 0 0)),(4,(vL Entry.enc r_3.1)),(5,(gV n_28 13 v_26.1)),(6,(gV n_38 13 v_36)),(27,(vL Entry.enc r_3.1)),(28,(vI (r_3.1.length:Int))),(29,(vI (k_6:Int)))]:SL_)) (λ(n_38:Nm)=>([(n_2,some (.cells 2 [(vL eI r_33.2.L),(vI r_33.2.f_at)])),(n_28,gB 13 Entry.enc v_26.1),(n_38,gB 13 Entry.enc v_36),(n_22,some (.cells 13 [(vS x_8.Key),(vS x_8.Item),(vI (w64 (v_26.2+2))),(vI x_8.First),(vI x_8.Last),(vI x_8.Every),(vI x_8.Days),(vL eI x_8.Except),(vI x_8.From),(vI x_8.To),(vI 9),(vL eS x_8.Tags),(vB x_8.Gone)]))]:Hp)) (λ_=>True) ?_ ?_
    ·rcases au h_37 with⟨hc_39,h_37⟩|⟨hc_39,h_37⟩
     ·refine aB rfl hc_39 (aa (ae (gV n_17 13 s_11.2.1) wz rfl (aC 0 3 il ft iX pu rfl rfl (.d (.agg (Entry.enc (⟨x_8.Key,x_8.Item,(w64 (v_26.2+2)),x_8.First,x_8.Last,x_8.Every,x_8.Days,x_8.Except,x_8.From,x_8.To,9,x_8.Tags,x_8.Gone⟩:Entry)))) rfl wz (eO (([(⟨x_8.Key,x_8.Item,(w64 (v_26.2+2)),x_8.First,x_8.Last,x_8.Every,x_8.Days,x_8.Except,x_8.From,x_8.To,9,x_8.Tags,x_8.Gone⟩:Entry)]:List Entry).map Entry.enc) Cg Kr rfl rfl rfl rfl rfl wz ?_))))
      obtain ⟨a_40,hz_41,h_37⟩:=bind_some h_37
      refine jH 0 il ft (i:=2) zl zl iX z35 rfl (by decide) Jj (by decide) (λ_=>rfl) rfl rfl rfl hz_41 wz (λn_42=>ae (gV n_42 13 a_40) wz rfl (ak ?_))
      obtain rfl:=aj h_37
      exact aS n_42 trivial rfl (aK rfl)
     ·refine aA rfl hc_39 (av ?_)
      obtain rfl:=aj h_37
      exact aS n_17 trivial rfl (aK rfl)
    ·rintro n_38 _ sl_ H_ hp_ hq_
     refine aM _ hp_ hq_ (aa (eQ (bB hD_9 hn_10) wz rfl (ae (vI ((k_6+1:Nat):Int)) wz rfl (ak ?_))))
     obtain rfl:=aj hc_18
     exact aY (k_6+1,l_7,(v_26.1,v_36,r_33.2.L,r_33.2.f_at),n_28,n_38) ⟨hL_19,aR hD_9⟩ (ls_ _) rfl (aK rfl)
 ·rintro ⟨s_11,n_16,n_17⟩ ho_ sl_ H_ hp_ hq_
  subst ho_
  refine aM _ hp_ hq_ (af (fB 1 rfl (ek 5 1 rfl rfl (aa (ae (vL Entry.enc r_3.1) wz rfl (ae (vL Entry.enc s_11.1) wz rfl ?_))))))
  obtain ⟨r_43,hr_44,hF⟩:=bind_some hF
  refine aD (gG hr_44) rfl Jg rfl rfl rfl rfl wz (ae (.tup [(vL Entry.enc r_43.1),(vI r_43.2)]) wz rfl (ae (vL Entry.enc r_43.1) wz rfl (ae (vI r_43.2) wz rfl (ae (vL Entry.enc r_43.1) wz rfl (ae (vI r_43.2) wz rfl (ak (af (aa (ae (vL Entry.enc s_11.1) wz rfl (ae (vL Entry.enc r_3.1) wz rfl ?_))))))))))
  obtain ⟨r_45,hr_46,hF⟩:=bind_some hF
  refine aD (gG hr_46) rfl Jg rfl rfl rfl rfl wz (ae (.tup [(vL Entry.enc r_45.1),(vI r_45.2)]) wz rfl (ae (vL Entry.enc r_45.1) wz rfl (ae (vI r_45.2) wz rfl (ae (vL Entry.enc r_45.1) wz rfl (ae (vI r_45.2) wz rfl (ak (af (fB 2 rfl (ek 6 2 rfl rfl (aa (ae (vL Entry.enc s_11.1) wz rfl (ae (vL Entry.enc s_11.2.1) wz rfl ?_))))))))))))
  obtain ⟨r_47,hr_48,hF⟩:=bind_some hF
  refine aD (gG hr_48) rfl Jg rfl rfl rfl rfl wz (ae (.tup [(vL Entry.enc r_47.1),(vI r_47.2)]) wz rfl (ae (vL Entry.enc r_47.1) wz rfl (ae (vI r_47.2) wz rfl (ae (vL Entry.enc r_47.1) wz rfl (ae (vI r_47.2) wz rfl (ak (af (aa (ae (vL Entry.enc r_43.1) wz rfl (ae (vL Entry.enc s_11.2.1) wz rfl ?_))))))))))
  obtain ⟨r_49,hr_50,hF⟩:=bind_some hF
  refine aD (gG hr_50) rfl Jg rfl rfl rfl rfl wz (ae (.tup [(vL Entry.enc r_49.1),(vI r_49.2)]) wz rfl (ae (vL Entry.enc r_49.1) wz rfl (ae (vI r_49.2) wz rfl (ae (vL Entry.enc r_49.1) wz rfl (ae (vI r_49.2) wz rfl (ak (aM (H0:=([(n_2,some (.cells 2 [(vL eI s_11.2.2.1),(vI s_11.2.2.2)])),(n_16,gF 13 Entry.enc s_11.1),(n_17,gF 13 Entry.enc s_11.2.1)]:Hp)) ([(4,(vL Entry.enc r_3.1)),(5,(vL Entry.enc s_11.1)),(9,(vL Entry.enc r_43.1)),(10,(vI r_43.2)),(11,(vL Entry.enc r_45.1)),(12,(vI r_45.2)),(13,(vL Entry.enc r_47.1)),(14,(vI r_47.2)),(15,(vL Entry.enc r_49.1)),(16,(vI r_49.2))]:SL_) (by kernel_rfl) (sO (by kernel_rfl)) (af (aa (ae (vL Entry.enc r_3.1) wz rfl (ae (vL Entry.enc r_47.1) wz rfl ?_)))))))))))
  obtain ⟨r_51,hr_52,hF⟩:=bind_some hF
  refine aD (gG hr_52) rfl Jg rfl rfl rfl rfl wz (ae (.tup [(vL Entry.enc r_51.1),(vI r_51.2)]) wz rfl (ae (vL Entry.enc r_51.1) wz rfl (ae (vI r_51.2) wz rfl (ae (vL Entry.enc r_51.1) wz rfl (ae (vI r_51.2) wz rfl (ak (af (aa (ae (vL Entry.enc r_49.1) wz rfl (ae (vL Entry.enc s_11.1) wz rfl ?_))))))))))
  obtain ⟨r_53,hr_54,hF⟩:=bind_some hF
  refine aD (gG hr_54) rfl Jg rfl rfl rfl rfl wz (ae (.tup [(vL Entry.enc r_53.1),(vI r_53.2)]) wz rfl (ae (vL Entry.enc r_53.1) wz rfl (ae (vI r_53.2) wz rfl (ae (vL Entry.enc r_53.1) wz rfl (ae (vI r_53.2) wz rfl (ak (af (aa (ae (.fn 22 []) wz rfl (ak (af ?_)))))))))))
  obtain ⟨v_55,h_56,hF⟩:=bind_some hF
  refine aH (β:=Unit) (λ_=>([(2,(vB v_55))]:SL_)) (λ_=>([(n_2,some (.cells 2 [(vL eI s_11.2.2.1),(vI s_11.2.2.2)])),(n_16,gF 13 Entry.enc s_11.1),(n_17,gF 13 Entry.enc s_11.2.1)]:Hp)) (λ_=>True) ?_ ?_
  ·refine aa (ae (vI r_43.2) wz rfl (ae (vI r_45.2) wz rfl (ae (vI r_47.2) wz rfl (ae (vI r_49.2) wz rfl (ae (vI r_51.2) wz rfl (ae (vI r_53.2) wz rfl (eO (([r_43.2,r_45.2,r_47.2,r_49.2,r_51.2,r_53.2]:List Int).map eI) es93 ez93 rfl rfl rfl rfl rfl wz ?_)))))))
   obtain ⟨r_57,hr_58,h_56⟩:=bind_some h_56
   refine aD (yE hr_58) rfl hb23 rfl rfl rfl rfl wz (ae (vB (r_57==0)) wz rfl ?_)
   rcases au h_56 with⟨hc_59,h_56⟩|⟨hc_59,h_56⟩
   ·refine ax rfl hc_59 wz (ae (.fn 22 []) wa rfl (ae (vL Entry.enc r_43.1) wa rfl (ae (vL Entry.enc r_45.1) wa rfl ?_)))
    obtain ⟨r_60,hr_61,h_56⟩:=bind_some h_56
    refine aD (gW hr_61) rfl hb22 rfl rfl rfl rfl wa (ae (vB r_60) wz rfl ?_)
    rcases au h_56 with⟨hc_62,h_56⟩|⟨hc_62,h_56⟩
    ·refine ax rfl hc_62 wz (ae (.fn 22 []) wa rfl (ae (vL Entry.enc r_49.1) wa rfl (ae (vL Entry.enc r_51.1) wa rfl ?_)))
     obtain ⟨r_63,hr_64,h_56⟩:=bind_some h_56
     refine aD (gW hr_64) rfl hb22 rfl rfl rfl rfl wa (ae (vB r_63) wz rfl ?_)
     rcases au h_56 with⟨hc_65,h_56⟩|⟨hc_65,h_56⟩
     ·refine ax rfl hc_65 wz (ae (.fn 22 []) wa rfl (ae (vL Entry.enc r_49.1) wa rfl (ae (vL Entry.enc r_53.1) wa rfl ?_)))
      obtain ⟨r_66,hr_67,h_56⟩:=bind_some h_56
      refine aD (gW hr_67) rfl hb22 rfl rfl rfl rfl wa (ae (vB r_66) wz rfl ?_)
      rcases au h_56 with⟨hc_68,h_56⟩|⟨hc_68,h_56⟩
      ·refine ax rfl hc_68 wz ?_
       obtain ⟨r_69,hr_70,h_56⟩:=bind_some h_56
       refine aD (CS hr_70) rfl hb24 rfl rfl rfl rfl wa (ae (vB r_69) wz rfl (ae (vB r_69) wz rfl (ak ?_)))
       obtain rfl:=aj h_56
       exact cu
      ·refine ax rfl hc_68 wz (ah wa (ae (vB false) wz rfl (ae (vB false) wz rfl (ak ?_))))
       obtain rfl:=aj h_56
       exact cu
     ·refine ax rfl hc_65 wz (ah wa (ah wa (ah wa (ah wa (ae (vB false) wz rfl (ae (vB false) wz rfl (ah wa (ae (vB false) wz rfl (ae (vB false) wz rfl (ak ?_))))))))))
      obtain rfl:=aj h_56
      exact cu
    ·refine ax rfl hc_62 wz (ah wa (ah wa (ah wa (ah wa (ae (vB false) wz rfl (ae (vB false) wz rfl (ah wa (ah wa (ah wa (ah wa (ae (vB false) wz rfl (ae (vB false) wz rfl (ah wa (ae (vB false) wz rfl (ae (vB false) wz rfl (ak ?_))))))))))))))))
     obtain rfl:=aj h_56
     exact cu
   ·refine ax rfl hc_59 wz (ah wa (ah wa (ah wa (ah wa (ae (vB false) wz rfl (ae (vB false) wz rfl (ah wa (ah wa (ah wa (ah wa (ae (vB false) wz rfl (ae (vB false) wz rfl (ah wa (ah wa (ah wa (ah wa (ae (vB false) wz rfl (ae (vB false) wz rfl (ah wa (ae (vB false) wz rfl (ae (vB false) wz rfl (ak ?_))))))))))))))))))))))
    obtain rfl:=aj h_56
    exact cu
  ·rintro ⟨⟩ _ sl_ H_ hp_ hq_
   refine aM _ hp_ hq_ ?_
   obtain rfl:=aj hF
   exact ay (aO (.inr rfl) [(vB v_55)] ⟨rfl,trivial⟩ rfl rfl rfl)
end Go.Proofs.YtnjnggakgeommaaGreatDoor.Law

