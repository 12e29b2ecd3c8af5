/-
 The machine computes these plain functions (written by a program of ours).
-/
import Derived.Test.YtigdobmllbakiacGreatDoorFacts
import Derived.Test.YtigdobmllbakiacGreatDoorDefs
import Derived.Test.YtigdobmllbakiacGreatDoorPf1
import Derived.Test.YtigdobmllbakiacGreatDoorShelf
open Go Go.Eng Go.Proofs
namespace Go.Proofs.YtigdobmllbakiacGreatDoor.Law
set_option maxRecDepth 100000
set_option linter.unusedVariables false
set_option maxHeartbeats 1000000
theorem fe {l_1:(List Campaign)} {r:Int} (hF:aN l_1=some r) :
  FnM Tryz.prog 21 [(vL Campaign.enc l_1)] [] (vI r) []:=by
 refine FnM.of_wH ⟨Tryz.prog,73,[],[]⟩ rfl Tryz.func21 rfl rfl (lb_ rfl) (by kernel_rfl) ?_
 unfold aN at hF
 refine ai (aa (vI 0) (af (au (ai (aa (vL Campaign.enc l_1) (eH uR rfl wz (aa (vB (decide ((l_1.length:Int)>30))) (af ?_))))))))
 rcases aj hF with⟨hc_2,hF⟩|⟨hc_2,hF⟩
 ·refine aJ rfl hc_2 (ai (aa (vI 2) (af ?_)))
  obtain rfl:=ae hF
  exact aA (aO [(vI 2)] ⟨rfl,trivial⟩)
 ·refine aI rfl hc_2 (aF (au (ai (aa (vL Campaign.enc l_1) (eH uR rfl wz (aa (vI 0) (af ?_)))))))
  obtain ⟨o_11,hj_12,hF⟩:=bind_some hF
  obtain ⟨hn_7,hj_12⟩:=dh hj_12
  refine iy (λ(s_8:Unit)=>[]) (λ(s_8:Unit)=>[]) (λ(k_3:Nat)=>(λ(s_8:Unit)=>[(0,(vL Campaign.enc l_1)),(9,(vL Campaign.enc l_1)),(10,(vI (l_1.length:Int))),(11,(vI (k_3:Int)))])) (λk x s=>bO l_1 k x s) o_11 l_1 () hj_12 rfl (aX rfl) ?_ ?_
  ·rintro ⟨k_3,l_4,s_8⟩ ⟨hL_10,hD_6⟩
   dsimp only at hL_10 hD_6
   cases l_4 with
   | nil =>
    obtain rfl:=ae hL_10
    refine ai (aa (vB (decide ((k_3:Int)<(l_1.length:Int)))) (af ?_))
    refine au (aI rfl (drop_nil hD_6) (dK ?_))
    exact dx (s_8) rfl rfl (aX rfl)
   | cons x_5 l_4 =>
    obtain ⟨c_,hc_9,hL_10⟩:=bind_some hL_10
    refine ai (aa (vB (decide ((k_3:Int)<(l_1.length:Int)))) (af ?_))
    refine au (aJ rfl (dH hD_6) (aF ?_))
    unfold bO at hc_9
    refine au (bz (ai (aa (vI (k_3:Int)) (gL sF rfl rfl (d9 hD_6) rfl wz (dY gD mD rfl (.d (.agg (Campaign.enc x_5))) rfl wz (iO 0 (.inl rfl) z41 rfl wz (λn_13=>aa (vI (k_3:Int)) (ji 0 il ft 0 gD rfl rfl (Campaign.v x_5) rfl wz (af (au (bz (au ?_))))))))))))
    obtain ⟨v_14,h_15,hc_9⟩:=bind_some hc_9
    refine bg [(0,(vL Campaign.enc l_1)),(3,(vI (k_3:Int))),(4,(.ref n_13 0 0)),(9,(vL Campaign.enc l_1)),(10,(vI (l_1.length:Int))),(11,(vI (k_3:Int))),(16,(vB v_14))] [(n_13,some (.cells 8 (Campaign.v x_5)))] ?_ ?_
    ·refine av (aR mf rfl 0 rfl wz (aY 0 0 il ft sz9 ag9 rfl rfl (vS x_5.Key) rfl wz ?_))
     obtain ⟨r_16,hr_17,h_15⟩:=bind_some h_15
     refine aD (ni hr_17) rfl hb41 rfl rfl rfl rfl wz (aa (vB (!r_16)) ?_)
     rcases aj h_15 with⟨hc_18,h_15⟩|⟨hc_18,h_15⟩
     ·refine ay rfl hc_18 wz (ah (ah (ah (ah (bE (wn rfl rfl) (bE (wn rfl rfl) (bE (wn rfl rfl) (bE (wn rfl rfl) (ah (aa (vB true) (aa (vB true) (af ?_))))))))))))
      obtain rfl:=ae h_15
      exact cu
     ·refine ay rfl hc_18 wz (aR oJ rfl 1 rfl wa (aY 0 0 il ft sz9 ag9 rfl rfl (vS x_5.Class) rfl wa (aG (vB (sNe x_5.Class (⟨#[]⟩:ByteArray))) wa rfl ?_)))
      rcases aj h_15 with⟨hc_19,h_15⟩|⟨hc_19,h_15⟩
      ·refine ay rfl hc_19 wa (aR oJ rfl 1 rfl wa (aY 0 0 il ft sz9 ag9 rfl rfl (vS x_5.Class) rfl wa ?_))
       obtain ⟨r_20,hr_21,h_15⟩:=bind_some h_15
       refine aD (ni hr_21) rfl hb41 rfl rfl rfl rfl wa (aG (vB (!r_20)) wa rfl (aG (vB (!r_20)) wa rfl (aa (vB (!r_20)) (aa (vB (!r_20)) (af ?_)))))
       obtain rfl:=ae h_15
       exact cu
      ·refine ay rfl hc_19 wa (ah (ah (ah (ah (aG (vB false) wa rfl (aa (vB false) (aa (vB false) (af ?_))))))))
       obtain rfl:=ae h_15
       exact cu
    ·rintro ⟨⟩ _ sl_ H_ hp_ hq_
     refine bu _ hp_ hq_ ?_
     rcases aj hc_9 with⟨hc_22,hc_9⟩|⟨hc_22,hc_9⟩
     ·refine aJ rfl hc_22 (ai (aa (vI 5) (af ?_)))
      obtain rfl:=ae hc_9
      obtain rfl:=ae hL_10
      obtain rfl:=ae hF
      exact aA (aO [(vI 5)] ⟨rfl,trivial⟩)
     ·refine aI rfl hc_22 (au ?_)
      obtain ⟨v_23,h_24,hc_9⟩:=bind_some hc_9
      refine bg [(0,(vL Campaign.enc l_1)),(4,(.ref n_13 0 0)),(9,(vL Campaign.enc l_1)),(10,(vI (l_1.length:Int))),(11,(vI (k_3:Int))),(32,(vB v_23))] [(n_13,some (.cells 8 (Campaign.v x_5)))] ?_ ?_
      ·refine fD (aa (vI (k_3:Int)) (aa (vB (decide ((k_3:Int)>0))) ?_))
       rcases aj h_24 with⟨hc_25,h_24⟩|⟨hc_25,h_24⟩
       ·refine ay rfl hc_25 wz (aR mf rfl 0 rfl wa (aY 4 0 (.inr (by kernel_rfl)) (λ_ _ ag=>trivial) sz9 ag9 rfl rfl (vS x_5.Key) rfl wa (aG (vL Campaign.enc l_1) wa rfl (aG (vI (k_3:Int)) wa rfl (aG (vI (w64 ((k_3:Int)-1))) wa rfl ?_)))))
        obtain ⟨y_26,hy_27,h_24⟩:=bind_some h_24
        refine gL sF rfl rfl hy_27 rfl wa (h_fac mf rfl (Campaign.enc y_26) rfl rfl wa (dY sz9 ag9 rfl (vS y_26.Key) rfl wa (aG (vB (sLe x_5.Key y_26.Key)) wa rfl (aa (vB (sLe x_5.Key y_26.Key)) (aa (vB (sLe x_5.Key y_26.Key)) (af ?_))))))
        obtain rfl:=ae h_24
        exact cu
       ·refine ay rfl hc_25 wz (ah (ah (ah (ah (ah (ah (ah (ah (ah (aa (vB false) (aa (vB false) (af ?_))))))))))))
        obtain rfl:=ae h_24
        exact cu
      ·rintro ⟨⟩ _ sl_ H_ hp_ hq_
       refine bu _ hp_ hq_ ?_
       rcases aj hc_9 with⟨hc_28,hc_9⟩|⟨hc_28,hc_9⟩
       ·refine aJ rfl hc_28 (ai (aa (vI 7) (af ?_)))
        obtain rfl:=ae hc_9
        obtain rfl:=ae hL_10
        obtain rfl:=ae hF
        exact aA (aO [(vI 7)] ⟨rfl,trivial⟩)
       ·refine aI rfl hc_28 (au ?_)
        obtain ⟨v_29,h_30,hc_9⟩:=bind_some hc_9
        refine bg [(0,(vL Campaign.enc l_1)),(4,(.ref n_13 0 0)),(9,(vL Campaign.enc l_1)),(10,(vI (l_1.length:Int))),(11,(vI (k_3:Int))),(46,(vB v_29))] [(n_13,some (.cells 8 (Campaign.v x_5)))] ?_ ?_
        ·refine av (aR iW rfl 2 rfl wz (aY 0 0 il ft sz38 ag38 rfl rfl (.d (.agg (Window.enc x_5.Time))) rfl wz ?_))
         obtain ⟨r_31,hr_32,h_30⟩:=bind_some h_30
         refine aD (qZ hr_32) rfl hb42 rfl rfl rfl rfl wz (aa (vB (!r_31)) ?_)
         rcases aj h_30 with⟨hc_33,h_30⟩|⟨hc_33,h_30⟩
         ·refine ay rfl hc_33 wz (ah (ah (ah (aa (vB true) (aa (vB true) (ah (ah (ah (aa (vB true) (aa (vB true) (ah (ah (ah (aa (vB true) (aa (vB true) (af ?_))))))))))))))))
          obtain rfl:=ae h_30
          exact cu
         ·refine ay rfl hc_33 wz (aR qj rfl 5 rfl wa (aY 0 0 il ft sz3 ag3 rfl rfl (vI x_5.Goal) rfl wa ?_))
          obtain ⟨r_34,hr_35,h_30⟩:=bind_some h_30
          refine aD (lI hr_35) rfl Ej rfl rfl rfl rfl wa (aa (vB r_34) ?_)
          rcases aj h_30 with⟨hc_36,h_30⟩|⟨hc_36,h_30⟩
          ·refine ay rfl hc_36 wz (ah (ah (ah (aa (vB true) (aa (vB true) (ah (ah (ah (aa (vB true) (aa (vB true) (af ?_)))))))))))
           obtain rfl:=ae h_30
           exact cu
          ·refine ay rfl hc_36 wz (aR wW rfl 6 rfl wa (aY 0 0 il ft sz3 ag3 rfl rfl (vI x_5.Most) rfl wa ?_))
           obtain ⟨r_37,hr_38,h_30⟩:=bind_some h_30
           refine aD (lI hr_38) rfl Ej rfl rfl rfl rfl wa (aa (vB r_37) ?_)
           rcases aj h_30 with⟨hc_39,h_30⟩|⟨hc_39,h_30⟩
           ·refine ay rfl hc_39 wz (ah (ah (ah (aa (vB true) (aa (vB true) (af ?_))))))
            obtain rfl:=ae h_30
            exact cu
           ·refine ay rfl hc_39 wz (aR uV rfl 7 rfl wa (aY 0 0 il ft sz3 ag3 rfl rfl (vI x_5.Cents) rfl wa ?_))
            obtain ⟨r_40,hr_41,h_30⟩:=bind_some h_30
            refine aD (lI hr_41) rfl Ej rfl rfl rfl rfl wa (aa (vB r_40) (aa (vB r_40) (af ?_)))
            obtain rfl:=ae h_30
            exact cu
        ·rintro ⟨⟩ _ sl_ H_ hp_ hq_
         refine bu _ hp_ hq_ ?_
         rcases aj hc_9 with⟨hc_42,hc_9⟩|⟨hc_42,hc_9⟩
         ·refine aJ rfl hc_42 (ai (aa (vI 1) (af ?_)))
          obtain rfl:=ae hc_9
          obtain rfl:=ae hL_10
          obtain rfl:=ae hF
          exact aA (aO [(vI 1)] ⟨rfl,trivial⟩)
         ·refine aI rfl hc_42 (aF (ai (aR kX rfl 4 rfl wz (aY 0 0 il ft uq zQ rfl rfl (vL eS x_5.Tags) rfl wz ?_))))
          obtain ⟨r_43,hr_44,hc_9⟩:=bind_some hc_9
          refine aD (nR hr_44) rfl hb44 rfl rfl rfl rfl wz (aa (vI r_43) (af (ai (aa (vI r_43) (aa (vB (r_43 != 0)) (af ?_))))))
          rcases aj hc_9 with⟨hc_45,hc_9⟩|⟨hc_45,hc_9⟩
          ·refine aJ rfl hc_45 (ai (aa (vI r_43) (aa (vI r_43) (af ?_))))
           obtain rfl:=ae hc_9
           obtain rfl:=ae hL_10
           obtain rfl:=ae hF
           exact aA (aO [(vI r_43)] ⟨rfl,trivial⟩)
          ·refine aI rfl hc_45 (aF (av (iL (dI hD_6 hn_7) wz rfl (aa (vI ((k_3+1:Nat):Int)) (af ?_)))))
           obtain rfl:=ae hc_9
           exact dJ (k_3+1,l_4,()) ⟨hL_10,bP hD_6⟩ (ls_ _) rfl (aX rfl)
  ·rintro s_8 ho_ sl_ H_ hp_ hq_
   subst ho_
   refine bu _ hp_ hq_ (ai (aa (vI 0) (af ?_)))
   obtain rfl:=ae hF
   exact aA (aO [(vI 0)] ⟨rfl,trivial⟩)
theorem nK {s_1:ByteArray} {r:ByteArray} (hF:ib s_1=some r) :
  FnM Tryz.prog 23 [(vS s_1)] [] (vS r) []:=by
 refine FnM.of_wH ⟨Tryz.prog,6,[],[]⟩ rfl Tryz.func23 rfl rfl (lb_ rfl) (by kernel_rfl) ?_
 unfold ib at hF
 refine ai (aa (vS (⟨#[]⟩:ByteArray)) (af (au (ai (aa (vS s_1) (aa (vB (sEq s_1 (⟨#[]⟩:ByteArray))) (af ?_)))))))
 rcases aj hF with⟨hc_2,hF⟩|⟨hc_2,hF⟩
 ·refine aJ rfl hc_2 (ai (aa (vS (⟨#[45]⟩:ByteArray)) (af ?_)))
  obtain rfl:=ae hF
  exact aA (aO [(vS (⟨#[45]⟩:ByteArray))] ⟨rfl,trivial⟩)
 ·refine aI rfl hc_2 (aF (ai (aa (vS s_1) (aa (vS s_1) (af ?_)))))
  obtain rfl:=ae hF
  exact aA (aO [(vS s_1)] ⟨rfl,trivial⟩)
theorem vQ:mh Tryz.prog 22 56 54 9 :=
 DW Tryz.lays166 Tryz.Builder_Extra_166
theorem uS:BldT Tryz.prog 54 9 5 :=
 ⟨by kernel_rfl,by kernel_rfl,by kernel_rfl,by kernel_rfl,by kernel_rfl,rfl⟩
theorem Ev:oU Tryz.prog 26 56 :=
 strDoes Tryz.lays169 Tryz.Builder_Extra_169 rfl
theorem ut {l_1:(List Campaign)} {r:ByteArray×Int} (hF:fC l_1=some r) :
  FnM Tryz.prog 6 [(vL Campaign.enc l_1)] [] (.tup [(vS r.1),(vI r.2)]) []:=by
 refine FnM.of_wH ⟨Tryz.prog,61,[5],[]⟩ rfl Tryz.func6 rfl rfl (lb_ rfl) (by kernel_rfl) ?_
 unfold fC at hF
 refine ai (aa (vS (⟨#[]⟩:ByteArray)) (aa (vI 0) (af (au (ai (aa (vL Campaign.enc l_1) ?_))))))
 obtain ⟨r_2,hr_3,hF⟩:=bind_some hF
 refine aD (fe hr_3) rfl hb21 rfl rfl rfl rfl wz (aa (vI r_2) (af (ai (aa (vI r_2) (aa (vB (r_2 != 0)) (af ?_))))))
 rcases aj hF with⟨hc_4,hF⟩|⟨hc_4,hF⟩
 ·refine aJ rfl hc_4 (ai (aa (vI r_2) (aa (vS (⟨#[]⟩:ByteArray)) (aa (vI r_2) (af ?_)))))
  obtain rfl:=ae hF
  exact aA (aO [(vS (⟨#[]⟩:ByteArray)),(vI r_2)] ⟨rfl,⟨rfl,trivial⟩⟩)
 ·refine aI rfl hc_4 (aF (ai (En 0 (.inl rfl) z56 wz (λn_5=>o7 (λn_6=>Cx (b':=some (.cells (1048576+56) [.any,gV n_6 1 ([]:List Int)])) 0 rfl rfl (af (au (ai (aa (vL Campaign.enc l_1) (eH uR rfl wz (aa (vI 0) (af ?_))))))))))))
  obtain ⟨o_17,hj_18,hF⟩:=bind_some hF
  obtain ⟨hn_11,hj_18⟩:=dh hj_18
  refine iM (σ:=(List Int)) (N:=Nm) (λp=>(λ(s_12:List Int) (n_14:Nm)=>([(5,(.ref n_5 0 0))]:SL_)) p.1 p.2) (λp=>(λ(s_12:List Int) (n_14:Nm)=>([(n_5,some (.cells (1048576+56) [.any,(gV n_14 1 s_12)])),(n_14,gB 1 (eK .u8) s_12)]:Hp)) p.1 p.2) (λ(k_7:Nat)=>(λp=>(λ(s_12:List Int) (n_14:Nm)=>([(5,(.ref n_5 0 0)),(15,(vL Campaign.enc l_1)),(16,(vI (l_1.length:Int))),(17,(vI (k_7:Int)))]:SL_)) p.1 p.2)) (λk x s=>fw k x s) o_17 l_1 (([]:List Int),n_6) hj_18 rfl (aX rfl) ?_ ?_
  ·rintro ⟨k_7,l_8,s_12,n_14⟩ ⟨hL_16,hD_10⟩
   dsimp only at hL_16 hD_10
   cases l_8 with
   | nil =>
    obtain rfl:=ae hL_16
    refine ai (aa (vB (decide ((k_7:Int)<(l_1.length:Int)))) (af ?_))
    refine au (aI rfl (drop_nil hD_10) (dK ?_))
    exact dx (s_12,n_14) rfl rfl (aX rfl)
   | cons x_9 l_8 =>
    obtain ⟨c_,hc_15,hL_16⟩:=bind_some hL_16
    refine ai (aa (vB (decide ((k_7:Int)<(l_1.length:Int)))) (af ?_))
    refine au (aJ rfl (dH hD_10) (aF ?_))
    unfold fw at hc_15
    refine au (bz (ai (gL sF rfl rfl (d9 hD_10) rfl wz (dY gD mD rfl (.d (.agg (Campaign.enc x_9))) rfl wz (iO 0 (.inl rfl) z41 rfl wz (λn_19=>ji 0 il ft 2 gD rfl rfl (Campaign.v x_9) rfl wz (af (au (fD (aR mf rfl 0 rfl wz (aY 1 2 (.inr (by kernel_rfl)) (λ_ _ ag=>trivial) sz9 ag9 rfl rfl (vS x_9.Key) rfl wz ?_)))))))))))
    obtain ⟨s_20,hz_21,hc_15⟩:=bind_some hc_15
    refine nI rfl rfl hz_21 wz (aR oJ rfl 1 rfl wz (aY 4 2 (.inr (by kernel_rfl)) (λ_ _ ag=>⟨.inl ⟨rfl,rfl⟩,trivial⟩) sz9 ag9 rfl rfl (vS x_9.Class) rfl wz ?_))
    obtain ⟨r_22,hr_23,hc_15⟩:=bind_some hc_15
    refine aD (nK hr_23) rfl hb23 rfl rfl rfl rfl wz ?_
    obtain ⟨s_24,hz_25,hc_15⟩:=bind_some hc_15
    refine nI rfl rfl hz_25 wz ?_
    obtain ⟨a_26,hz_27,hc_15⟩:=bind_some hc_15
    refine rR 7 0 1 (.inr (by kernel_rfl)) (λ_ _ ag=>⟨.inr (.inr (by kernel_rfl)),⟨.inr (.inr (by kernel_rfl)),trivial⟩⟩) vQ uS rfl hb22 rfl rfl rfl rfl (by decide) hz_27 wz (λn_28=>af (au (ai (aR iW rfl 2 rfl wz (aR mV rfl 2 rfl wz (aY 0 2 il ft sz3 ag3 rfl rfl (vI x_9.Time.From) rfl wz (aR iW rfl 2 rfl wz (aR nu rfl 3 rfl wz (aY 0 2 il ft sz3 ag3 rfl rfl (vI x_9.Time.To) rfl wz (aR qj rfl 5 rfl wz (aY 0 2 il ft sz3 ag3 rfl rfl (vI x_9.Goal) rfl wz (aR wW rfl 6 rfl wz (aY 0 2 il ft sz3 ag3 rfl rfl (vI x_9.Most) rfl wz (aR uV rfl 7 rfl wz (aY 0 2 il ft sz3 ag3 rfl rfl (vI x_9.Cents) rfl wz (dU (([x_9.Time.From,x_9.Time.To,x_9.Goal,x_9.Most,x_9.Cents]:List Int).map eI) je pJ rfl rfl rfl rfl rfl wz (eH CY rfl wz (aa (vI 0) (af ?_)))))))))))))))))))
    obtain ⟨o_39,hj_40,hc_15⟩:=bind_some hc_15
    obtain ⟨hn_33,hj_40⟩:=dh hj_40
    refine iM (σ:=(List Int)) (N:=Nm) (λp=>(λ(s_34:List Int) (n_36:Nm)=>([(5,(.ref n_5 0 0)),(7,(.ref n_19 0 0)),(15,(vL Campaign.enc l_1)),(16,(vI (l_1.length:Int))),(17,(vI (k_7:Int)))]:SL_)) p.1 p.2) (λp=>(λ(s_34:List Int) (n_36:Nm)=>([(n_5,some (.cells (1048576+56) [.any,(gV n_36 1 s_34)])),(n_36,gB 1 (eK .u8) s_34),(n_19,some (.cells 8 (Campaign.v x_9)))]:Hp)) p.1 p.2) (λ(k_29:Nat)=>(λp=>(λ(s_34:List Int) (n_36:Nm)=>([(5,(.ref n_5 0 0)),(7,(.ref n_19 0 0)),(15,(vL Campaign.enc l_1)),(16,(vI (l_1.length:Int))),(17,(vI (k_7:Int))),(41,(vL eI ([x_9.Time.From,x_9.Time.To,x_9.Goal,x_9.Most,x_9.Cents]:List Int))),(42,(vI (([x_9.Time.From,x_9.Time.To,x_9.Goal,x_9.Most,x_9.Cents]:List Int).length:Int))),(43,(vI (k_29:Int)))]:SL_)) p.1 p.2)) (λk x s=>fq k x s) o_39 ([x_9.Time.From,x_9.Time.To,x_9.Goal,x_9.Most,x_9.Cents]:List Int) (a_26,n_28) hj_40 rfl (aX rfl) ?_ ?_
    ·rintro ⟨k_29,l_30,s_34,n_36⟩ ⟨hL_38,hD_32⟩
     dsimp only at hL_38 hD_32
     cases l_30 with
     | nil =>
      obtain rfl:=ae hL_38
      refine ai (aa (vB (decide ((k_29:Int)<(([x_9.Time.From,x_9.Time.To,x_9.Goal,x_9.Most,x_9.Cents]:List Int).length:Int)))) (af ?_))
      refine au (aI rfl (drop_nil hD_32) (dK ?_))
      exact dx (s_34,n_36) rfl rfl (aX rfl)
     | cons x_31 l_30 =>
      obtain ⟨c_,hc_37,hL_38⟩:=bind_some hL_38
      refine ai (aa (vB (decide ((k_29:Int)<(([x_9.Time.From,x_9.Time.To,x_9.Goal,x_9.Most,x_9.Cents]:List Int).length:Int)))) (af ?_))
      refine au (aJ rfl (dH hD_32) (aF ?_))
      unfold fq at hc_37
      refine au (bz (ai (gL je rfl rfl (d9 hD_32) rfl wz (dY sz3 ag3 rfl (vI x_31) rfl wz (aa (vI x_31) (af (av (aa (vI x_31) ?_))))))))
      obtain ⟨r_41,hr_42,hc_37⟩:=bind_some hc_37
      refine aD (kv hr_42) rfl hb24 rfl rfl rfl rfl wz ?_
      obtain ⟨s_43,hz_44,hc_37⟩:=bind_some hc_37
      refine nI rfl rfl hz_44 wz ?_
      obtain ⟨a_45,hz_46,hc_37⟩:=bind_some hc_37
      refine rR 0 0 1 il ft vQ uS rfl hb22 rfl rfl rfl rfl (by decide) hz_46 wz (λn_47=>af (av (iL (dI hD_32 hn_33) wz rfl (aa (vI ((k_29+1:Nat):Int)) (af ?_)))))
      obtain rfl:=ae hc_37
      exact dJ (k_29+1,l_30,a_45,n_47) ⟨hL_38,bP hD_32⟩ (ls_ _) rfl (aX rfl)
    ·rintro ⟨s_34,n_36⟩ ho_ sl_ H_ hp_ hq_
     subst ho_
     refine bu _ hp_ hq_ (av (aR kX rfl 4 rfl wz (aY 0 2 il ft uq zQ rfl rfl (vL eS x_9.Tags) rfl wz ?_)))
     obtain ⟨r_48,hr_49,hc_15⟩:=bind_some hc_15
     refine aD (iT hr_49) rfl hb25 rfl rfl rfl rfl wz ?_
     obtain ⟨r_50,hr_51,hc_15⟩:=bind_some hc_15
     refine aD (nK hr_51) rfl hb23 rfl rfl rfl rfl wz ?_
     obtain ⟨s_52,hz_53,hc_15⟩:=bind_some hc_15
     refine nI rfl rfl hz_53 wz ?_
     obtain ⟨s_54,hz_55,hc_15⟩:=bind_some hc_15
     refine nI rfl rfl hz_55 wz ?_
     obtain ⟨a_56,hz_57,hc_15⟩:=bind_some hc_15
     refine rR 0 0 1 il ft vQ uS rfl hb22 rfl rfl rfl rfl (by decide) hz_57 wz (λn_58=>af (av (iL (dI hD_10 hn_11) wz rfl (aa (vI ((k_7+1:Nat):Int)) (af ?_)))))
     obtain rfl:=ae hc_15
     exact dJ (k_7+1,l_8,a_56,n_58) ⟨hL_16,bP hD_10⟩ (ls_ _) rfl (aX rfl)
  ·rintro ⟨s_12,n_14⟩ ho_ sl_ H_ hp_ hq_
   subst ho_
   refine bu _ hp_ hq_ (ai ?_)
   obtain ⟨s_59,hz_60,hF⟩:=bind_some hF
   refine h_bstrL 0 0 1 il ft Ev rfl hb26 rfl rfl rfl (by decide) hz_60 wz (aa (vS s_59) (aa (vI 0) (af ?_)))
   obtain rfl:=ae hF
   exact aA (aO [(vS s_59),(vI 0)] ⟨rfl,⟨rfl,trivial⟩⟩)
theorem pI {n_1:Int} {low_2:Int} {high_3:Int} {r:Bool} (hF:nz n_1 low_2 high_3=some r) :
  FnM Tryz.prog 28 [(vI n_1),(vI low_2),(vI high_3)] [] (vB r) []:=by
 refine FnM.of_wH ⟨Tryz.prog,15,[],[]⟩ rfl Tryz.func28 rfl rfl (lb_ rfl) (by kernel_rfl) ?_
 unfold nz at hF
 refine ai (aa (vB false) (af (au ?_)))
 obtain ⟨v_4,h_5,hF⟩:=bind_some hF
 refine bg [(6,(vB v_4))] [] ?_ ?_
 ·refine av (aa (vI low_2) (aa (vI n_1) (aa (vB (decide (low_2<=n_1))) ?_)))
  rcases aj h_5 with⟨hc_6,h_5⟩|⟨hc_6,h_5⟩
  ·refine ay rfl hc_6 wz (aG (vI n_1) wa rfl (aG (vI high_3) wa rfl (aG (vB (decide (n_1<=high_3))) wa rfl (aa (vB (decide (n_1<=high_3))) (aa (vB (decide (n_1<=high_3))) (af ?_))))))
   obtain rfl:=ae h_5
   exact cu
  ·refine ay rfl hc_6 wz (ah (ah (ah (aa (vB false) (aa (vB false) (af ?_))))))
   obtain rfl:=ae h_5
   exact cu
 ·rintro ⟨⟩ _ sl_ H_ hp_ hq_
  refine bu _ hp_ hq_ ?_
  obtain rfl:=ae hF
  exact aA (aO [(vB v_4)] ⟨rfl,trivial⟩)
theorem eZ {s_1:ByteArray} {c_2:Int} {r:Int} (hF:bJ s_1 c_2=some r) :
  FnM Tryz.prog 75 [(vS s_1),(.d (.int .u8 c_2))] [] (vI r) []:=by
 refine FnM.of_wH ⟨Tryz.prog,8,[],[]⟩ rfl Tryz.func75 rfl rfl (lb_ rfl) (by kernel_rfl) ?_
 unfold bJ at hF
 refine ai (aa (vI 0) (af (ai (aa (vS s_1) (aa (.d (.int .u8 c_2)) (h_ext (ext_ixB (f:=88) Tryz.func88 rfl rfl (by kernel_rfl) (by kernel_rfl) _ _) rfl nb88 rfl wz (aa (vI (ixB s_1 c_2)) (af ?_))))))))
 obtain rfl:=ae hF
 exact aA (aO [(vI (ixB s_1 c_2))] ⟨rfl,trivial⟩)
theorem nS {s_1:ByteArray} {c_2:Int} {r:Int} (hF:strings_IndexByte s_1 c_2=some r) :
  FnM Tryz.prog 64 [(vS s_1),(.d (.int .u8 c_2))] [] (vI r) []:=by
 refine FnM.of_wH ⟨Tryz.prog,8,[],[]⟩ rfl Tryz.func64 rfl rfl (lb_ rfl) (by kernel_rfl) ?_
 unfold strings_IndexByte at hF
 refine ai (aa (vI 0) (af (ai (aa (vS s_1) (aa (.d (.int .u8 c_2)) ?_)))))
 obtain ⟨r_3,hr_4,hF⟩:=bind_some hF
 refine aD (eZ hr_4) rfl hb75 rfl rfl rfl rfl wz (aa (vI r_3) (af ?_))
 obtain rfl:=ae hF
 exact aA (aO [(vI r_3)] ⟨rfl,trivial⟩)
theorem nX {s_1:ByteArray} {somev_2:ByteArray} {r:Bool} (hF:j6 s_1 somev_2=some r) :
  FnM Tryz.prog 48 [(vS s_1),(vS somev_2)] [] (vB r) []:=by
 refine FnM.of_wH ⟨Tryz.prog,18,[],[]⟩ rfl Tryz.func48 rfl rfl (lb_ rfl) (by kernel_rfl) ?_
 unfold j6 at hF
 refine ai (aa (vB false) (af (au (ai (aa (vS s_1) (gG un9 rfl wz (aa (vI 0) (af ?_))))))))
 obtain ⟨o_11,hj_12,hF⟩:=bind_some hF
 obtain ⟨hn_7,hj_12⟩:=dh hj_12
 refine iy (λ(s_8:Unit)=>[]) (λ(s_8:Unit)=>[]) (λ(k_3:Nat)=>(λ(s_8:Unit)=>[(0,(vS s_1)),(1,(vS somev_2)),(7,(vI (s_1.size:Int))),(8,(vI (k_3:Int)))])) (λk x s=>jc s_1 somev_2 k x s) o_11 (List.range ((s_1.size:Int)).toNat) () hj_12 rfl (aX rfl) ?_ ?_
 ·rintro ⟨k_3,l_4,s_8⟩ ⟨hL_10,hD_6⟩
  dsimp only at hL_10 hD_6
  cases l_4 with
  | nil =>
   obtain rfl:=ae hL_10
   refine ai (aa (vB (decide ((k_3:Int)<(s_1.size:Int)))) (af ?_))
   refine au (aI rfl (x8 hD_6) (dK ?_))
   exact dx (s_8) rfl rfl (aX rfl)
  | cons x_5 l_4 =>
   obtain ⟨c_,hc_9,hL_10⟩:=bind_some hL_10
   refine ai (aa (vB (decide ((k_3:Int)<(s_1.size:Int)))) (af ?_))
   refine au (aJ rfl (wR hD_6) (aF ?_))
   unfold jc at hc_9
   refine au (bz (ai (aa (vI (k_3:Int)) (aa (vI (k_3:Int)) (af (ai (aa (vS somev_2) (aa (vS s_1) (aa (vI (k_3:Int)) ?_)))))))))
   obtain ⟨b_13,hy_14,hc_9⟩:=bind_some hc_9
   refine ql un9 rfl rfl hy_14 wz ?_
   obtain ⟨r_15,hr_16,hc_9⟩:=bind_some hc_9
   refine aD (nS hr_16) rfl hb64 rfl rfl rfl rfl wz (aa (vB (decide (r_15<0))) (af ?_))
   rcases aj hc_9 with⟨hc_17,hc_9⟩|⟨hc_17,hc_9⟩
   ·refine aJ rfl hc_17 (ai (aa (vB false) (af ?_)))
    obtain rfl:=ae hc_9
    obtain rfl:=ae hL_10
    obtain rfl:=ae hF
    exact aA (aO [(vB false)] ⟨rfl,trivial⟩)
   ·refine aI rfl hc_17 (aF (av (iL (xZ hD_6 hn_7) wz rfl (aa (vI ((k_3+1:Nat):Int)) (af ?_)))))
    obtain rfl:=ae hc_9
    exact dJ (k_3+1,l_4,()) ⟨hL_10,bP hD_6⟩ (ls_ _) rfl (aX rfl)
 ·rintro s_8 ho_ sl_ H_ hp_ hq_
  subst ho_
  refine bu _ hp_ hq_ (ai (aa (vB true) (af ?_)))
  obtain rfl:=ae hF
  exact aA (aO [(vB true)] ⟨rfl,trivial⟩)
theorem qw {s_1:ByteArray} {r:Bool} (hF:mU s_1=some r) :
  FnM Tryz.prog 27 [(vS s_1)] [] (vB r) []:=by
 refine FnM.of_wH ⟨Tryz.prog,15,[],[]⟩ rfl Tryz.func27 rfl rfl (lb_ rfl) (by kernel_rfl) ?_
 unfold mU at hF
 refine ai (aa (vB false) (af (au ?_)))
 obtain ⟨v_2,h_3,hF⟩:=bind_some hF
 refine bg [(2,(vB v_2))] [] ?_ ?_
 ·refine av (aa (vS s_1) (gG un9 rfl wz ?_))
  obtain ⟨r_4,hr_5,h_3⟩:=bind_some h_3
  refine aD (pI hr_5) rfl hb28 rfl rfl rfl rfl wz ?_
  rcases aj h_3 with⟨hc_6,h_3⟩|⟨hc_6,h_3⟩
  ·refine ay rfl hc_6 wz (aG (vS s_1) wa rfl ?_)
   obtain ⟨y_7,hy_8,h_3⟩:=bind_some h_3
   refine fT un9 rfl rfl hy_8 wa ?_
   obtain ⟨r_9,hr_10,h_3⟩:=bind_some h_3
   refine aD (nX hr_10) rfl hb48 rfl rfl rfl rfl wa (aa (vB r_9) ?_)
   rcases aj h_3 with⟨hc_11,h_3⟩|⟨hc_11,h_3⟩
   ·refine ay rfl hc_11 wz (aG (vS s_1) wa rfl ?_)
    obtain ⟨r_12,hr_13,h_3⟩:=bind_some h_3
    refine aD (nX hr_13) rfl hb48 rfl rfl rfl rfl wa (aa (vB r_12) (aa (vB r_12) (af ?_)))
    obtain rfl:=ae h_3
    exact cu
   ·refine ay rfl hc_11 wz (ah (ah (aa (vB false) (aa (vB false) (af ?_)))))
    obtain rfl:=ae h_3
    exact cu
  ·refine ay rfl hc_6 wz (ah (ah (ah (aa (vB false) (aa (vB false) (ah (ah (aa (vB false) (aa (vB false) (af ?_))))))))))
   obtain rfl:=ae h_3
   exact cu
 ·rintro ⟨⟩ _ sl_ H_ hp_ hq_
  refine bu _ hp_ hq_ ?_
  obtain rfl:=ae hF
  exact aA (aO [(vB v_2)] ⟨rfl,trivial⟩)
theorem qo {l_1:(List ByteArray)} {r:Int} (hF:iQ l_1=some r) :
  FnM Tryz.prog 49 [(vL eS l_1)] [] (vI r) []:=by
 refine FnM.of_wH ⟨Tryz.prog,27,[],[]⟩ rfl Tryz.func49 rfl rfl (lb_ rfl) (by kernel_rfl) ?_
 unfold iQ at hF
 refine ai (aa (vI 0) (af (au (ai (aa (vL eS l_1) (eH lw rfl wz (aa (vI 0) (af ?_))))))))
 obtain ⟨o_10,hj_11,hF⟩:=bind_some hF
 obtain ⟨hn_6,hj_11⟩:=dh hj_11
 refine iy (λ(s_7:Unit)=>[]) (λ(s_7:Unit)=>[]) (λ(k_2:Nat)=>(λ(s_7:Unit)=>[(0,(vL eS l_1)),(5,(vL eS l_1)),(6,(vI (l_1.length:Int))),(7,(vI (k_2:Int)))])) (λk x s=>gm l_1 k x s) o_10 l_1 () hj_11 rfl (aX rfl) ?_ ?_
 ·rintro ⟨k_2,l_3,s_7⟩ ⟨hL_9,hD_5⟩
  dsimp only at hL_9 hD_5
  cases l_3 with
  | nil =>
   obtain rfl:=ae hL_9
   refine ai (aa (vB (decide ((k_2:Int)<(l_1.length:Int)))) (af ?_))
   refine au (aI rfl (drop_nil hD_5) (dK ?_))
   exact dx (s_7) rfl rfl (aX rfl)
  | cons x_4 l_3 =>
   obtain ⟨c_,hc_8,hL_9⟩:=bind_some hL_9
   refine ai (aa (vB (decide ((k_2:Int)<(l_1.length:Int)))) (af ?_))
   refine au (aJ rfl (dH hD_5) (aF ?_))
   unfold gm at hc_8
   refine au (bz (ai (aa (vI (k_2:Int)) (gL fV rfl rfl (d9 hD_5) rfl wz (dY sz9 ag9 rfl (vS x_4) rfl wz (aa (vI (k_2:Int)) (aa (vS x_4) (af (au (ai (aa (vS x_4) ?_)))))))))))
   obtain ⟨r_12,hr_13,hc_8⟩:=bind_some hc_8
   refine aD (qw hr_13) rfl hb27 rfl rfl rfl rfl wz (aa (vB (!r_12)) (af ?_))
   rcases aj hc_8 with⟨hc_14,hc_8⟩|⟨hc_14,hc_8⟩
   ·refine aJ rfl hc_14 (ai (aa (vI 5) (af ?_)))
    obtain rfl:=ae hc_8
    obtain rfl:=ae hL_9
    obtain rfl:=ae hF
    exact aA (aO [(vI 5)] ⟨rfl,trivial⟩)
   ·refine aI rfl hc_14 (aF (au ?_))
    obtain ⟨v_15,h_16,hc_8⟩:=bind_some hc_8
    refine bg [(0,(vL eS l_1)),(5,(vL eS l_1)),(6,(vI (l_1.length:Int))),(7,(vI (k_2:Int))),(25,(vB v_15))] [] ?_ ?_
    ·refine av (aa (vI (k_2:Int)) (aa (vB (decide ((k_2:Int)>0))) ?_))
     rcases aj h_16 with⟨hc_17,h_16⟩|⟨hc_17,h_16⟩
     ·refine ay rfl hc_17 wz (aG (vS x_4) wa rfl (aG (vL eS l_1) wa rfl (aG (vI (k_2:Int)) wa rfl (aG (vI (w64 ((k_2:Int)-1))) wa rfl ?_))))
      obtain ⟨y_18,hy_19,h_16⟩:=bind_some h_16
      refine gL fV rfl rfl hy_19 rfl wa (dY sz9 ag9 rfl (vS y_18) rfl wa (aG (vB (sLe x_4 y_18)) wa rfl (aa (vB (sLe x_4 y_18)) (af ?_))))
      obtain rfl:=ae h_16
      exact cu
     ·refine ay rfl hc_17 wz (ah (ah (ah (ah (ah (ah (ah (aa (vB false) (af ?_)))))))))
      obtain rfl:=ae h_16
      exact cu
    ·rintro ⟨⟩ _ sl_ H_ hp_ hq_
     refine bu _ hp_ hq_ ?_
     rcases aj hc_8 with⟨hc_20,hc_8⟩|⟨hc_20,hc_8⟩
     ·refine aJ rfl hc_20 (ai (aa (vI 7) (af ?_)))
      obtain rfl:=ae hc_8
      obtain rfl:=ae hL_9
      obtain rfl:=ae hF
      exact aA (aO [(vI 7)] ⟨rfl,trivial⟩)
     ·refine aI rfl hc_20 (aF (av (iL (dI hD_5 hn_6) wz rfl (aa (vI ((k_2+1:Nat):Int)) (af ?_)))))
      obtain rfl:=ae hc_8
      exact dJ (k_2+1,l_3,()) ⟨hL_9,bP hD_5⟩ (ls_ _) rfl (aX rfl)
 ·rintro s_7 ho_ sl_ H_ hp_ hq_
  subst ho_
  refine bu _ hp_ hq_ (ai (aa (vI 0) (af ?_)))
  obtain rfl:=ae hF
  exact aA (aO [(vI 0)] ⟨rfl,trivial⟩)
theorem sI {l_1:(List ByteArray)} {r:Int} (hF:iI l_1=some r) :
  FnM Tryz.prog 29 [(vL eS l_1)] [] (vI r) []:=by
 refine FnM.of_wH ⟨Tryz.prog,8,[],[]⟩ rfl Tryz.func29 rfl rfl (lb_ rfl) (by kernel_rfl) ?_
 unfold iI at hF
 refine ai (aa (vI 0) (af (au (ai (aa (vL eS l_1) (eH lw rfl wz (aa (vB (decide ((l_1.length:Int)>20))) (af ?_))))))))
 rcases aj hF with⟨hc_2,hF⟩|⟨hc_2,hF⟩
 ·refine aJ rfl hc_2 (ai (aa (vI 2) (af ?_)))
  obtain rfl:=ae hF
  exact aA (aO [(vI 2)] ⟨rfl,trivial⟩)
 ·refine aI rfl hc_2 (aF (ai (aa (vL eS l_1) ?_)))
  obtain ⟨r_3,hr_4,hF⟩:=bind_some hF
  refine aD (qo hr_4) rfl hb49 rfl rfl rfl rfl wz (aa (vI r_3) (af ?_))
  obtain rfl:=ae hF
  exact aA (aO [(vI r_3)] ⟨rfl,trivial⟩)
theorem jy {l_1:(List Campaign)} {r:Int} (hF:dD l_1=some r) :
  FnM Tryz.prog 7 [(vL Campaign.enc l_1)] [] (vI r) []:=by
 refine FnM.of_wH ⟨Tryz.prog,84,[],[]⟩ rfl Tryz.func7 rfl rfl (lb_ rfl) (by kernel_rfl) ?_
 unfold dD at hF
 refine ai (aa (vI 0) (af (au (ai (aa (vL Campaign.enc l_1) (eH uR rfl wz (aa (vB (decide ((l_1.length:Int)>30))) (af ?_))))))))
 rcases aj hF with⟨hc_2,hF⟩|⟨hc_2,hF⟩
 ·refine aJ rfl hc_2 (ai (aa (vI 2) (af ?_)))
  obtain rfl:=ae hF
  exact aA (aO [(vI 2)] ⟨rfl,trivial⟩)
 ·refine aI rfl hc_2 (aF (ai (aa (vS (⟨#[]⟩:ByteArray)) (af (au (ai (aa (vL Campaign.enc l_1) (eH uR rfl wz (aa (vI 0) (af ?_))))))))))
  obtain ⟨o_11,hj_12,hF⟩:=bind_some hF
  obtain ⟨hn_7,hj_12⟩:=dh hj_12
  refine iy (λ(s_8:ByteArray)=>[]) (λ(s_8:ByteArray)=>[]) (λ(k_3:Nat)=>(λ(s_8:ByteArray)=>[(3,(vS s_8)),(10,(vL Campaign.enc l_1)),(11,(vI (l_1.length:Int))),(12,(vI (k_3:Int)))])) (λk x s=>dA k x s) o_11 l_1 (⟨#[]⟩:ByteArray) hj_12 rfl (aX rfl) ?_ ?_
  ·rintro ⟨k_3,l_4,s_8⟩ ⟨hL_10,hD_6⟩
   dsimp only at hL_10 hD_6
   cases l_4 with
   | nil =>
    obtain rfl:=ae hL_10
    refine ai (aa (vB (decide ((k_3:Int)<(l_1.length:Int)))) (af ?_))
    refine au (aI rfl (drop_nil hD_6) (dK ?_))
    exact dx (s_8) rfl rfl (aX rfl)
   | cons x_5 l_4 =>
    obtain ⟨c_,hc_9,hL_10⟩:=bind_some hL_10
    refine ai (aa (vB (decide ((k_3:Int)<(l_1.length:Int)))) (af ?_))
    refine au (aJ rfl (dH hD_6) (aF ?_))
    unfold dA at hc_9
    refine au (bz (ai (gL sF rfl rfl (d9 hD_6) rfl wz (dY gD mD rfl (.d (.agg (Campaign.enc x_5))) rfl wz (iO 0 (.inl rfl) z41 rfl wz (λn_13=>ji 0 il ft 0 gD rfl rfl (Campaign.v x_5) rfl wz (af (au (bz (au ?_))))))))))
    obtain ⟨v_14,h_15,hc_9⟩:=bind_some hc_9
    refine bg [(3,(vS s_8)),(5,(.ref n_13 0 0)),(10,(vL Campaign.enc l_1)),(11,(vI (l_1.length:Int))),(12,(vI (k_3:Int))),(16,(vB v_14))] [(n_13,some (.cells 8 (Campaign.v x_5)))] ?_ ?_
    ·refine av (aR mf rfl 0 rfl wz (aY 0 0 il ft sz9 ag9 rfl rfl (vS x_5.Key) rfl wz ?_))
     obtain ⟨r_16,hr_17,h_15⟩:=bind_some h_15
     refine aD (qw hr_17) rfl hb27 rfl rfl rfl rfl wz (aa (vB (!r_16)) ?_)
     rcases aj h_15 with⟨hc_18,h_15⟩|⟨hc_18,h_15⟩
     ·refine ay rfl hc_18 wz (ah (ah (ah (ah (bE (wn rfl rfl) (bE (wn rfl rfl) (bE (wn rfl rfl) (bE (wn rfl rfl) (ah (aa (vB true) (aa (vB true) (af ?_))))))))))))
      obtain rfl:=ae h_15
      exact cu
     ·refine ay rfl hc_18 wz (aR oJ rfl 1 rfl wa (aY 0 0 il ft sz9 ag9 rfl rfl (vS x_5.Class) rfl wa (aG (vB (sNe x_5.Class (⟨#[]⟩:ByteArray))) wa rfl ?_)))
      rcases aj h_15 with⟨hc_19,h_15⟩|⟨hc_19,h_15⟩
      ·refine ay rfl hc_19 wa (aR oJ rfl 1 rfl wa (aY 0 0 il ft sz9 ag9 rfl rfl (vS x_5.Class) rfl wa ?_))
       obtain ⟨r_20,hr_21,h_15⟩:=bind_some h_15
       refine aD (qw hr_21) rfl hb27 rfl rfl rfl rfl wa (aG (vB (!r_20)) wa rfl (aG (vB (!r_20)) wa rfl (aa (vB (!r_20)) (aa (vB (!r_20)) (af ?_)))))
       obtain rfl:=ae h_15
       exact cu
      ·refine ay rfl hc_19 wa (ah (ah (ah (ah (aG (vB false) wa rfl (aa (vB false) (aa (vB false) (af ?_))))))))
       obtain rfl:=ae h_15
       exact cu
    ·rintro ⟨⟩ _ sl_ H_ hp_ hq_
     refine bu _ hp_ hq_ ?_
     rcases aj hc_9 with⟨hc_22,hc_9⟩|⟨hc_22,hc_9⟩
     ·refine aJ rfl hc_22 (ai (aa (vI 5) (af ?_)))
      obtain rfl:=ae hc_9
      obtain rfl:=ae hL_10
      obtain rfl:=ae hF
      exact aA (aO [(vI 5)] ⟨rfl,trivial⟩)
     ·refine aI rfl hc_22 (ai (aR mf rfl 0 rfl wz (aY 0 0 il ft sz9 ag9 rfl rfl (vS x_5.Key) rfl wz (aa (vS s_8) (aa (vB (sLe x_5.Key s_8)) (aa (vB (sLe x_5.Key s_8)) (af ?_)))))))
      rcases aj hc_9 with⟨hc_23,hc_9⟩|⟨hc_23,hc_9⟩
      ·refine aJ rfl hc_23 (ai (aa (vI 7) (af ?_)))
       obtain rfl:=ae hc_9
       obtain rfl:=ae hL_10
       obtain rfl:=ae hF
       exact aA (aO [(vI 7)] ⟨rfl,trivial⟩)
      ·refine aI rfl hc_23 (au ?_)
       obtain ⟨v_24,h_25,hc_9⟩:=bind_some hc_9
       refine bg [(5,(.ref n_13 0 0)),(10,(vL Campaign.enc l_1)),(11,(vI (l_1.length:Int))),(12,(vI (k_3:Int))),(37,(vB v_24))] [(n_13,some (.cells 8 (Campaign.v x_5)))] ?_ ?_
       ·refine av (aR iW rfl 2 rfl wz (aR mV rfl 2 rfl wz (aY 0 0 il ft sz3 ag3 rfl rfl (vI x_5.Time.From) rfl wz (aa (vB (decide (x_5.Time.From<0))) ?_))))
        rcases aj h_25 with⟨hc_26,h_25⟩|⟨hc_26,h_25⟩
        ·refine ay rfl hc_26 wz (ah (ah (ah (ah (ah (ah (ah (aa (vB true) (aa (vB true) (ah (ah (ah (ah (aa (vB true) (aa (vB true) (ah (ah (ah (ah (aa (vB true) (aa (vB true) (ah (ah ?_)))))))))))))))))))))))
         refine ah (ah (aa (vB true) (aa (vB true) (ah (ah (ah (ah (aa (vB true) (aa (vB true) (af ?_))))))))))
         obtain rfl:=ae h_25
         exact cu
        ·refine ay rfl hc_26 wz (aR iW rfl 2 rfl wa (aR mV rfl 2 rfl wa (aY 0 0 il ft sz3 ag3 rfl rfl (vI x_5.Time.From) rfl wa (aR iW rfl 2 rfl wa (aR nu rfl 3 rfl wa (aY 0 0 il ft sz3 ag3 rfl rfl (vI x_5.Time.To) rfl wa (aG (vB (decide (x_5.Time.From>=x_5.Time.To))) wa rfl (aa (vB (decide (x_5.Time.From>=x_5.Time.To))) ?_))))))))
         rcases aj h_25 with⟨hc_27,h_25⟩|⟨hc_27,h_25⟩
         ·refine ay rfl hc_27 wz (ah (ah (ah (ah (aa (vB true) (aa (vB true) (ah (ah (ah (ah (aa (vB true) (aa (vB true) (ah (ah (ah (ah (aa (vB true) (aa (vB true) (ah (ah (ah (ah (aa (vB true) ?_)))))))))))))))))))))))
          refine aa (vB true) (af ?_)
          obtain rfl:=ae h_25
          exact cu
         ·refine ay rfl hc_27 wz (aR iW rfl 2 rfl wa (aR nu rfl 3 rfl wa (aY 0 0 il ft sz3 ag3 rfl rfl (vI x_5.Time.To) rfl wa (aG (vB (decide (x_5.Time.To>345686400000))) wa rfl (aa (vB (decide (x_5.Time.To>345686400000))) ?_)))))
          rcases aj h_25 with⟨hc_28,h_25⟩|⟨hc_28,h_25⟩
          ·refine ay rfl hc_28 wz (ah (ah (ah (ah (aa (vB true) (aa (vB true) (ah (ah (ah (ah (aa (vB true) (aa (vB true) (ah (ah (ah (ah (aa (vB true) (aa (vB true) (af ?_)))))))))))))))))))
           obtain rfl:=ae h_25
           exact cu
          ·refine ay rfl hc_28 wz (aR qj rfl 5 rfl wa (aY 0 0 il ft sz3 ag3 rfl rfl (vI x_5.Goal) rfl wa ?_))
           obtain ⟨r_29,hr_30,h_25⟩:=bind_some h_25
           refine aD (pI hr_30) rfl hb28 rfl rfl rfl rfl wa (aG (vB (!r_29)) wa rfl (aa (vB (!r_29)) ?_))
           rcases aj h_25 with⟨hc_31,h_25⟩|⟨hc_31,h_25⟩
           ·refine ay rfl hc_31 wz (ah (ah (ah (ah (aa (vB true) (aa (vB true) (ah (ah (ah (ah (aa (vB true) (aa (vB true) (af ?_)))))))))))))
            obtain rfl:=ae h_25
            exact cu
           ·refine ay rfl hc_31 wz (aR wW rfl 6 rfl wa (aY 0 0 il ft sz3 ag3 rfl rfl (vI x_5.Most) rfl wa ?_))
            obtain ⟨r_32,hr_33,h_25⟩:=bind_some h_25
            refine aD (pI hr_33) rfl hb28 rfl rfl rfl rfl wa (aG (vB (!r_32)) wa rfl (aa (vB (!r_32)) ?_))
            rcases aj h_25 with⟨hc_34,h_25⟩|⟨hc_34,h_25⟩
            ·refine ay rfl hc_34 wz (ah (ah (ah (ah (aa (vB true) (aa (vB true) (af ?_)))))))
             obtain rfl:=ae h_25
             exact cu
            ·refine ay rfl hc_34 wz (aR uV rfl 7 rfl wa (aY 0 0 il ft sz3 ag3 rfl rfl (vI x_5.Cents) rfl wa ?_))
             obtain ⟨r_35,hr_36,h_25⟩:=bind_some h_25
             refine aD (pI hr_36) rfl hb28 rfl rfl rfl rfl wa (aG (vB (!r_35)) wa rfl (aa (vB (!r_35)) (aa (vB (!r_35)) (af ?_))))
             obtain rfl:=ae h_25
             exact cu
       ·rintro ⟨⟩ _ sl_ H_ hp_ hq_
        refine bu _ hp_ hq_ ?_
        rcases aj hc_9 with⟨hc_37,hc_9⟩|⟨hc_37,hc_9⟩
        ·refine aJ rfl hc_37 (ai (aa (vI 1) (af ?_)))
         obtain rfl:=ae hc_9
         obtain rfl:=ae hL_10
         obtain rfl:=ae hF
         exact aA (aO [(vI 1)] ⟨rfl,trivial⟩)
        ·refine aI rfl hc_37 (aF (ai (aR mf rfl 0 rfl wz (aY 0 0 il ft sz9 ag9 rfl rfl (vS x_5.Key) rfl wz (aa (vS x_5.Key) (af (ai (aR kX rfl 4 rfl wz (aY 0 0 il ft uq zQ rfl rfl (vL eS x_5.Tags) rfl wz ?_)))))))))
         obtain ⟨r_38,hr_39,hc_9⟩:=bind_some hc_9
         refine aD (sI hr_39) rfl hb29 rfl rfl rfl rfl wz (aa (vI r_38) (af (ai (aa (vI r_38) (aa (vB (r_38 != 0)) (af ?_))))))
         rcases aj hc_9 with⟨hc_40,hc_9⟩|⟨hc_40,hc_9⟩
         ·refine aJ rfl hc_40 (ai (aa (vI r_38) (aa (vI r_38) (af ?_))))
          obtain rfl:=ae hc_9
          obtain rfl:=ae hL_10
          obtain rfl:=ae hF
          exact aA (aO [(vI r_38)] ⟨rfl,trivial⟩)
         ·refine aI rfl hc_40 (aF (av (iL (dI hD_6 hn_7) wz rfl (aa (vI ((k_3+1:Nat):Int)) (af ?_)))))
          obtain rfl:=ae hc_9
          exact dJ (k_3+1,l_4,x_5.Key) ⟨hL_10,bP hD_6⟩ (ls_ _) rfl (aX rfl)
  ·rintro s_8 ho_ sl_ H_ hp_ hq_
   subst ho_
   refine bu _ hp_ hq_ (ai (aa (vI 0) (af ?_)))
   obtain rfl:=ae hF
   exact aA (aO [(vI 0)] ⟨rfl,trivial⟩)
theorem ik {x0:ByteArray} {x1:ByteArray} {r:(List ByteArray)} (hF:strings_Split x0 x1=some r) :
  FnM Tryz.prog 52 [(vS x0),(vS x1)] [] (vL eS r) [] :=
 D8 rfl Tryz.strings_Split tT hF
theorem yU {s_1:ByteArray} {r:(List ByteArray)×Bool} (hF:o5 s_1=some r) :
  FnM Tryz.prog 31 [(vS s_1)] [] (.tup [(vL eS r.1),(vB r.2)]) []:=by
 refine FnM.of_wH ⟨Tryz.prog,19,[],[]⟩ rfl Tryz.func31 rfl rfl (lb_ rfl) (by kernel_rfl) ?_
 unfold o5 at hF
 refine ai (aa .nil (aa (vB false) (af (ai (aa (vS s_1) ?_)))))
 obtain ⟨r_2,hr_3,hF⟩:=bind_some hF
 refine aD (ik hr_3) rfl Fs rfl rfl rfl rfl wz (aa (vL eS r_2) (af (ai (aa (vL eS r_2) (eH lw rfl wz (aa (vI (w64 ((r_2.length:Int)-1))) (aa (vI (w64 ((r_2.length:Int)-1))) (af (au (ai (aa (vL eS r_2) (aa (vI (w64 ((r_2.length:Int)-1))) ?_))))))))))))
 obtain ⟨y_4,hy_5,hF⟩:=bind_some hF
 refine gL fV rfl rfl hy_5 rfl wz (dY sz9 ag9 rfl (vS y_4) rfl wz (aa (vB (sEq y_4 (⟨#[]⟩:ByteArray))) (af ?_)))
 rcases aj hF with⟨hc_6,hF⟩|⟨hc_6,hF⟩
 ·refine aJ rfl hc_6 (ai (aa (vL eS r_2) (aa (vI (w64 ((r_2.length:Int)-1))) ?_)))
  obtain ⟨y_7,hy_8,hF⟩:=bind_some hF
  refine kE lw sz9 (λ_=>rfl) rfl rfl hy_8 wz (aa (vL eS y_7) (aa (vB true) (af ?_)))
  obtain rfl:=ae hF
  exact aA (aO [(vL eS y_7),(vB true)] ⟨rfl,⟨rfl,trivial⟩⟩)
 ·refine aI rfl hc_6 (aF (ai (aa (vL eS r_2) (aa (vL eS r_2) (aa (vB false) (af ?_))))))
  obtain rfl:=ae hF
  exact aA (aO [(vL eS r_2),(vB false)] ⟨rfl,⟨rfl,trivial⟩⟩)
theorem j4 {s_1:(List ByteArray)} {v_2:ByteArray} {r:Int} (hF:dN s_1 v_2=some r) :
  FnM Tryz.prog 68 [(vL eS s_1),(vS v_2)] [] (vI r) []:=by
 refine FnM.of_wH ⟨Tryz.prog,19,[],[]⟩ rfl Tryz.func68 rfl rfl (lb_ rfl) (by kernel_rfl) ?_
 unfold dN at hF
 refine ai (aa (vI 0) (af (au (ai (aa (vL eS s_1) (eH lw rfl wz (aa (vI 0) (af ?_))))))))
 obtain ⟨o_11,hj_12,hF⟩:=bind_some hF
 obtain ⟨hn_7,hj_12⟩:=dh hj_12
 refine iy (λ(s_8:Unit)=>[]) (λ(s_8:Unit)=>[]) (λ(k_3:Nat)=>(λ(s_8:Unit)=>[(0,(vL eS s_1)),(1,(vS v_2)),(7,(vI (s_1.length:Int))),(8,(vI (k_3:Int)))])) (λk x s=>bN v_2 k x s) o_11 s_1 () hj_12 rfl (aX rfl) ?_ ?_
 ·rintro ⟨k_3,l_4,s_8⟩ ⟨hL_10,hD_6⟩
  dsimp only at hL_10 hD_6
  cases l_4 with
  | nil =>
   obtain rfl:=ae hL_10
   refine ai (aa (vB (decide ((k_3:Int)<(s_1.length:Int)))) (af ?_))
   refine au (aI rfl (drop_nil hD_6) (dK ?_))
   exact dx (s_8) rfl rfl (aX rfl)
  | cons x_5 l_4 =>
   obtain ⟨c_,hc_9,hL_10⟩:=bind_some hL_10
   refine ai (aa (vB (decide ((k_3:Int)<(s_1.length:Int)))) (af ?_))
   refine au (aJ rfl (dH hD_6) (aF ?_))
   unfold bN at hc_9
   refine au (bz (ai (aa (vI (k_3:Int)) (aa (vI (k_3:Int)) (af (ai (aa (vS v_2) (aa (vL eS s_1) (aa (vI (k_3:Int)) (gL fV rfl rfl (d9 hD_6) rfl wz (dY sz9 ag9 rfl (vS x_5) rfl wz (aa (vB (sEq v_2 x_5)) (af ?_)))))))))))))
   rcases aj hc_9 with⟨hc_13,hc_9⟩|⟨hc_13,hc_9⟩
   ·refine aJ rfl hc_13 (ai (aa (vI (k_3:Int)) (aa (vI (k_3:Int)) (af ?_))))
    obtain rfl:=ae hc_9
    obtain rfl:=ae hL_10
    obtain rfl:=ae hF
    exact aA (aO [(vI (k_3:Int))] ⟨rfl,trivial⟩)
   ·refine aI rfl hc_13 (aF (av (iL (dI hD_6 hn_7) wz rfl (aa (vI ((k_3+1:Nat):Int)) (af ?_)))))
    obtain rfl:=ae hc_9
    exact dJ (k_3+1,l_4,()) ⟨hL_10,bP hD_6⟩ (ls_ _) rfl (aX rfl)
 ·rintro s_8 ho_ sl_ H_ hp_ hq_
  subst ho_
  refine bu _ hp_ hq_ (ai (aa (vI (-1)) (af ?_)))
  obtain rfl:=ae hF
  exact aA (aO [(vI (-1))] ⟨rfl,trivial⟩)
theorem bS {s_1:(List ByteArray)} {v_2:ByteArray} {r:Bool} (hF:aQ s_1 v_2=some r) :
  FnM Tryz.prog 55 [(vL eS s_1),(vS v_2)] [] (vB r) []:=by
 refine FnM.of_wH ⟨Tryz.prog,9,[],[]⟩ rfl Tryz.func55 rfl rfl (lb_ rfl) (by kernel_rfl) ?_
 unfold aQ at hF
 refine ai (aa (vB false) (af (ai (aa (vL eS s_1) (aa (vS v_2) ?_)))))
 obtain ⟨r_3,hr_4,hF⟩:=bind_some hF
 refine aD (j4 hr_4) rfl hb68 rfl rfl rfl rfl wz (aa (vB (decide (r_3>=0))) (aa (vB (decide (r_3>=0))) (af ?_)))
 obtain rfl:=ae hF
 exact aA (aO [(vB (decide (r_3>=0)))] ⟨rfl,trivial⟩)
theorem yR {s_1:ByteArray} {r:(List ByteArray)×Bool} (hF:kV s_1=some r) :
  FnM Tryz.prog 53 [(vS s_1)] [] (.tup [(vL eS r.1),(vB r.2)]) []:=by
 refine FnM.of_wH ⟨Tryz.prog,11,[],[]⟩ rfl Tryz.func53 rfl rfl (lb_ rfl) (by kernel_rfl) ?_
 unfold kV at hF
 refine ai (aa .nil (aa (vB false) (af (ai (aa (vS s_1) ?_)))))
 obtain ⟨r_2,hr_3,hF⟩:=bind_some hF
 refine aD (ik hr_3) rfl Fs rfl rfl rfl rfl wz (aa (vL eS r_2) (af (ai (aa (vL eS r_2) (aa (vL eS r_2) ?_)))))
 obtain ⟨r_4,hr_5,hF⟩:=bind_some hF
 refine aD (bS hr_5) rfl hb55 rfl rfl rfl rfl wz (aa (vB (!r_4)) (aa (vL eS r_2) (aa (vB (!r_4)) (af ?_))))
 obtain rfl:=ae hF
 exact aA (aO [(vL eS r_2),(vB (!r_4))] ⟨rfl,⟨rfl,trivial⟩⟩)
theorem jg {s_1:ByteArray} {prefixv_2:ByteArray} {r:Bool} (hF:bK s_1 prefixv_2=some r) :
  FnM Tryz.prog 92 [(vS s_1),(vS prefixv_2)] [] (vB r) []:=by
 refine FnM.of_wH ⟨Tryz.prog,18,[],[]⟩ rfl Tryz.func92 rfl rfl (lb_ rfl) (by kernel_rfl) ?_
 unfold bK at hF
 refine ai (aa (vB false) (af (au ?_)))
 obtain ⟨v_3,h_4,hF⟩:=bind_some hF
 refine bg [(4,(vB v_3))] [] ?_ ?_
 ·refine av (aa (vS s_1) (gG un9 rfl wz (aa (vS prefixv_2) (gG un9 rfl wz (aa (vB (decide ((s_1.size:Int)>=(prefixv_2.size:Int)))) ?_)))))
  rcases aj h_4 with⟨hc_5,h_4⟩|⟨hc_5,h_4⟩
  ·refine ay rfl hc_5 wz (aG (vS s_1) wa rfl (aG (vS prefixv_2) wa rfl (gG un9 rfl wa ?_)))
   obtain ⟨y_6,hy_7,h_4⟩:=bind_some h_4
   refine fT un9 rfl rfl hy_7 wa (aG (vS prefixv_2) wa rfl (aG (vB (sEq y_6 prefixv_2)) wa rfl (aa (vB (sEq y_6 prefixv_2)) (aa (vB (sEq y_6 prefixv_2)) (af ?_)))))
   obtain rfl:=ae h_4
   exact cu
  ·refine ay rfl hc_5 wz (ah (ah (ah (ah (ah (ah (aa (vB false) (aa (vB false) (af ?_)))))))))
   obtain rfl:=ae h_4
   exact cu
 ·rintro ⟨⟩ _ sl_ H_ hp_ hq_
  refine bu _ hp_ hq_ ?_
  obtain rfl:=ae hF
  exact aA (aO [(vB v_3)] ⟨rfl,trivial⟩)
theorem iX {s_1:ByteArray} {prefixv_2:ByteArray} {r:ByteArray} (hF:bH s_1 prefixv_2=some r) :
  FnM Tryz.prog 79 [(vS s_1),(vS prefixv_2)] [] (vS r) []:=by
 refine FnM.of_wH ⟨Tryz.prog,13,[],[]⟩ rfl Tryz.func79 rfl rfl (lb_ rfl) (by kernel_rfl) ?_
 unfold bH at hF
 refine ai (aa (vS (⟨#[]⟩:ByteArray)) (af (au (ai (aa (vS s_1) (aa (vS prefixv_2) ?_))))))
 obtain ⟨r_3,hr_4,hF⟩:=bind_some hF
 refine aD (jg hr_4) rfl hb92 rfl rfl rfl rfl wz (af ?_)
 rcases aj hF with⟨hc_5,hF⟩|⟨hc_5,hF⟩
 ·refine aJ rfl hc_5 (ai (aa (vS s_1) (aa (vS prefixv_2) (gG un9 rfl wz ?_))))
  obtain ⟨y_6,hy_7,hF⟩:=bind_some hF
  refine gQ un9 rfl rfl hy_7 wz (aa (vS y_6) (af ?_))
  obtain rfl:=ae hF
  exact aA (aO [(vS y_6)] ⟨rfl,trivial⟩)
 ·refine aI rfl hc_5 (aF (ai (aa (vS s_1) (aa (vS s_1) (af ?_)))))
  obtain rfl:=ae hF
  exact aA (aO [(vS s_1)] ⟨rfl,trivial⟩)
theorem jw {s_1:ByteArray} {prefixv_2:ByteArray} {r:ByteArray} (hF:strings_TrimPrefix s_1 prefixv_2=some r) :
  FnM Tryz.prog 66 [(vS s_1),(vS prefixv_2)] [] (vS r) []:=by
 refine FnM.of_wH ⟨Tryz.prog,8,[],[]⟩ rfl Tryz.func66 rfl rfl (lb_ rfl) (by kernel_rfl) ?_
 unfold strings_TrimPrefix at hF
 refine ai (aa (vS (⟨#[]⟩:ByteArray)) (af (ai (aa (vS s_1) (aa (vS prefixv_2) ?_)))))
 obtain ⟨r_3,hr_4,hF⟩:=bind_some hF
 refine aD (iX hr_4) rfl hb79 rfl rfl rfl rfl wz (aa (vS r_3) (af ?_))
 obtain rfl:=ae hF
 exact aA (aO [(vS r_3)] ⟨rfl,trivial⟩)
theorem strconv_Atoi_ok {x0:ByteArray} {r:Int} (hF:strconv_Atoi x0=some r) :
  FnM Tryz.prog 67 [(.d (.str x0))] [] (.tup [(.d (.int .i64 r)),.nili]) [] :=
 atoi_ok rfl Tryz.strconv_Atoi hF
theorem xe {s_1:ByteArray} {most_2:Int} {r:Int×Bool} (hF:lN s_1 most_2=some r) :
  FnM Tryz.prog 54 [(vS s_1),(vI most_2)] [] (.tup [(vI r.1),(vB r.2)]) []:=by
 refine FnM.of_wH ⟨Tryz.prog,53,[],[]⟩ rfl Tryz.func54 rfl rfl (lb_ rfl) (by kernel_rfl) ?_
 unfold lN at hF
 refine ai (aa (vI 0) (aa (vB false) (af (ai (aa (vS s_1) ?_)))))
 obtain ⟨r_3,hr_4,hF⟩:=bind_some hF
 refine aD (jw hr_4) rfl hb66 rfl rfl rfl rfl wz (aa (vS r_3) (af (au (au ?_))))
 obtain ⟨v_5,h_6,hF⟩:=bind_some hF
 refine bg [(0,(vS s_1)),(6,(vS r_3)),(28,(vB v_5))] [] ?_ ?_
 ·refine av (aa (vS r_3) (aa (vB (sEq r_3 (⟨#[]⟩:ByteArray))) ?_))
  rcases aj h_6 with⟨hc_7,h_6⟩|⟨hc_7,h_6⟩
  ·refine ay rfl hc_7 wz (ah (ah (ah (ah (aa (vB true) (aa (vB true) (ah (ah (ah (ah (bE (wn rfl rfl) (bE (wn rfl rfl) (ah (aa (vB true) (af ?_)))))))))))))))
   obtain rfl:=ae h_6
   exact cu
  ·refine ay rfl hc_7 wz (aG (vS r_3) wa rfl (gG un9 rfl wa (aG (vI most_2) wa rfl (aG (vB (decide ((r_3.size:Int)>most_2))) wa rfl (aa (vB (decide ((r_3.size:Int)>most_2))) ?_)))))
   rcases aj h_6 with⟨hc_8,h_6⟩|⟨hc_8,h_6⟩
   ·refine ay rfl hc_8 wz (ah (ah (ah (ah (bE (wn rfl rfl) (bE (wn rfl rfl) (ah (aa (vB true) (af ?_)))))))))
    obtain rfl:=ae h_6
    exact cu
   ·refine ay rfl hc_8 wz (aG (vS r_3) wa rfl ?_)
    obtain ⟨b_9,hy_10,h_6⟩:=bind_some h_6
    refine ql un9 rfl rfl hy_10 wa (aG (vB ((b_9.toNat:Int)==48)) wa rfl ?_)
    rcases aj h_6 with⟨hc_11,h_6⟩|⟨hc_11,h_6⟩
    ·refine ay rfl hc_11 wa (aG (vS s_1) wa rfl (aG (vB (sNe s_1 (⟨#[48]⟩:ByteArray))) wa rfl (aG (vB (sNe s_1 (⟨#[48]⟩:ByteArray))) wa rfl (aa (vB (sNe s_1 (⟨#[48]⟩:ByteArray))) (af ?_)))))
     obtain rfl:=ae h_6
     exact cu
    ·refine ay rfl hc_11 wa (ah (ah (aG (vB false) wa rfl (aa (vB false) (af ?_)))))
     obtain rfl:=ae h_6
     exact cu
 ·rintro ⟨⟩ _ sl_ H_ hp_ hq_
  refine bu _ hp_ hq_ ?_
  rcases aj hF with⟨hc_12,hF⟩|⟨hc_12,hF⟩
  ·refine aJ rfl hc_12 (ai (aa (vI 0) (aa (vB false) (af ?_))))
   obtain rfl:=ae hF
   exact aA (aO [(vI 0),(vB false)] ⟨rfl,⟨rfl,trivial⟩⟩)
  ·refine aI rfl hc_12 (aF (au (ai (aa (vI 0) (af ?_)))))
   obtain ⟨o_21,hj_22,hF⟩:=bind_some hF
   obtain ⟨nq_34,hj_22⟩:=qh hj_22
   refine yx (λ(s_18:Int)=>[(0,(vS s_1))]) (λ(s_18:Int)=>[]) (λ(k_13:Nat)=>(λ(s_18:Int)=>[(0,(vS s_1)),(6,(vS r_3)),(7,(vI s_18))])) (λs=>dZ r_3 s) o_21 nq_34 0 hj_22 rfl (aX rfl) ?_ ?_
   ·rintro ⟨k_13,s_18⟩ hL_20
    dsimp only at hL_20
    cases k_13 with
    | zero=>cases hL_20
    | succ k_13 =>
     obtain ⟨c_,hc_19,hL_20⟩:=bind_some hL_20
     unfold dZ at hc_19
     refine au (ai (aa (vI s_18) (aa (vS r_3) (gG un9 rfl wz (aa (vB (decide (s_18<(r_3.size:Int)))) (af ?_))))))
     rcases aj hc_19 with⟨hc_23,hc_19⟩|⟨hc_23,hc_19⟩
     ·refine aJ rfl hc_23 (aF (au (bz (au ?_))))
      obtain ⟨v_24,h_25,hc_19⟩:=bind_some hc_19
      refine bg [(0,(vS s_1)),(6,(vS r_3)),(7,(vI s_18)),(44,(vB v_24))] [] ?_ ?_
      ·refine av (aa (vS r_3) (aa (vI s_18) ?_))
       obtain ⟨b_26,hy_27,h_25⟩:=bind_some h_25
       refine ql un9 rfl rfl hy_27 wz (aa (vB (decide ((b_26.toNat:Int)<48))) ?_)
       rcases aj h_25 with⟨hc_28,h_25⟩|⟨hc_28,h_25⟩
       ·refine ay rfl hc_28 wz (ah (ah (ah (ah (aa (vB true) (af ?_))))))
        obtain rfl:=ae h_25
        exact cu
       ·refine ay rfl hc_28 wz (aG (vS r_3) wa rfl (aG (vI s_18) wa rfl ?_))
        obtain ⟨b_29,hy_30,h_25⟩:=bind_some h_25
        refine ql un9 rfl rfl hy_30 wa (aG (vB (decide ((b_29.toNat:Int)>57))) wa rfl (aa (vB (decide ((b_29.toNat:Int)>57))) (af ?_)))
        obtain rfl:=ae h_25
        exact cu
      ·rintro ⟨⟩ _ sl_ H_ hp_ hq_
       refine bu _ hp_ hq_ ?_
       rcases aj hc_19 with⟨hc_31,hc_19⟩|⟨hc_31,hc_19⟩
       ·refine aJ rfl hc_31 (ai (aa (vI 0) (aa (vB false) (af ?_))))
        obtain rfl:=ae hc_19
        obtain rfl:=ae hL_20
        obtain rfl:=ae hF
        exact aA (aO [(vI 0),(vB false)] ⟨rfl,⟨rfl,trivial⟩⟩)
       ·refine aI rfl hc_31 (aF (av (aa (vI s_18) (aa (vI (w64 (s_18+1))) (aa (vI (w64 (s_18+1))) (af ?_))))))
        obtain rfl:=ae hc_19
        exact dJ (k_13,(w64 (s_18+1))) hL_20 (ls_ _) rfl (aX rfl)
     ·refine aI rfl hc_23 (dK ?_)
      obtain rfl:=ae hc_19
      obtain rfl:=ae hL_20
      exact dx (s_18) rfl rfl (aX rfl)
   ·rintro s_18 ho_ sl_ H_ hp_ hq_
    subst ho_
    refine bu _ hp_ hq_ (ai (aa (vS s_1) ?_))
    obtain ⟨r_32,hr_33,hF⟩:=bind_some hF
    refine aD (strconv_Atoi_ok hr_33) rfl hb67 rfl rfl rfl rfl wz (aa (.tup [(vI r_32),.nili]) (aa (vI r_32) (aa .nili (aa (vI r_32) (aa .nili (af (au (fD (aa (vI r_32) (aa .nili (h_ieq if58 rfl rfl rfl wz (aa (vI r_32) (aa (vB true) (af ?_))))))))))))))
    obtain rfl:=ae hF
    exact aA (aO [(vI r_32),(vB true)] ⟨rfl,⟨rfl,trivial⟩⟩)
theorem mG {line_1:ByteArray} {r:Campaign×Bool} (hF:bZ line_1=some r) :
  FnM Tryz.prog 32 [(vS line_1)] [] (.tup [(.d (.agg (Campaign.enc r.1))),(vB r.2)]) []:=by
 refine FnM.of_wH ⟨Tryz.prog,87,[],[]⟩ rfl Tryz.func32 rfl rfl (lb_ rfl) (by kernel_rfl) ?_
 unfold bZ at hF
 refine ai (iO 0 (.inl rfl) z41 rfl wz (λn_2=>aa (vB false) (af (ai (aa (vS line_1) ?_)))))
 obtain ⟨r_3,hr_4,hF⟩:=bind_some hF
 refine aD (yR hr_4) rfl hb53 rfl rfl rfl rfl wz (aa (.tup [(vL eS r_3.1),(vB r_3.2)]) (aa (vL eS r_3.1) (aa (vB r_3.2) (aa (vL eS r_3.1) (aa (vB r_3.2) (af (au (au ?_))))))))
 obtain ⟨v_5,h_6,hF⟩:=bind_some hF
 refine bg [(2,(.ref n_2 0 0)),(4,(vL eS r_3.1)),(23,(vB v_5))] [(n_2,some (.cells 8 [(vS (⟨#[]⟩:ByteArray)),(vS (⟨#[]⟩:ByteArray)),(vI 0),(vI 0),.nil,(vI 0),(vI 0),(vI 0)]))] ?_ ?_
 ·refine av (aa (vB r_3.2) (aa (vB (!r_3.2)) ?_))
  rcases aj h_6 with⟨hc_7,h_6⟩|⟨hc_7,h_6⟩
  ·refine ay rfl hc_7 wz (ah (ah (ah (aa (vB true) (af ?_)))))
   obtain rfl:=ae h_6
   exact cu
  ·refine ay rfl hc_7 wz (aG (vL eS r_3.1) wa rfl (eH lw rfl wa (aG (vB ((r_3.1.length:Int) != 8)) wa rfl (aa (vB ((r_3.1.length:Int) != 8)) (af ?_)))))
   obtain rfl:=ae h_6
   exact cu
 ·rintro ⟨⟩ _ sl_ H_ hp_ hq_
  refine bu _ hp_ hq_ ?_
  rcases aj hF with⟨hc_8,hF⟩|⟨hc_8,hF⟩
  ·refine aJ rfl hc_8 (ai (aG (.agg [(vS (⟨#[]⟩:ByteArray)),(vS (⟨#[]⟩:ByteArray)),(vI 0),(vI 0),.nil,(vI 0),(vI 0),(vI 0)]) wz (by kernel_rfl) (ji 0 il ft 0 gD rfl rfl [(vS (⟨#[]⟩:ByteArray)),(vS (⟨#[]⟩:ByteArray)),(vI 0),(vI 0),.nil,(vI 0),(vI 0),(vI 0)] rfl wz (aa (vB false) (af ?_)))))
   obtain rfl:=ae hF
   exact aA (aO [(.agg [(vS (⟨#[]⟩:ByteArray)),(vS (⟨#[]⟩:ByteArray)),(vI 0),(vI 0),.nil,(vI 0),(vI 0),(vI 0)]),(vB false)] ⟨⟨0,_,_,_,_,_,_,_,rfl,rfl,gD,mD,rfl⟩,⟨rfl,trivial⟩⟩)
  ·refine aI rfl hc_8 (aF (ai (aa .nil (af (au (ai (aa (vL eS r_3.1) ?_)))))))
   obtain ⟨y_9,hy_10,hF⟩:=bind_some hF
   refine vP lw sz9 (λ_=>rfl) rfl rfl rfl hy_10 wz (eH lw rfl wz (aa (vI 0) (af (oI (λn_17 => ?_)))))
   obtain ⟨o_22,hj_23,hF⟩:=bind_some hF
   obtain ⟨hn_15,hj_23⟩:=dh hj_23
   refine iM (σ:=(List Int)) (N:=Nm) (λp=>(λ(s_16:List Int) (n_19:Nm)=>([(2,(.ref n_2 0 0)),(4,(vL eS r_3.1)),(6,(gV n_19 1 s_16))]:SL_)) p.1 p.2) (λp=>(λ(s_16:List Int) (n_19:Nm)=>([(n_2,some (.cells 8 [(vS (⟨#[]⟩:ByteArray)),(vS (⟨#[]⟩:ByteArray)),(vI 0),(vI 0),.nil,(vI 0),(vI 0),(vI 0)])),(n_19,gB 1 eI s_16)]:Hp)) p.1 p.2) (λ(k_11:Nat)=>(λp=>(λ(s_16:List Int) (n_19:Nm)=>([(2,(.ref n_2 0 0)),(4,(vL eS r_3.1)),(6,(gV n_19 1 s_16)),(26,(vL eS y_9)),(27,(vI (y_9.length:Int))),(28,(vI (k_11:Int)))]:SL_)) p.1 p.2)) (λk x s=>bn k x s) o_22 y_9 (([]:List Int),n_17) hj_23 rfl (aX rfl) ?_ ?_
   ·rintro ⟨k_11,l_12,s_16,n_19⟩ ⟨hL_21,hD_14⟩
    dsimp only at hL_21 hD_14
    cases l_12 with
    | nil =>
     obtain rfl:=ae hL_21
     refine ai (aa (vB (decide ((k_11:Int)<(y_9.length:Int)))) (af ?_))
     refine au (aI rfl (drop_nil hD_14) (dK ?_))
     exact dx (s_16,n_19) rfl rfl (aX rfl)
    | cons x_13 l_12 =>
     obtain ⟨c_,hc_20,hL_21⟩:=bind_some hL_21
     refine ai (aa (vB (decide ((k_11:Int)<(y_9.length:Int)))) (af ?_))
     refine au (aJ rfl (dH hD_14) (aF ?_))
     unfold bn at hc_20
     refine au (bz (ai (gL fV rfl rfl (d9 hD_14) rfl wz (dY sz9 ag9 rfl (vS x_13) rfl wz (aa (vS x_13) (af (ai (aa (vS x_13) ?_))))))))
     obtain ⟨r_24,hr_25,hc_20⟩:=bind_some hc_20
     refine aD (xe hr_25) rfl hb54 rfl rfl rfl rfl wz (aa (.tup [(vI r_24.1),(vB r_24.2)]) (aa (vI r_24.1) (aa (vB r_24.2) (aa (vI r_24.1) (aa (vB r_24.2) (af (au (ai (aa (vB r_24.2) (aa (vB (!r_24.2)) (af ?_)))))))))))
     rcases aj hc_20 with⟨hc_26,hc_20⟩|⟨hc_26,hc_20⟩
     ·refine aJ rfl hc_26 (ai (aG (.agg [(vS (⟨#[]⟩:ByteArray)),(vS (⟨#[]⟩:ByteArray)),(vI 0),(vI 0),.nil,(vI 0),(vI 0),(vI 0)]) wz (by kernel_rfl) (ji 0 il ft 0 gD rfl rfl [(vS (⟨#[]⟩:ByteArray)),(vS (⟨#[]⟩:ByteArray)),(vI 0),(vI 0),.nil,(vI 0),(vI 0),(vI 0)] rfl wz (aa (vB false) (af ?_)))))
      obtain rfl:=ae hc_20
      obtain rfl:=ae hL_21
      obtain rfl:=ae hF
      exact aA (aO [(.agg [(vS (⟨#[]⟩:ByteArray)),(vS (⟨#[]⟩:ByteArray)),(vI 0),(vI 0),.nil,(vI 0),(vI 0),(vI 0)]),(vB false)] ⟨⟨0,_,_,_,_,_,_,_,rfl,rfl,gD,mD,rfl⟩,⟨rfl,trivial⟩⟩)
     ·refine aI rfl hc_26 (aF (av (aa (gV n_19 1 s_16) (aa (vI r_24.1) (dU (([r_24.1]:List Int).map eI) je pJ rfl rfl rfl rfl rfl wz ?_)))))
      obtain ⟨a_27,hz_28,hc_20⟩:=bind_some hc_20
      refine nE 0 il ft (i:=1) el22 el22 sz3 z3 rfl (by decide) by3 (by decide) (λ_=>rfl) rfl rfl rfl hz_28 wz (λn_29=>aa (gV n_29 1 a_27) (af (av (iL (dI hD_14 hn_15) wz rfl (aa (vI ((k_11+1:Nat):Int)) (af ?_))))))
      obtain rfl:=ae hc_20
      exact dJ (k_11+1,l_12,a_27,n_29) ⟨hL_21,bP hD_14⟩ (ls_ _) rfl (aX rfl)
   ·rintro ⟨s_16,n_19⟩ ho_ sl_ H_ hp_ hq_
    subst ho_
    refine bu _ hp_ hq_ (au (fD (aa (vL eS r_3.1) ?_)))
    obtain ⟨y_30,hy_31,hF⟩:=bind_some hF
    refine gL fV rfl rfl hy_31 rfl wz (dY sz9 ag9 rfl (vS y_30) rfl wz (aa (gV n_19 1 s_16) ?_))
    obtain ⟨_,hi_32,hF⟩:=bind_some hF
    refine sQ je rfl rfl (oz hi_32) (lS hi_32) wz ?_
    obtain ⟨e_33,hy_34,hF⟩:=bind_some hF
    refine tq 5 1 (.inr (by kernel_rfl)) (λ_ _ ag=>trivial) sz3 ag3 rfl rfl hy_34 (vI e_33) rfl wz (aa (gV n_19 1 s_16) ?_)
    obtain ⟨_,hi_35,hF⟩:=bind_some hF
    refine sQ je rfl rfl (oz hi_35) (lS hi_35) wz ?_
    obtain ⟨e_36,hy_37,hF⟩:=bind_some hF
    refine tq 8 1 (.inr (by kernel_rfl)) (λ_ _ ag=>⟨.inl ⟨rfl,rfl⟩,trivial⟩) sz3 ag3 rfl rfl hy_37 (vI e_36) rfl wz (aG (.d (.agg (Window.enc (⟨e_33,e_36⟩:Window)))) wz (by kernel_rfl) (aa (gV n_19 1 s_16) ?_))
    obtain ⟨_,hi_38,hF⟩:=bind_some hF
    refine sQ je rfl rfl (oz hi_38) (lS hi_38) wz ?_
    obtain ⟨e_39,hy_40,hF⟩:=bind_some hF
    refine tq 12 1 (.inr (by kernel_rfl)) (λ_ _ ag=>⟨.inl ⟨rfl,rfl⟩,⟨.inl ⟨rfl,rfl⟩,trivial⟩⟩) sz3 ag3 rfl rfl hy_40 (vI e_39) rfl wz (aa (gV n_19 1 s_16) ?_)
    obtain ⟨_,hi_41,hF⟩:=bind_some hF
    refine sQ je rfl rfl (oz hi_41) (lS hi_41) wz ?_
    obtain ⟨e_42,hy_43,hF⟩:=bind_some hF
    refine tq 15 1 (.inr (by kernel_rfl)) (λ_ _ ag=>⟨.inl ⟨rfl,rfl⟩,⟨.inl ⟨rfl,rfl⟩,⟨.inl ⟨rfl,rfl⟩,trivial⟩⟩⟩) sz3 ag3 rfl rfl hy_43 (vI e_42) rfl wz (aa (gV n_19 1 s_16) ?_)
    obtain ⟨_,hi_44,hF⟩:=bind_some hF
    refine sQ je rfl rfl (oz hi_44) (lS hi_44) wz ?_
    obtain ⟨e_45,hy_46,hF⟩:=bind_some hF
    refine tq 18 1 (.inr (by kernel_rfl)) (λ_ _ ag=>⟨.inl ⟨rfl,rfl⟩,⟨.inl ⟨rfl,rfl⟩,⟨.inl ⟨rfl,rfl⟩,⟨.inl ⟨rfl,rfl⟩,trivial⟩⟩⟩⟩) sz3 ag3 rfl rfl hy_46 (vI e_45) rfl wz (aG (.agg [(vS y_30),(vS (⟨#[]⟩:ByteArray)),(vI e_33),(vI e_36),.nil,(vI e_39),(vI e_42),(vI e_45)]) wz (by kernel_rfl) (iO 20 (.inr (by kernel_rfl)) z41 rfl wz (λn_47=>ji 21 (.inr (by kernel_rfl)) (λ_ _ ag=>⟨.inr (.inr (by kernel_rfl)),⟨.inr (.inr (by kernel_rfl)),⟨.inr (.inr (by kernel_rfl)),⟨.inr (.inr (by kernel_rfl)),⟨.inr (.inr (by kernel_rfl)),⟨.inr (.inr (by kernel_rfl)),trivial⟩⟩⟩⟩⟩⟩) 2 gD rfl rfl [(vS y_30),(vS (⟨#[]⟩:ByteArray)),(vI e_33),(vI e_36),.nil,(vI e_39),(vI e_42),(vI e_45)] rfl wz (af (au (ai (aa (vL eS r_3.1) ?_)))))))
    obtain ⟨y_48,hy_49,hF⟩:=bind_some hF
    refine gL fV rfl rfl hy_49 rfl wz (dY sz9 ag9 rfl (vS y_48) rfl wz (aa (vB (sNe y_48 (⟨#[45]⟩:ByteArray))) (af ?_)))
    obtain ⟨v_50,h_51,hF⟩:=bind_some hF
    refine bg [(2,(.ref n_2 0 0)),(4,(vL eS r_3.1)),(11,(.ref n_47 0 0))] [(n_2,some (.cells 8 [(vS (⟨#[]⟩:ByteArray)),(vS (⟨#[]⟩:ByteArray)),(vI 0),(vI 0),.nil,(vI 0),(vI 0),(vI 0)])),(n_19,gB 1 eI s_16),(n_47,some (.cells 8 [(vS y_30),(vS v_50),(vI e_33),(vI e_36),.nil,(vI e_39),(vI e_42),(vI e_45)]))] ?_ ?_
    ·rcases aj h_51 with⟨hc_52,h_51⟩|⟨hc_52,h_51⟩
     ·refine aJ rfl hc_52 (av (aa (vL eS r_3.1) ?_))
      obtain ⟨y_53,hy_54,h_51⟩:=bind_some h_51
      refine gL fV rfl rfl hy_54 rfl wz (dY sz9 ag9 rfl (vS y_53) rfl wz (aR oJ rfl 1 rfl wz (ji 0 il ft 2 sz9 rfl rfl [(vS y_30),(vS y_53),(vI e_33),(vI e_36),.nil,(vI e_39),(vI e_42),(vI e_45)] rfl wz (af ?_))))
      obtain rfl:=ae h_51
      exact cu
     ·refine aI rfl hc_52 (aF ?_)
      obtain rfl:=ae h_51
      exact cu
    ·rintro ⟨⟩ _ sl_ H_ hp_ hq_
     refine bu _ hp_ hq_ (au (ai (aa (vL eS r_3.1) ?_)))
     obtain ⟨y_55,hy_56,hF⟩:=bind_some hF
     refine gL fV rfl rfl hy_56 rfl wz (dY sz9 ag9 rfl (vS y_55) rfl wz (aa (vB (sNe y_55 (⟨#[45]⟩:ByteArray))) (af (wH_coc0 2 [(vS y_30),(vS v_50),(vI e_33),(vI e_36),(vL eS ([]:List ByteArray)),(vI e_39),(vI e_42),(vI e_45)] rfl (λS=>dC (rfl) (dC (rfl) (dC (rfl) (dC (rfl) (dC (rfl) (dC (rfl) (dC (rfl) (dC (rfl) (rfl))))))))) ?_))))
     obtain ⟨v_59,h_60,hF⟩:=bind_some hF
     refine bg [(2,(.ref n_2 0 0)),(11,(.ref n_47 0 0))] [(n_2,some (.cells 8 [(vS (⟨#[]⟩:ByteArray)),(vS (⟨#[]⟩:ByteArray)),(vI 0),(vI 0),.nil,(vI 0),(vI 0),(vI 0)])),(n_19,gB 1 eI s_16),(n_47,some (.cells 8 [(vS y_30),(vS v_50),(vI e_33),(vI e_36),(vL eS v_59),(vI e_39),(vI e_42),(vI e_45)]))] ?_ ?_
     ·rcases aj h_60 with⟨hc_61,h_60⟩|⟨hc_61,h_60⟩
      ·refine aJ rfl hc_61 (av (aa (vL eS r_3.1) ?_))
       obtain ⟨y_62,hy_63,h_60⟩:=bind_some h_60
       refine gL fV rfl rfl hy_63 rfl wz (dY sz9 ag9 rfl (vS y_62) rfl wz ?_)
       obtain ⟨r_64,hr_65,h_60⟩:=bind_some h_60
       refine aD (ik hr_65) rfl Fs rfl rfl rfl rfl wz (aR kX rfl 4 rfl wz (ji 0 il ft 2 uq rfl rfl [(vS y_30),(vS v_50),(vI e_33),(vI e_36),(vL eS r_64),(vI e_39),(vI e_42),(vI e_45)] rfl wz (af ?_)))
       obtain rfl:=ae h_60
       exact cu
      ·refine aI rfl hc_61 (aF ?_)
       obtain rfl:=ae h_60
       exact cu
     ·rintro ⟨⟩ _ sl_ H_ hp_ hq_
      refine bu _ hp_ hq_ (au (fD (aY 0 2 (.inr (by kernel_rfl)) (λ_ _ ag=>trivial) gD mD rfl rfl (.d (.agg (Campaign.enc (⟨y_30,v_50,(⟨e_33,e_36⟩:Window),v_59,e_39,e_42,e_45⟩:Campaign)))) rfl wz (aR kX rfl 4 rfl wz (aY 2 2 (.inr (by kernel_rfl)) (λ_ _ ag=>⟨.inl ⟨rfl,rfl⟩,trivial⟩) uq zQ rfl rfl (vL eS v_59) rfl wz ?_)))))
      obtain ⟨r_66,hr_67,hF⟩:=bind_some hF
      refine aD (bS hr_67) rfl hb55 rfl rfl rfl rfl wz (aa (vB (!r_66)) (ji 5 (.inr (by kernel_rfl)) (λ_ _ ag=>⟨.inr (.inr (by kernel_rfl)),⟨.inr (.inr (by kernel_rfl)),trivial⟩⟩) 0 gD rfl rfl [(vS y_30),(vS v_50),(vI e_33),(vI e_36),(vL eS v_59),(vI e_39),(vI e_42),(vI e_45)] rfl wz (aa (vB (!r_66)) (af ?_))))
      obtain rfl:=ae hF
      exact aA (aO [(.d (.agg (Campaign.enc (⟨y_30,v_50,(⟨e_33,e_36⟩:Window),v_59,e_39,e_42,e_45⟩:Campaign)))),(vB (!r_66))] ⟨⟨0,_,_,_,_,_,_,_,rfl,rfl,gD,mD,rfl⟩,⟨rfl,trivial⟩⟩)
theorem uC {text_1:ByteArray} {r:(List Campaign)×Int×Int} (hF:ig text_1=some r) :
  FnM Tryz.prog 9 [(vS text_1)] [] (.tup [(vL Campaign.enc r.1),(vI r.2.1),(vI r.2.2)]) []:=by
 refine FnM.of_wH ⟨Tryz.prog,58,[],[]⟩ rfl Tryz.func9 rfl rfl (lb_ rfl) (by kernel_rfl) ?_
 unfold ig at hF
 refine ai (aa .nil (aa (vI 0) (aa (vI 0) (af (au (ai (aa (vS text_1) (gG un9 rfl wz (aa (vB (decide ((text_1.size:Int)>200000))) (af ?_))))))))))
 rcases aj hF with⟨hc_2,hF⟩|⟨hc_2,hF⟩
 ·refine aJ rfl hc_2 (ai (aa .nil (aa (vI 0) (aa (vI 2) (af ?_)))))
  obtain rfl:=ae hF
  exact aA (aO [.nil,(vI 0),(vI 2)] ⟨rfl,⟨rfl,⟨rfl,trivial⟩⟩⟩)
 ·refine aI rfl hc_2 (aF (ai (aa (vS text_1) ?_)))
  obtain ⟨r_3,hr_4,hF⟩:=bind_some hF
  refine aD (yU hr_4) rfl hb31 rfl rfl rfl rfl wz (aa (.tup [(vL eS r_3.1),(vB r_3.2)]) (aa (vL eS r_3.1) (aa (vB r_3.2) (aa (vL eS r_3.1) (aa (vB r_3.2) (af (ai (aa .nil (af (au (ai (aa (vL eS r_3.1) (eH lw rfl wz (aa (vI 0) (af (oI (λn_11 => ?_)))))))))))))))))
  obtain ⟨o_16,hj_17,hF⟩:=bind_some hF
  obtain ⟨hn_9,hj_17⟩:=dh hj_17
  refine iM (σ:=(List Campaign)) (N:=Nm) (λp=>(λ(s_10:List Campaign) (n_13:Nm)=>([(7,(gV n_13 8 s_10))]:SL_)) p.1 p.2) (λp=>(λ(s_10:List Campaign) (n_13:Nm)=>([(n_13,gB 8 Campaign.enc s_10)]:Hp)) p.1 p.2) (λ(k_5:Nat)=>(λp=>(λ(s_10:List Campaign) (n_13:Nm)=>([(5,(vL eS r_3.1)),(6,(vB r_3.2)),(7,(gV n_13 8 s_10)),(21,(vL eS r_3.1)),(22,(vI (r_3.1.length:Int))),(23,(vI (k_5:Int)))]:SL_)) p.1 p.2)) (λk x s=>bR r_3 k x s) o_16 r_3.1 (([]:List Campaign),n_11) hj_17 rfl (aX rfl) ?_ ?_
  ·rintro ⟨k_5,l_6,s_10,n_13⟩ ⟨hL_15,hD_8⟩
   dsimp only at hL_15 hD_8
   cases l_6 with
   | nil =>
    obtain rfl:=ae hL_15
    refine ai (aa (vB (decide ((k_5:Int)<(r_3.1.length:Int)))) (af ?_))
    refine au (aI rfl (drop_nil hD_8) (dK ?_))
    exact dx (s_10,n_13) rfl rfl (aX rfl)
   | cons x_7 l_6 =>
    obtain ⟨c_,hc_14,hL_15⟩:=bind_some hL_15
    refine ai (aa (vB (decide ((k_5:Int)<(r_3.1.length:Int)))) (af ?_))
    refine au (aJ rfl (dH hD_8) (aF ?_))
    unfold bR at hc_14
    refine au (bz (ai (aa (vI (k_5:Int)) (gL fV rfl rfl (d9 hD_8) rfl wz (dY sz9 ag9 rfl (vS x_7) rfl wz (aa (vI (k_5:Int)) (aa (vS x_7) (af (ai (aa (vS x_7) ?_))))))))))
    obtain ⟨r_18,hr_19,hc_14⟩:=bind_some hc_14
    refine aD (mG hr_19) rfl hb32 rfl rfl rfl rfl wz (aa (.tup [(.d (.agg (Campaign.enc r_18.1))),(vB r_18.2)]) (aa (.d (.agg (Campaign.enc r_18.1))) (aa (vB r_18.2) (iO 0 (.inl rfl) z41 rfl wz (λn_20=>ji 0 il ft 1 gD rfl rfl (Campaign.v r_18.1) rfl wz (aa (vB r_18.2) (af (au (au ?_)))))))))
    obtain ⟨v_21,h_22,hc_14⟩:=bind_some hc_14
    refine bg [(5,(vL eS r_3.1)),(6,(vB r_3.2)),(7,(gV n_13 8 s_10)),(8,(vI (k_5:Int))),(10,(.ref n_20 0 0)),(21,(vL eS r_3.1)),(22,(vI (r_3.1.length:Int))),(23,(vI (k_5:Int))),(45,(vB v_21))] [(n_13,gB 8 Campaign.enc s_10),(n_20,some (.cells 8 (Campaign.v r_18.1)))] ?_ ?_
    ·refine av (aa (vB r_18.2) (aa (vB (!r_18.2)) ?_))
     rcases aj h_22 with⟨hc_23,h_22⟩|⟨hc_23,h_22⟩
     ·refine ay rfl hc_23 wz (ah (ah (ah (bE (wn rfl rfl) (bE (wn rfl rfl) (bE (wn rfl rfl) (bE (wn rfl rfl) (bE (wn rfl rfl) (ah (aa (vB true) (af ?_)))))))))))
      obtain rfl:=ae h_22
      exact cu
     ·refine ay rfl hc_23 wz (aG (vB r_3.2) wa rfl (aG (vB (!r_3.2)) wa rfl ?_))
      rcases aj h_22 with⟨hc_24,h_22⟩|⟨hc_24,h_22⟩
      ·refine ay rfl hc_24 wa (aG (vI (k_5:Int)) wa rfl (aG (vL eS r_3.1) wa rfl (eH lw rfl wa (aG (vI (w64 ((r_3.1.length:Int)-1))) wa rfl (aG (vB ((k_5:Int)==(w64 ((r_3.1.length:Int)-1)))) wa rfl (aG (vB ((k_5:Int)==(w64 ((r_3.1.length:Int)-1)))) wa rfl (aa (vB ((k_5:Int)==(w64 ((r_3.1.length:Int)-1)))) (af ?_))))))))
       obtain rfl:=ae h_22
       exact cu
      ·refine ay rfl hc_24 wa (ah (ah (ah (ah (ah (aG (vB false) wa rfl (aa (vB false) (af ?_))))))))
       obtain rfl:=ae h_22
       exact cu
    ·rintro ⟨⟩ _ sl_ H_ hp_ hq_
     refine bu _ hp_ hq_ ?_
     rcases aj hc_14 with⟨hc_25,hc_14⟩|⟨hc_25,hc_14⟩
     ·refine aJ rfl hc_25 (ai (aa (vI (k_5:Int)) (aa .nil (aa (vI (k_5:Int)) (aa (vI 9) (af ?_))))))
      obtain rfl:=ae hc_14
      obtain rfl:=ae hL_15
      obtain rfl:=ae hF
      exact aA (aO [.nil,(vI (k_5:Int)),(vI 9)] ⟨rfl,⟨rfl,⟨rfl,trivial⟩⟩⟩)
     ·refine aI rfl hc_25 (aF (av (aa (gV n_13 8 s_10) (aY 0 1 il ft gD mD rfl rfl (.d (.agg (Campaign.enc r_18.1))) rfl wz (dU (([r_18.1]:List Campaign).map Campaign.enc) sF Eb rfl rfl rfl rfl rfl wz ?_)))))
      obtain ⟨a_26,hz_27,hc_14⟩:=bind_some hc_14
      refine nE 0 il ft (i:=0) zI zI gD z41 rfl (by decide) by41 (by decide) (λ_=>rfl) rfl rfl rfl hz_27 wz (λn_28=>aa (gV n_28 8 a_26) (af (av (iL (dI hD_8 hn_9) wz rfl (aa (vI ((k_5+1:Nat):Int)) (af ?_))))))
      obtain rfl:=ae hc_14
      exact dJ (k_5+1,l_6,a_26,n_28) ⟨hL_15,bP hD_8⟩ (ls_ _) rfl (aX rfl)
  ·rintro ⟨s_10,n_13⟩ ho_ sl_ H_ hp_ hq_
   subst ho_
   refine bu _ hp_ hq_ (au (au (jT 0 rfl (lm 7 0 rfl rfl (av (aa (vL Campaign.enc s_10) ?_))))))
   obtain ⟨r_29,hr_30,hF⟩:=bind_some hF
   refine aD (fe hr_30) rfl hb21 rfl rfl rfl rfl wz (aa (vI r_29) (af (ai (aa (vI r_29) (aa (vB (r_29 != 0)) (af ?_))))))
   rcases aj hF with⟨hc_31,hF⟩|⟨hc_31,hF⟩
   ·refine aJ rfl hc_31 (ai (aa (vI r_29) (aa .nil (aa (vI 0) (aa (vI r_29) (af ?_))))))
    obtain rfl:=ae hF
    exact aA (aO [.nil,(vI 0),(vI r_29)] ⟨rfl,⟨rfl,⟨rfl,trivial⟩⟩⟩)
   ·refine aI rfl hc_31 (aF (ai (aa (vL Campaign.enc s_10) (aa (vL Campaign.enc s_10) (aa (vI 0) (aa (vI 0) (af ?_)))))))
    obtain rfl:=ae hF
    exact aA (aO [(vL Campaign.enc s_10),(vI 0),(vI 0)] ⟨rfl,⟨rfl,⟨rfl,trivial⟩⟩⟩)
theorem xk {s_1:ByteArray} {most_2:Int} {r:Int×Bool} (hF:lq s_1 most_2=some r) :
  FnM Tryz.prog 57 [(vS s_1),(vI most_2)] [] (.tup [(vI r.1),(vB r.2)]) []:=by
 refine FnM.of_wH ⟨Tryz.prog,38,[],[]⟩ rfl Tryz.func57 rfl rfl (lb_ rfl) (by kernel_rfl) ?_
 unfold lq at hF
 refine ai (aa (vI 0) (aa (vB false) (af (ai (aa (vS s_1) ?_)))))
 obtain ⟨r_3,hr_4,hF⟩:=bind_some hF
 refine aD (jw hr_4) rfl hb66 rfl rfl rfl rfl wz (aa (vS r_3) (af (au (au ?_))))
 obtain ⟨v_5,h_6,hF⟩:=bind_some hF
 refine bg [(0,(vS s_1)),(23,(vB v_5))] [] ?_ ?_
 ·refine av (aa (vS r_3) (aa (vB (sEq r_3 (⟨#[]⟩:ByteArray))) ?_))
  rcases aj h_6 with⟨hc_7,h_6⟩|⟨hc_7,h_6⟩
  ·refine ay rfl hc_7 wz (ah (ah (ah (ah (aa (vB true) (aa (vB true) (ah (ah (ah (aa (vB true) (af ?_)))))))))))
   obtain rfl:=ae h_6
   exact cu
  ·refine ay rfl hc_7 wz (aG (vS r_3) wa rfl (gG un9 rfl wa (aG (vI most_2) wa rfl (aG (vB (decide ((r_3.size:Int)>most_2))) wa rfl (aa (vB (decide ((r_3.size:Int)>most_2))) ?_)))))
   rcases aj h_6 with⟨hc_8,h_6⟩|⟨hc_8,h_6⟩
   ·refine ay rfl hc_8 wz (ah (ah (ah (aa (vB true) (af ?_)))))
    obtain rfl:=ae h_6
    exact cu
   ·refine ay rfl hc_8 wz (aG (vS r_3) wa rfl ?_)
    obtain ⟨r_9,hr_10,h_6⟩:=bind_some h_6
    refine aD (nX hr_10) rfl hb48 rfl rfl rfl rfl wa (aG (vB (!r_9)) wa rfl (aa (vB (!r_9)) (af ?_)))
    obtain rfl:=ae h_6
    exact cu
 ·rintro ⟨⟩ _ sl_ H_ hp_ hq_
  refine bu _ hp_ hq_ ?_
  rcases aj hF with⟨hc_11,hF⟩|⟨hc_11,hF⟩
  ·refine aJ rfl hc_11 (ai (aa (vI 0) (aa (vB false) (af ?_))))
   obtain rfl:=ae hF
   exact aA (aO [(vI 0),(vB false)] ⟨rfl,⟨rfl,trivial⟩⟩)
  ·refine aI rfl hc_11 (aF (ai (aa (vS s_1) ?_)))
   obtain ⟨r_12,hr_13,hF⟩:=bind_some hF
   refine aD (strconv_Atoi_ok hr_13) rfl hb67 rfl rfl rfl rfl wz (aa (.tup [(vI r_12),.nili]) (aa (vI r_12) (aa .nili (aa (vI r_12) (aa .nili (af (au ?_)))))))
   obtain ⟨v_14,h_15,hF⟩:=bind_some hF
   refine bg [(4,(vI r_12)),(5,(vB v_14))] [] ?_ ?_
   ·refine av (aa (vI r_12) (aa .nili (h_ieq if58 rfl rfl rfl wz (aa (vB true) (aG (vI r_12) wa rfl ?_)))))
    obtain ⟨r_16,hr_17,h_15⟩:=bind_some h_15
    refine aD (kv hr_17) rfl hb24 rfl rfl rfl rfl wa (aG (vS s_1) wa rfl (aG (vB (sEq r_16 s_1)) wa rfl (aa (vB (sEq r_16 s_1)) (aa (vI r_12) (aa (vB (sEq r_16 s_1)) (af ?_))))))
    obtain rfl:=ae h_15
    exact cu
   ·rintro ⟨⟩ _ sl_ H_ hp_ hq_
    refine bu _ hp_ hq_ ?_
    obtain rfl:=ae hF
    exact aA (aO [(vI r_12),(vB v_14)] ⟨rfl,⟨rfl,trivial⟩⟩)
theorem rY {l_1:(List ByteArray)} {most_2:Int} {r:(List Int)×Bool} (hF:iJ l_1 most_2=some r) :
  FnM Tryz.prog 36 [(vL eS l_1),(vI most_2)] [] (.tup [(vL eI r.1),(vB r.2)]) []:=by
 refine FnM.of_wH ⟨Tryz.prog,35,[],[]⟩ rfl Tryz.func36 rfl rfl (lb_ rfl) (by kernel_rfl) ?_
 unfold iJ at hF
 refine ai (aa .nil (aa (vB false) (af (ai (aa .nil (af (ai (aa (vB true) (af (au (ai (aa (vL eS l_1) (eH lw rfl wz (aa (vI 0) (af (oI (λn_9 => ?_)))))))))))))))))
 obtain ⟨o_14,hj_15,hF⟩:=bind_some hF
 obtain ⟨hn_7,hj_15⟩:=dh hj_15
 refine iM (σ:=(List Int)×Bool) (N:=Nm) (λp=>(λ(s_8:(List Int)×Bool) (n_11:Nm)=>([(6,(gV n_11 1 s_8.1)),(7,(vB s_8.2))]:SL_)) p.1 p.2) (λp=>(λ(s_8:(List Int)×Bool) (n_11:Nm)=>([(n_11,gB 1 eI s_8.1)]:Hp)) p.1 p.2) (λ(k_3:Nat)=>(λp=>(λ(s_8:(List Int)×Bool) (n_11:Nm)=>([(1,(vI most_2)),(6,(gV n_11 1 s_8.1)),(7,(vB s_8.2)),(12,(vL eS l_1)),(13,(vI (l_1.length:Int))),(14,(vI (k_3:Int)))]:SL_)) p.1 p.2)) (λk x s=>eO most_2 k x s) o_14 l_1 ((([]:List Int),true),n_9) hj_15 rfl (aX rfl) ?_ ?_
 ·rintro ⟨k_3,l_4,s_8,n_11⟩ ⟨hL_13,hD_6⟩
  dsimp only at hL_13 hD_6
  cases l_4 with
  | nil =>
   obtain rfl:=ae hL_13
   refine ai (aa (vB (decide ((k_3:Int)<(l_1.length:Int)))) (af ?_))
   refine au (aI rfl (drop_nil hD_6) (dK ?_))
   exact dx (s_8,n_11) rfl rfl (aX rfl)
  | cons x_5 l_4 =>
   obtain ⟨c_,hc_12,hL_13⟩:=bind_some hL_13
   refine ai (aa (vB (decide ((k_3:Int)<(l_1.length:Int)))) (af ?_))
   refine au (aJ rfl (dH hD_6) (aF ?_))
   unfold eO at hc_12
   refine au (bz (ai (gL fV rfl rfl (d9 hD_6) rfl wz (dY sz9 ag9 rfl (vS x_5) rfl wz (aa (vS x_5) (af (ai (aa (vS x_5) (aa (vI most_2) ?_)))))))))
   obtain ⟨r_16,hr_17,hc_12⟩:=bind_some hc_12
   refine aD (xk hr_17) rfl hb57 rfl rfl rfl rfl wz (aa (.tup [(vI r_16.1),(vB r_16.2)]) (aa (vI r_16.1) (aa (vB r_16.2) (aa (vI r_16.1) (aa (vB r_16.2) (af ?_))))))
   obtain ⟨v_18,h_19,hc_12⟩:=bind_some hc_12
   refine jS (β:=Nm) (λ(n_20:Nm)=>([(1,(vI most_2)),(6,(gV n_20 1 v_18.1)),(7,(vB v_18.2)),(12,(vL eS l_1)),(13,(vI (l_1.length:Int))),(14,(vI (k_3:Int)))]:SL_)) (λ(n_20:Nm)=>([(n_20,gB 1 eI v_18.1)]:Hp)) (λ_=>True) ?_ ?_
   ·refine av (aa (gV n_11 1 s_8.1) (aa (vI r_16.1) (dU (([r_16.1]:List Int).map eI) je pJ rfl rfl rfl rfl rfl wz ?_)))
    obtain ⟨a_21,hz_22,h_19⟩:=bind_some h_19
    refine nE 0 il ft (i:=0) el22 el22 sz3 z3 rfl (by decide) by3 (by decide) (λ_=>rfl) rfl rfl rfl hz_22 wz (λn_23=>aa (vB s_8.2) ?_)
    rcases aj h_19 with⟨hc_24,h_19⟩|⟨hc_24,h_19⟩
    ·refine ay rfl hc_24 wz (aG (vB r_16.2) wa rfl (aa (vB r_16.2) (aa (gV n_23 1 a_21) (aa (vB r_16.2) (af ?_)))))
     obtain rfl:=ae h_19
     exact dx n_23 trivial rfl (aX rfl)
    ·refine ay rfl hc_24 wz (ah (aa (vB false) (aa (gV n_23 1 a_21) (aa (vB false) (af ?_)))))
     obtain rfl:=ae h_19
     exact dx n_23 trivial rfl (aX rfl)
   ·rintro n_20 _ sl_ H_ hp_ hq_
    refine bu _ hp_ hq_ (av (iL (dI hD_6 hn_7) wz rfl (aa (vI ((k_3+1:Nat):Int)) (af ?_))))
    obtain rfl:=ae hc_12
    exact dJ (k_3+1,l_4,(v_18.1,v_18.2),n_20) ⟨hL_13,bP hD_6⟩ (ls_ _) rfl (aX rfl)
 ·rintro ⟨s_8,n_11⟩ ho_ sl_ H_ hp_ hq_
  subst ho_
  refine bu _ hp_ hq_ (ai (aa (gV n_11 1 s_8.1) (aa (vB s_8.2) (aa (gV n_11 1 s_8.1) (aa (vB s_8.2) (af (jT 0 rfl (lm 4 0 rfl rfl (lm 6 0 rfl rfl (lm 33 0 rfl rfl ?_))))))))))
  obtain rfl:=ae hF
  exact aA (aO [(vL eI s_8.1),(vB s_8.2)] ⟨rfl,⟨rfl,trivial⟩⟩)
theorem uw {s_1:ByteArray} {r:(List ByteArray)×Bool} (hF:jk s_1=some r) :
  FnM Tryz.prog 37 [(vS s_1)] [] (.tup [(vL eS r.1),(vB r.2)]) []:=by
 refine FnM.of_wH ⟨Tryz.prog,13,[],[]⟩ rfl Tryz.func37 rfl rfl (lb_ rfl) (by kernel_rfl) ?_
 unfold jk at hF
 refine ai (aa .nil (aa (vB false) (af (au (ai (aa (vS s_1) (aa (vB (sEq s_1 (⟨#[45]⟩:ByteArray))) (af ?_))))))))
 rcases aj hF with⟨hc_2,hF⟩|⟨hc_2,hF⟩
 ·refine aJ rfl hc_2 (ai (aa .nil (aa (vB true) (af ?_))))
  obtain rfl:=ae hF
  exact aA (aO [.nil,(vB true)] ⟨rfl,⟨rfl,trivial⟩⟩)
 ·refine aI rfl hc_2 (aF (ai (aa (vS s_1) ?_)))
  obtain ⟨r_3,hr_4,hF⟩:=bind_some hF
  refine aD (ik hr_4) rfl Fs rfl rfl rfl rfl wz (aa (vL eS r_3) (af (ai (aa (vL eS r_3) (aa (vL eS r_3) ?_)))))
  obtain ⟨r_5,hr_6,hF⟩:=bind_some hF
  refine aD (bS hr_6) rfl hb55 rfl rfl rfl rfl wz (aa (vB (!r_5)) (aa (vL eS r_3) (aa (vB (!r_5)) (af ?_))))
  obtain rfl:=ae hF
  exact aA (aO [(vL eS r_3),(vB (!r_5))] ⟨rfl,⟨rfl,trivial⟩⟩)
theorem q9 {x0:ByteArray} {x1:ByteArray} {r:(List ByteArray)} (hF:strings_Split x0 x1=some r) :
  FnM Tryz.prog 52 [(.d (.str x0)),(.d (.str x1))] [] (gV (ak 0) 1 r) (([]:List Box).map some++gO 1 eS r) :=
 DK rfl Tryz.strings_Split tT hF
theorem xu {line_1:ByteArray} {r:(List ByteArray)×Bool} (hF:o6 line_1=some r) :
  FnM Tryz.prog 35 [(vS line_1)] [] (nM [.bool r.2] (gV (ak 0) 1 r.1)) (([]:List Box).map some++gO 1 eS r.1):=by
 refine FnM.of_wH ⟨Tryz.prog,11,[],[]⟩ rfl Tryz.func35 rfl rfl (lb_ rfl) (by kernel_rfl) ?_
 unfold o6 at hF
 refine ai (aa .nil (aa (vB false) (af (ai (aa (vS line_1) ?_)))))
 obtain ⟨r_2,hr_3,hF⟩:=bind_some hF
 refine CK [] (q9 hr_3) rfl Fs rfl (by kernel_rfl) (by kernel_rfl) (by kernel_rfl) (by kernel_rfl) (by kernel_rfl) rfl (by decide) (by kernel_rfl) wz ([]:Hp) (λ_=>by kernel_rfl) (λn_5=>aa (gV n_5 1 r_2) (af (ai (aa (gV n_5 1 r_2) (aa (gV n_5 1 r_2) ?_)))))
 obtain ⟨r_6,hr_7,hF⟩:=bind_some hF
 refine h_callv (bs:=[]) (os:=[]) 0 [] 0 0 il ft (FnM.unfz (args:=[(dV (ak 0) 1 r_2),(vS (⟨#[]⟩:ByteArray))]) (po:=0) (enc:=eS) (bS hr_7) rfl rfl) rfl hb55 rfl rfl rfl (by kernel_rfl) rfl (.inl rfl) rfl (by kernel_rfl) (by kernel_rfl) (by kernel_rfl) (by kernel_rfl) rfl (by decide) (by kernel_rfl) gB_ok (gB_ho rfl) wz ([(n_5,gB 1 eS r_2)]:Hp) (by kernel_rfl) (aa (vB (!r_6)) (aa (gV n_5 1 r_2) (aa (vB (!r_6)) (af ?_))))
 obtain rfl:=ae hF
 exact aA (finGT (outs:=([]:List Box)) [.bool (!r_6)] (.inr rfl) 0 rfl ⟨rfl,trivial⟩ rfl rfl (by kernel_rfl) (by kernel_rfl))
end Go.Proofs.YtigdobmllbakiacGreatDoor.Law

